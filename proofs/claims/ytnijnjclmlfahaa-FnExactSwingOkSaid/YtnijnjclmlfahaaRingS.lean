/- Sizes of ring steps. -/
import Derived.Test.YtnijnjclmlfahaaRing2
import Derived.Test.YtnijnjclmlfahaaCe
import Derived.Test.YtnijnjclmlfahaaTRing
namespace Go.Proofs.Ytnijnjclmlfahaa
open Go.ChangeShapes Go.WideShapes Go.ChangeAt Go.RowKit Go.Deep
set_option linter.unusedVariables false
set_option linter.unusedSimpArgs false

theorem szT_set {e : TypeId} {t : Ty} : (l : List t.D) → (i : Nat) → (x : t.D) → szT (.slice e t) (l.set i x) ≤ szT (.slice e t) l + szT t x
  | [], i, x => by simp [szT_slice]
  | y :: l, 0, x => by simp only [List.set_cons_zero, szT_slice, List.length_cons, List.map_cons, List.sum_cons]; omega
  | y :: l, i + 1, x => by
    have := szT_set (e := e) l i x
    simp only [List.set_cons_succ, szT_slice, List.length_cons, List.map_cons, List.sum_cons, List.length_set] at this ⊢
    omega
theorem szT_zw {e : TypeId} {t : Ty} {f : t.D → t.D → t.D} (hf : ∀ x y, szT t (f x y) ≤ szT t x) : (a b : List t.D) → szT (.slice e t) (List.zipWith f a b : List t.D) ≤ szT (.slice e t) a
  | [], _ => by simp [szT_slice]
  | _ :: _, [] => by simp [szT_slice]
  | x :: a, y :: b => by
    have h1 := szT_zw (e := e) hf a b
    have h2 := hf x y
    simp only [List.zipWith_cons_cons, szT_slice, List.length_cons, List.map_cons, List.sum_cons] at h1 ⊢
    omega
theorem szT_addGrads (a b : tGrads.D) : szT tGrads (addGrads a b) ≤ szT tGrads a := by
  have h1 : szT (.slice 111 tInts) (addRows a.1 b.1) ≤ szT (.slice 111 tInts) a.1 :=
    szT_zw (e := 111) (t := tInts) (f := zipV) (fun x y => by rw [szT_ints, szT_ints, zipV_len]; omega) a.1 b.1
  show szT (.slice 111 tInts) (addRows a.1 b.1) + 0 ≤ szT (.slice 111 tInts) a.1 + 0
  omega
theorem gradsB_of {g : tGrads.D} (h : szT tGrads g ≤ 1048576) : GradsB g := by
  have h0 : szT (.slice 111 tInts) g.1 ≤ 1048576 := h
  refine ⟨?_, fun r hr => ?_⟩
  · have := szT_len (e := 111) (t := tInts) g.1; exact Nat.le_trans (Nat.le_trans this h0) (by decide)
  · have h2 := szT_mem (e := 111) (t := tInts) hr
    rw [szT_ints] at h2
    exact Nat.le_trans (Nat.le_trans h2 h0) (by decide)
theorem ringB_of {r : tRing.D} (h : szT tRing r ≤ 1048576) : RingB r := by
  have h0 : szT (.slice 36 tGrads) r.1 ≤ 1048576 := h
  refine ⟨?_, fun g hg => ?_⟩
  · have := szT_len (e := 36) (t := tGrads) r.1; exact Nat.le_trans (Nat.le_trans this h0) (by decide)
  · exact gradsB_of (Nat.le_trans (szT_mem (e := 36) (t := tGrads) hg) h0)
theorem szT_getD (l : List tGrads.D) (i : Nat) : szT tGrads (l.getD i ([], 0, false)) ≤ szT (.slice 36 tGrads) l := by
  by_cases hi : i < l.length
  · rw [getD_at hi]; exact szT_mem (e := 36) (t := tGrads) (List.getElem_mem hi)
  · rw [List.getD_eq_getElem?_getD, List.getElem?_eq_none (by omega)]
    exact Nat.zero_le _
theorem szT_ringStep (r : tRing.D) : szT tRing (ringStep r) ≤ 2 * szT tRing r := by
  obtain ⟨l, st⟩ := r
  have e0 : szT tRing (l, st) = szT (.slice 36 tGrads) l := rfl
  unfold ringStep
  dsimp only
  split
  · omega
  · split
    · have h1 := szT_set (e := 36) (t := tGrads) l (st + 1).toNat (addGrads (l.getD st.toNat ([], 0, false)) (l.getD (st + 1).toNat ([], 0, false)))
      have h2 := szT_addGrads (l.getD st.toNat ([], 0, false)) (l.getD (st + 1).toNat ([], 0, false))
      have h3 := szT_getD l st.toNat
      exact Nat.le_trans h1 (by rw [e0]; omega)
    · have h1 := szT_set (e := 36) (t := tGrads) l (st - ((l.length : Int) - 1)).toNat (l.getD ((l.length : Int) - 1).toNat ([], 0, false))
      have h3 := szT_getD l ((l.length : Int) - 1).toNat
      exact Nat.le_trans h1 (by rw [e0]; omega)

theorem p_RingStep (d : tRing.D) (hz : ((szT tRing d : Nat) : Int) ≤ 1048576) : RingB d ∧ RingB d := ⟨ringB_of (by omega), ringB_of (by omega)⟩
theorem q_RingStep (d : tRing.D) (hz : ((szT tRing d : Nat) : Int) ≤ 1048576) : (cntt tRing (ringStep d) : Int) ≤ 1000000000 := by
  have h1 := cntt_le tRing (ringStep d) (by decide)
  have h2 := szT_ringStep d
  omega
end Go.Proofs.Ytnijnjclmlfahaa
