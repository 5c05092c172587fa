/- The walk of FnExactMostOf: the greatest number of words of a stage, told by both alike. -/
import Derived.Test.YteejpennjkihaaaTMoment
namespace Go.Proofs.Yteejpennjkihaaa
open Go.ChangeShapes Go.WideShapes Go.ChangeAt Go.RowKit
set_option linter.unusedVariables false
set_option linter.unusedSimpArgs false

def mostOf (s : Int) (l : List tMoment.D) : Int := l.foldl (fun m x => if x.1 = s then max m x.2 else m) 0
theorem mostOf_snoc (s : Int) (l : List tMoment.D) (k : Nat) (h : k < l.length) (x : tMoment.D) (hx : l[k] = x) : mostOf s (l.take (k+1)) = if x.1 = s then max (mostOf s (l.take k)) x.2 else mostOf s (l.take k) := by
  unfold mostOf
  rw [List.take_succ_eq_append_getElem h, hx, List.foldl_append]; rfl

theorem mom_at {w : World} {p : Option Addr} {len cap : Nat} {l : List tMoment.D} (h : SlRd tMoment.n (rd tMoment w) w p len cap l) (k : Nat) (hk : k < l.length) :
    ∃ b off, p = some ⟨b, off, none⟩ ∧ b < w.heap.size ∧ w.cell? ⟨b, off + k * 2, none⟩ = some (.int .i64 l[k].1) ∧ w.cell? ⟨b, off + k * 2 + 1, none⟩ = some (.int .i64 l[k].2) := by
  obtain ⟨b, off, hp, hb, cs, hl, hc, _, _, rfl, ⟨rfl, _⟩, rfl, _⟩ := h.2.2.2.2 k hk
  exact ⟨b, off, hp, hb, hc 0 (by simp), hc 1 (by simp)⟩

set_option maxRecDepth 100000 in
theorem implMostOf_any (p : Option Addr) (len cap : Nat) (l : List tMoment.D) (s : Int) (w : World) (h : SlRd tMoment.n (rd tMoment w) w p len cap l) :
    Calls Try.prog 20 #[.slice p len cap, .int .i64 s] w (RetV (.int .i64 (mostOf s l)) w) := by
  have hlen : len ≤ maxLen := Nat.le_trans h.2.1 h.2.2.1
  obtain rfl := h.lens
  unfold maxLen at hlen
  go_enter Try.func20, Try.ntmps20
  go_wp2
  go_loopw [5, 10] (fun m i wr => ∃ k : Nat, k ≤ l.length ∧ i = .int .i64 k ∧ m = .int .i64 (mostOf s (l.take k)) ∧ Below w.heap.size w wr) (fun _ i _ => l.length - (intOf i).toNat)
  case atStart => exact ⟨0, by omega, rfl, rfl, Below.refl _ _⟩
  case round =>
    obtain ⟨k, hk, rfl, rfl, hb⟩ := hrel
    by_cases hlt : k < l.length
    · obtain ⟨b, off, rfl, hlb, e1, e2⟩ := mom_at h k hlt
      have c1 := (hb.cell hlb).trans e1
      have c2 := (hb.cell hlb).trans e2
      obtain ⟨x, hx⟩ : ∃ x, l[k] = x := ⟨_, rfl⟩
      rw [hx] at c1 c2
      have HS := Lib.hid (mostOf_snoc s l k hlt x hx)
      obtain ⟨x1, x2⟩ := x
      clear h e1 e2 hx
      by_cases hs : x1 = s
      · subst hs
        go_wp2
        go_roundw
        case rel => exact ⟨k + 1, by omega, by go_num, by rw [HS.out, if_pos rfl]; simp only [Value.int.injEq, true_and, Int.max_def]; split <;> split <;> omega, hb.alloc hb.size _⟩
        case measure => simp [intOf]; omega
      · have hs' : (x1 == s) = false := by simpa using hs
        clear hs
        go_wp2
        go_roundw
        case rel => exact ⟨k + 1, by omega, by go_num, by rw [HS.out, if_neg (by simpa using hs')], hb.alloc hb.size _⟩
        case measure => simp [intOf]; omega
    · clear h
      go_wp2
      go_ret
      exact ⟨ret_int (by rw [show l.take k = l from List.take_of_length_le (by omega)]), hb⟩

set_option maxRecDepth 100000 in
theorem specMostOf_any (p : Option Addr) (len cap : Nat) (l : List tMoment.D) (s : Int) (w : World) (h : SlRd tMoment.n (rd tMoment w) w p len cap l) :
    Calls Try.prog 18 #[.slice p len cap, .int .i64 s] w (RetV (.int .i64 (mostOf s l)) w) := by
  have hlen : len ≤ maxLen := Nat.le_trans h.2.1 h.2.2.1
  obtain rfl := h.lens
  unfold maxLen at hlen
  go_enter Try.func18, Try.ntmps18
  go_wp2
  go_loopw [5, 6] (fun m i wr => ∃ k : Nat, k ≤ l.length ∧ i = .int .i64 k ∧ m = .int .i64 (mostOf s (l.take k)) ∧ Below w.heap.size w wr) (fun _ i _ => l.length - (intOf i).toNat)
  case atStart => exact ⟨0, by omega, rfl, rfl, Below.refl _ _⟩
  case round =>
    obtain ⟨k, hk, rfl, rfl, hb⟩ := hrel
    by_cases hlt : k < l.length
    · obtain ⟨b, off, rfl, hlb, e1, e2⟩ := mom_at h k hlt
      have c1 := (hb.cell hlb).trans e1
      have c2 := (hb.cell hlb).trans e2
      obtain ⟨x, hx⟩ : ∃ x, l[k] = x := ⟨_, rfl⟩
      rw [hx] at c1 c2
      have HS := Lib.hid (mostOf_snoc s l k hlt x hx)
      obtain ⟨x1, x2⟩ := x
      clear h e1 e2 hx
      by_cases hs : x1 = s
      · subst hs
        go_wp2
        go_roundw
        case rel => exact ⟨k + 1, by omega, by go_num, by rw [HS.out, if_pos rfl]; simp only [Value.int.injEq, true_and, Int.max_def]; split <;> split <;> omega, hb⟩
        case measure => simp [intOf]; omega
      · have hs' : (x1 == s) = false := by simpa using hs
        clear hs
        go_wp2
        go_roundw
        case rel => exact ⟨k + 1, by omega, by go_num, by rw [HS.out, if_neg (by simpa using hs')], hb⟩
        case measure => simp [intOf]; omega
    · clear h
      go_wp2
      go_ret
      exact ⟨ret_int (by rw [show l.take k = l from List.take_of_length_le (by omega)]), hb⟩


set_option maxRecDepth 100000 in
set_option maxHeartbeats 1000000 in
theorem fnExactMostOf_walk (w : World) (p : Option Addr) (len cap : Nat) (l : List tMoment.D) (h : SlRd tMoment.n (rd tMoment w) w p len cap l) (s : Int) (hs : (Lit.int .i64 s).wf = true) :
    Calls Try.prog 4 #[.slice p len cap, .int .i64 s] w fun e w' => e = .returned (.bool true) ∧ Below w.heap.size w w' := by
  clear hs
  by_cases hz : szT (.slice 106 tMoment) l ≤ 1048576
  · go_enter Try.func4, Try.ntmps4
    go_wp2_with fail
    refine (szMomentS_ok _ _ _ l _ _ (by exact h) (by omega) (by omega) (by omega)).mono ?_
    rintro e w1 ⟨rfl, b1⟩
    have hz2 : ¬ ((1048576 : Int) - (szT (.slice 106 tMoment) l : Nat) < 0) := by omega
    generalize (1048576 : Int) - (szT (.slice 106 tMoment) l : Nat) = lf at hz2 ⊢
    go_wp2_with fail
    refine (toMomentS_any _ _ _ l _ (by exact h.below b1) hz).mono ?_
    rintro e w2 ⟨p2, c2, rfl, f2, b2⟩
    have B2 := b1.trans (b2.mono b1.size)
    go_wp2_with fail
    refine (specMostOf_any _ _ _ l _ _ (by exact fr_sl f2)).mono ?_
    rintro e w3 ⟨rfl, b3⟩
    have B3 := B2.trans (b3.mono B2.size)
    go_wp2_with fail
    refine (toMomentS_any _ _ _ l _ (by exact h.below B3) hz).mono ?_
    rintro e w4 ⟨p4, c4, rfl, f4, b4⟩
    have B4 := B3.trans (b4.mono B3.size)
    go_wp2_with fail
    refine (implMostOf_any _ _ _ l _ _ (by exact fr_sl f4)).mono ?_
    rintro e w5 ⟨rfl, b5⟩
    have B5 := B4.trans (b5.mono B4.size)
    go_wp2_with fail
    refine (toMomentS_any _ _ _ l _ (by exact h.below B5) hz).mono ?_
    rintro e w6 ⟨p6, c6, rfl, f6, b6⟩
    have B6 := B5.trans (b6.mono B5.size)
    go_wp2_with fail
    refine (eqMomentS_any _ _ _ _ _ _ l _ (by exact (fr_sl f4).below (b5.trans (b6.mono b5.size))) (by exact fr_sl f6)).mono ?_
    rintro e w7 ⟨rfl, b7⟩
    have B7 := B6.trans (b7.mono B6.size)
    go_wp2
    go_ret
    exact ⟨rfl, B7⟩
  · go_enter Try.func4, Try.ntmps4
    go_wp2_with fail
    refine (szMomentS_no _ _ _ l _ _ (by exact h) (by omega) (by omega) (by omega)).mono ?_
    rintro e w1 ⟨rfl, b1⟩
    go_wp2
    go_ret
    exact ⟨rfl, b1⟩
end Go.Proofs.Yteejpennjkihaaa
