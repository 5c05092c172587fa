/- Marks over rows that are met once: Pair. -/
import Derived.Test.YtiihghfoeinbbaaGreatTPair
import Derived.Test.YtiihghfoeinbbaaGreatUPath
namespace Go.Proofs.YtiihghfoeinbbaaGreat
open Go.ChangeShapes Go.WideShapes Go.ChangeAt Go.RowKit
set_option linter.unusedVariables false
set_option linter.unusedSimpArgs false
set_option maxHeartbeats 4000000 in
set_option maxRecDepth 100000 in
theorem markPairS_un (p : Option Addr) (len cap : Nat) (k0 : Int) (l : List tPair.D) (bl : List Nat) (w : World) (h : Un (.slice 130 tPair) w [.slice p len cap] l bl) (hnd : bl.Nodup) (h0 : 0 ≤ k0) (h1 : k0 + (cnt (.slice 130 tPair) l : Nat) ≤ 1000000000000) :
    Calls Tryz.prog 42 #[.slice p len cap, .int .i64 k0] w (RetUk (.slice 130 tPair) w [.slice p len cap] (mk (.slice 130 tPair) l k0) bl (k0 + (cnt (.slice 130 tPair) l : Nat))) := by
  obtain ⟨rfl, hmx⟩ := un_len h
  have HL := Lib.hid (mk_length (e := 130) (t := tPair) l k0)
  rw [cnt_slice] at h1
  have hbl := un_lt _ _ _ _ _ h
  unfold maxLen at hmx
  go_enter Tryz.func42, Tryz.ntmps42
  go_wp2
  go_loopw [1, 5] (fun q i wr => ∃ k : Nat, k ≤ l.length ∧ i = .int .i64 k ∧ (∃ kk : Int, q = .int .i64 kk ∧ Hid (kk = k0 + (((l.take k).map (cnt tPair)).sum : Nat)) ∧ 0 ≤ kk ∧ kk ≤ 1000000000000) ∧ Only bl w wr ∧ Hid (Un (.slice 130 tPair) wr [.slice p l.length cap] ((mk (.slice 130 tPair) l k0 : List tPair.D).take k ++ l.drop k) bl)) (fun _ i _ => l.length - (intOf i).toNat)
  case atStart => exact ⟨0, by omega, rfl, ⟨_, rfl, by show _ = _; simp, by omega, by omega⟩, Only.refl _ _, by show Un _ _ _ _ _; simpa using h⟩
  case round =>
    obtain ⟨k, hk, rfl, ⟨kk, rfl, hkk, hk0, hk1⟩, hb, hf⟩ := hrel
    clear h
    by_cases hlt : k < l.length
    · obtain ⟨M, hM⟩ : ∃ M, M = (mk (.slice 130 tPair) l k0 : List tPair.D).take k ++ l.drop k := ⟨_, rfl⟩
      have hkl : k < M.length := by rw [hM]; simp only [List.length_append, List.length_take, List.length_drop, HL.out]; omega
      obtain ⟨x, hx⟩ : ∃ x, l[k] = x := ⟨_, rfl⟩
      have hMk : M[k] = x := by subst hM; rw [get_mix _ _ _ hlt HL.out, hx]
      have hset : ∀ y, (mk (.slice 130 tPair) l k0 : List tPair.D)[k]'(by rw [HL.out]; exact hlt) = y → M.set k y = (mk (.slice 130 tPair) l k0 : List tPair.D).take (k + 1) ++ l.drop (k + 1) := fun y hy => by subst hM; exact set_mix _ _ _ hlt HL.out _ hy
      have hmk := mk_get (e := 130) (t := tPair) l k0 k hlt (by rw [HL.out]; exact hlt)
      rw [hx, ← hkk.out] at hmk
      have hs1 := sum_take_succ (cnt tPair) l k hlt
      have hs2 := sum_take_le (cnt tPair) l (k + 1)
      rw [hx] at hs1
      have hf0 : Un (.slice 130 tPair) wr [.slice p l.length cap] (M.set k x) bl := by have hf1 := hf.out; rw [← hM] at hf1; rw [← hMk, List.set_getElem_self]; exact hf1
      have hxb : kk + (cnt tPair x : Nat) ≤ 1000000000000 := by have := hkk.out; omega
      have HS1 := Lib.hid hs1; have HSET := Lib.hid hset; have HMK := Lib.hid hmk
      clear hx hM hs1 hs2 hset hmk hf hMk
      obtain ⟨x0, x1⟩ := x
      have hcx : cnt tPair (x0, x1) = cnt tInts x0 + cnt tInts x1 := by first | rfl | (simp only [cnt]; omega)
      rw [hcx] at hxb
      clear hcx
      obtain ⟨b0, cap0, cu0, bu0, hv0, hbm0, hfz0, hc0, hR0, hn0, hs0, hA0, hB0⟩ := un_leaf hf0 hnd hkl [false]
      simp only [Value.slice.injEq, Option.some.injEq, Addr.mk.injEq, and_true] at hv0
      obtain ⟨rfl, -, -⟩ := hv0
      obtain ⟨p0, n0, q0, rfl⟩ := un_form hR0
      have e0 : wr.cell? ⟨b0, k * 2, none⟩ = some (.slice p0 n0 q0) := hc0 0 Nat.zero_lt_one
      have HA0 := Lib.hid hA0; clear hA0 hB0 hc0 hfz0
      go_wp2_with fail
      refine (markIntS_un _ _ _ _ x0 _ _ (by exact hR0) hn0 (by omega) (by have := cnt_ints x0; omega)).mono ?_
      rintro e w0 ⟨rfl, rp0, on0⟩
      have hg0 := HA0.out w0 _ (fun q hq hz => on0.block q hq hz) rp0
      have hb0 : Only bl w w0 := Only.trans hb (on0.mono hs0)
      clear HA0 rp0 hR0 e0
      obtain ⟨b1, cap1, cu1, bu1, hv1, hbm1, hfz1, hc1, hR1, hn1, hs1, hA1, hB1⟩ := un_leaf hg0 hnd hkl [true]
      simp only [Value.slice.injEq, Option.some.injEq, Addr.mk.injEq, and_true] at hv1
      obtain ⟨hvb, -, -⟩ := hv1
      subst hvb
      obtain ⟨p1, n1, q1, rfl⟩ := un_form hR1
      have e1 : w0.cell? ⟨b0, k * 2 + 1, none⟩ = some (.slice p1 n1 q1) := hc1 0 Nat.zero_lt_one
      have HA1 := Lib.hid hA1; clear hA1 hB1 hc1 hfz1
      go_wp2_with fail
      refine (markIntS_un _ _ _ _ x1 _ _ (by exact hR1) hn1 (by omega) (by have := cnt_ints x1; omega)).mono ?_
      rintro e w1 ⟨rfl, rp1, on1⟩
      have hg1 := HA1.out w1 _ (fun q hq hz => on1.block q hq hz) rp1
      have hb1 : Only bl w w1 := Only.trans hb0 (on1.mono hs1)
      clear HA1 rp1 hR1 e1
      have HF := Lib.hid hg1
      clear hf0 hg0 hg1
      go_wp2
      go_roundw
      case rel =>
        refine ⟨k + 1, by omega, by go_num, ⟨_, rfl, by show _ = _; have := HS1.out; have := hkk.out; have hcx9 : cnt tPair (x0, x1) = cnt tInts x0 + cnt tInts x1 := (by first | rfl | (simp only [cnt]; omega)); omega, by omega, by omega⟩, hb1, ?_⟩
        have h2 := HF.out
        rw [HSET.out _ (HMK.out.trans (by rfl))] at h2
        exact h2
      case measure => simp [intOf]; omega
    · go_wp2
      go_ret
      obtain rfl : k = l.length := by omega
      have hkk := hkk.out
      rw [List.take_length] at hkk
      refine ⟨ret_int (by rw [cnt_slice]; exact hkk), ?_, hb⟩
      have hf := hf.out
      have e1 : (mk (.slice 130 tPair) l k0 : List tPair.D).take l.length ++ l.drop l.length = mk (.slice 130 tPair) l k0 := by
        rw [List.drop_length, List.append_nil, List.take_of_length_le (by rw [HL.out]; exact Nat.le_refl _)]
      rw [e1] at hf
      exact hf
end Go.Proofs.YtiihghfoeinbbaaGreat
