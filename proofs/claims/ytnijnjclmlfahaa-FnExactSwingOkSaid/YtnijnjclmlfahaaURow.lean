/- Marks over rows that are met once: Row. -/
import Derived.Test.YtnijnjclmlfahaaTRow
import Derived.Test.YtnijnjclmlfahaaCe
namespace Go.Proofs.Ytnijnjclmlfahaa
open Go.ChangeShapes Go.WideShapes Go.ChangeAt Go.RowKit
set_option linter.unusedVariables false
set_option linter.unusedSimpArgs false
set_option maxHeartbeats 4000000 in
set_option maxRecDepth 100000 in
theorem markRowS_un (p : Option Addr) (len cap : Nat) (k0 : Int) (l : List tRow.D) (bl : List Nat) (w : World) (h : Un (.slice 111 tRow) w [.slice p len cap] l bl) (hnd : bl.Nodup) (h0 : 0 ≤ k0) (h1 : k0 + (cnt (.slice 111 tRow) l : Nat) ≤ 1000000000000) :
    Calls Try.prog 68 #[.slice p len cap, .int .i64 k0] w (RetUk (.slice 111 tRow) w [.slice p len cap] (mk (.slice 111 tRow) l k0) bl (k0 + (cnt (.slice 111 tRow) l : Nat))) := by
  obtain ⟨rfl, hmx⟩ := un_len h
  have HL := Lib.hid (mk_length (e := 111) (t := tRow) l k0)
  rw [cnt_slice] at h1
  have hbl := un_lt _ _ _ _ _ h
  unfold maxLen at hmx
  go_enter Try.func68, Try.ntmps68
  go_wp2
  go_loopw [1, 5] (fun q i wr => ∃ k : Nat, k ≤ l.length ∧ i = .int .i64 k ∧ (∃ kk : Int, q = .int .i64 kk ∧ Hid (kk = k0 + (((l.take k).map (cnt tRow)).sum : Nat)) ∧ 0 ≤ kk ∧ kk ≤ 1000000000000) ∧ Only bl w wr ∧ Hid (Un (.slice 111 tRow) wr [.slice p l.length cap] ((mk (.slice 111 tRow) l k0 : List tRow.D).take k ++ l.drop k) bl)) (fun _ i _ => l.length - (intOf i).toNat)
  case atStart => exact ⟨0, by omega, rfl, ⟨_, rfl, by show _ = _; simp, by omega, by omega⟩, Only.refl _ _, by show Un _ _ _ _ _; simpa using h⟩
  case round =>
    obtain ⟨k, hk, rfl, ⟨kk, rfl, hkk, hk0, hk1⟩, hb, hf⟩ := hrel
    clear h
    by_cases hlt : k < l.length
    · obtain ⟨M, hM⟩ : ∃ M, M = (mk (.slice 111 tRow) l k0 : List tRow.D).take k ++ l.drop k := ⟨_, rfl⟩
      have hkl : k < M.length := by rw [hM]; simp only [List.length_append, List.length_take, List.length_drop, HL.out]; omega
      obtain ⟨x, hx⟩ : ∃ x, l[k] = x := ⟨_, rfl⟩
      have hMk : M[k] = x := by subst hM; rw [get_mix _ _ _ hlt HL.out, hx]
      have hset : ∀ y, (mk (.slice 111 tRow) l k0 : List tRow.D)[k]'(by rw [HL.out]; exact hlt) = y → M.set k y = (mk (.slice 111 tRow) l k0 : List tRow.D).take (k + 1) ++ l.drop (k + 1) := fun y hy => by subst hM; exact set_mix _ _ _ hlt HL.out _ hy
      have hmk := mk_get (e := 111) (t := tRow) l k0 k hlt (by rw [HL.out]; exact hlt)
      rw [hx, ← hkk.out] at hmk
      have hs1 := sum_take_succ (cnt tRow) l k hlt
      have hs2 := sum_take_le (cnt tRow) l (k + 1)
      rw [hx] at hs1
      have hf1 := hf.out
      rw [← hM] at hf1
      have hxb : kk + (cnt tRow x : Nat) ≤ 1000000000000 := by have := hkk.out; omega
      have HS1 := Lib.hid hs1; have HSET := Lib.hid hset; have HMK := Lib.hid hmk
      clear hx hM hs1 hs2 hset hmk hf
      obtain ⟨x0, hx0⟩ : ∃ y, y = x := ⟨_, rfl⟩
      subst hx0
      have hcx : cnt tRow x0 = cnt tInts x0 := by first | rfl | (simp only [cnt]; omega)
      rw [hcx] at hxb
      have HCX := Lib.hid hcx; clear hcx
      have hw0 : wr.heap.size = wr.heap.size := rfl
      obtain ⟨bs1, caps1, cs1, bks1, hvs1, hbms1, hbzs1, hfzs1, hcls1, hcs1, hRs1, hsubs1, hnbs1, hnos1, hUs1, hVs1⟩ := un_lens hf1 hnd k hkl
      simp only [Value.slice.injEq] at hvs1
      obtain ⟨rfl, -, -⟩ := hvs1
      rw [hMk] at hRs1
      have s1r0 := hRs1; clear hRs1
      obtain ⟨s1p0, s1n0, s1q0, rfl⟩ := un_form s1r0
      have es1 : wr.cell? ⟨bs1, k, none⟩ = some (.slice s1p0 s1n0 s1q0) := by have hh := hcs1 0 (by simp); rw [show Ty.n tRow = 1 from rfl] at hh; simpa using hh
      clear hfzs1 hcs1 hcls1 hVs1
      have HUs1 := Lib.hid hUs1; clear hUs1
      go_wp2_with fail
      refine (markIntS_un _ _ _ _ x0 _ _ (by exact s1r0) hnbs1 (by omega) (by have := cnt_ints x0; omega)).mono ?_
      rintro e ws1 ⟨rfl, rps1, ons1⟩
      have hf2 := HUs1.out ws1 (mk tInts x0 (kk)) (fun q hq hz => ons1.block q (fun hm => hq hm) hz) rps1
      have hbs1 : Only bl w ws1 := Only.trans hb (ons1.mono (fun q hq => hsubs1 q hq))
      clear HUs1 rps1 s1r0 es1
      have hkl2 : k < (M.set k (mk tInts x0 (kk))).length := by rw [List.length_set]; exact hkl
      have hM2 : (M.set k (mk tInts x0 (kk)))[k]'hkl2 = (mk tInts x0 (kk)) := List.getElem_set_self _
      have HF := Lib.hid hf2
      clear hf1 hf2
      go_wp2
      go_roundw
      case rel =>
        refine ⟨k + 1, by omega, by go_num, ⟨_, rfl, by show _ = _; have := HS1.out; have := hkk.out; have hcx9 : cnt tRow x0 = cnt tInts x0 := (by first | rfl | (simp only [cnt]; omega)); omega, by omega, by omega⟩, hbs1, ?_⟩
        have h2 := HF.out
        rw [HSET.out _ (HMK.out.trans (by rfl))] at h2
        exact h2
      case measure => simp [intOf]; omega
    · go_wp2
      go_ret
      obtain rfl : k = l.length := by omega
      have hkk := hkk.out
      rw [List.take_length] at hkk
      refine ⟨ret_int (by rw [cnt_slice]; exact hkk), ?_, hb⟩
      have hf := hf.out
      have e1 : (mk (.slice 111 tRow) l k0 : List tRow.D).take l.length ++ l.drop l.length = mk (.slice 111 tRow) l k0 := by
        rw [List.drop_length, List.append_nil, List.take_of_length_le (by rw [HL.out]; exact Nat.le_refl _)]
      rw [e1] at hf
      exact hf


end Go.Proofs.Ytnijnjclmlfahaa
