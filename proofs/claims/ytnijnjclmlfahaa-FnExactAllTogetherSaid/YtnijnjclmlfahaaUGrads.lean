/- Marks over rows that are met once: Grads. -/
import Derived.Test.YtnijnjclmlfahaaTGrads
import Derived.Test.YtnijnjclmlfahaaCe
import Derived.Test.YtnijnjclmlfahaaURow
namespace Go.Proofs.Ytnijnjclmlfahaa
open Go.ChangeShapes Go.WideShapes Go.ChangeAt Go.RowKit
set_option linter.unusedVariables false
set_option linter.unusedSimpArgs false
set_option maxHeartbeats 4000000 in
set_option maxRecDepth 100000 in
theorem markGradsS_un (p : Option Addr) (len cap : Nat) (k0 : Int) (l : List tGrads.D) (bl : List Nat) (w : World) (h : Un (.slice 36 tGrads) w [.slice p len cap] l bl) (hnd : bl.Nodup) (h0 : 0 ≤ k0) (h1 : k0 + (cnt (.slice 36 tGrads) l : Nat) ≤ 1000000000000) :
    Calls Try.prog 19 #[.slice p len cap, .int .i64 k0] w (RetUk (.slice 36 tGrads) w [.slice p len cap] (mk (.slice 36 tGrads) l k0) bl (k0 + (cnt (.slice 36 tGrads) l : Nat))) := by
  obtain ⟨rfl, hmx⟩ := un_len h
  have HL := Lib.hid (mk_length (e := 36) (t := tGrads) l k0)
  rw [cnt_slice] at h1
  have hbl := un_lt _ _ _ _ _ h
  unfold maxLen at hmx
  go_enter Try.func19, Try.ntmps19
  go_wp2
  go_loopw [1, 5] (fun q i wr => ∃ k : Nat, k ≤ l.length ∧ i = .int .i64 k ∧ (∃ kk : Int, q = .int .i64 kk ∧ Hid (kk = k0 + (((l.take k).map (cnt tGrads)).sum : Nat)) ∧ 0 ≤ kk ∧ kk ≤ 1000000000000) ∧ Only bl w wr ∧ Hid (Un (.slice 36 tGrads) wr [.slice p l.length cap] ((mk (.slice 36 tGrads) l k0 : List tGrads.D).take k ++ l.drop k) bl)) (fun _ i _ => l.length - (intOf i).toNat)
  case atStart => exact ⟨0, by omega, rfl, ⟨_, rfl, by show _ = _; simp, by omega, by omega⟩, Only.refl _ _, by show Un _ _ _ _ _; simpa using h⟩
  case round =>
    obtain ⟨k, hk, rfl, ⟨kk, rfl, hkk, hk0, hk1⟩, hb, hf⟩ := hrel
    clear h
    by_cases hlt : k < l.length
    · obtain ⟨M, hM⟩ : ∃ M, M = (mk (.slice 36 tGrads) l k0 : List tGrads.D).take k ++ l.drop k := ⟨_, rfl⟩
      have hkl : k < M.length := by rw [hM]; simp only [List.length_append, List.length_take, List.length_drop, HL.out]; omega
      obtain ⟨x, hx⟩ : ∃ x, l[k] = x := ⟨_, rfl⟩
      have hMk : M[k] = x := by subst hM; rw [get_mix _ _ _ hlt HL.out, hx]
      have hset : ∀ y, (mk (.slice 36 tGrads) l k0 : List tGrads.D)[k]'(by rw [HL.out]; exact hlt) = y → M.set k y = (mk (.slice 36 tGrads) l k0 : List tGrads.D).take (k + 1) ++ l.drop (k + 1) := fun y hy => by subst hM; exact set_mix _ _ _ hlt HL.out _ hy
      have hmk := mk_get (e := 36) (t := tGrads) l k0 k hlt (by rw [HL.out]; exact hlt)
      rw [hx, ← hkk.out] at hmk
      have hs1 := sum_take_succ (cnt tGrads) l k hlt
      have hs2 := sum_take_le (cnt tGrads) l (k + 1)
      rw [hx] at hs1
      have hf1 := hf.out
      rw [← hM] at hf1
      have hxb : kk + (cnt tGrads x : Nat) ≤ 1000000000000 := by have := hkk.out; omega
      have HS1 := Lib.hid hs1; have HSET := Lib.hid hset; have HMK := Lib.hid hmk
      clear hx hM hs1 hs2 hset hmk hf
      obtain ⟨x0, ⟨x1, x2⟩⟩ := x
      have hcx : cnt tGrads (x0, (x1, x2)) = cnt (.slice 111 tRow) x0 + 1 + 1 := by first | rfl | (simp only [cnt]; omega)
      rw [hcx] at hxb
      have HCX := Lib.hid hcx; clear hcx
      have hw0 : wr.heap.size = wr.heap.size := rfl
      obtain ⟨bs1, caps1, cs1, bks1, hvs1, hbms1, hbzs1, hfzs1, hcls1, hcs1, hRs1, hsubs1, hnbs1, hnos1, hUs1, hVs1⟩ := un_lens hf1 hnd k hkl
      simp only [Value.slice.injEq] at hvs1
      obtain ⟨rfl, -, -⟩ := hvs1
      rw [hMk] at hRs1
      obtain ⟨_, _, _, _, rfl, rfl, s1r0, ⟨_, _, _, _, rfl, rfl, ⟨rfl, s1w1, rfl⟩, ⟨rfl, rfl⟩⟩⟩ := hRs1
      obtain ⟨s1p0, s1n0, s1q0, rfl⟩ := un_form s1r0
      have es1 : wr.cell? ⟨bs1, k * 3, none⟩ = some (.slice s1p0 s1n0 s1q0) := by have hh := hcs1 0 (by simp); rw [show Ty.n tGrads = 3 from rfl] at hh; simpa using hh
      clear hfzs1 hcs1 hcls1 hVs1
      have HUs1 := Lib.hid hUs1; clear hUs1
      go_wp2_with fail
      refine (markRowS_un _ _ _ _ x0 _ _ (by exact s1r0) (nd_l hnbs1) (by omega) (by omega)).mono ?_
      rintro e ws1 ⟨rfl, rps1, ons1⟩
      have hf2 := HUs1.out ws1 ((mk (.slice 111 tRow) x0 (kk)), (x1, x2)) (fun q hq hz => ons1.block q (fun hm => hq (List.mem_append_left _ hm)) hz) ⟨[_], [_, _], _, _, rfl, rfl, rps1, ⟨[_], [_], _, _, rfl, rfl, ⟨rfl, s1w1, rfl⟩, ⟨rfl, rfl⟩⟩⟩
      have hbs1 : Only bl w ws1 := Only.trans hb (ons1.mono (fun q hq => hsubs1 q (List.mem_append_left _ hq)))
      clear HUs1 rps1 s1r0 es1
      have hkl2 : k < (M.set k ((mk (.slice 111 tRow) x0 (kk)), (x1, x2))).length := by rw [List.length_set]; exact hkl
      have hM2 : (M.set k ((mk (.slice 111 tRow) x0 (kk)), (x1, x2)))[k]'hkl2 = ((mk (.slice 111 tRow) x0 (kk)), (x1, x2)) := List.getElem_set_self _
      obtain ⟨bs2, caps2, cs2, bks2, hvs2, hbms2, hbzs2, hfzs2, hcls2, hcs2, hRs2, hsubs2, hnbs2, hnos2, hUs2, hVs2⟩ := un_lens hf2 hnd k hkl2
      simp only [Value.slice.injEq] at hvs2
      obtain ⟨hvbs2, -, -⟩ := hvs2
      simp only [Option.some.injEq, Addr.mk.injEq, and_true] at hvbs2
      subst hvbs2
      rw [hM2] at hRs2
      obtain ⟨_, _, _, _, rfl, rfl, s2r0, ⟨_, _, _, _, rfl, rfl, ⟨rfl, s2w1, rfl⟩, ⟨rfl, rfl⟩⟩⟩ := hRs2
      obtain ⟨s2p0, s2n0, s2q0, rfl⟩ := un_form s2r0
      have es2 := hcs2 1 (by simp)
      have es2 : ∃ u, ws1.cell? ⟨bs1, k * 3 + 1, none⟩ = some u := ⟨_, by have hh := hcs2 1 (by simp); rw [show Ty.n tGrads = 3 from rfl] at hh; simpa using hh⟩
      obtain ⟨us2, es2⟩ := es2
      have gs2 : ws1.frozen? ⟨bs1, k * 3 + 1, none⟩ = false := hfzs2 _
      have hf3 := hVs2 1 (.int .i64 (kk + (cnt (.slice 111 tRow) x0 : Nat))) ((mk (.slice 111 tRow) x0 (kk)), (((kk + (cnt (.slice 111 tRow) x0 : Nat) : Int)), x2)) (by simp) ⟨[_], [_, _], _, _, rfl, rfl, s2r0, ⟨[_], [_], _, _, rfl, rfl, ⟨rfl, wf_i64 (show -9223372036854775808 ≤ (kk + (cnt (.slice 111 tRow) x0 : Nat) : Int) ∧ (kk + (cnt (.slice 111 tRow) x0 : Nat) : Int) ≤ 9223372036854775807 by omega), rfl⟩, ⟨rfl, rfl⟩⟩⟩
      simp only [show Ty.n tGrads = 3 from rfl, Nat.add_zero, Nat.mul_one] at hf3
      have hbs2 : Only bl w (ws1.setCell ⟨bs1, k * 3 + 1, none⟩ (.int .i64 (kk + (cnt (.slice 111 tRow) x0 : Nat)))) := Only.setCell hbs1 hbms1 _
      clear hVs2 hUs2 hcs2 hfzs2
      rw [List.set_set] at hf3
      have hkl3 : k < (M.set k ((mk (.slice 111 tRow) x0 (kk)), (((kk + (cnt (.slice 111 tRow) x0 : Nat) : Int)), x2))).length := by rw [List.length_set]; exact hkl
      have hM3 : (M.set k ((mk (.slice 111 tRow) x0 (kk)), (((kk + (cnt (.slice 111 tRow) x0 : Nat) : Int)), x2)))[k]'hkl3 = ((mk (.slice 111 tRow) x0 (kk)), (((kk + (cnt (.slice 111 tRow) x0 : Nat) : Int)), x2)) := List.getElem_set_self _
      obtain ⟨bs3, caps3, cs3, bks3, hvs3, hbms3, hbzs3, hfzs3, hcls3, hcs3, hRs3, hsubs3, hnbs3, hnos3, hUs3, hVs3⟩ := un_lens hf3 hnd k hkl3
      simp only [Value.slice.injEq] at hvs3
      obtain ⟨hvbs3, -, -⟩ := hvs3
      simp only [Option.some.injEq, Addr.mk.injEq, and_true] at hvbs3
      subst hvbs3
      rw [hM3] at hRs3
      obtain ⟨_, _, _, _, rfl, rfl, s3r0, ⟨_, _, _, _, rfl, rfl, ⟨rfl, s3w1, rfl⟩, ⟨rfl, rfl⟩⟩⟩ := hRs3
      obtain ⟨s3p0, s3n0, s3q0, rfl⟩ := un_form s3r0
      have es3 := hcs3 2 (by simp)
      have es3 : ∃ u, (ws1.setCell ⟨bs1, k * 3 + 1, none⟩ (.int .i64 (kk + (cnt (.slice 111 tRow) x0 : Nat)))).cell? ⟨bs1, k * 3 + 2, none⟩ = some u := ⟨_, by have hh := hcs3 2 (by simp); rw [show Ty.n tGrads = 3 from rfl] at hh; simpa using hh⟩
      obtain ⟨us3, es3⟩ := es3
      have gs3 : (ws1.setCell ⟨bs1, k * 3 + 1, none⟩ (.int .i64 (kk + (cnt (.slice 111 tRow) x0 : Nat)))).frozen? ⟨bs1, k * 3 + 2, none⟩ = false := hfzs3 _
      have hf4 := hVs3 2 (.bool ((kk + (cnt (.slice 111 tRow) x0 : Nat) + 1 : Int) % 3 == 0)) ((mk (.slice 111 tRow) x0 (kk)), (((kk + (cnt (.slice 111 tRow) x0 : Nat) : Int)), ((kk + (cnt (.slice 111 tRow) x0 : Nat) + 1 : Int) % 3 == 0))) (by simp) ⟨[_], [_, _], _, _, rfl, rfl, s3r0, ⟨[_], [_], _, _, rfl, rfl, ⟨rfl, s3w1, rfl⟩, ⟨rfl, rfl⟩⟩⟩
      simp only [show Ty.n tGrads = 3 from rfl, Nat.add_zero, Nat.mul_one] at hf4
      have hbs3 : Only bl w ((ws1.setCell ⟨bs1, k * 3 + 1, none⟩ (.int .i64 (kk + (cnt (.slice 111 tRow) x0 : Nat)))).setCell ⟨bs1, k * 3 + 2, none⟩ (.bool ((kk + (cnt (.slice 111 tRow) x0 : Nat) + 1 : Int) % 3 == 0))) := Only.setCell hbs2 hbms1 _
      clear hVs3 hUs3 hcs3 hfzs3
      rw [List.set_set] at hf4
      have hkl4 : k < (M.set k ((mk (.slice 111 tRow) x0 (kk)), (((kk + (cnt (.slice 111 tRow) x0 : Nat) : Int)), ((kk + (cnt (.slice 111 tRow) x0 : Nat) + 1 : Int) % 3 == 0)))).length := by rw [List.length_set]; exact hkl
      have hM4 : (M.set k ((mk (.slice 111 tRow) x0 (kk)), (((kk + (cnt (.slice 111 tRow) x0 : Nat) : Int)), ((kk + (cnt (.slice 111 tRow) x0 : Nat) + 1 : Int) % 3 == 0))))[k]'hkl4 = ((mk (.slice 111 tRow) x0 (kk)), (((kk + (cnt (.slice 111 tRow) x0 : Nat) : Int)), ((kk + (cnt (.slice 111 tRow) x0 : Nat) + 1 : Int) % 3 == 0))) := List.getElem_set_self _
      have HF := Lib.hid hf4
      clear hf1 hf2 hf3 hf4
      go_wp2
      go_roundw
      case rel =>
        refine ⟨k + 1, by omega, by go_num, ⟨_, rfl, by show _ = _; have := HS1.out; have := hkk.out; have hcx9 : cnt tGrads (x0, (x1, x2)) = cnt (.slice 111 tRow) x0 + 1 + 1 := (by first | rfl | (simp only [cnt]; omega)); omega, by omega, by omega⟩, hbs3, ?_⟩
        have h2 := HF.out
        rw [HSET.out _ (HMK.out.trans (by rfl))] at h2
        exact h2
      case measure => simp [intOf]; omega
    · go_wp2
      go_ret
      obtain rfl : k = l.length := by omega
      have hkk := hkk.out
      rw [List.take_length] at hkk
      refine ⟨ret_int (by rw [cnt_slice]; exact hkk), ?_, hb⟩
      have hf := hf.out
      have e1 : (mk (.slice 36 tGrads) l k0 : List tGrads.D).take l.length ++ l.drop l.length = mk (.slice 36 tGrads) l k0 := by
        rw [List.drop_length, List.append_nil, List.take_of_length_le (by rw [HL.out]; exact Nat.le_refl _)]
      rw [e1] at hf
      exact hf

set_option maxHeartbeats 4000000 in
set_option maxRecDepth 100000 in
theorem markGrads_un (cs : Array Value) (k0 : Int) (d : tGrads.D) (bl : List Nat) (w : World) (h : Un tGrads w cs.toList d bl) (hnd : bl.Nodup) (h0 : 0 ≤ k0) (h1 : k0 + (cntt tGrads d : Nat) ≤ 1000000000000) :
    Calls Try.prog 25 #[.agg cs, .int .i64 k0] w (RetUt tGrads w cs.toList (mkt tGrads d k0) bl (k0 + (cntt tGrads d : Nat))) := by
  obtain ⟨x0, ⟨x1, x2⟩⟩ := d
  have hcx : cntt tGrads (x0, (x1, x2)) = cnt (.slice 111 tRow) x0 := by first | rfl | (simp only [cntt]; omega)
  rw [hcx] at h1
  clear hcx
  obtain ⟨BL, hBL⟩ : ∃ BL, BL = bl := ⟨_, rfl⟩
  obtain ⟨_, _, _, _, hcs, rfl, sr0, ⟨_, _, _, _, rfl, rfl, ⟨rfl, sw1, rfl⟩, ⟨rfl, rfl⟩⟩⟩ := h
  obtain ⟨sp0, sn0, sq0, rfl⟩ := un_form sr0
  obtain rfl : cs = #[.slice sp0 sn0 sq0, .int .i64 x1, .bool x2] := arr_of hcs
  clear hcs
  have HBL := Lib.hid hBL; clear hBL
  have R0 := Lib.hid sr0; clear sr0
  go_enter Try.func25, Try.ntmps25
  go_wp2_with fail
  refine (markRowS_un _ _ _ _ x0 _ _ (by exact (Un.keep _ _ _ _ (fun q hq => Below.heap_alloc _ _ _ (un_lt _ _ _ _ _ R0.out q hq)) R0.out)) (nd_l hnd) (by omega) (by omega)).mono ?_
  rintro e w90 ⟨rfl, rp0, on0⟩
  have K0_1 := Lib.hid rp0; clear rp0
  have z90 := on0.size
  skip
  have q0_1 : w90.cell? ⟨w.heap.size, 0, none⟩ = some (.slice sp0 sn0 sq0) := (on0.cell (a := ⟨w.heap.size, 0, none⟩) (fun hm => by have := un_lt _ _ _ _ _ R0.out _ hm; simp at this) (by simp)).trans (by simp)
  have q1_1 : w90.cell? ⟨w.heap.size, 1, none⟩ = some (.int .i64 x1) := (on0.cell (a := ⟨w.heap.size, 1, none⟩) (fun hm => by have := un_lt _ _ _ _ _ R0.out _ hm; simp at this) (by simp)).trans (by simp)
  have q2_1 : w90.cell? ⟨w.heap.size, 2, none⟩ = some (.bool x2) := (on0.cell (a := ⟨w.heap.size, 2, none⟩) (fun hm => by have := un_lt _ _ _ _ _ R0.out _ hm; simp at this) (by simp)).trans (by simp)
  have zb1 : w.heap.size < w90.heap.size := by have := z90; (try simp at this); omega
  have O1 : Only BL w w90 := Only.trans (Only.alloc (Only.refl _ w) _) (on0.mono (fun q hq => by rw [HBL.out]; exact (List.mem_append_left _ hq)))
  go_wp2
  go_ret
  exact ⟨ret_int (by have hcx : cntt tGrads (x0, (x1, x2)) = cnt (.slice 111 tRow) x0 := (by first | rfl | (simp only [cntt]; omega)); rw [hcx]; try omega), ⟨[_], [_, _], _, _, rfl, rfl, K0_1.out, ⟨[_], [_], _, _, rfl, rfl, ⟨rfl, sw1, rfl⟩, ⟨rfl, rfl⟩⟩⟩, Only.mono O1 (fun q hq => by rw [HBL.out] at hq; simpa using hq)⟩

end Go.Proofs.Ytnijnjclmlfahaa
