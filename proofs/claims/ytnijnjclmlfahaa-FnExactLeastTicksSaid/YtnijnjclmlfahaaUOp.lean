/- Marks over rows that are met once: Op. -/
import Derived.Test.YtnijnjclmlfahaaTOp
import Derived.Test.YtnijnjclmlfahaaCe
namespace Go.Proofs.Ytnijnjclmlfahaa
open Go.ChangeShapes Go.WideShapes Go.ChangeAt Go.RowKit
set_option linter.unusedVariables false
set_option linter.unusedSimpArgs false
set_option maxHeartbeats 4000000 in
set_option maxRecDepth 100000 in
theorem markOpS_un (p : Option Addr) (len cap : Nat) (k0 : Int) (l : List tOp.D) (bl : List Nat) (w : World) (h : Un (.slice 99 tOp) w [.slice p len cap] l bl) (hnd : bl.Nodup) (h0 : 0 ≤ k0) (h1 : k0 + (cnt (.slice 99 tOp) l : Nat) ≤ 1000000000000) :
    Calls Try.prog 79 #[.slice p len cap, .int .i64 k0] w (RetUk (.slice 99 tOp) w [.slice p len cap] (mk (.slice 99 tOp) l k0) bl (k0 + (cnt (.slice 99 tOp) l : Nat))) := by
  obtain ⟨rfl, hmx⟩ := un_len h
  have HL := Lib.hid (mk_length (e := 99) (t := tOp) l k0)
  rw [cnt_slice] at h1
  have hbl := un_lt _ _ _ _ _ h
  unfold maxLen at hmx
  go_enter Try.func79, Try.ntmps79
  go_wp2
  go_loopw [1, 5] (fun q i wr => ∃ k : Nat, k ≤ l.length ∧ i = .int .i64 k ∧ (∃ kk : Int, q = .int .i64 kk ∧ Hid (kk = k0 + (((l.take k).map (cnt tOp)).sum : Nat)) ∧ 0 ≤ kk ∧ kk ≤ 1000000000000) ∧ Only bl w wr ∧ Hid (Un (.slice 99 tOp) wr [.slice p l.length cap] ((mk (.slice 99 tOp) l k0 : List tOp.D).take k ++ l.drop k) bl)) (fun _ i _ => l.length - (intOf i).toNat)
  case atStart => exact ⟨0, by omega, rfl, ⟨_, rfl, by show _ = _; simp, by omega, by omega⟩, Only.refl _ _, by show Un _ _ _ _ _; simpa using h⟩
  case round =>
    obtain ⟨k, hk, rfl, ⟨kk, rfl, hkk, hk0, hk1⟩, hb, hf⟩ := hrel
    clear h
    by_cases hlt : k < l.length
    · obtain ⟨M, hM⟩ : ∃ M, M = (mk (.slice 99 tOp) l k0 : List tOp.D).take k ++ l.drop k := ⟨_, rfl⟩
      have hkl : k < M.length := by rw [hM]; simp only [List.length_append, List.length_take, List.length_drop, HL.out]; omega
      obtain ⟨x, hx⟩ : ∃ x, l[k] = x := ⟨_, rfl⟩
      have hMk : M[k] = x := by subst hM; rw [get_mix _ _ _ hlt HL.out, hx]
      have hset : ∀ y, (mk (.slice 99 tOp) l k0 : List tOp.D)[k]'(by rw [HL.out]; exact hlt) = y → M.set k y = (mk (.slice 99 tOp) l k0 : List tOp.D).take (k + 1) ++ l.drop (k + 1) := fun y hy => by subst hM; exact set_mix _ _ _ hlt HL.out _ hy
      have hmk := mk_get (e := 99) (t := tOp) l k0 k hlt (by rw [HL.out]; exact hlt)
      rw [hx, ← hkk.out] at hmk
      have hs1 := sum_take_succ (cnt tOp) l k hlt
      have hs2 := sum_take_le (cnt tOp) l (k + 1)
      rw [hx] at hs1
      have hf1 := hf.out
      rw [← hM] at hf1
      have hxb : kk + (cnt tOp x : Nat) ≤ 1000000000000 := by have := hkk.out; omega
      have HS1 := Lib.hid hs1; have HSET := Lib.hid hset; have HMK := Lib.hid hmk
      clear hx hM hs1 hs2 hset hmk hf
      obtain ⟨x0, ⟨x1, ⟨x2, x3⟩⟩⟩ := x
      have hcx : cnt tOp (x0, (x1, (x2, x3))) = 1 + 1 + 1 + cnt tInts x3 := by first | rfl | (simp only [cnt]; omega)
      rw [hcx] at hxb
      have HCX := Lib.hid hcx; clear hcx
      have hw0 : wr.heap.size = wr.heap.size := rfl
      obtain ⟨bs1, caps1, cs1, bks1, hvs1, hbms1, hbzs1, hfzs1, hcls1, hcs1, hRs1, hsubs1, hnbs1, hnos1, hUs1, hVs1⟩ := un_lens hf1 hnd k hkl
      simp only [Value.slice.injEq] at hvs1
      obtain ⟨rfl, -, -⟩ := hvs1
      rw [hMk] at hRs1
      obtain ⟨_, _, _, _, rfl, rfl, ⟨rfl, s1w0, rfl⟩, ⟨_, _, _, _, rfl, rfl, ⟨rfl, s1w1, rfl⟩, ⟨_, _, _, _, rfl, rfl, ⟨rfl, s1w2, rfl⟩, s1r3⟩⟩⟩ := hRs1
      obtain ⟨s1p3, s1n3, s1q3, rfl⟩ := un_form s1r3
      have es1 := hcs1 0 (by simp)
      have es1 : ∃ u, wr.cell? ⟨bs1, k * 4, none⟩ = some u := ⟨_, by have hh := hcs1 0 (by simp); rw [show Ty.n tOp = 4 from rfl] at hh; simpa using hh⟩
      obtain ⟨us1, es1⟩ := es1
      have gs1 : wr.frozen? ⟨bs1, k * 4, none⟩ = false := hfzs1 _
      have hf2 := hVs1 0 (.int .i64 (kk)) (((kk : Int)), (x1, (x2, x3))) (by simp) ⟨[_], [_, _, _], _, _, rfl, rfl, ⟨rfl, wf_i64 (show -9223372036854775808 ≤ (kk : Int) ∧ (kk : Int) ≤ 9223372036854775807 by omega), rfl⟩, ⟨[_], [_, _], _, _, rfl, rfl, ⟨rfl, s1w1, rfl⟩, ⟨[_], [_], _, _, rfl, rfl, ⟨rfl, s1w2, rfl⟩, s1r3⟩⟩⟩
      simp only [show Ty.n tOp = 4 from rfl, Nat.add_zero, Nat.mul_one] at hf2
      have hbs1 : Only bl w (wr.setCell ⟨bs1, k * 4, none⟩ (.int .i64 (kk))) := Only.setCell hb hbms1 _
      clear hVs1 hUs1 hcs1 hfzs1
      have hkl2 : k < (M.set k (((kk : Int)), (x1, (x2, x3)))).length := by rw [List.length_set]; exact hkl
      have hM2 : (M.set k (((kk : Int)), (x1, (x2, x3))))[k]'hkl2 = (((kk : Int)), (x1, (x2, x3))) := List.getElem_set_self _
      obtain ⟨bs2, caps2, cs2, bks2, hvs2, hbms2, hbzs2, hfzs2, hcls2, hcs2, hRs2, hsubs2, hnbs2, hnos2, hUs2, hVs2⟩ := un_lens hf2 hnd k hkl2
      simp only [Value.slice.injEq] at hvs2
      obtain ⟨hvbs2, -, -⟩ := hvs2
      simp only [Option.some.injEq, Addr.mk.injEq, and_true] at hvbs2
      subst hvbs2
      rw [hM2] at hRs2
      obtain ⟨_, _, _, _, rfl, rfl, ⟨rfl, s2w0, rfl⟩, ⟨_, _, _, _, rfl, rfl, ⟨rfl, s2w1, rfl⟩, ⟨_, _, _, _, rfl, rfl, ⟨rfl, s2w2, rfl⟩, s2r3⟩⟩⟩ := hRs2
      obtain ⟨s2p3, s2n3, s2q3, rfl⟩ := un_form s2r3
      have es2 := hcs2 1 (by simp)
      have es2 : ∃ u, (wr.setCell ⟨bs1, k * 4, none⟩ (.int .i64 (kk))).cell? ⟨bs1, k * 4 + 1, none⟩ = some u := ⟨_, by have hh := hcs2 1 (by simp); rw [show Ty.n tOp = 4 from rfl] at hh; simpa using hh⟩
      obtain ⟨us2, es2⟩ := es2
      have gs2 : (wr.setCell ⟨bs1, k * 4, none⟩ (.int .i64 (kk))).frozen? ⟨bs1, k * 4 + 1, none⟩ = false := hfzs2 _
      have hf3 := hVs2 1 (.int .i64 (kk + 1)) (((kk : Int)), (((kk + 1 : Int)), (x2, x3))) (by simp) ⟨[_], [_, _, _], _, _, rfl, rfl, ⟨rfl, s2w0, rfl⟩, ⟨[_], [_, _], _, _, rfl, rfl, ⟨rfl, wf_i64 (show -9223372036854775808 ≤ (kk + 1 : Int) ∧ (kk + 1 : Int) ≤ 9223372036854775807 by omega), rfl⟩, ⟨[_], [_], _, _, rfl, rfl, ⟨rfl, s2w2, rfl⟩, s2r3⟩⟩⟩
      simp only [show Ty.n tOp = 4 from rfl, Nat.add_zero, Nat.mul_one] at hf3
      have hbs2 : Only bl w ((wr.setCell ⟨bs1, k * 4, none⟩ (.int .i64 (kk))).setCell ⟨bs1, k * 4 + 1, none⟩ (.int .i64 (kk + 1))) := Only.setCell hbs1 hbms1 _
      clear hVs2 hUs2 hcs2 hfzs2
      rw [List.set_set] at hf3
      have hkl3 : k < (M.set k (((kk : Int)), (((kk + 1 : Int)), (x2, x3)))).length := by rw [List.length_set]; exact hkl
      have hM3 : (M.set k (((kk : Int)), (((kk + 1 : Int)), (x2, x3))))[k]'hkl3 = (((kk : Int)), (((kk + 1 : Int)), (x2, x3))) := List.getElem_set_self _
      obtain ⟨bs3, caps3, cs3, bks3, hvs3, hbms3, hbzs3, hfzs3, hcls3, hcs3, hRs3, hsubs3, hnbs3, hnos3, hUs3, hVs3⟩ := un_lens hf3 hnd k hkl3
      simp only [Value.slice.injEq] at hvs3
      obtain ⟨hvbs3, -, -⟩ := hvs3
      simp only [Option.some.injEq, Addr.mk.injEq, and_true] at hvbs3
      subst hvbs3
      rw [hM3] at hRs3
      obtain ⟨_, _, _, _, rfl, rfl, ⟨rfl, s3w0, rfl⟩, ⟨_, _, _, _, rfl, rfl, ⟨rfl, s3w1, rfl⟩, ⟨_, _, _, _, rfl, rfl, ⟨rfl, s3w2, rfl⟩, s3r3⟩⟩⟩ := hRs3
      obtain ⟨s3p3, s3n3, s3q3, rfl⟩ := un_form s3r3
      have es3 := hcs3 2 (by simp)
      have es3 : ∃ u, ((wr.setCell ⟨bs1, k * 4, none⟩ (.int .i64 (kk))).setCell ⟨bs1, k * 4 + 1, none⟩ (.int .i64 (kk + 1))).cell? ⟨bs1, k * 4 + 2, none⟩ = some u := ⟨_, by have hh := hcs3 2 (by simp); rw [show Ty.n tOp = 4 from rfl] at hh; simpa using hh⟩
      obtain ⟨us3, es3⟩ := es3
      have gs3 : ((wr.setCell ⟨bs1, k * 4, none⟩ (.int .i64 (kk))).setCell ⟨bs1, k * 4 + 1, none⟩ (.int .i64 (kk + 1))).frozen? ⟨bs1, k * 4 + 2, none⟩ = false := hfzs3 _
      have hf4 := hVs3 2 (.int .i64 (kk + 1 + 1)) (((kk : Int)), (((kk + 1 : Int)), (((kk + 1 + 1 : Int)), x3))) (by simp) ⟨[_], [_, _, _], _, _, rfl, rfl, ⟨rfl, s3w0, rfl⟩, ⟨[_], [_, _], _, _, rfl, rfl, ⟨rfl, s3w1, rfl⟩, ⟨[_], [_], _, _, rfl, rfl, ⟨rfl, wf_i64 (show -9223372036854775808 ≤ (kk + 1 + 1 : Int) ∧ (kk + 1 + 1 : Int) ≤ 9223372036854775807 by omega), rfl⟩, s3r3⟩⟩⟩
      simp only [show Ty.n tOp = 4 from rfl, Nat.add_zero, Nat.mul_one] at hf4
      have hbs3 : Only bl w (((wr.setCell ⟨bs1, k * 4, none⟩ (.int .i64 (kk))).setCell ⟨bs1, k * 4 + 1, none⟩ (.int .i64 (kk + 1))).setCell ⟨bs1, k * 4 + 2, none⟩ (.int .i64 (kk + 1 + 1))) := Only.setCell hbs2 hbms1 _
      clear hVs3 hUs3 hcs3 hfzs3
      rw [List.set_set] at hf4
      have hkl4 : k < (M.set k (((kk : Int)), (((kk + 1 : Int)), (((kk + 1 + 1 : Int)), x3)))).length := by rw [List.length_set]; exact hkl
      have hM4 : (M.set k (((kk : Int)), (((kk + 1 : Int)), (((kk + 1 + 1 : Int)), x3))))[k]'hkl4 = (((kk : Int)), (((kk + 1 : Int)), (((kk + 1 + 1 : Int)), x3))) := List.getElem_set_self _
      obtain ⟨bs4, caps4, cs4, bks4, hvs4, hbms4, hbzs4, hfzs4, hcls4, hcs4, hRs4, hsubs4, hnbs4, hnos4, hUs4, hVs4⟩ := un_lens hf4 hnd k hkl4
      simp only [Value.slice.injEq] at hvs4
      obtain ⟨hvbs4, -, -⟩ := hvs4
      simp only [Option.some.injEq, Addr.mk.injEq, and_true] at hvbs4
      subst hvbs4
      rw [hM4] at hRs4
      obtain ⟨_, _, _, _, rfl, rfl, ⟨rfl, s4w0, rfl⟩, ⟨_, _, _, _, rfl, rfl, ⟨rfl, s4w1, rfl⟩, ⟨_, _, _, _, rfl, rfl, ⟨rfl, s4w2, rfl⟩, s4r3⟩⟩⟩ := hRs4
      obtain ⟨s4p3, s4n3, s4q3, rfl⟩ := un_form s4r3
      have es4 : (((wr.setCell ⟨bs1, k * 4, none⟩ (.int .i64 (kk))).setCell ⟨bs1, k * 4 + 1, none⟩ (.int .i64 (kk + 1))).setCell ⟨bs1, k * 4 + 2, none⟩ (.int .i64 (kk + 1 + 1))).cell? ⟨bs1, k * 4 + 3, none⟩ = some (.slice s4p3 s4n3 s4q3) := by have hh := hcs4 3 (by simp); rw [show Ty.n tOp = 4 from rfl] at hh; simpa using hh
      clear hfzs4 hcs4 hcls4 hVs4
      have HUs4 := Lib.hid hUs4; clear hUs4
      go_wp2_with fail
      refine (markIntS_un _ _ _ _ x3 _ _ (by exact s4r3) (nd_r (nd_r (nd_r hnbs4))) (by omega) (by have := cnt_ints x3; omega)).mono ?_
      rintro e ws4 ⟨rfl, rps4, ons4⟩
      have hf5 := HUs4.out ws4 (((kk : Int)), (((kk + 1 : Int)), (((kk + 1 + 1 : Int)), (mk tInts x3 (kk + 1 + 1 + 1))))) (fun q hq hz => ons4.block q (fun hm => hq (List.mem_append_right _ (List.mem_append_right _ (List.mem_append_right _ hm)))) hz) ⟨[_], [_, _, _], _, _, rfl, rfl, ⟨rfl, s4w0, rfl⟩, ⟨[_], [_, _], _, _, rfl, rfl, ⟨rfl, s4w1, rfl⟩, ⟨[_], [_], _, _, rfl, rfl, ⟨rfl, s4w2, rfl⟩, rps4⟩⟩⟩
      have hbs4 : Only bl w ws4 := Only.trans hbs3 (ons4.mono (fun q hq => hsubs4 q (List.mem_append_right _ (List.mem_append_right _ (List.mem_append_right _ hq)))))
      clear HUs4 rps4 s4r3 es4 hbms4
      rw [List.set_set] at hf5
      have hkl5 : k < (M.set k (((kk : Int)), (((kk + 1 : Int)), (((kk + 1 + 1 : Int)), (mk tInts x3 (kk + 1 + 1 + 1)))))).length := by rw [List.length_set]; exact hkl
      have hM5 : (M.set k (((kk : Int)), (((kk + 1 : Int)), (((kk + 1 + 1 : Int)), (mk tInts x3 (kk + 1 + 1 + 1))))))[k]'hkl5 = (((kk : Int)), (((kk + 1 : Int)), (((kk + 1 + 1 : Int)), (mk tInts x3 (kk + 1 + 1 + 1))))) := List.getElem_set_self _
      have HF := Lib.hid hf5
      clear hf1 hf2 hf3 hf4 hf5
      go_wp2
      go_roundw
      case rel =>
        refine ⟨k + 1, by omega, by go_num, ⟨_, rfl, by show _ = _; have := HS1.out; have := hkk.out; have hcx9 : cnt tOp (x0, (x1, (x2, x3))) = 1 + 1 + 1 + cnt tInts x3 := (by first | rfl | (simp only [cnt]; omega)); omega, by omega, by omega⟩, hbs4, ?_⟩
        have h2 := HF.out
        rw [HSET.out _ (HMK.out.trans (by rfl))] at h2
        exact h2
      case measure => simp [intOf]; omega
    · go_wp2
      go_ret
      obtain rfl : k = l.length := by omega
      have hkk := hkk.out
      rw [List.take_length] at hkk
      refine ⟨ret_int (by rw [cnt_slice]; exact hkk), ?_, hb⟩
      have hf := hf.out
      have e1 : (mk (.slice 99 tOp) l k0 : List tOp.D).take l.length ++ l.drop l.length = mk (.slice 99 tOp) l k0 := by
        rw [List.drop_length, List.append_nil, List.take_of_length_le (by rw [HL.out]; exact Nat.le_refl _)]
      rw [e1] at hf
      exact hf


end Go.Proofs.Ytnijnjclmlfahaa
