/- The laws' own helpers over Batch: copy, compare, count, mark, look at the marks. -/
import Derived.Test.YteejpennjkihaaaTPair
namespace Go.Proofs.Yteejpennjkihaaa
open Go.ChangeShapes Go.WideShapes Go.ChangeAt Go.RowKit
set_option linter.unusedVariables false
set_option linter.unusedSimpArgs false
abbrev tBatch : Ty := (.slice 91 tPair)





set_option maxHeartbeats 1000000 in
set_option maxRecDepth 100000 in
theorem eqBatch_any (ca cb : Array Value) (d : tBatch.D) (w : World) (ha : rd tBatch w ca.toList d) (hb : rd tBatch w cb.toList d) :
    Calls Try.prog 108 #[.agg ca, .agg cb] w (RetV (.bool true) w) := by
  obtain ⟨x0, hx0⟩ : ∃ y, y = d := ⟨_, rfl⟩
  subst hx0
  obtain ⟨ap0, an0, aq0, ahcs, as0⟩ := ha
  obtain ⟨bp0, bn0, bq0, bhcs, bs0⟩ := hb
  obtain rfl : ca = #[.slice ap0 an0 aq0] := arr_of ahcs
  obtain rfl : cb = #[.slice bp0 bn0 bq0] := arr_of bhcs
  clear ahcs bhcs
  go_enter Try.func108, Try.ntmps108
  go_wp2_with fail
  refine (eqPairS_any _ _ _ _ _ _ x0 _ (by exact as0.below (by (repeat' first | refine Below.setCell ?_ (by first | omega | (simp [World.setCell]; done) | (simp [World.setCell]; omega)) _ | refine Below.alloc ?_ (by first | omega | (simp [World.setCell]; done) | (simp [World.setCell]; omega)) _); exact Below.refl _ _)) (by exact bs0.below (by (repeat' first | refine Below.setCell ?_ (by first | omega | (simp [World.setCell]; done) | (simp [World.setCell]; omega)) _ | refine Below.alloc ?_ (by first | omega | (simp [World.setCell]; done) | (simp [World.setCell]; omega)) _); exact Below.refl _ _))).mono ?_
  rintro e w90 ⟨rfl, b0⟩
  obtain ⟨u0, v0⟩ := bcell b0
  have y0 := b0.size
  try simp only [World.size_alloc, World.size_setCell] at u0 v0 y0
  have yy00 : w.heap.size < w90.heap.size := (by first | omega | (simp [World.setCell]; done) | (simp [World.setCell]; omega))
  have yy01 : w.heap.size + 1 < w90.heap.size := (by first | omega | (simp [World.setCell]; done) | (simp [World.setCell]; omega))
  go_wp2
  go_ret
  exact ⟨rfl, (by (repeat' first | refine Below.setCell ?_ (by first | omega | (simp [World.setCell]; done) | (simp [World.setCell]; omega)) _ | refine Below.alloc ?_ (by first | omega | (simp [World.setCell]; done) | (simp [World.setCell]; omega)) _); refine Below.trans ?_ (b0.mono (by first | omega | (simp [World.setCell]; done) | (simp [World.setCell]; omega))); (repeat' first | refine Below.setCell ?_ (by first | omega | (simp [World.setCell]; done) | (simp [World.setCell]; omega)) _ | refine Below.alloc ?_ (by first | omega | (simp [World.setCell]; done) | (simp [World.setCell]; omega)) _); exact Below.refl _ _)⟩

set_option maxHeartbeats 1000000 in
set_option maxRecDepth 100000 in
theorem eqBatchS_any (p q : Option Addr) (len cap len' cap' : Nat) (l : List tBatch.D) (w : World) (h : SlRd tBatch.n (rd tBatch w) w p len cap l) (h' : SlRd tBatch.n (rd tBatch w) w q len' cap' l) :
    Calls Try.prog 63 #[.slice p len cap, .slice q len' cap'] w (RetV (.bool true) w) := by
  obtain rfl := h.lens
  obtain rfl := h'.lens
  have hmx : l.length ≤ maxLen := by have := h.2.1; have := h.2.2.1; omega
  unfold maxLen at hmx
  go_enter Try.func63, Try.ntmps63
  go_wp2
  go_loopw [5] (fun i wr => ∃ k : Nat, k ≤ l.length ∧ i = .int .i64 k ∧ Below w.heap.size w wr) (fun i _ => l.length - (intOf i).toNat)
  case atStart => exact ⟨0, by omega, rfl, Below.refl _ _⟩
  case round =>
    obtain ⟨k, hk, rfl, hb⟩ := hrel
    by_cases hlt : k < l.length
    · obtain ⟨b, off, rfl, hlb, cs, hcs, hc, hR⟩ := h.2.2.2.2 k hlt
      obtain ⟨b2, off2, rfl, hlb2, cs2, hcs2, hc2, hR2⟩ := h'.2.2.2.2 k hlt
      obtain ⟨x, hx⟩ : ∃ x, l[k] = x := ⟨_, rfl⟩
      rw [hx] at hR hR2
      have hR0 : rd tBatch wr.drew cs x := rd_mono (fun q hq => hb.block q hq) _ _ _ hR
      have hR20 : rd tBatch wr.drew cs2 x := rd_mono (fun q hq => hb.block q hq) _ _ _ hR2
      obtain ⟨x0, hx0⟩ : ∃ y, y = x := ⟨_, rfl⟩
      subst hx0
      obtain ⟨ap0, an0, aq0, rfl, as0⟩ := hR
      obtain ⟨bp0, bn0, bq0, rfl, bs0⟩ := hR2
      have c0 : wr.cell? ⟨b, off + k, none⟩ = some (.slice ap0 an0 aq0) := (hb.cell hlb).trans (by have hh := hc 0 (by simp); rw [show Ty.n tBatch = 1 from rfl] at hh; simpa using hh)
      have d0 : wr.cell? ⟨b2, off2 + k, none⟩ = some (.slice bp0 bn0 bq0) := (hb.cell hlb2).trans (by have hh := hc2 0 (by simp); rw [show Ty.n tBatch = 1 from rfl] at hh; simpa using hh)
      have HR := Lib.hid hR0; have HR2 := Lib.hid hR20
      clear h h' hc hc2 hx hcs hcs2 hR0 hR20
      go_wp2
      go_still_tail 8, (by kernel_rfl)
      change wpList _ _ _ _ _ wr.drew
      have hb2 : Below w.heap.size w wr.drew := hb.drew
      generalize wr.drew = w2 at hb2 HR HR2 ⊢
      go_wp2_with fail
      refine (eqBatch_any _ _ x0 _ (by exact HR.out) (by exact HR2.out)).mono ?_
      rintro e w3 ⟨rfl, b3⟩
      go_wp2
      go_roundw
      case rel => exact ⟨k + 1, by omega, by go_num, hb2.trans (b3.mono hb2.size)⟩
      case measure => simp [intOf]; omega
    · clear h h'
      go_wp2
      go_ret
      exact ⟨rfl, hb⟩

set_option maxHeartbeats 4000000 in
set_option maxRecDepth 100000 in
theorem markBatchS_any (p : Option Addr) (len cap : Nat) (k0 : Int) (l : List tBatch.D) (bl : List Nat) (w : World) (h : rep (.slice 89 tBatch) w [.slice p len cap] l bl) (hnd : bl.Nodup) (h0 : 0 ≤ k0) (h1 : k0 + (cnt (.slice 89 tBatch) l : Nat) ≤ 1000000000000) :
    Calls Try.prog 66 #[.slice p len cap, .int .i64 k0] w (RetMk (.slice 89 tBatch) w [.slice p len cap] (mk (.slice 89 tBatch) l k0) bl (k0 + (cnt (.slice 89 tBatch) l : Nat))) := by
  obtain ⟨rfl, hmx⟩ := rep_len h
  have HL := Lib.hid (mk_length (e := 89) (t := tBatch) l k0)
  rw [cnt_slice] at h1
  have hbl := rep_lt _ _ _ _ _ h
  unfold maxLen at hmx
  go_enter Try.func66, Try.ntmps66
  go_wp2
  go_loopw [1, 5] (fun q i wr => ∃ k : Nat, k ≤ l.length ∧ i = .int .i64 k ∧ (∃ kk : Int, q = .int .i64 kk ∧ Hid (kk = k0 + (((l.take k).map (cnt tBatch)).sum : Nat)) ∧ 0 ≤ kk ∧ kk ≤ 1000000000000) ∧ Only bl w wr ∧ Hid (rep (.slice 89 tBatch) wr [.slice p l.length cap] ((mk (.slice 89 tBatch) l k0 : List tBatch.D).take k ++ l.drop k) bl)) (fun _ i _ => l.length - (intOf i).toNat)
  case atStart => exact ⟨0, by omega, rfl, ⟨_, rfl, by show _ = _; simp, by omega, by omega⟩, Only.refl _ _, by show rep _ _ _ _ _; simpa using h⟩
  case round =>
    obtain ⟨k, hk, rfl, ⟨kk, rfl, hkk, hk0, hk1⟩, hb, hf⟩ := hrel
    clear h
    by_cases hlt : k < l.length
    · obtain ⟨M, hM⟩ : ∃ M, M = (mk (.slice 89 tBatch) l k0 : List tBatch.D).take k ++ l.drop k := ⟨_, rfl⟩
      have hkl : k < M.length := by rw [hM]; simp only [List.length_append, List.length_take, List.length_drop, HL.out]; omega
      obtain ⟨x, hx⟩ : ∃ x, l[k] = x := ⟨_, rfl⟩
      have hMk : M[k] = x := by subst hM; rw [get_mix _ _ _ hlt HL.out, hx]
      have hset : ∀ y, (mk (.slice 89 tBatch) l k0 : List tBatch.D)[k]'(by rw [HL.out]; exact hlt) = y → M.set k y = (mk (.slice 89 tBatch) l k0 : List tBatch.D).take (k + 1) ++ l.drop (k + 1) := fun y hy => by subst hM; exact set_mix _ _ _ hlt HL.out _ hy
      have hmk := mk_get (e := 89) (t := tBatch) l k0 k hlt (by rw [HL.out]; exact hlt)
      rw [hx, ← hkk.out] at hmk
      have hs1 := sum_take_succ (cnt tBatch) l k hlt
      have hs2 := sum_take_le (cnt tBatch) l (k + 1)
      rw [hx] at hs1
      have hf1 := hf.out
      rw [← hM] at hf1
      have hxb : kk + (cnt tBatch x : Nat) ≤ 1000000000000 := by have := hkk.out; omega
      have HS1 := Lib.hid hs1; have HSET := Lib.hid hset; have HMK := Lib.hid hmk
      clear hx hM hs1 hs2 hset hmk hf
      obtain ⟨x0, hx0⟩ : ∃ y, y = x := ⟨_, rfl⟩
      subst hx0
      have hcx : cnt tBatch x0 = cnt (.slice 91 tPair) x0 := by first | rfl | (simp only [cnt]; omega)
      rw [hcx] at hxb
      have HCX := Lib.hid hcx; clear hcx
      have hw0 : wr.heap.size = wr.heap.size := rfl
      obtain ⟨bs1, caps1, cs1, bks1, hvs1, hbms1, hbzs1, hfzs1, hcls1, hcs1, hRs1, hsubs1, hnbs1, hnos1, hUs1, hVs1⟩ := rep_lens hf1 hnd k hkl
      simp only [Value.slice.injEq] at hvs1
      obtain ⟨rfl, -, -⟩ := hvs1
      rw [hMk] at hRs1
      have s1r0 := hRs1; clear hRs1
      obtain ⟨s1p0, s1n0, s1q0, rfl⟩ := rep_form s1r0
      have es1 : wr.cell? ⟨bs1, k, none⟩ = some (.slice s1p0 s1n0 s1q0) := by have hh := hcs1 0 (by simp); rw [show Ty.n tBatch = 1 from rfl] at hh; simpa using hh
      clear hfzs1 hcs1 hcls1 hVs1
      have HUs1 := Lib.hid hUs1; clear hUs1
      go_wp2_with fail
      refine (markPairS_any _ _ _ _ x0 _ _ (by exact s1r0) hnbs1 (by omega) (by omega)).mono ?_
      rintro e ws1 ⟨rfl, rps1, ons1⟩
      have hf2 := HUs1.out ws1 (mk (.slice 91 tPair) x0 (kk)) (fun q hq hz => ons1.block q (fun hm => hq hm) hz) rps1
      have hbs1 : Only bl w ws1 := Only.trans hb (ons1.mono (fun q hq => hsubs1 q hq))
      clear HUs1 rps1 s1r0 es1
      have hkl2 : k < (M.set k (mk (.slice 91 tPair) x0 (kk))).length := by rw [List.length_set]; exact hkl
      have hM2 : (M.set k (mk (.slice 91 tPair) x0 (kk)))[k]'hkl2 = (mk (.slice 91 tPair) x0 (kk)) := List.getElem_set_self _
      have HF := Lib.hid hf2
      clear hf1 hf2
      go_wp2
      go_roundw
      case rel =>
        refine ⟨k + 1, by omega, by go_num, ⟨_, rfl, by show _ = _; have := HS1.out; have := hkk.out; have hcx9 : cnt tBatch x0 = cnt (.slice 91 tPair) x0 := (by first | rfl | (simp only [cnt]; omega)); omega, by omega, by omega⟩, hbs1, ?_⟩
        have h2 := HF.out
        rw [HSET.out _ (HMK.out.trans (by rfl))] at h2
        exact h2
      case measure => simp [intOf]; omega
    · go_wp2
      go_ret
      obtain rfl : k = l.length := by omega
      have hkk := hkk.out
      rw [List.take_length] at hkk
      refine ⟨ret_int (by rw [cnt_slice]; exact hkk), ?_, hb⟩
      have hf := hf.out
      have e1 : (mk (.slice 89 tBatch) l k0 : List tBatch.D).take l.length ++ l.drop l.length = mk (.slice 89 tBatch) l k0 := by
        rw [List.drop_length, List.append_nil, List.take_of_length_le (by rw [HL.out]; exact Nat.le_refl _)]
      rw [e1] at hf
      exact hf

set_option maxHeartbeats 4000000 in
set_option maxRecDepth 100000 in
theorem heldBatchS_any (p : Option Addr) (len cap : Nat) (k0 : Int) (l : List tBatch.D) (w : World) (h : SlRd tBatch.n (rd tBatch w) w p len cap (mk (.slice 89 tBatch) l k0)) (h0 : 0 ≤ k0) (h1 : k0 + (cnt (.slice 89 tBatch) l : Nat) ≤ 1000000000000) :
    Calls Try.prog 67 #[.slice p len cap, .int .i64 k0] w (RetV (.int .i64 (k0 + (cnt (.slice 89 tBatch) l : Nat))) w) := by
  have HL := mk_length (e := 89) (t := tBatch) l k0
  obtain rfl : len = l.length := by rw [h.lens]; exact HL
  have hmx : l.length ≤ maxLen := Nat.le_trans h.2.1 h.2.2.1
  unfold maxLen at hmx
  rw [cnt_slice] at h1
  have HL2 := Lib.hid HL
  clear HL
  go_enter Try.func67, Try.ntmps67
  go_wp2
  go_loopw [1, 5] (fun q i wr => ∃ k : Nat, k ≤ l.length ∧ i = .int .i64 k ∧ (∃ kk : Int, q = .int .i64 kk ∧ Hid (kk = k0 + (((l.take k).map (cnt tBatch)).sum : Nat)) ∧ 0 ≤ kk ∧ kk ≤ 1000000000000) ∧ Below w.heap.size w wr) (fun _ i _ => l.length - (intOf i).toNat)
  case atStart => exact ⟨0, by omega, rfl, ⟨_, rfl, by show _ = _; simp, by omega, by omega⟩, Below.refl _ _⟩
  case round =>
    obtain ⟨k, hk, rfl, ⟨kk, rfl, hkk, hk0, hk1⟩, hb⟩ := hrel
    by_cases hlt : k < l.length
    · obtain ⟨b, off, rfl, hlb, cs, hcs, hc, hR⟩ := h.2.2.2.2 k (by rw [HL2.out]; exact hlt)
      have hx9 := mk_get (e := 89) (t := tBatch) l k0 k hlt (by rw [HL2.out]; exact hlt)
      obtain ⟨x, hx⟩ : ∃ x, l[k] = x := ⟨_, rfl⟩
      rw [hx, ← hkk.out] at hx9
      rw [hx9] at hR
      have hs1 := sum_take_succ (cnt tBatch) l k hlt
      have hs2 := sum_take_le (cnt tBatch) l (k + 1)
      rw [hx] at hs1
      have hxb : kk + (cnt tBatch x : Nat) ≤ 1000000000000 := by have := hkk.out; omega
      have HS1 := Lib.hid hs1
      clear hx hx9 hs1 hs2
      obtain ⟨x0, hx0⟩ : ∃ y, y = x := ⟨_, rfl⟩
      subst hx0
      have hcx : cnt tBatch x0 = cnt (.slice 91 tPair) x0 := by first | rfl | (simp only [cnt]; omega)
      rw [hcx] at hxb
      clear hcx
      have hR2 : rd tBatch w cs (mk (.slice 91 tPair) x0 (kk)) := hR
      clear hR
      obtain ⟨ap0, an0, aq0, rfl, as0⟩ := hR2
      have c0_0 : wr.cell? ⟨b, off + k, none⟩ = some (.slice ap0 an0 aq0) := (hb.cell hlb).trans (by have hh := hc 0 (by simp); rw [show Ty.n tBatch = 1 from rfl] at hh; simpa using hh)
      have HC := Lib.hid hc
      have HA0 := Lib.hid as0
      clear h hc hcs as0
      go_wp2_with fail
      refine (heldPairS_any _ _ _ _ x0 _ (by exact SlRd.below HA0.out hb) (by omega) (by omega)).mono ?_
      rintro e w90 ⟨rfl, b90⟩
      have hb90 := hb.trans (b90.mono hb.size)
      have hnn0 : ¬ (kk + (cnt (.slice 91 tPair) x0 : Nat) < 0) := by omega
      clear c0_0
      have hc := HC.out
      have c0_1 : w90.cell? ⟨b, off + k, none⟩ = some (.slice ap0 an0 aq0) := (hb90.cell hlb).trans (by have hh := hc 0 (by simp); rw [show Ty.n tBatch = 1 from rfl] at hh; simpa using hh)
      clear hc
      go_wp2
      go_roundw
      case rel => exact ⟨k + 1, by omega, by go_num, ⟨_, rfl, by show _ = _; have := HS1.out; have := hkk.out; have hcx9 : cnt tBatch x0 = cnt (.slice 91 tPair) x0 := (by first | rfl | (simp only [cnt]; omega)); omega, by omega, by omega⟩, hb90⟩
      case measure => simp [intOf]; omega
    · clear h
      go_wp2
      go_ret
      obtain rfl : k = l.length := by omega
      have hkk := hkk.out
      rw [List.take_length] at hkk
      exact ⟨ret_int (by rw [cnt_slice]; exact hkk), hb⟩



end Go.Proofs.Yteejpennjkihaaa
