/- The laws' own helpers over Model: copy, compare, count, mark, look at the marks. -/
import Derived.Test.YtnijnjclmlfahaaTOp
namespace Go.Proofs.Ytnijnjclmlfahaa
open Go.ChangeShapes Go.WideShapes Go.ChangeAt Go.RowKit
set_option linter.unusedVariables false
set_option linter.unusedSimpArgs false
abbrev tModel : Ty := (.slice 99 tOp)

set_option maxHeartbeats 1000000 in
set_option maxRecDepth 100000 in
theorem toModel_any (cs : Array Value) (d : tModel.D) (w : World) (h : rd tModel w cs.toList d) (hz : szT tModel d ≤ 1048576) :
    Calls Try.prog 29 #[.agg cs] w (RetAg tModel w d) := by
  obtain ⟨x0, hx0⟩ : ∃ x, x = d := ⟨_, rfl⟩
  subst hx0
  obtain ⟨p0, n0, q0, hcs, s0⟩ := h
  obtain rfl : cs = #[.slice p0 n0 q0] := arr_of hcs
  have z0 : szT (.slice 99 tOp) x0 ≤ 1048576 := by simp only [szT] at hz ⊢; omega
  clear hz hcs
  go_enter Try.func29, Try.ntmps29
  go_wp2_with fail
  refine (toOpS_any _ _ _ x0 _ (by exact s0.below (by (repeat' first | refine Below.setCell ?_ (by first | (with_reducible assumption) | ((try simp only [World.size_alloc, World.size_setCell, World.size_drew]) <;> omega) | (simp [World.setCell]; done) | (simp [World.setCell]; omega)) _ | refine Below.alloc ?_ (by first | (with_reducible assumption) | ((try simp only [World.size_alloc, World.size_setCell, World.size_drew]) <;> omega) | (simp [World.setCell]; done) | (simp [World.setCell]; omega)) _); exact Below.refl _ _)) z0).mono ?_
  rintro e w90 ⟨r0, rc0, rfl, f0, b0⟩
  obtain ⟨u0, v0⟩ := bcell b0
  have y0 := b0.size
  simp only [World.size_alloc, World.size_setCell] at u0 v0 y0
  have yy00 : w.heap.size < w90.heap.size := (by first | (with_reducible assumption) | ((try simp only [World.size_alloc, World.size_setCell, World.size_drew]) <;> omega) | (simp [World.setCell]; done) | (simp [World.setCell]; omega))
  have yy01 : w.heap.size + 1 < w90.heap.size := (by first | (with_reducible assumption) | ((try simp only [World.size_alloc, World.size_setCell, World.size_drew]) <;> omega) | (simp [World.setCell]; done) | (simp [World.setCell]; omega))
  have yy02 : w.heap.size + 1 + 1 < w90.heap.size := (by first | (with_reducible assumption) | ((try simp only [World.size_alloc, World.size_setCell, World.size_drew]) <;> omega) | (simp [World.setCell]; done) | (simp [World.setCell]; omega))
  go_wp2
  refine bodyPost_ret (v := .agg #[.slice r0 (List.length x0) rc0]) (by simp [results, Try.results29, go_sem, u0, yy00, yy01, yy02]) rfl ⟨_, rfl, ?_, ?_⟩
  · refine FrIn.mono (lo := w.heap.size + 1 + 1 + 1) (hi := w90.heap.size) ?_ (by first | (with_reducible assumption) | ((try simp only [World.size_alloc, World.size_setCell, World.size_drew]) <;> omega) | (simp [World.setCell]; done) | (simp [World.setCell]; omega)) (by first | (with_reducible assumption) | ((try simp only [World.size_alloc, World.size_setCell, World.size_drew]) <;> omega) | (simp [World.setCell]; done) | (simp [World.setCell]; omega)) (by first | (with_reducible assumption) | ((try simp only [World.size_alloc, World.size_setCell, World.size_drew]) <;> omega) | (simp [World.setCell]; done) | (simp [World.setCell]; omega))
    (repeat' first | refine FrIn.set1 ?_ (by first | (with_reducible assumption) | ((try simp only [World.size_alloc, World.size_setCell, World.size_drew]) <;> omega) | (simp [World.setCell]; done) | (simp [World.setCell]; omega)) _ | refine FrIn.alloc ?_ _)
    exact f0.mono (by first | (with_reducible assumption) | ((try simp only [World.size_alloc, World.size_setCell, World.size_drew]) <;> omega) | (simp [World.setCell]; done) | (simp [World.setCell]; omega)) (Nat.le_refl _) (Nat.le_refl _)
  · exact (by (repeat' first | refine Below.setCell ?_ (by first | (with_reducible assumption) | ((try simp only [World.size_alloc, World.size_setCell, World.size_drew]) <;> omega) | (simp [World.setCell]; done) | (simp [World.setCell]; omega)) _ | refine Below.alloc ?_ (by first | (with_reducible assumption) | ((try simp only [World.size_alloc, World.size_setCell, World.size_drew]) <;> omega) | (simp [World.setCell]; done) | (simp [World.setCell]; omega)) _); refine Below.trans ?_ (b0.mono (by first | (with_reducible assumption) | ((try simp only [World.size_alloc, World.size_setCell, World.size_drew]) <;> omega) | (simp [World.setCell]; done) | (simp [World.setCell]; omega))); (repeat' first | refine Below.setCell ?_ (by first | (with_reducible assumption) | ((try simp only [World.size_alloc, World.size_setCell, World.size_drew]) <;> omega) | (simp [World.setCell]; done) | (simp [World.setCell]; omega)) _ | refine Below.alloc ?_ (by first | (with_reducible assumption) | ((try simp only [World.size_alloc, World.size_setCell, World.size_drew]) <;> omega) | (simp [World.setCell]; done) | (simp [World.setCell]; omega)) _); exact Below.refl _ _)


set_option maxHeartbeats 1000000 in
set_option maxRecDepth 100000 in
theorem szModel_any (ca : Array Value) (d : tModel.D) (left : Int) (w : World) (ha : rd tModel w ca.toList d) (h0 : 0 ≤ left) (h2 : left ≤ 9223372036854775807) :
    Calls Try.prog 27 #[.agg ca, .int .i64 left] w (RetV (.int .i64 (szR left (szT tModel d))) w) := by
  obtain ⟨x0, hx0⟩ : ∃ y, y = d := ⟨_, rfl⟩
  subst hx0
  obtain ⟨ap0, an0, aq0, ahcs, as0⟩ := ha
  obtain rfl : ca = #[.slice ap0 an0 aq0] := arr_of ahcs
  clear ahcs
  have e0 : szT tModel x0 = szT (.slice 99 tOp) x0 := by first | rfl | (simp only [szT]; omega)
  have e9 : szT tModel x0 = szT (.slice 99 tOp) x0 := rfl
  rw [e9]
  have HS : Hid (szT tModel x0 = szT (.slice 99 tOp) x0) := e0.trans (by rfl)
  clear e0 
  by_cases hf0 : ((szT (.slice 99 tOp) x0 : Nat) : Int) ≤ left
  rotate_left
  · go_enter Try.func27, Try.ntmps27
    go_wp2_with fail
    refine (szOpS_no _ _ _ x0 _ _ (by exact as0.below (by (repeat' first | refine Below.setCell ?_ (by first | (with_reducible assumption) | ((try simp only [World.size_alloc, World.size_setCell, World.size_drew]) <;> omega) | (simp [World.setCell]; done) | (simp [World.setCell]; omega)) _ | refine Below.alloc ?_ (by first | (with_reducible assumption) | ((try simp only [World.size_alloc, World.size_setCell, World.size_drew]) <;> omega) | (simp [World.setCell]; done) | (simp [World.setCell]; omega)) _); exact Below.refl _ _)) (by omega) (by omega) (by omega)).mono ?_
    rintro e w90 ⟨rfl, b0⟩
    obtain ⟨u0, v0⟩ := bcell b0
    have y0 := b0.size
    try simp only [World.size_alloc, World.size_setCell] at u0 v0 y0
    have yy00 : w.heap.size < w90.heap.size := (by first | (with_reducible assumption) | ((try simp only [World.size_alloc, World.size_setCell, World.size_drew]) <;> omega) | (simp [World.setCell]; done) | (simp [World.setCell]; omega))
    go_wp2
    go_ret
    exact ⟨ret_int (by (first | rw [HS.out] | skip); unfold szR; rw [if_neg (by omega)]), (by (repeat' first | refine Below.setCell ?_ (by first | (with_reducible assumption) | ((try simp only [World.size_alloc, World.size_setCell, World.size_drew]) <;> omega) | (simp [World.setCell]; done) | (simp [World.setCell]; omega)) _ | refine Below.alloc ?_ (by first | (with_reducible assumption) | ((try simp only [World.size_alloc, World.size_setCell, World.size_drew]) <;> omega) | (simp [World.setCell]; done) | (simp [World.setCell]; omega)) _); refine Below.trans ?_ (b0.mono (by first | (with_reducible assumption) | ((try simp only [World.size_alloc, World.size_setCell, World.size_drew]) <;> omega) | (simp [World.setCell]; done) | (simp [World.setCell]; omega))); (repeat' first | refine Below.setCell ?_ (by first | (with_reducible assumption) | ((try simp only [World.size_alloc, World.size_setCell, World.size_drew]) <;> omega) | (simp [World.setCell]; done) | (simp [World.setCell]; omega)) _ | refine Below.alloc ?_ (by first | (with_reducible assumption) | ((try simp only [World.size_alloc, World.size_setCell, World.size_drew]) <;> omega) | (simp [World.setCell]; done) | (simp [World.setCell]; omega)) _); exact Below.refl _ _)⟩
  go_enter Try.func27, Try.ntmps27
  go_wp2_with fail
  refine (szOpS_ok _ _ _ x0 _ _ (by exact as0.below (by (repeat' first | refine Below.setCell ?_ (by first | (with_reducible assumption) | ((try simp only [World.size_alloc, World.size_setCell, World.size_drew]) <;> omega) | (simp [World.setCell]; done) | (simp [World.setCell]; omega)) _ | refine Below.alloc ?_ (by first | (with_reducible assumption) | ((try simp only [World.size_alloc, World.size_setCell, World.size_drew]) <;> omega) | (simp [World.setCell]; done) | (simp [World.setCell]; omega)) _); exact Below.refl _ _)) (by omega) (by omega) (by omega)).mono ?_
  rintro e w90 ⟨rfl, b0⟩
  obtain ⟨u0, v0⟩ := bcell b0
  have y0 := b0.size
  try simp only [World.size_alloc, World.size_setCell] at u0 v0 y0
  have yy00 : w.heap.size < w90.heap.size := (by first | (with_reducible assumption) | ((try simp only [World.size_alloc, World.size_setCell, World.size_drew]) <;> omega) | (simp [World.setCell]; done) | (simp [World.setCell]; omega))
  go_wp2
  go_ret
  exact ⟨ret_int (by (first | rw [HS.out] | skip); unfold szR; rw [if_pos (by omega)]; try omega), (by (repeat' first | refine Below.setCell ?_ (by first | (with_reducible assumption) | ((try simp only [World.size_alloc, World.size_setCell, World.size_drew]) <;> omega) | (simp [World.setCell]; done) | (simp [World.setCell]; omega)) _ | refine Below.alloc ?_ (by first | (with_reducible assumption) | ((try simp only [World.size_alloc, World.size_setCell, World.size_drew]) <;> omega) | (simp [World.setCell]; done) | (simp [World.setCell]; omega)) _); refine Below.trans ?_ (b0.mono (by first | (with_reducible assumption) | ((try simp only [World.size_alloc, World.size_setCell, World.size_drew]) <;> omega) | (simp [World.setCell]; done) | (simp [World.setCell]; omega))); (repeat' first | refine Below.setCell ?_ (by first | (with_reducible assumption) | ((try simp only [World.size_alloc, World.size_setCell, World.size_drew]) <;> omega) | (simp [World.setCell]; done) | (simp [World.setCell]; omega)) _ | refine Below.alloc ?_ (by first | (with_reducible assumption) | ((try simp only [World.size_alloc, World.size_setCell, World.size_drew]) <;> omega) | (simp [World.setCell]; done) | (simp [World.setCell]; omega)) _); exact Below.refl _ _)⟩

theorem szModel_ok (ca : Array Value) (d : tModel.D) (left : Int) (w : World) (ha : rd tModel w ca.toList d) (h0 : 0 ≤ left) (h2 : left ≤ 9223372036854775807) (h : ((szT tModel d : Nat) : Int) ≤ left) :
    Calls Try.prog 27 #[.agg ca, .int .i64 left] w (RetV (.int .i64 (left - (szT tModel d : Nat))) w) := by
  have := szModel_any ca d left w ha h0 h2
  rwa [szR_pos h] at this
theorem szModel_no (ca : Array Value) (d : tModel.D) (left : Int) (w : World) (ha : rd tModel w ca.toList d) (h0 : 0 ≤ left) (h2 : left ≤ 9223372036854775807) (h : ¬ ((szT tModel d : Nat) : Int) ≤ left) :
    Calls Try.prog 27 #[.agg ca, .int .i64 left] w (RetV (.int .i64 (-1)) w) := by
  have := szModel_any ca d left w ha h0 h2
  rwa [szR_neg h] at this


set_option maxHeartbeats 1000000 in
set_option maxRecDepth 100000 in
theorem eqModel_any (ca cb : Array Value) (d : tModel.D) (w : World) (ha : rd tModel w ca.toList d) (hb : rd tModel w cb.toList d) :
    Calls Try.prog 32 #[.agg ca, .agg cb] w (RetV (.bool true) w) := by
  obtain ⟨x0, hx0⟩ : ∃ y, y = d := ⟨_, rfl⟩
  subst hx0
  obtain ⟨ap0, an0, aq0, ahcs, as0⟩ := ha
  obtain ⟨bp0, bn0, bq0, bhcs, bs0⟩ := hb
  obtain rfl : ca = #[.slice ap0 an0 aq0] := arr_of ahcs
  obtain rfl : cb = #[.slice bp0 bn0 bq0] := arr_of bhcs
  clear ahcs bhcs
  go_enter Try.func32, Try.ntmps32
  go_wp2_with fail
  refine (eqOpS_any _ _ _ _ _ _ x0 _ (by exact as0.below (by (repeat' first | refine Below.setCell ?_ (by first | (with_reducible assumption) | ((try simp only [World.size_alloc, World.size_setCell, World.size_drew]) <;> omega) | (simp [World.setCell]; done) | (simp [World.setCell]; omega)) _ | refine Below.alloc ?_ (by first | (with_reducible assumption) | ((try simp only [World.size_alloc, World.size_setCell, World.size_drew]) <;> omega) | (simp [World.setCell]; done) | (simp [World.setCell]; omega)) _); exact Below.refl _ _)) (by exact bs0.below (by (repeat' first | refine Below.setCell ?_ (by first | (with_reducible assumption) | ((try simp only [World.size_alloc, World.size_setCell, World.size_drew]) <;> omega) | (simp [World.setCell]; done) | (simp [World.setCell]; omega)) _ | refine Below.alloc ?_ (by first | (with_reducible assumption) | ((try simp only [World.size_alloc, World.size_setCell, World.size_drew]) <;> omega) | (simp [World.setCell]; done) | (simp [World.setCell]; omega)) _); exact Below.refl _ _))).mono ?_
  rintro e w90 ⟨rfl, b0⟩
  obtain ⟨u0, v0⟩ := bcell b0
  have y0 := b0.size
  try simp only [World.size_alloc, World.size_setCell] at u0 v0 y0
  have yy00 : w.heap.size < w90.heap.size := (by first | (with_reducible assumption) | ((try simp only [World.size_alloc, World.size_setCell, World.size_drew]) <;> omega) | (simp [World.setCell]; done) | (simp [World.setCell]; omega))
  have yy01 : w.heap.size + 1 < w90.heap.size := (by first | (with_reducible assumption) | ((try simp only [World.size_alloc, World.size_setCell, World.size_drew]) <;> omega) | (simp [World.setCell]; done) | (simp [World.setCell]; omega))
  go_wp2
  go_ret
  exact ⟨rfl, (by (repeat' first | refine Below.setCell ?_ (by first | (with_reducible assumption) | ((try simp only [World.size_alloc, World.size_setCell, World.size_drew]) <;> omega) | (simp [World.setCell]; done) | (simp [World.setCell]; omega)) _ | refine Below.alloc ?_ (by first | (with_reducible assumption) | ((try simp only [World.size_alloc, World.size_setCell, World.size_drew]) <;> omega) | (simp [World.setCell]; done) | (simp [World.setCell]; omega)) _); refine Below.trans ?_ (b0.mono (by first | (with_reducible assumption) | ((try simp only [World.size_alloc, World.size_setCell, World.size_drew]) <;> omega) | (simp [World.setCell]; done) | (simp [World.setCell]; omega))); (repeat' first | refine Below.setCell ?_ (by first | (with_reducible assumption) | ((try simp only [World.size_alloc, World.size_setCell, World.size_drew]) <;> omega) | (simp [World.setCell]; done) | (simp [World.setCell]; omega)) _ | refine Below.alloc ?_ (by first | (with_reducible assumption) | ((try simp only [World.size_alloc, World.size_setCell, World.size_drew]) <;> omega) | (simp [World.setCell]; done) | (simp [World.setCell]; omega)) _); exact Below.refl _ _)⟩




set_option maxHeartbeats 4000000 in
set_option maxRecDepth 100000 in
theorem markModel_any (cs : Array Value) (k0 : Int) (d : tModel.D) (bl : List Nat) (w : World) (h : rep tModel w cs.toList d bl) (hnd : bl.Nodup) (h0 : 0 ≤ k0) (h1 : k0 + (cntt tModel d : Nat) ≤ 1000000000000) :
    Calls Try.prog 33 #[.agg cs, .int .i64 k0] w (RetMt tModel w cs.toList (mkt tModel d k0) bl (k0 + (cntt tModel d : Nat))) := by
  obtain ⟨x0, hx0⟩ : ∃ y, y = d := ⟨_, rfl⟩
  subst hx0
  have hcx : cntt tModel x0 = cnt (.slice 99 tOp) x0 := by first | rfl | (simp only [cntt]; omega)
  rw [hcx] at h1
  clear hcx
  obtain ⟨BL, hBL⟩ : ∃ BL, BL = bl := ⟨_, rfl⟩
  have sr0 := h
  obtain ⟨sp0, sn0, sq0, hcs⟩ := rep_form h
  clear h
  obtain rfl : cs = #[.slice sp0 sn0 sq0] := arr_of hcs
  clear hcs
  have HBL := Lib.hid hBL; clear hBL
  have R0 := Lib.hid sr0; clear sr0
  go_enter Try.func33, Try.ntmps33
  go_wp2_with fail
  refine (markOpS_any _ _ _ _ x0 _ _ (by exact (rep_keep _ _ _ _ (fun q hq => Below.heap_alloc _ _ _ (rep_lt _ _ _ _ _ R0.out q hq)) R0.out)) hnd (by omega) (by omega)).mono ?_
  rintro e w90 ⟨rfl, rp0, on0⟩
  have K0_1 := Lib.hid rp0; clear rp0
  have z90 := on0.size
  skip
  have q0_1 : w90.cell? ⟨w.heap.size, 0, none⟩ = some (.slice sp0 sn0 sq0) := (on0.cell (a := ⟨w.heap.size, 0, none⟩) (fun hm => by have := rep_lt _ _ _ _ _ R0.out _ hm; simp at this) (by simp)).trans (by simp)
  have zb1 : w.heap.size < w90.heap.size := by have := z90; (try simp at this); omega
  have O1 : Only BL w w90 := Only.trans (Only.alloc (Only.refl _ w) _) (on0.mono (fun q hq => by rw [HBL.out]; exact hq))
  go_wp2
  go_ret
  exact ⟨ret_int (by have hcx : cntt tModel x0 = cnt (.slice 99 tOp) x0 := (by first | rfl | (simp only [cntt]; omega)); rw [hcx]; try omega), K0_1.out, Only.mono O1 (fun q hq => by rw [HBL.out] at hq; simpa using hq)⟩

set_option maxHeartbeats 4000000 in
set_option maxRecDepth 100000 in
theorem heldModel_any (cs : Array Value) (k0 : Int) (d : tModel.D) (w : World) (h : rd tModel w cs.toList (mkt tModel d k0)) (h0 : 0 ≤ k0) (h1 : k0 + (cntt tModel d : Nat) ≤ 1000000000000) :
    Calls Try.prog 53 #[.agg cs, .int .i64 k0] w (RetV (.int .i64 (k0 + (cntt tModel d : Nat))) w) := by
  obtain ⟨x0, hx0⟩ : ∃ y, y = d := ⟨_, rfl⟩
  subst hx0
  have hcx : cntt tModel x0 = cnt (.slice 99 tOp) x0 := by first | rfl | (simp only [cntt]; omega)
  rw [hcx] at h1
  clear hcx
  have hR2 : rd tModel w cs.toList (mk (.slice 99 tOp) x0 (k0)) := by
    first | exact h | (simpa only [mkt, cntt, Int.natCast_add, Int.natCast_zero, Int.add_zero, Int.zero_add, ← Int.add_assoc] using h)
  clear h
  obtain ⟨ap0, an0, aq0, ahcs, as0⟩ := hR2
  obtain rfl : cs = #[.slice ap0 an0 aq0] := arr_of ahcs
  clear ahcs
  have HA0 := Lib.hid as0; clear as0
  go_enter Try.func53, Try.ntmps53
  go_wp2_with fail
  refine (heldOpS_any _ _ _ _ x0 _ (by exact SlRd.below HA0.out (by (repeat' first | refine Below.setCell ?_ (by first | (with_reducible assumption) | ((try simp only [World.size_alloc, World.size_setCell, World.size_drew]) <;> omega) | (simp [World.setCell]; done) | (simp [World.setCell]; omega)) _ | refine Below.alloc ?_ (by first | (with_reducible assumption) | ((try simp only [World.size_alloc, World.size_setCell, World.size_drew]) <;> omega) | (simp [World.setCell]; done) | (simp [World.setCell]; omega)) _); exact Below.refl _ _)) (by omega) (by omega)).mono ?_
  rintro e w90 ⟨rfl, b0⟩
  obtain ⟨u0, v0⟩ := bcell b0
  have y0 := b0.size
  try simp only [World.size_alloc, World.size_setCell] at u0 v0 y0
  have yy00 : w.heap.size < w90.heap.size := (by first | (with_reducible assumption) | ((try simp only [World.size_alloc, World.size_setCell, World.size_drew]) <;> omega) | (simp [World.setCell]; done) | (simp [World.setCell]; omega))
  have hnn0 : ¬ (k0 + (cnt (.slice 99 tOp) x0 : Nat) < 0) := by omega
  go_wp2
  go_ret
  exact ⟨ret_int (by have hcx : cntt tModel x0 = cnt (.slice 99 tOp) x0 := (by first | rfl | (simp only [cntt]; omega)); rw [hcx]; try omega), (by (repeat' first | refine Below.setCell ?_ (by first | (with_reducible assumption) | ((try simp only [World.size_alloc, World.size_setCell, World.size_drew]) <;> omega) | (simp [World.setCell]; done) | (simp [World.setCell]; omega)) _ | refine Below.alloc ?_ (by first | (with_reducible assumption) | ((try simp only [World.size_alloc, World.size_setCell, World.size_drew]) <;> omega) | (simp [World.setCell]; done) | (simp [World.setCell]; omega)) _); refine Below.trans ?_ (b0.mono (by first | (with_reducible assumption) | ((try simp only [World.size_alloc, World.size_setCell, World.size_drew]) <;> omega) | (simp [World.setCell]; done) | (simp [World.setCell]; omega))); (repeat' first | refine Below.setCell ?_ (by first | (with_reducible assumption) | ((try simp only [World.size_alloc, World.size_setCell, World.size_drew]) <;> omega) | (simp [World.setCell]; done) | (simp [World.setCell]; omega)) _ | refine Below.alloc ?_ (by first | (with_reducible assumption) | ((try simp only [World.size_alloc, World.size_setCell, World.size_drew]) <;> omega) | (simp [World.setCell]; done) | (simp [World.setCell]; omega)) _); exact Below.refl _ _)⟩

end Go.Proofs.Ytnijnjclmlfahaa
