/- The laws' own helpers over Ring: copy, compare, count, mark, look at the marks. -/
import Derived.Test.YtnijnjclmlfahaaTGrads
namespace Go.Proofs.Ytnijnjclmlfahaa
open Go.ChangeShapes Go.WideShapes Go.ChangeAt Go.RowKit
set_option linter.unusedVariables false
set_option linter.unusedSimpArgs false
abbrev tRing : Ty := .pair (.slice 36 tGrads) tInt

set_option maxHeartbeats 1000000 in
set_option maxRecDepth 100000 in
theorem toRing_any (cs : Array Value) (d : tRing.D) (w : World) (h : rd tRing w cs.toList d) (hz : szT tRing d ≤ 1048576) :
    Calls Try.prog 42 #[.agg cs] w (RetAg tRing w d) := by
  obtain ⟨x0, x1⟩ := d
  obtain ⟨_, _, hcs, ⟨p0, n0, q0, rfl, s0⟩, ⟨rfl, w1⟩⟩ := h
  obtain rfl : cs = #[.slice p0 n0 q0, .int .i64 x1] := arr_of hcs
  have z0 : szT (.slice 36 tGrads) x0 ≤ 1048576 := by simp only [szT] at hz ⊢; omega
  clear hz hcs
  go_enter Try.func42, Try.ntmps42
  go_wp2_with fail
  refine (toGradsS_any _ _ _ x0 _ (by exact s0.below (by (repeat' first | refine Below.setCell ?_ (by first | (with_reducible assumption) | ((try simp only [World.size_alloc, World.size_setCell, World.size_drew]) <;> omega) | (simp [World.setCell]; done) | (simp [World.setCell]; omega)) _ | refine Below.alloc ?_ (by first | (with_reducible assumption) | ((try simp only [World.size_alloc, World.size_setCell, World.size_drew]) <;> omega) | (simp [World.setCell]; done) | (simp [World.setCell]; omega)) _); exact Below.refl _ _)) z0).mono ?_
  rintro e w90 ⟨r0, rc0, rfl, f0, b0⟩
  obtain ⟨u0, v0⟩ := bcell b0
  have y0 := b0.size
  simp only [World.size_alloc, World.size_setCell] at u0 v0 y0
  have yy00 : w.heap.size < w90.heap.size := (by first | (with_reducible assumption) | ((try simp only [World.size_alloc, World.size_setCell, World.size_drew]) <;> omega) | (simp [World.setCell]; done) | (simp [World.setCell]; omega))
  have yy01 : w.heap.size + 1 < w90.heap.size := (by first | (with_reducible assumption) | ((try simp only [World.size_alloc, World.size_setCell, World.size_drew]) <;> omega) | (simp [World.setCell]; done) | (simp [World.setCell]; omega))
  have yy02 : w.heap.size + 1 + 1 < w90.heap.size := (by first | (with_reducible assumption) | ((try simp only [World.size_alloc, World.size_setCell, World.size_drew]) <;> omega) | (simp [World.setCell]; done) | (simp [World.setCell]; omega))
  go_wp2
  refine bodyPost_ret (v := .agg #[.slice r0 (List.length x0) rc0, .int .i64 x1]) (by simp [results, Try.results42, go_sem, u0, yy00, yy01, yy02]) rfl ⟨_, rfl, ?_, ?_⟩
  · refine FrIn.pair (c1 := [_]) (c2 := [_]) (mid := w90.heap.size) ?_ ?_ (by first | (with_reducible assumption) | ((try simp only [World.size_alloc, World.size_setCell, World.size_drew]) <;> omega) | (simp [World.setCell]; done) | (simp [World.setCell]; omega)) (by first | (with_reducible assumption) | ((try simp only [World.size_alloc, World.size_setCell, World.size_drew]) <;> omega) | (simp [World.setCell]; done) | (simp [World.setCell]; omega))
    · refine FrIn.mono (lo := w.heap.size + 1 + 1 + 1) (hi := w90.heap.size) ?_ (by first | (with_reducible assumption) | ((try simp only [World.size_alloc, World.size_setCell, World.size_drew]) <;> omega) | (simp [World.setCell]; done) | (simp [World.setCell]; omega)) (by first | (with_reducible assumption) | ((try simp only [World.size_alloc, World.size_setCell, World.size_drew]) <;> omega) | (simp [World.setCell]; done) | (simp [World.setCell]; omega)) (by first | (with_reducible assumption) | ((try simp only [World.size_alloc, World.size_setCell, World.size_drew]) <;> omega) | (simp [World.setCell]; done) | (simp [World.setCell]; omega))
      (repeat' first | refine FrIn.set1 ?_ (by first | (with_reducible assumption) | ((try simp only [World.size_alloc, World.size_setCell, World.size_drew]) <;> omega) | (simp [World.setCell]; done) | (simp [World.setCell]; omega)) _ | refine FrIn.alloc ?_ _)
      exact f0.mono (by first | (with_reducible assumption) | ((try simp only [World.size_alloc, World.size_setCell, World.size_drew]) <;> omega) | (simp [World.setCell]; done) | (simp [World.setCell]; omega)) (Nat.le_refl _) (Nat.le_refl _)
    · exact FrIn.int w1 (by first | (with_reducible assumption) | ((try simp only [World.size_alloc, World.size_setCell, World.size_drew]) <;> omega) | (simp [World.setCell]; done) | (simp [World.setCell]; omega))
  · exact (by (repeat' first | refine Below.setCell ?_ (by first | (with_reducible assumption) | ((try simp only [World.size_alloc, World.size_setCell, World.size_drew]) <;> omega) | (simp [World.setCell]; done) | (simp [World.setCell]; omega)) _ | refine Below.alloc ?_ (by first | (with_reducible assumption) | ((try simp only [World.size_alloc, World.size_setCell, World.size_drew]) <;> omega) | (simp [World.setCell]; done) | (simp [World.setCell]; omega)) _); refine Below.trans ?_ (b0.mono (by first | (with_reducible assumption) | ((try simp only [World.size_alloc, World.size_setCell, World.size_drew]) <;> omega) | (simp [World.setCell]; done) | (simp [World.setCell]; omega))); (repeat' first | refine Below.setCell ?_ (by first | (with_reducible assumption) | ((try simp only [World.size_alloc, World.size_setCell, World.size_drew]) <;> omega) | (simp [World.setCell]; done) | (simp [World.setCell]; omega)) _ | refine Below.alloc ?_ (by first | (with_reducible assumption) | ((try simp only [World.size_alloc, World.size_setCell, World.size_drew]) <;> omega) | (simp [World.setCell]; done) | (simp [World.setCell]; omega)) _); exact Below.refl _ _)


set_option maxHeartbeats 1000000 in
set_option maxRecDepth 100000 in
theorem szRing_any (ca : Array Value) (d : tRing.D) (left : Int) (w : World) (ha : rd tRing w ca.toList d) (h0 : 0 ≤ left) (h2 : left ≤ 9223372036854775807) :
    Calls Try.prog 40 #[.agg ca, .int .i64 left] w (RetV (.int .i64 (szR left (szT tRing d))) w) := by
  obtain ⟨x0, x1⟩ := d
  obtain ⟨_, _, ahcs, ⟨ap0, an0, aq0, rfl, as0⟩, ⟨rfl, aw1⟩⟩ := ha
  obtain rfl : ca = #[.slice ap0 an0 aq0, .int .i64 x1] := arr_of ahcs
  clear ahcs
  have e0 : szT tRing (x0, x1) = szT (.slice 36 tGrads) x0 := by first | rfl | (simp only [szT]; omega)
  have HS : Hid (szT tRing (x0, x1) = szT (.slice 36 tGrads) x0) := e0.trans (by rfl)
  clear e0 
  by_cases hf0 : ((szT (.slice 36 tGrads) x0 : Nat) : Int) ≤ left
  rotate_left
  · go_enter Try.func40, Try.ntmps40
    go_wp2_with fail
    refine (szGradsS_no _ _ _ x0 _ _ (by exact as0.below (by (repeat' first | refine Below.setCell ?_ (by first | (with_reducible assumption) | ((try simp only [World.size_alloc, World.size_setCell, World.size_drew]) <;> omega) | (simp [World.setCell]; done) | (simp [World.setCell]; omega)) _ | refine Below.alloc ?_ (by first | (with_reducible assumption) | ((try simp only [World.size_alloc, World.size_setCell, World.size_drew]) <;> omega) | (simp [World.setCell]; done) | (simp [World.setCell]; omega)) _); exact Below.refl _ _)) (by omega) (by omega) (by omega)).mono ?_
    rintro e w90 ⟨rfl, b0⟩
    obtain ⟨u0, v0⟩ := bcell b0
    have y0 := b0.size
    try simp only [World.size_alloc, World.size_setCell] at u0 v0 y0
    have yy00 : w.heap.size < w90.heap.size := (by first | (with_reducible assumption) | ((try simp only [World.size_alloc, World.size_setCell, World.size_drew]) <;> omega) | (simp [World.setCell]; done) | (simp [World.setCell]; omega))
    go_wp2
    go_ret
    exact ⟨ret_int (by (first | rw [HS.out] | skip); unfold szR; rw [if_neg (by omega)]), (by (repeat' first | refine Below.setCell ?_ (by first | (with_reducible assumption) | ((try simp only [World.size_alloc, World.size_setCell, World.size_drew]) <;> omega) | (simp [World.setCell]; done) | (simp [World.setCell]; omega)) _ | refine Below.alloc ?_ (by first | (with_reducible assumption) | ((try simp only [World.size_alloc, World.size_setCell, World.size_drew]) <;> omega) | (simp [World.setCell]; done) | (simp [World.setCell]; omega)) _); refine Below.trans ?_ (b0.mono (by first | (with_reducible assumption) | ((try simp only [World.size_alloc, World.size_setCell, World.size_drew]) <;> omega) | (simp [World.setCell]; done) | (simp [World.setCell]; omega))); (repeat' first | refine Below.setCell ?_ (by first | (with_reducible assumption) | ((try simp only [World.size_alloc, World.size_setCell, World.size_drew]) <;> omega) | (simp [World.setCell]; done) | (simp [World.setCell]; omega)) _ | refine Below.alloc ?_ (by first | (with_reducible assumption) | ((try simp only [World.size_alloc, World.size_setCell, World.size_drew]) <;> omega) | (simp [World.setCell]; done) | (simp [World.setCell]; omega)) _); exact Below.refl _ _)⟩
  go_enter Try.func40, Try.ntmps40
  go_wp2_with fail
  refine (szGradsS_ok _ _ _ x0 _ _ (by exact as0.below (by (repeat' first | refine Below.setCell ?_ (by first | (with_reducible assumption) | ((try simp only [World.size_alloc, World.size_setCell, World.size_drew]) <;> omega) | (simp [World.setCell]; done) | (simp [World.setCell]; omega)) _ | refine Below.alloc ?_ (by first | (with_reducible assumption) | ((try simp only [World.size_alloc, World.size_setCell, World.size_drew]) <;> omega) | (simp [World.setCell]; done) | (simp [World.setCell]; omega)) _); exact Below.refl _ _)) (by omega) (by omega) (by omega)).mono ?_
  rintro e w90 ⟨rfl, b0⟩
  obtain ⟨u0, v0⟩ := bcell b0
  have y0 := b0.size
  try simp only [World.size_alloc, World.size_setCell] at u0 v0 y0
  have yy00 : w.heap.size < w90.heap.size := (by first | (with_reducible assumption) | ((try simp only [World.size_alloc, World.size_setCell, World.size_drew]) <;> omega) | (simp [World.setCell]; done) | (simp [World.setCell]; omega))
  go_wp2
  go_ret
  exact ⟨ret_int (by (first | rw [HS.out] | skip); unfold szR; rw [if_pos (by omega)]; try omega), (by (repeat' first | refine Below.setCell ?_ (by first | (with_reducible assumption) | ((try simp only [World.size_alloc, World.size_setCell, World.size_drew]) <;> omega) | (simp [World.setCell]; done) | (simp [World.setCell]; omega)) _ | refine Below.alloc ?_ (by first | (with_reducible assumption) | ((try simp only [World.size_alloc, World.size_setCell, World.size_drew]) <;> omega) | (simp [World.setCell]; done) | (simp [World.setCell]; omega)) _); refine Below.trans ?_ (b0.mono (by first | (with_reducible assumption) | ((try simp only [World.size_alloc, World.size_setCell, World.size_drew]) <;> omega) | (simp [World.setCell]; done) | (simp [World.setCell]; omega))); (repeat' first | refine Below.setCell ?_ (by first | (with_reducible assumption) | ((try simp only [World.size_alloc, World.size_setCell, World.size_drew]) <;> omega) | (simp [World.setCell]; done) | (simp [World.setCell]; omega)) _ | refine Below.alloc ?_ (by first | (with_reducible assumption) | ((try simp only [World.size_alloc, World.size_setCell, World.size_drew]) <;> omega) | (simp [World.setCell]; done) | (simp [World.setCell]; omega)) _); exact Below.refl _ _)⟩

theorem szRing_ok (ca : Array Value) (d : tRing.D) (left : Int) (w : World) (ha : rd tRing w ca.toList d) (h0 : 0 ≤ left) (h2 : left ≤ 9223372036854775807) (h : ((szT tRing d : Nat) : Int) ≤ left) :
    Calls Try.prog 40 #[.agg ca, .int .i64 left] w (RetV (.int .i64 (left - (szT tRing d : Nat))) w) := by
  have := szRing_any ca d left w ha h0 h2
  rwa [szR_pos h] at this
theorem szRing_no (ca : Array Value) (d : tRing.D) (left : Int) (w : World) (ha : rd tRing w ca.toList d) (h0 : 0 ≤ left) (h2 : left ≤ 9223372036854775807) (h : ¬ ((szT tRing d : Nat) : Int) ≤ left) :
    Calls Try.prog 40 #[.agg ca, .int .i64 left] w (RetV (.int .i64 (-1)) w) := by
  have := szRing_any ca d left w ha h0 h2
  rwa [szR_neg h] at this


set_option maxHeartbeats 1000000 in
set_option maxRecDepth 100000 in
theorem eqRing_any (ca cb : Array Value) (d : tRing.D) (w : World) (ha : rd tRing w ca.toList d) (hb : rd tRing w cb.toList d) :
    Calls Try.prog 17 #[.agg ca, .agg cb] w (RetV (.bool true) w) := by
  obtain ⟨x0, x1⟩ := d
  obtain ⟨_, _, ahcs, ⟨ap0, an0, aq0, rfl, as0⟩, ⟨rfl, aw1⟩⟩ := ha
  obtain ⟨_, _, bhcs, ⟨bp0, bn0, bq0, rfl, bs0⟩, ⟨rfl, bw1⟩⟩ := hb
  obtain rfl : ca = #[.slice ap0 an0 aq0, .int .i64 x1] := arr_of ahcs
  obtain rfl : cb = #[.slice bp0 bn0 bq0, .int .i64 x1] := arr_of bhcs
  clear ahcs bhcs
  go_enter Try.func17, Try.ntmps17
  go_wp2_with fail
  refine (eqGradsS_any _ _ _ _ _ _ x0 _ (by exact as0.below (by (repeat' first | refine Below.setCell ?_ (by first | (with_reducible assumption) | ((try simp only [World.size_alloc, World.size_setCell, World.size_drew]) <;> omega) | (simp [World.setCell]; done) | (simp [World.setCell]; omega)) _ | refine Below.alloc ?_ (by first | (with_reducible assumption) | ((try simp only [World.size_alloc, World.size_setCell, World.size_drew]) <;> omega) | (simp [World.setCell]; done) | (simp [World.setCell]; omega)) _); exact Below.refl _ _)) (by exact bs0.below (by (repeat' first | refine Below.setCell ?_ (by first | (with_reducible assumption) | ((try simp only [World.size_alloc, World.size_setCell, World.size_drew]) <;> omega) | (simp [World.setCell]; done) | (simp [World.setCell]; omega)) _ | refine Below.alloc ?_ (by first | (with_reducible assumption) | ((try simp only [World.size_alloc, World.size_setCell, World.size_drew]) <;> omega) | (simp [World.setCell]; done) | (simp [World.setCell]; omega)) _); exact Below.refl _ _))).mono ?_
  rintro e w90 ⟨rfl, b0⟩
  obtain ⟨u0, v0⟩ := bcell b0
  have y0 := b0.size
  try simp only [World.size_alloc, World.size_setCell] at u0 v0 y0
  have yy00 : w.heap.size < w90.heap.size := (by first | (with_reducible assumption) | ((try simp only [World.size_alloc, World.size_setCell, World.size_drew]) <;> omega) | (simp [World.setCell]; done) | (simp [World.setCell]; omega))
  have yy01 : w.heap.size + 1 < w90.heap.size := (by first | (with_reducible assumption) | ((try simp only [World.size_alloc, World.size_setCell, World.size_drew]) <;> omega) | (simp [World.setCell]; done) | (simp [World.setCell]; omega))
  go_wp2
  go_ret
  exact ⟨rfl, (by (repeat' first | refine Below.setCell ?_ (by first | (with_reducible assumption) | ((try simp only [World.size_alloc, World.size_setCell, World.size_drew]) <;> omega) | (simp [World.setCell]; done) | (simp [World.setCell]; omega)) _ | refine Below.alloc ?_ (by first | (with_reducible assumption) | ((try simp only [World.size_alloc, World.size_setCell, World.size_drew]) <;> omega) | (simp [World.setCell]; done) | (simp [World.setCell]; omega)) _); refine Below.trans ?_ (b0.mono (by first | (with_reducible assumption) | ((try simp only [World.size_alloc, World.size_setCell, World.size_drew]) <;> omega) | (simp [World.setCell]; done) | (simp [World.setCell]; omega))); (repeat' first | refine Below.setCell ?_ (by first | (with_reducible assumption) | ((try simp only [World.size_alloc, World.size_setCell, World.size_drew]) <;> omega) | (simp [World.setCell]; done) | (simp [World.setCell]; omega)) _ | refine Below.alloc ?_ (by first | (with_reducible assumption) | ((try simp only [World.size_alloc, World.size_setCell, World.size_drew]) <;> omega) | (simp [World.setCell]; done) | (simp [World.setCell]; omega)) _); exact Below.refl _ _)⟩




set_option maxHeartbeats 4000000 in
set_option maxRecDepth 100000 in
theorem markRing_any (cs : Array Value) (k0 : Int) (d : tRing.D) (bl : List Nat) (w : World) (h : rep tRing w cs.toList d bl) (hnd : bl.Nodup) (h0 : 0 ≤ k0) (h1 : k0 + (cntt tRing d : Nat) ≤ 1000000000000) :
    Calls Try.prog 20 #[.agg cs, .int .i64 k0] w (RetMt tRing w cs.toList (mkt tRing d k0) bl (k0 + (cntt tRing d : Nat))) := by
  obtain ⟨x0, x1⟩ := d
  have hcx : cntt tRing (x0, x1) = cnt (.slice 36 tGrads) x0 := by first | rfl | (simp only [cntt]; omega)
  rw [hcx] at h1
  clear hcx
  obtain ⟨BL, hBL⟩ : ∃ BL, BL = bl := ⟨_, rfl⟩
  obtain ⟨_, _, _, _, hcs, rfl, sr0, ⟨rfl, sw1, rfl⟩⟩ := h
  obtain ⟨sp0, sn0, sq0, rfl⟩ := rep_form sr0
  obtain rfl : cs = #[.slice sp0 sn0 sq0, .int .i64 x1] := arr_of hcs
  clear hcs
  have HBL := Lib.hid hBL; clear hBL
  have R0 := Lib.hid sr0; clear sr0
  go_enter Try.func20, Try.ntmps20
  go_wp2_with fail
  refine (markGradsS_any _ _ _ _ x0 _ _ (by exact (rep_keep _ _ _ _ (fun q hq => Below.heap_alloc _ _ _ (rep_lt _ _ _ _ _ R0.out q hq)) R0.out)) (nd_l hnd) (by omega) (by omega)).mono ?_
  rintro e w90 ⟨rfl, rp0, on0⟩
  have K0_1 := Lib.hid rp0; clear rp0
  have z90 := on0.size
  skip
  have q0_1 : w90.cell? ⟨w.heap.size, 0, none⟩ = some (.slice sp0 sn0 sq0) := (on0.cell (a := ⟨w.heap.size, 0, none⟩) (fun hm => by have := rep_lt _ _ _ _ _ R0.out _ hm; simp at this) (by simp)).trans (by simp)
  have q1_1 : w90.cell? ⟨w.heap.size, 1, none⟩ = some (.int .i64 x1) := (on0.cell (a := ⟨w.heap.size, 1, none⟩) (fun hm => by have := rep_lt _ _ _ _ _ R0.out _ hm; simp at this) (by simp)).trans (by simp)
  have zb1 : w.heap.size < w90.heap.size := by have := z90; (try simp at this); omega
  have O1 : Only BL w w90 := Only.trans (Only.alloc (Only.refl _ w) _) (on0.mono (fun q hq => by rw [HBL.out]; exact (List.mem_append_left _ hq)))
  go_wp2
  go_ret
  exact ⟨ret_int (by have hcx : cntt tRing (x0, x1) = cnt (.slice 36 tGrads) x0 := (by first | rfl | (simp only [cntt]; omega)); rw [hcx]; try omega), ⟨[_], [_], _, _, rfl, rfl, K0_1.out, ⟨rfl, sw1, rfl⟩⟩, Only.mono O1 (fun q hq => by rw [HBL.out] at hq; simpa using hq)⟩

set_option maxHeartbeats 4000000 in
set_option maxRecDepth 100000 in
theorem heldRing_any (cs : Array Value) (k0 : Int) (d : tRing.D) (w : World) (h : rd tRing w cs.toList (mkt tRing d k0)) (h0 : 0 ≤ k0) (h1 : k0 + (cntt tRing d : Nat) ≤ 1000000000000) :
    Calls Try.prog 21 #[.agg cs, .int .i64 k0] w (RetV (.int .i64 (k0 + (cntt tRing d : Nat))) w) := by
  obtain ⟨x0, x1⟩ := d
  have hcx : cntt tRing (x0, x1) = cnt (.slice 36 tGrads) x0 := by first | rfl | (simp only [cntt]; omega)
  rw [hcx] at h1
  clear hcx
  have hR2 : rd tRing w cs.toList ((mk (.slice 36 tGrads) x0 (k0)), x1) := by
    first | exact h | (simpa only [mkt, cntt, Int.natCast_add, Int.natCast_zero, Int.add_zero, Int.zero_add, ← Int.add_assoc] using h)
  clear h
  obtain ⟨_, _, ahcs, ⟨ap0, an0, aq0, rfl, as0⟩, ⟨rfl, aw1⟩⟩ := hR2
  obtain rfl : cs = #[.slice ap0 an0 aq0, .int .i64 x1] := arr_of ahcs
  clear ahcs
  have HA0 := Lib.hid as0; clear as0
  go_enter Try.func21, Try.ntmps21
  go_wp2_with fail
  refine (heldGradsS_any _ _ _ _ x0 _ (by exact SlRd.below HA0.out (by (repeat' first | refine Below.setCell ?_ (by first | (with_reducible assumption) | ((try simp only [World.size_alloc, World.size_setCell, World.size_drew]) <;> omega) | (simp [World.setCell]; done) | (simp [World.setCell]; omega)) _ | refine Below.alloc ?_ (by first | (with_reducible assumption) | ((try simp only [World.size_alloc, World.size_setCell, World.size_drew]) <;> omega) | (simp [World.setCell]; done) | (simp [World.setCell]; omega)) _); exact Below.refl _ _)) (by omega) (by omega)).mono ?_
  rintro e w90 ⟨rfl, b0⟩
  obtain ⟨u0, v0⟩ := bcell b0
  have y0 := b0.size
  try simp only [World.size_alloc, World.size_setCell] at u0 v0 y0
  have yy00 : w.heap.size < w90.heap.size := (by first | (with_reducible assumption) | ((try simp only [World.size_alloc, World.size_setCell, World.size_drew]) <;> omega) | (simp [World.setCell]; done) | (simp [World.setCell]; omega))
  have hnn0 : ¬ (k0 + (cnt (.slice 36 tGrads) x0 : Nat) < 0) := by omega
  go_wp2
  go_ret
  exact ⟨ret_int (by have hcx : cntt tRing (x0, x1) = cnt (.slice 36 tGrads) x0 := (by first | rfl | (simp only [cntt]; omega)); rw [hcx]; try omega), (by (repeat' first | refine Below.setCell ?_ (by first | (with_reducible assumption) | ((try simp only [World.size_alloc, World.size_setCell, World.size_drew]) <;> omega) | (simp [World.setCell]; done) | (simp [World.setCell]; omega)) _ | refine Below.alloc ?_ (by first | (with_reducible assumption) | ((try simp only [World.size_alloc, World.size_setCell, World.size_drew]) <;> omega) | (simp [World.setCell]; done) | (simp [World.setCell]; omega)) _); refine Below.trans ?_ (b0.mono (by first | (with_reducible assumption) | ((try simp only [World.size_alloc, World.size_setCell, World.size_drew]) <;> omega) | (simp [World.setCell]; done) | (simp [World.setCell]; omega))); (repeat' first | refine Below.setCell ?_ (by first | (with_reducible assumption) | ((try simp only [World.size_alloc, World.size_setCell, World.size_drew]) <;> omega) | (simp [World.setCell]; done) | (simp [World.setCell]; omega)) _ | refine Below.alloc ?_ (by first | (with_reducible assumption) | ((try simp only [World.size_alloc, World.size_setCell, World.size_drew]) <;> omega) | (simp [World.setCell]; done) | (simp [World.setCell]; omega)) _); exact Below.refl _ _)⟩

end Go.Proofs.Ytnijnjclmlfahaa
