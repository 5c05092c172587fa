/- The laws' own helpers over Pipe: copy, compare, count, mark, look at the marks. -/
import Derived.Test.YtbbbpbioehnblaaGreatTPair
import Derived.Test.YtbbbpbioehnblaaGreatTQueue
import Derived.Test.YtbbbpbioehnblaaGreatTStage
namespace Go.Proofs.YtbbbpbioehnblaaGreat
open Go.ChangeShapes Go.WideShapes Go.ChangeAt Go.RowKit
set_option linter.unusedVariables false
set_option linter.unusedSimpArgs false
theorem fmPipe {w : World} {cs : List Value} {x0 : Ty.D (.slice 67 tPair)} {x1 : Ty.D (.slice 57 tStage)} {x2 : Ty.D (.slice 71 tQueue)} {x3 : Ty.D (.slice 71 tQueue)} (h : rd tPipe w cs (x0, (x1, (x2, x3)))) :
    ∃ p0 n0 q0 p1 n1 q1 p2 n2 q2 p3 n3 q3, cs = [.slice p0 n0 q0, .slice p1 n1 q1, .slice p2 n2 q2, .slice p3 n3 q3] ∧ SlRd (Ty.n tPair) (rd tPair w) w p0 n0 q0 x0 ∧ SlRd (Ty.n tStage) (rd tStage w) w p1 n1 q1 x1 ∧ SlRd (Ty.n tQueue) (rd tQueue w) w p2 n2 q2 x2 ∧ SlRd (Ty.n tQueue) (rd tQueue w) w p3 n3 q3 x3 := by
  obtain ⟨_, _, hcs, ⟨p0, n0, q0, rfl, s0⟩, ⟨_, _, rfl, ⟨p1, n1, q1, rfl, s1⟩, ⟨_, _, rfl, ⟨p2, n2, q2, rfl, s2⟩, ⟨p3, n3, q3, rfl, s3⟩⟩⟩⟩ := h
  exact ⟨_, _, _, _, _, _, _, _, _, _, _, _, hcs, s0, s1, s2, s3⟩

set_option maxHeartbeats 1000000 in
set_option maxRecDepth 100000 in
theorem toPipe_any (cs : Array Value) (d : tPipe.D) (w : World) (h : rd tPipe w cs.toList d) (hz : szT tPipe d ≤ 1048576) :
    Calls Tryz.prog 8 #[.agg cs] w (RetAg tPipe w d) := by
  obtain ⟨x0, ⟨x1, ⟨x2, x3⟩⟩⟩ := d
  obtain ⟨p0, n0, q0, p1, n1, q1, p2, n2, q2, p3, n3, q3, hcs, s0, s1, s2, s3⟩ := fmPipe h
  obtain rfl : cs = #[.slice p0 n0 q0, .slice p1 n1 q1, .slice p2 n2 q2, .slice p3 n3 q3] := arr_of hcs
  have z0 : szT (.slice 67 tPair) x0 ≤ 1048576 := by simp only [szT] at hz ⊢; omega
  have z1 : szT (.slice 57 tStage) x1 ≤ 1048576 := by simp only [szT] at hz ⊢; omega
  have z2 : szT (.slice 71 tQueue) x2 ≤ 1048576 := by simp only [szT] at hz ⊢; omega
  have z3 : szT (.slice 71 tQueue) x3 ≤ 1048576 := by simp only [szT] at hz ⊢; omega
  clear hz hcs
  go_enter Tryz.func8, Tryz.ntmps8
  go_wp2_with fail
  refine (toPairS_any _ _ _ x0 _ (by exact s0.below belx) z0).mono ?_
  rintro e w90 ⟨r0, rc0, rfl, f0, b0⟩
  obtain ⟨u0, v0⟩ := bcell b0
  have y0 := b0.size
  simp only [World.size_alloc, World.size_setCell] at u0 v0 y0
  have yy00 : w.heap.size < w90.heap.size := fcx
  have yy01 : w.heap.size + 1 < w90.heap.size := fcx
  have yy02 : w.heap.size + 1 + 1 < w90.heap.size := fcx
  go_wp2_with fail
  refine (toStageS_any _ _ _ x1 _ (by exact s1.below belx) z1).mono ?_
  rintro e w91 ⟨r1, rc1, rfl, f1, b1⟩
  obtain ⟨u1, v1⟩ := bcell b1
  have y1 := b1.size
  simp only [World.size_alloc, World.size_setCell] at u1 v1 y1
  have yy10 : w.heap.size < w91.heap.size := fcx
  have yy11 : w.heap.size + 1 < w91.heap.size := fcx
  have yy12 : w.heap.size + 1 + 1 < w91.heap.size := fcx
  go_wp2_with fail
  refine (toQueueS_any _ _ _ x2 _ (by exact s2.below belx) z2).mono ?_
  rintro e w92 ⟨r2, rc2, rfl, f2, b2⟩
  obtain ⟨u2, v2⟩ := bcell b2
  have y2 := b2.size
  simp only [World.size_alloc, World.size_setCell] at u2 v2 y2
  have yy20 : w.heap.size < w92.heap.size := fcx
  have yy21 : w.heap.size + 1 < w92.heap.size := fcx
  have yy22 : w.heap.size + 1 + 1 < w92.heap.size := fcx
  go_wp2_with fail
  refine (toQueueS_any _ _ _ x3 _ (by exact s3.below belx) z3).mono ?_
  rintro e w93 ⟨r3, rc3, rfl, f3, b3⟩
  obtain ⟨u3, v3⟩ := bcell b3
  have y3 := b3.size
  simp only [World.size_alloc, World.size_setCell] at u3 v3 y3
  have yy30 : w.heap.size < w93.heap.size := fcx
  have yy31 : w.heap.size + 1 < w93.heap.size := fcx
  have yy32 : w.heap.size + 1 + 1 < w93.heap.size := fcx
  go_wp2
  refine bodyPost_ret (v := .agg #[.slice r0 (List.length x0) rc0, .slice r1 (List.length x1) rc1, .slice r2 (List.length x2) rc2, .slice r3 (List.length x3) rc3]) (by simp [results, Tryz.results8, go_sem, u0, yy00, yy01, yy02, u1, yy10, yy11, yy12, u2, yy20, yy21, yy22, u3, yy30, yy31, yy32]) rfl ⟨_, rfl, ?_, ?_⟩
  · refine FrIn.pair (c1 := [_]) (c2 := [_, _, _]) (mid := w90.heap.size) ?_ ?_ fcx fcx
    · refine FrIn.mono (lo := w.heap.size + 1 + 1 + 1) (hi := w90.heap.size) ?_ fcx fcx fcx
      (repeat' first | refine FrIn.set1 ?_ fcx _ | refine FrIn.alloc ?_ _)
      refine FrIn.below ?_ b3 fcx
      (repeat' first | refine FrIn.set1 ?_ fcx _ | refine FrIn.alloc ?_ _)
      refine FrIn.below ?_ b2 fcx
      (repeat' first | refine FrIn.set1 ?_ fcx _ | refine FrIn.alloc ?_ _)
      refine FrIn.below ?_ b1 fcx
      (repeat' first | refine FrIn.set1 ?_ fcx _ | refine FrIn.alloc ?_ _)
      exact f0.mono fcx (Nat.le_refl _) (Nat.le_refl _)
    · refine FrIn.pair (c1 := [_]) (c2 := [_, _]) (mid := w91.heap.size) ?_ ?_ fcx fcx
      · refine FrIn.mono (lo := w90.heap.size) (hi := w91.heap.size) ?_ fcx fcx fcx
        (repeat' first | refine FrIn.set1 ?_ fcx _ | refine FrIn.alloc ?_ _)
        refine FrIn.below ?_ b3 fcx
        (repeat' first | refine FrIn.set1 ?_ fcx _ | refine FrIn.alloc ?_ _)
        refine FrIn.below ?_ b2 fcx
        (repeat' first | refine FrIn.set1 ?_ fcx _ | refine FrIn.alloc ?_ _)
        exact f1.mono fcx (Nat.le_refl _) (Nat.le_refl _)
      · refine FrIn.pair (c1 := [_]) (c2 := [_]) (mid := w92.heap.size) ?_ ?_ fcx fcx
        · refine FrIn.mono (lo := w91.heap.size) (hi := w92.heap.size) ?_ fcx fcx fcx
          (repeat' first | refine FrIn.set1 ?_ fcx _ | refine FrIn.alloc ?_ _)
          refine FrIn.below ?_ b3 fcx
          (repeat' first | refine FrIn.set1 ?_ fcx _ | refine FrIn.alloc ?_ _)
          exact f2.mono fcx (Nat.le_refl _) (Nat.le_refl _)
        · refine FrIn.mono (lo := w92.heap.size) (hi := w93.heap.size) ?_ fcx fcx fcx
          (repeat' first | refine FrIn.set1 ?_ fcx _ | refine FrIn.alloc ?_ _)
          exact f3.mono fcx (Nat.le_refl _) (Nat.le_refl _)
  · exact belx


set_option maxHeartbeats 1000000 in
set_option maxRecDepth 100000 in
theorem szPipe_any (ca : Array Value) (d : tPipe.D) (left : Int) (w : World) (ha : rd tPipe w ca.toList d) (h0 : 0 ≤ left) (h2 : left ≤ 9223372036854775807) :
    Calls Tryz.prog 6 #[.agg ca, .int .i64 left] w (RetV (.int .i64 (szR left (szT tPipe d))) w) := by
  obtain ⟨x0, ⟨x1, ⟨x2, x3⟩⟩⟩ := d
  obtain ⟨ap0, an0, aq0, ap1, an1, aq1, ap2, an2, aq2, ap3, an3, aq3, ahcs, as0, as1, as2, as3⟩ := fmPipe ha
  obtain rfl : ca = #[.slice ap0 an0 aq0, .slice ap1 an1 aq1, .slice ap2 an2 aq2, .slice ap3 an3 aq3] := arr_of ahcs
  clear ahcs
  have e0 : szT tPipe (x0, (x1, (x2, x3))) = szT (.slice 67 tPair) x0 + szT (.slice 57 tStage) x1 + szT (.slice 71 tQueue) x2 + szT (.slice 71 tQueue) x3 := by first | rfl | (simp only [szT]; omega)
  have HS : Hid (szT tPipe (x0, (x1, (x2, x3))) = szT (.slice 67 tPair) x0 + szT (.slice 57 tStage) x1 + szT (.slice 71 tQueue) x2 + szT (.slice 71 tQueue) x3) := e0.trans (by rfl)
  clear e0 
  by_cases hf0 : ((szT (.slice 67 tPair) x0 : Nat) : Int) ≤ left
  rotate_left
  · go_enter Tryz.func6, Tryz.ntmps6
    go_wp2_with fail
    refine (szPairS_no _ _ _ x0 _ _ (by exact as0.below belx) (by omega) (by omega) (by omega)).mono ?_
    rintro e w90 ⟨rfl, b0⟩
    obtain ⟨u0, v0⟩ := bcell b0
    have y0 := b0.size
    try simp only [World.size_alloc, World.size_setCell] at u0 v0 y0
    have yy00 : w.heap.size < w90.heap.size := fcx
    go_wp2
    go_ret
    exact ⟨ret_int (by (first | rw [HS.out] | skip); unfold szR; rw [if_neg (by omega)]), belx⟩
  by_cases hf1 : ((szT (.slice 57 tStage) x1 : Nat) : Int) ≤ left - (szT (.slice 67 tPair) x0 : Nat)
  rotate_left
  · go_enter Tryz.func6, Tryz.ntmps6
    go_wp2_with fail
    refine (szPairS_ok _ _ _ x0 _ _ (by exact as0.below belx) (by omega) (by omega) (by omega)).mono ?_
    rintro e w90 ⟨rfl, b0⟩
    obtain ⟨u0, v0⟩ := bcell b0
    have y0 := b0.size
    try simp only [World.size_alloc, World.size_setCell] at u0 v0 y0
    have yy00 : w.heap.size < w90.heap.size := fcx
    go_wp2_with fail
    refine (szStageS_no _ _ _ x1 _ _ (by exact as1.below belx) (by omega) (by omega) (by omega)).mono ?_
    rintro e w91 ⟨rfl, b1⟩
    obtain ⟨u1, v1⟩ := bcell b1
    have y1 := b1.size
    try simp only [World.size_alloc, World.size_setCell] at u1 v1 y1
    have yy10 : w.heap.size < w91.heap.size := fcx
    go_wp2
    go_ret
    exact ⟨ret_int (by (first | rw [HS.out] | skip); unfold szR; rw [if_neg (by omega)]), belx⟩
  by_cases hf2 : ((szT (.slice 71 tQueue) x2 : Nat) : Int) ≤ left - (szT (.slice 67 tPair) x0 : Nat) - (szT (.slice 57 tStage) x1 : Nat)
  rotate_left
  · go_enter Tryz.func6, Tryz.ntmps6
    go_wp2_with fail
    refine (szPairS_ok _ _ _ x0 _ _ (by exact as0.below belx) (by omega) (by omega) (by omega)).mono ?_
    rintro e w90 ⟨rfl, b0⟩
    obtain ⟨u0, v0⟩ := bcell b0
    have y0 := b0.size
    try simp only [World.size_alloc, World.size_setCell] at u0 v0 y0
    have yy00 : w.heap.size < w90.heap.size := fcx
    go_wp2_with fail
    refine (szStageS_ok _ _ _ x1 _ _ (by exact as1.below belx) (by omega) (by omega) (by omega)).mono ?_
    rintro e w91 ⟨rfl, b1⟩
    obtain ⟨u1, v1⟩ := bcell b1
    have y1 := b1.size
    try simp only [World.size_alloc, World.size_setCell] at u1 v1 y1
    have yy10 : w.heap.size < w91.heap.size := fcx
    go_wp2_with fail
    refine (szQueueS_no _ _ _ x2 _ _ (by exact as2.below belx) (by omega) (by omega) (by omega)).mono ?_
    rintro e w92 ⟨rfl, b2⟩
    obtain ⟨u2, v2⟩ := bcell b2
    have y2 := b2.size
    try simp only [World.size_alloc, World.size_setCell] at u2 v2 y2
    have yy20 : w.heap.size < w92.heap.size := fcx
    go_wp2
    go_ret
    exact ⟨ret_int (by (first | rw [HS.out] | skip); unfold szR; rw [if_neg (by omega)]), belx⟩
  by_cases hf3 : ((szT (.slice 71 tQueue) x3 : Nat) : Int) ≤ left - (szT (.slice 67 tPair) x0 : Nat) - (szT (.slice 57 tStage) x1 : Nat) - (szT (.slice 71 tQueue) x2 : Nat)
  rotate_left
  · go_enter Tryz.func6, Tryz.ntmps6
    go_wp2_with fail
    refine (szPairS_ok _ _ _ x0 _ _ (by exact as0.below belx) (by omega) (by omega) (by omega)).mono ?_
    rintro e w90 ⟨rfl, b0⟩
    obtain ⟨u0, v0⟩ := bcell b0
    have y0 := b0.size
    try simp only [World.size_alloc, World.size_setCell] at u0 v0 y0
    have yy00 : w.heap.size < w90.heap.size := fcx
    go_wp2_with fail
    refine (szStageS_ok _ _ _ x1 _ _ (by exact as1.below belx) (by omega) (by omega) (by omega)).mono ?_
    rintro e w91 ⟨rfl, b1⟩
    obtain ⟨u1, v1⟩ := bcell b1
    have y1 := b1.size
    try simp only [World.size_alloc, World.size_setCell] at u1 v1 y1
    have yy10 : w.heap.size < w91.heap.size := fcx
    go_wp2_with fail
    refine (szQueueS_ok _ _ _ x2 _ _ (by exact as2.below belx) (by omega) (by omega) (by omega)).mono ?_
    rintro e w92 ⟨rfl, b2⟩
    obtain ⟨u2, v2⟩ := bcell b2
    have y2 := b2.size
    try simp only [World.size_alloc, World.size_setCell] at u2 v2 y2
    have yy20 : w.heap.size < w92.heap.size := fcx
    go_wp2_with fail
    refine (szQueueS_no _ _ _ x3 _ _ (by exact as3.below belx) (by omega) (by omega) (by omega)).mono ?_
    rintro e w93 ⟨rfl, b3⟩
    obtain ⟨u3, v3⟩ := bcell b3
    have y3 := b3.size
    try simp only [World.size_alloc, World.size_setCell] at u3 v3 y3
    have yy30 : w.heap.size < w93.heap.size := fcx
    go_wp2
    go_ret
    exact ⟨ret_int (by (first | rw [HS.out] | skip); unfold szR; rw [if_neg (by omega)]), belx⟩
  go_enter Tryz.func6, Tryz.ntmps6
  go_wp2_with fail
  refine (szPairS_ok _ _ _ x0 _ _ (by exact as0.below belx) (by omega) (by omega) (by omega)).mono ?_
  rintro e w90 ⟨rfl, b0⟩
  obtain ⟨u0, v0⟩ := bcell b0
  have y0 := b0.size
  try simp only [World.size_alloc, World.size_setCell] at u0 v0 y0
  have yy00 : w.heap.size < w90.heap.size := fcx
  go_wp2_with fail
  refine (szStageS_ok _ _ _ x1 _ _ (by exact as1.below belx) (by omega) (by omega) (by omega)).mono ?_
  rintro e w91 ⟨rfl, b1⟩
  obtain ⟨u1, v1⟩ := bcell b1
  have y1 := b1.size
  try simp only [World.size_alloc, World.size_setCell] at u1 v1 y1
  have yy10 : w.heap.size < w91.heap.size := fcx
  go_wp2_with fail
  refine (szQueueS_ok _ _ _ x2 _ _ (by exact as2.below belx) (by omega) (by omega) (by omega)).mono ?_
  rintro e w92 ⟨rfl, b2⟩
  obtain ⟨u2, v2⟩ := bcell b2
  have y2 := b2.size
  try simp only [World.size_alloc, World.size_setCell] at u2 v2 y2
  have yy20 : w.heap.size < w92.heap.size := fcx
  go_wp2_with fail
  refine (szQueueS_ok _ _ _ x3 _ _ (by exact as3.below belx) (by omega) (by omega) (by omega)).mono ?_
  rintro e w93 ⟨rfl, b3⟩
  obtain ⟨u3, v3⟩ := bcell b3
  have y3 := b3.size
  try simp only [World.size_alloc, World.size_setCell] at u3 v3 y3
  have yy30 : w.heap.size < w93.heap.size := fcx
  go_wp2
  go_ret
  exact ⟨ret_int (by (first | rw [HS.out] | skip); unfold szR; rw [if_pos (by omega)]; try omega), belx⟩

theorem szPipe_ok (ca : Array Value) (d : tPipe.D) (left : Int) (w : World) (ha : rd tPipe w ca.toList d) (h0 : 0 ≤ left) (h2 : left ≤ 9223372036854775807) (h : ((szT tPipe d : Nat) : Int) ≤ left) :
    Calls Tryz.prog 6 #[.agg ca, .int .i64 left] w (RetV (.int .i64 (left - (szT tPipe d : Nat))) w) := by
  have := szPipe_any ca d left w ha h0 h2
  rwa [szR_pos h] at this
theorem szPipe_no (ca : Array Value) (d : tPipe.D) (left : Int) (w : World) (ha : rd tPipe w ca.toList d) (h0 : 0 ≤ left) (h2 : left ≤ 9223372036854775807) (h : ¬ ((szT tPipe d : Nat) : Int) ≤ left) :
    Calls Tryz.prog 6 #[.agg ca, .int .i64 left] w (RetV (.int .i64 (-1)) w) := by
  have := szPipe_any ca d left w ha h0 h2
  rwa [szR_neg h] at this


set_option maxHeartbeats 1000000 in
set_option maxRecDepth 100000 in
theorem eqPipe_any (ca cb : Array Value) (d : tPipe.D) (w : World) (ha : rd tPipe w ca.toList d) (hb : rd tPipe w cb.toList d) :
    Calls Tryz.prog 10 #[.agg ca, .agg cb] w (RetV (.bool true) w) := by
  obtain ⟨x0, ⟨x1, ⟨x2, x3⟩⟩⟩ := d
  obtain ⟨ap0, an0, aq0, ap1, an1, aq1, ap2, an2, aq2, ap3, an3, aq3, ahcs, as0, as1, as2, as3⟩ := fmPipe ha
  obtain ⟨bp0, bn0, bq0, bp1, bn1, bq1, bp2, bn2, bq2, bp3, bn3, bq3, bhcs, bs0, bs1, bs2, bs3⟩ := fmPipe hb
  obtain rfl : ca = #[.slice ap0 an0 aq0, .slice ap1 an1 aq1, .slice ap2 an2 aq2, .slice ap3 an3 aq3] := arr_of ahcs
  obtain rfl : cb = #[.slice bp0 bn0 bq0, .slice bp1 bn1 bq1, .slice bp2 bn2 bq2, .slice bp3 bn3 bq3] := arr_of bhcs
  clear ahcs bhcs
  go_enter Tryz.func10, Tryz.ntmps10
  go_wp2_with fail
  refine (eqPairS_any _ _ _ _ _ _ x0 _ (by exact as0.below belx) (by exact bs0.below belx)).mono ?_
  rintro e w90 ⟨rfl, b0⟩
  obtain ⟨u0, v0⟩ := bcell b0
  have y0 := b0.size
  try simp only [World.size_alloc, World.size_setCell] at u0 v0 y0
  have yy00 : w.heap.size < w90.heap.size := fcx
  have yy01 : w.heap.size + 1 < w90.heap.size := fcx
  go_wp2_with fail
  refine (eqStageS_any _ _ _ _ _ _ x1 _ (by exact as1.below belx) (by exact bs1.below belx)).mono ?_
  rintro e w91 ⟨rfl, b1⟩
  obtain ⟨u1, v1⟩ := bcell b1
  have y1 := b1.size
  try simp only [World.size_alloc, World.size_setCell] at u1 v1 y1
  have yy10 : w.heap.size < w91.heap.size := fcx
  have yy11 : w.heap.size + 1 < w91.heap.size := fcx
  go_wp2_with fail
  refine (eqQueueS_any _ _ _ _ _ _ x2 _ (by exact as2.below belx) (by exact bs2.below belx)).mono ?_
  rintro e w92 ⟨rfl, b2⟩
  obtain ⟨u2, v2⟩ := bcell b2
  have y2 := b2.size
  try simp only [World.size_alloc, World.size_setCell] at u2 v2 y2
  have yy20 : w.heap.size < w92.heap.size := fcx
  have yy21 : w.heap.size + 1 < w92.heap.size := fcx
  go_wp2_with fail
  refine (eqQueueS_any _ _ _ _ _ _ x3 _ (by exact as3.below belx) (by exact bs3.below belx)).mono ?_
  rintro e w93 ⟨rfl, b3⟩
  obtain ⟨u3, v3⟩ := bcell b3
  have y3 := b3.size
  try simp only [World.size_alloc, World.size_setCell] at u3 v3 y3
  have yy30 : w.heap.size < w93.heap.size := fcx
  have yy31 : w.heap.size + 1 < w93.heap.size := fcx
  go_wp2
  go_ret
  exact ⟨rfl, belx⟩


end Go.Proofs.YtbbbpbioehnblaaGreat
