/- The laws' own helpers over Stage: copy, compare, count, mark, look at the marks. -/
import Derived.Test.YtepjkojfjdcegaaTGrads
import Derived.Test.YtepjkojfjdcegaaTIns
import Derived.Test.YtepjkojfjdcegaaTOp
import Derived.Test.YtepjkojfjdcegaaTRow
import Derived.Test.YtepjkojfjdcegaaTSaved
namespace Go.Proofs.Ytepjkojfjdcegaa
open Go.ChangeShapes Go.WideShapes Go.ChangeAt Go.RowKit
set_option linter.unusedVariables false
set_option linter.unusedSimpArgs false
theorem fmStage {w : World} {cs : List Value} {x0 : Ty.D tInt} {x1 : Ty.D (.slice 141 tIns)} {x2 : Ty.D (.slice 92 tOp)} {x3 : Ty.D .bool} {x4 : Ty.D .bool} {x5 : Ty.D (.slice 146 tSaved)} {x6 : Ty.D (.slice 90 tRow)} {x7 : Ty.D tInts} {x8 : Ty.D tInts} {x9 : Ty.D tInts} {x10 : Ty.D tInts} {x11 : Ty.D (.slice 90 tRow)} {x12 : Ty.D tInt} {x13 : Ty.D .bool} (h : rd tStage w cs (x0, (x1, (x2, (x3, (x4, (x5, (x6, (x7, (x8, (x9, (x10, (x11, (x12, x13)))))))))))))) :
    ∃ p1 n1 q1 p2 n2 q2 p5 n5 q5 p6 n6 q6 p7 n7 q7 p8 n8 q8 p9 n9 q9 p10 n10 q10 p11 n11 q11, cs = [.int .i64 x0, .slice p1 n1 q1, .slice p2 n2 q2, .bool x3, .bool x4, .slice p5 n5 q5, .slice p6 n6 q6, .slice p7 n7 q7, .slice p8 n8 q8, .slice p9 n9 q9, .slice p10 n10 q10, .slice p11 n11 q11, .int .i64 x12, .bool x13] ∧ (Lit.int .i64 x0).wf = true ∧ SlRd (Ty.n tIns) (rd tIns w) w p1 n1 q1 x1 ∧ SlRd (Ty.n tOp) (rd tOp w) w p2 n2 q2 x2 ∧ SlRd (Ty.n tSaved) (rd tSaved w) w p5 n5 q5 x5 ∧ SlRd (Ty.n tRow) (rd tRow w) w p6 n6 q6 x6 ∧ SlRd (Ty.n tInt) (rd tInt w) w p7 n7 q7 x7 ∧ SlRd (Ty.n tInt) (rd tInt w) w p8 n8 q8 x8 ∧ SlRd (Ty.n tInt) (rd tInt w) w p9 n9 q9 x9 ∧ SlRd (Ty.n tInt) (rd tInt w) w p10 n10 q10 x10 ∧ SlRd (Ty.n tRow) (rd tRow w) w p11 n11 q11 x11 ∧ (Lit.int .i64 x12).wf = true := by
  obtain ⟨_, _, hcs, ⟨rfl, w0⟩, ⟨_, _, rfl, ⟨p1, n1, q1, rfl, s1⟩, ⟨_, _, rfl, ⟨p2, n2, q2, rfl, s2⟩, ⟨_, _, rfl, rfl, ⟨_, _, rfl, rfl, ⟨_, _, rfl, ⟨p5, n5, q5, rfl, s5⟩, ⟨_, _, rfl, ⟨p6, n6, q6, rfl, s6⟩, ⟨_, _, rfl, ⟨p7, n7, q7, rfl, s7⟩, ⟨_, _, rfl, ⟨p8, n8, q8, rfl, s8⟩, ⟨_, _, rfl, ⟨p9, n9, q9, rfl, s9⟩, ⟨_, _, rfl, ⟨p10, n10, q10, rfl, s10⟩, ⟨_, _, rfl, ⟨p11, n11, q11, rfl, s11⟩, ⟨_, _, rfl, ⟨rfl, w12⟩, rfl⟩⟩⟩⟩⟩⟩⟩⟩⟩⟩⟩⟩⟩ := h
  exact ⟨_, _, _, _, _, _, _, _, _, _, _, _, _, _, _, _, _, _, _, _, _, _, _, _, _, _, _, hcs, w0, s1, s2, s5, s6, s7, s8, s9, s10, s11, w12⟩
set_option maxHeartbeats 1000000 in
set_option maxRecDepth 100000 in
theorem eqStage_any (ca cb : Array Value) (d : tStage.D) (w : World) (ha : rd tStage w ca.toList d) (hb : rd tStage w cb.toList d) :
    Calls Try.prog 31 #[.agg ca, .agg cb] w (RetV (.bool true) w) := by
  obtain ⟨x0, ⟨x1, ⟨x2, ⟨x3, ⟨x4, ⟨x5, ⟨x6, ⟨x7, ⟨x8, ⟨x9, ⟨x10, ⟨x11, ⟨x12, x13⟩⟩⟩⟩⟩⟩⟩⟩⟩⟩⟩⟩⟩ := d
  obtain ⟨ap1, an1, aq1, ap2, an2, aq2, ap5, an5, aq5, ap6, an6, aq6, ap7, an7, aq7, ap8, an8, aq8, ap9, an9, aq9, ap10, an10, aq10, ap11, an11, aq11, ahcs, aw0, as1, as2, as5, as6, as7, as8, as9, as10, as11, aw12⟩ := fmStage ha
  obtain ⟨bp1, bn1, bq1, bp2, bn2, bq2, bp5, bn5, bq5, bp6, bn6, bq6, bp7, bn7, bq7, bp8, bn8, bq8, bp9, bn9, bq9, bp10, bn10, bq10, bp11, bn11, bq11, bhcs, bw0, bs1, bs2, bs5, bs6, bs7, bs8, bs9, bs10, bs11, bw12⟩ := fmStage hb
  obtain rfl : ca = #[.int .i64 x0, .slice ap1 an1 aq1, .slice ap2 an2 aq2, .bool x3, .bool x4, .slice ap5 an5 aq5, .slice ap6 an6 aq6, .slice ap7 an7 aq7, .slice ap8 an8 aq8, .slice ap9 an9 aq9, .slice ap10 an10 aq10, .slice ap11 an11 aq11, .int .i64 x12, .bool x13] := arr_of ahcs
  obtain rfl : cb = #[.int .i64 x0, .slice bp1 bn1 bq1, .slice bp2 bn2 bq2, .bool x3, .bool x4, .slice bp5 bn5 bq5, .slice bp6 bn6 bq6, .slice bp7 bn7 bq7, .slice bp8 bn8 bq8, .slice bp9 bn9 bq9, .slice bp10 bn10 bq10, .slice bp11 bn11 bq11, .int .i64 x12, .bool x13] := arr_of bhcs
  clear ahcs bhcs
  go_enter Try.func31, Try.ntmps31
  go_wp2_with fail
  refine (eqInsS_any _ _ _ _ _ _ x1 _ (by exact as1.below belx) (by exact bs1.below belx)).mono ?_
  rintro e w91 ⟨rfl, b1⟩
  obtain ⟨u1, v1⟩ := bcell b1
  have y1 := b1.size
  try simp only [World.size_alloc, World.size_setCell] at u1 v1 y1
  have yy10 : w.heap.size < w91.heap.size := fcx
  have yy11 : w.heap.size + 1 < w91.heap.size := fcx
  go_wp2_with fail
  refine (eqOpS_any _ _ _ _ _ _ x2 _ (by exact as2.below belx) (by exact bs2.below belx)).mono ?_
  rintro e w92 ⟨rfl, b2⟩
  obtain ⟨u2, v2⟩ := bcell b2
  have y2 := b2.size
  try simp only [World.size_alloc, World.size_setCell] at u2 v2 y2
  have yy20 : w.heap.size < w92.heap.size := fcx
  have yy21 : w.heap.size + 1 < w92.heap.size := fcx
  go_wp2_with fail
  refine (eqSavedS_any _ _ _ _ _ _ x5 _ (by exact as5.below belx) (by exact bs5.below belx)).mono ?_
  rintro e w95 ⟨rfl, b5⟩
  obtain ⟨u5, v5⟩ := bcell b5
  have y5 := b5.size
  try simp only [World.size_alloc, World.size_setCell] at u5 v5 y5
  have yy50 : w.heap.size < w95.heap.size := fcx
  have yy51 : w.heap.size + 1 < w95.heap.size := fcx
  go_wp2_with fail
  refine (eqRowS_any _ _ _ _ _ _ x6 _ (by exact as6.below belx) (by exact bs6.below belx)).mono ?_
  rintro e w96 ⟨rfl, b6⟩
  obtain ⟨u6, v6⟩ := bcell b6
  have y6 := b6.size
  try simp only [World.size_alloc, World.size_setCell] at u6 v6 y6
  have yy60 : w.heap.size < w96.heap.size := fcx
  have yy61 : w.heap.size + 1 < w96.heap.size := fcx
  go_wp2_with fail
  refine (eqIntS_any _ _ _ _ _ _ x7 _ (by exact as7.below belx) (by exact bs7.below belx)).mono ?_
  rintro e w97 ⟨rfl, b7⟩
  obtain ⟨u7, v7⟩ := bcell b7
  have y7 := b7.size
  try simp only [World.size_alloc, World.size_setCell] at u7 v7 y7
  have yy70 : w.heap.size < w97.heap.size := fcx
  have yy71 : w.heap.size + 1 < w97.heap.size := fcx
  go_wp2_with fail
  refine (eqIntS_any _ _ _ _ _ _ x8 _ (by exact as8.below belx) (by exact bs8.below belx)).mono ?_
  rintro e w98 ⟨rfl, b8⟩
  obtain ⟨u8, v8⟩ := bcell b8
  have y8 := b8.size
  try simp only [World.size_alloc, World.size_setCell] at u8 v8 y8
  have yy80 : w.heap.size < w98.heap.size := fcx
  have yy81 : w.heap.size + 1 < w98.heap.size := fcx
  go_wp2_with fail
  refine (eqIntS_any _ _ _ _ _ _ x9 _ (by exact as9.below belx) (by exact bs9.below belx)).mono ?_
  rintro e w99 ⟨rfl, b9⟩
  obtain ⟨u9, v9⟩ := bcell b9
  have y9 := b9.size
  try simp only [World.size_alloc, World.size_setCell] at u9 v9 y9
  have yy90 : w.heap.size < w99.heap.size := fcx
  have yy91 : w.heap.size + 1 < w99.heap.size := fcx
  go_wp2_with fail
  refine (eqIntS_any _ _ _ _ _ _ x10 _ (by exact as10.below belx) (by exact bs10.below belx)).mono ?_
  rintro e w910 ⟨rfl, b10⟩
  obtain ⟨u10, v10⟩ := bcell b10
  have y10 := b10.size
  try simp only [World.size_alloc, World.size_setCell] at u10 v10 y10
  have yy100 : w.heap.size < w910.heap.size := fcx
  have yy101 : w.heap.size + 1 < w910.heap.size := fcx
  go_wp2_with fail
  refine (eqGrads_any _ _ (x11, (x12, x13)) _ (by exact ⟨[_], [_, _], rfl, ⟨_, _, _, rfl, as11.below belx⟩, ⟨[_], [_], rfl, ⟨rfl, aw12⟩, rfl⟩⟩) (by exact ⟨[_], [_, _], rfl, ⟨_, _, _, rfl, bs11.below belx⟩, ⟨[_], [_], rfl, ⟨rfl, bw12⟩, rfl⟩⟩)).mono ?_
  rintro e w911 ⟨rfl, b11⟩
  obtain ⟨u11, v11⟩ := bcell b11
  have y11 := b11.size
  try simp only [World.size_alloc, World.size_setCell] at u11 v11 y11
  have yy110 : w.heap.size < w911.heap.size := fcx
  have yy111 : w.heap.size + 1 < w911.heap.size := fcx
  go_wp2
  go_ret
  exact ⟨rfl, belx⟩
end Go.Proofs.Ytepjkojfjdcegaa
