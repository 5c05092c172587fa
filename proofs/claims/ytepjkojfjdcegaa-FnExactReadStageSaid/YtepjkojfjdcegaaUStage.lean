/- Marks over rows that are met once: Stage. -/
import Derived.Test.YtepjkojfjdcegaaTStage
import Derived.Test.YtepjkojfjdcegaaUPath
import Derived.Test.YtepjkojfjdcegaaUGrads
import Derived.Test.YtepjkojfjdcegaaUIns
import Derived.Test.YtepjkojfjdcegaaUOp
import Derived.Test.YtepjkojfjdcegaaURow
import Derived.Test.YtepjkojfjdcegaaUSaved
namespace Go.Proofs.Ytepjkojfjdcegaa
open Go.ChangeShapes Go.WideShapes Go.ChangeAt Go.RowKit
set_option linter.unusedVariables false
set_option linter.unusedSimpArgs false
set_option maxHeartbeats 4000000 in
set_option maxRecDepth 100000 in
theorem markStage_un (cs : Array Value) (k0 : Int) (d : tStage.D) (bl : List Nat) (w : World) (h : Un tStage w cs.toList d bl) (hnd : bl.Nodup) (h0 : 0 ≤ k0) (h1 : k0 + (cntt tStage d : Nat) ≤ 1000000000000) :
    Calls Try.prog 32 #[.agg cs, .int .i64 k0] w (RetUt tStage w cs.toList (mkt tStage d k0) bl (k0 + (cntt tStage d : Nat))) := by
  obtain ⟨x0, ⟨x1, ⟨x2, ⟨x3, ⟨x4, ⟨x5, ⟨x6, ⟨x7, ⟨x8, ⟨x9, ⟨x10, ⟨x11, ⟨x12, x13⟩⟩⟩⟩⟩⟩⟩⟩⟩⟩⟩⟩⟩ := d
  have hcx : cntt tStage (x0, (x1, (x2, (x3, (x4, (x5, (x6, (x7, (x8, (x9, (x10, (x11, (x12, x13))))))))))))) = cnt (.slice 141 tIns) x1 + cnt (.slice 92 tOp) x2 + cnt (.slice 146 tSaved) x5 + cnt (.slice 90 tRow) x6 + cnt tInts x7 + cnt tInts x8 + cnt tInts x9 + cnt tInts x10 + cnt (.slice 90 tRow) x11 := (show cntt tStage (x0, (x1, (x2, (x3, (x4, (x5, (x6, (x7, (x8, (x9, (x10, (x11, (x12, x13))))))))))))) = (0 + (cnt (.slice 141 tIns) x1 + (cnt (.slice 92 tOp) x2 + (0 + (0 + (cnt (.slice 146 tSaved) x5 + (cnt (.slice 90 tRow) x6 + (cnt tInts x7 + (cnt tInts x8 + (cnt tInts x9 + (cnt tInts x10 + (cnt (.slice 90 tRow) x11 + (0 + 0))))))))))))) from rfl).trans (by omega)
  rw [hcx] at h1
  clear hcx
  obtain ⟨sp1, sn1, sq1, sp2, sn2, sq2, sp5, sn5, sq5, sp6, sn6, sq6, sp7, sn7, sq7, sp8, sn8, sq8, sp9, sn9, sq9, sp10, sn10, sq10, sp11, sn11, sq11, shcs, sw0, ss1, ss2, ss5, ss6, ss7, ss8, ss9, ss10, ss11, sw12⟩ := fmStage (un_rd h)
  obtain rfl : cs = #[.int .i64 x0, .slice sp1 sn1 sq1, .slice sp2 sn2 sq2, .bool x3, .bool x4, .slice sp5 sn5 sq5, .slice sp6 sn6 sq6, .slice sp7 sn7 sq7, .slice sp8 sn8 sq8, .slice sp9 sn9 sq9, .slice sp10 sn10 sq10, .slice sp11 sn11 sq11, .int .i64 x12, .bool x13] := arr_of shcs
  clear shcs
  have hbl := un_lt _ _ _ _ _ h
  have HH := Lib.hid h
  go_enter Try.func32, Try.ntmps32
  obtain ⟨bu1, hR1, hn1, hs1, hA1⟩ := un_top HH.out hnd [true, false]
  have hq1 : Un (.slice 141 tIns) w [.slice sp1 sn1 sq1] x1 bu1 := hR1
  have HA1 := Lib.hid hA1; have HQ1 := Lib.hid hq1; clear hA1 hR1 hq1
  go_wp2_with fail
  refine (markInsS_un _ _ _ _ x1 _ _ (by exact (Un.keep _ _ _ _ (fun q hq => Below.heap_alloc _ _ _ (hbl q (hs1 q hq))) HQ1.out)) hn1 (by omega) (by omega)).mono ?_
  rintro e w91 ⟨rfl, rp1, on1⟩
  have HU1 := Lib.hid (HA1.out w91 _ (fun q hq hz => (on1.block q hq (by simp; omega)).trans (Below.heap_alloc _ _ _ hz)) rp1)
  have O1 : Only bl w w91 := Only.trans (Only.alloc (Only.refl _ w) _) (on1.mono hs1)
  have HB1 := Lib.hid (fun (a : Addr) (ha : a.block = w.heap.size) => on1.cell (a := a) (fun hm => by have := hbl _ (hs1 _ hm); omega) (by rw [ha]; simp))
  have zb1 : w.heap.size < w91.heap.size := by have := on1.size; (try simp at this); omega
  clear HA1 HQ1 rp1
  obtain ⟨bu2, hR2, hn2, hs2, hA2⟩ := un_top HU1.out hnd [true, true, false]
  have hq2 : Un (.slice 92 tOp) w91 [.slice sp2 sn2 sq2] x2 bu2 := hR2
  have HA2 := Lib.hid hA2; have HQ2 := Lib.hid hq2; clear hA2 hR2 hq2
  skip
  have q2_1 : w91.cell? ⟨w.heap.size, 2, none⟩ = some (.slice sp2 sn2 sq2) := (HB1.out ⟨w.heap.size, 2, none⟩ rfl).trans (by simp)
  go_wp2_with fail
  refine (markOpS_un _ _ _ _ x2 _ _ (by exact HQ2.out) hn2 (by omega) (by omega)).mono ?_
  rintro e w92 ⟨rfl, rp2, on2⟩
  have HU2 := Lib.hid (HA2.out w92 _ (fun q hq hz => on2.block q hq hz) rp2)
  have O2 : Only bl w w92 := Only.trans O1 (on2.mono hs2)
  have HB2 := Lib.hid (fun (a : Addr) (ha : a.block = w.heap.size) => (on2.cell (a := a) (fun hm => by have := hbl _ (hs2 _ hm); omega) (by rw [ha]; exact zb1)).trans (HB1.out a ha))
  clear q2_1
  have zb2 : w.heap.size < w92.heap.size := by have := on2.size; (try simp at this); omega
  clear HA2 HQ2 rp2
  obtain ⟨bu5, hR5, hn5, hs5, hA5⟩ := un_top HU2.out hnd [true, true, true, true, true, false]
  have hq5 : Un (.slice 146 tSaved) w92 [.slice sp5 sn5 sq5] x5 bu5 := hR5
  have HA5 := Lib.hid hA5; have HQ5 := Lib.hid hq5; clear hA5 hR5 hq5
  skip
  have q5_2 : w92.cell? ⟨w.heap.size, 5, none⟩ = some (.slice sp5 sn5 sq5) := (HB2.out ⟨w.heap.size, 5, none⟩ rfl).trans (by simp)
  go_wp2_with fail
  refine (markSavedS_un _ _ _ _ x5 _ _ (by exact HQ5.out) hn5 (by omega) (by omega)).mono ?_
  rintro e w95 ⟨rfl, rp5, on5⟩
  have HU3 := Lib.hid (HA5.out w95 _ (fun q hq hz => on5.block q hq hz) rp5)
  have O3 : Only bl w w95 := Only.trans O2 (on5.mono hs5)
  have HB3 := Lib.hid (fun (a : Addr) (ha : a.block = w.heap.size) => (on5.cell (a := a) (fun hm => by have := hbl _ (hs5 _ hm); omega) (by rw [ha]; exact zb2)).trans (HB2.out a ha))
  clear q5_2
  have zb3 : w.heap.size < w95.heap.size := by have := on5.size; (try simp at this); omega
  clear HA5 HQ5 rp5
  obtain ⟨bu6, hR6, hn6, hs6, hA6⟩ := un_top HU3.out hnd [true, true, true, true, true, true, false]
  have hq6 : Un (.slice 90 tRow) w95 [.slice sp6 sn6 sq6] x6 bu6 := hR6
  have HA6 := Lib.hid hA6; have HQ6 := Lib.hid hq6; clear hA6 hR6 hq6
  skip
  have q6_3 : w95.cell? ⟨w.heap.size, 6, none⟩ = some (.slice sp6 sn6 sq6) := (HB3.out ⟨w.heap.size, 6, none⟩ rfl).trans (by simp)
  go_wp2_with fail
  refine (markRowS_un _ _ _ _ x6 _ _ (by exact HQ6.out) hn6 (by omega) (by omega)).mono ?_
  rintro e w96 ⟨rfl, rp6, on6⟩
  have HU4 := Lib.hid (HA6.out w96 _ (fun q hq hz => on6.block q hq hz) rp6)
  have O4 : Only bl w w96 := Only.trans O3 (on6.mono hs6)
  have HB4 := Lib.hid (fun (a : Addr) (ha : a.block = w.heap.size) => (on6.cell (a := a) (fun hm => by have := hbl _ (hs6 _ hm); omega) (by rw [ha]; exact zb3)).trans (HB3.out a ha))
  clear q6_3
  have zb4 : w.heap.size < w96.heap.size := by have := on6.size; (try simp at this); omega
  clear HA6 HQ6 rp6
  obtain ⟨bu7, hR7, hn7, hs7, hA7⟩ := un_top HU4.out hnd [true, true, true, true, true, true, true, false]
  have hq7 : Un tInts w96 [.slice sp7 sn7 sq7] x7 bu7 := hR7
  have HA7 := Lib.hid hA7; have HQ7 := Lib.hid hq7; clear hA7 hR7 hq7
  skip
  have q7_4 : w96.cell? ⟨w.heap.size, 7, none⟩ = some (.slice sp7 sn7 sq7) := (HB4.out ⟨w.heap.size, 7, none⟩ rfl).trans (by simp)
  go_wp2_with fail
  refine (markIntS_un _ _ _ _ x7 _ _ (by exact HQ7.out) hn7 (by omega) (by have := cnt_ints x7; omega)).mono ?_
  rintro e w97 ⟨rfl, rp7, on7⟩
  have HU5 := Lib.hid (HA7.out w97 _ (fun q hq hz => on7.block q hq hz) rp7)
  have O5 : Only bl w w97 := Only.trans O4 (on7.mono hs7)
  have HB5 := Lib.hid (fun (a : Addr) (ha : a.block = w.heap.size) => (on7.cell (a := a) (fun hm => by have := hbl _ (hs7 _ hm); omega) (by rw [ha]; exact zb4)).trans (HB4.out a ha))
  clear q7_4
  have zb5 : w.heap.size < w97.heap.size := by have := on7.size; (try simp at this); omega
  clear HA7 HQ7 rp7
  obtain ⟨bu8, hR8, hn8, hs8, hA8⟩ := un_top HU5.out hnd [true, true, true, true, true, true, true, true, false]
  have hq8 : Un tInts w97 [.slice sp8 sn8 sq8] x8 bu8 := hR8
  have HA8 := Lib.hid hA8; have HQ8 := Lib.hid hq8; clear hA8 hR8 hq8
  skip
  have q8_5 : w97.cell? ⟨w.heap.size, 8, none⟩ = some (.slice sp8 sn8 sq8) := (HB5.out ⟨w.heap.size, 8, none⟩ rfl).trans (by simp)
  go_wp2_with fail
  refine (markIntS_un _ _ _ _ x8 _ _ (by exact HQ8.out) hn8 (by omega) (by have := cnt_ints x8; omega)).mono ?_
  rintro e w98 ⟨rfl, rp8, on8⟩
  have HU6 := Lib.hid (HA8.out w98 _ (fun q hq hz => on8.block q hq hz) rp8)
  have O6 : Only bl w w98 := Only.trans O5 (on8.mono hs8)
  have HB6 := Lib.hid (fun (a : Addr) (ha : a.block = w.heap.size) => (on8.cell (a := a) (fun hm => by have := hbl _ (hs8 _ hm); omega) (by rw [ha]; exact zb5)).trans (HB5.out a ha))
  clear q8_5
  have zb6 : w.heap.size < w98.heap.size := by have := on8.size; (try simp at this); omega
  clear HA8 HQ8 rp8
  obtain ⟨bu9, hR9, hn9, hs9, hA9⟩ := un_top HU6.out hnd [true, true, true, true, true, true, true, true, true, false]
  have hq9 : Un tInts w98 [.slice sp9 sn9 sq9] x9 bu9 := hR9
  have HA9 := Lib.hid hA9; have HQ9 := Lib.hid hq9; clear hA9 hR9 hq9
  skip
  have q9_6 : w98.cell? ⟨w.heap.size, 9, none⟩ = some (.slice sp9 sn9 sq9) := (HB6.out ⟨w.heap.size, 9, none⟩ rfl).trans (by simp)
  go_wp2_with fail
  refine (markIntS_un _ _ _ _ x9 _ _ (by exact HQ9.out) hn9 (by omega) (by have := cnt_ints x9; omega)).mono ?_
  rintro e w99 ⟨rfl, rp9, on9⟩
  have HU7 := Lib.hid (HA9.out w99 _ (fun q hq hz => on9.block q hq hz) rp9)
  have O7 : Only bl w w99 := Only.trans O6 (on9.mono hs9)
  have HB7 := Lib.hid (fun (a : Addr) (ha : a.block = w.heap.size) => (on9.cell (a := a) (fun hm => by have := hbl _ (hs9 _ hm); omega) (by rw [ha]; exact zb6)).trans (HB6.out a ha))
  clear q9_6
  have zb7 : w.heap.size < w99.heap.size := by have := on9.size; (try simp at this); omega
  clear HA9 HQ9 rp9
  obtain ⟨bu10, hR10, hn10, hs10, hA10⟩ := un_top HU7.out hnd [true, true, true, true, true, true, true, true, true, true, false]
  have hq10 : Un tInts w99 [.slice sp10 sn10 sq10] x10 bu10 := hR10
  have HA10 := Lib.hid hA10; have HQ10 := Lib.hid hq10; clear hA10 hR10 hq10
  skip
  have q10_7 : w99.cell? ⟨w.heap.size, 10, none⟩ = some (.slice sp10 sn10 sq10) := (HB7.out ⟨w.heap.size, 10, none⟩ rfl).trans (by simp)
  go_wp2_with fail
  refine (markIntS_un _ _ _ _ x10 _ _ (by exact HQ10.out) hn10 (by omega) (by have := cnt_ints x10; omega)).mono ?_
  rintro e w910 ⟨rfl, rp10, on10⟩
  have HU8 := Lib.hid (HA10.out w910 _ (fun q hq hz => on10.block q hq hz) rp10)
  have O8 : Only bl w w910 := Only.trans O7 (on10.mono hs10)
  have HB8 := Lib.hid (fun (a : Addr) (ha : a.block = w.heap.size) => (on10.cell (a := a) (fun hm => by have := hbl _ (hs10 _ hm); omega) (by rw [ha]; exact zb7)).trans (HB7.out a ha))
  clear q10_7
  have zb8 : w.heap.size < w910.heap.size := by have := on10.size; (try simp at this); omega
  clear HA10 HQ10 rp10
  obtain ⟨bu11, hR11, hn11, hs11, hA11⟩ := un_top HU8.out hnd [true, true, true, true, true, true, true, true, true, true, true]
  have hq11 : Un tGrads w910 [.slice sp11 sn11 sq11, .int .i64 x12, .bool x13] (x11, (x12, x13)) bu11 := hR11
  have HA11 := Lib.hid hA11; have HQ11 := Lib.hid hq11; clear hA11 hR11 hq11
  skip
  have q11_8 : w910.cell? ⟨w.heap.size, 11, none⟩ = some (.slice sp11 sn11 sq11) := (HB8.out ⟨w.heap.size, 11, none⟩ rfl).trans (by simp)
  have q12_8 : w910.cell? ⟨w.heap.size, 12, none⟩ = some (.int .i64 x12) := (HB8.out ⟨w.heap.size, 12, none⟩ rfl).trans (by simp)
  have q13_8 : w910.cell? ⟨w.heap.size, 13, none⟩ = some (.bool x13) := (HB8.out ⟨w.heap.size, 13, none⟩ rfl).trans (by simp)
  go_wp2_with fail
  have ee11 : cntt tGrads (x11, (x12, x13)) = cnt (.slice 90 tRow) x11 := by first | rfl | (simp only [cntt]; omega)
  have eb11 : k0 + (cnt (.slice 141 tIns) x1 : Nat) + (cnt (.slice 92 tOp) x2 : Nat) + (cnt (.slice 146 tSaved) x5 : Nat) + (cnt (.slice 90 tRow) x6 : Nat) + (cnt tInts x7 : Nat) + (cnt tInts x8 : Nat) + (cnt tInts x9 : Nat) + (cnt tInts x10 : Nat) + (cntt tGrads (x11, (x12, x13)) : Nat) ≤ 1000000000000 := by rw [ee11]; omega
  refine (markGrads_un _ _ (x11, (x12, x13)) _ _ (by exact HQ11.out) hn11 (by omega) eb11).mono ?_
  rintro e w911 ⟨rfl, rp11, on11⟩
  rw [ee11]
  have HU9 := Lib.hid (HA11.out w911 _ (fun q hq hz => on11.block q hq hz) rp11)
  have O9 : Only bl w w911 := Only.trans O8 (on11.mono hs11)
  have HB9 := Lib.hid (fun (a : Addr) (ha : a.block = w.heap.size) => (on11.cell (a := a) (fun hm => by have := hbl _ (hs11 _ hm); omega) (by rw [ha]; exact zb8)).trans (HB8.out a ha))
  clear q11_8 q12_8 q13_8
  have zb9 : w.heap.size < w911.heap.size := by have := on11.size; (try simp at this); omega
  clear HA11 HQ11 rp11
  go_wp2
  go_ret
  exact ⟨ret_int (by have hcx : cntt tStage (x0, (x1, (x2, (x3, (x4, (x5, (x6, (x7, (x8, (x9, (x10, (x11, (x12, x13))))))))))))) = cnt (.slice 141 tIns) x1 + cnt (.slice 92 tOp) x2 + cnt (.slice 146 tSaved) x5 + cnt (.slice 90 tRow) x6 + cnt tInts x7 + cnt tInts x8 + cnt tInts x9 + cnt tInts x10 + cnt (.slice 90 tRow) x11 := (show cntt tStage (x0, (x1, (x2, (x3, (x4, (x5, (x6, (x7, (x8, (x9, (x10, (x11, (x12, x13))))))))))))) = (0 + (cnt (.slice 141 tIns) x1 + (cnt (.slice 92 tOp) x2 + (0 + (0 + (cnt (.slice 146 tSaved) x5 + (cnt (.slice 90 tRow) x6 + (cnt tInts x7 + (cnt tInts x8 + (cnt tInts x9 + (cnt tInts x10 + (cnt (.slice 90 tRow) x11 + (0 + 0))))))))))))) from rfl).trans (by omega); rw [hcx]; try omega), (by have hh := HU9.out; first | exact hh | (have e9 : mkt tStage (x0, (x1, (x2, (x3, (x4, (x5, (x6, (x7, (x8, (x9, (x10, (x11, (x12, x13))))))))))))) k0 = (x0, ((mk (.slice 141 tIns) x1 (k0)), ((mk (.slice 92 tOp) x2 (k0 + (cnt (.slice 141 tIns) x1 : Nat))), (x3, (x4, ((mk (.slice 146 tSaved) x5 (k0 + (cnt (.slice 141 tIns) x1 : Nat) + (cnt (.slice 92 tOp) x2 : Nat))), ((mk (.slice 90 tRow) x6 (k0 + (cnt (.slice 141 tIns) x1 : Nat) + (cnt (.slice 92 tOp) x2 : Nat) + (cnt (.slice 146 tSaved) x5 : Nat))), ((mk tInts x7 (k0 + (cnt (.slice 141 tIns) x1 : Nat) + (cnt (.slice 92 tOp) x2 : Nat) + (cnt (.slice 146 tSaved) x5 : Nat) + (cnt (.slice 90 tRow) x6 : Nat))), ((mk tInts x8 (k0 + (cnt (.slice 141 tIns) x1 : Nat) + (cnt (.slice 92 tOp) x2 : Nat) + (cnt (.slice 146 tSaved) x5 : Nat) + (cnt (.slice 90 tRow) x6 : Nat) + (cnt tInts x7 : Nat))), ((mk tInts x9 (k0 + (cnt (.slice 141 tIns) x1 : Nat) + (cnt (.slice 92 tOp) x2 : Nat) + (cnt (.slice 146 tSaved) x5 : Nat) + (cnt (.slice 90 tRow) x6 : Nat) + (cnt tInts x7 : Nat) + (cnt tInts x8 : Nat))), ((mk tInts x10 (k0 + (cnt (.slice 141 tIns) x1 : Nat) + (cnt (.slice 92 tOp) x2 : Nat) + (cnt (.slice 146 tSaved) x5 : Nat) + (cnt (.slice 90 tRow) x6 : Nat) + (cnt tInts x7 : Nat) + (cnt tInts x8 : Nat) + (cnt tInts x9 : Nat))), ((mk (.slice 90 tRow) x11 (k0 + (cnt (.slice 141 tIns) x1 : Nat) + (cnt (.slice 92 tOp) x2 : Nat) + (cnt (.slice 146 tSaved) x5 : Nat) + (cnt (.slice 90 tRow) x6 : Nat) + (cnt tInts x7 : Nat) + (cnt tInts x8 : Nat) + (cnt tInts x9 : Nat) + (cnt tInts x10 : Nat))), (x12, x13))))))))))))) := (by simp only [mkt, cntt, Int.natCast_add, Int.natCast_zero, Int.add_zero, Int.zero_add, ← Int.add_assoc]); rw [e9]; exact hh)), O9⟩
set_option maxHeartbeats 4000000 in
set_option maxRecDepth 100000 in
theorem heldStage_any (cs : Array Value) (k0 : Int) (d : tStage.D) (w : World) (h : rd tStage w cs.toList (mkt tStage d k0)) (h0 : 0 ≤ k0) (h1 : k0 + (cntt tStage d : Nat) ≤ 1000000000000) :
    Calls Try.prog 33 #[.agg cs, .int .i64 k0] w (RetV (.int .i64 (k0 + (cntt tStage d : Nat))) w) := by
  obtain ⟨x0, ⟨x1, ⟨x2, ⟨x3, ⟨x4, ⟨x5, ⟨x6, ⟨x7, ⟨x8, ⟨x9, ⟨x10, ⟨x11, ⟨x12, x13⟩⟩⟩⟩⟩⟩⟩⟩⟩⟩⟩⟩⟩ := d
  have hcx : cntt tStage (x0, (x1, (x2, (x3, (x4, (x5, (x6, (x7, (x8, (x9, (x10, (x11, (x12, x13))))))))))))) = cnt (.slice 141 tIns) x1 + cnt (.slice 92 tOp) x2 + cnt (.slice 146 tSaved) x5 + cnt (.slice 90 tRow) x6 + cnt tInts x7 + cnt tInts x8 + cnt tInts x9 + cnt tInts x10 + cnt (.slice 90 tRow) x11 := (show cntt tStage (x0, (x1, (x2, (x3, (x4, (x5, (x6, (x7, (x8, (x9, (x10, (x11, (x12, x13))))))))))))) = (0 + (cnt (.slice 141 tIns) x1 + (cnt (.slice 92 tOp) x2 + (0 + (0 + (cnt (.slice 146 tSaved) x5 + (cnt (.slice 90 tRow) x6 + (cnt tInts x7 + (cnt tInts x8 + (cnt tInts x9 + (cnt tInts x10 + (cnt (.slice 90 tRow) x11 + (0 + 0))))))))))))) from rfl).trans (by omega)
  rw [hcx] at h1
  clear hcx
  have hR2 : rd tStage w cs.toList (x0, ((mk (.slice 141 tIns) x1 (k0)), ((mk (.slice 92 tOp) x2 (k0 + (cnt (.slice 141 tIns) x1 : Nat))), (x3, (x4, ((mk (.slice 146 tSaved) x5 (k0 + (cnt (.slice 141 tIns) x1 : Nat) + (cnt (.slice 92 tOp) x2 : Nat))), ((mk (.slice 90 tRow) x6 (k0 + (cnt (.slice 141 tIns) x1 : Nat) + (cnt (.slice 92 tOp) x2 : Nat) + (cnt (.slice 146 tSaved) x5 : Nat))), ((mk tInts x7 (k0 + (cnt (.slice 141 tIns) x1 : Nat) + (cnt (.slice 92 tOp) x2 : Nat) + (cnt (.slice 146 tSaved) x5 : Nat) + (cnt (.slice 90 tRow) x6 : Nat))), ((mk tInts x8 (k0 + (cnt (.slice 141 tIns) x1 : Nat) + (cnt (.slice 92 tOp) x2 : Nat) + (cnt (.slice 146 tSaved) x5 : Nat) + (cnt (.slice 90 tRow) x6 : Nat) + (cnt tInts x7 : Nat))), ((mk tInts x9 (k0 + (cnt (.slice 141 tIns) x1 : Nat) + (cnt (.slice 92 tOp) x2 : Nat) + (cnt (.slice 146 tSaved) x5 : Nat) + (cnt (.slice 90 tRow) x6 : Nat) + (cnt tInts x7 : Nat) + (cnt tInts x8 : Nat))), ((mk tInts x10 (k0 + (cnt (.slice 141 tIns) x1 : Nat) + (cnt (.slice 92 tOp) x2 : Nat) + (cnt (.slice 146 tSaved) x5 : Nat) + (cnt (.slice 90 tRow) x6 : Nat) + (cnt tInts x7 : Nat) + (cnt tInts x8 : Nat) + (cnt tInts x9 : Nat))), ((mk (.slice 90 tRow) x11 (k0 + (cnt (.slice 141 tIns) x1 : Nat) + (cnt (.slice 92 tOp) x2 : Nat) + (cnt (.slice 146 tSaved) x5 : Nat) + (cnt (.slice 90 tRow) x6 : Nat) + (cnt tInts x7 : Nat) + (cnt tInts x8 : Nat) + (cnt tInts x9 : Nat) + (cnt tInts x10 : Nat))), (x12, x13))))))))))))) := by
    first | exact h | (simpa only [mkt, cntt, Int.natCast_add, Int.natCast_zero, Int.add_zero, Int.zero_add, ← Int.add_assoc] using h)
  clear h
  obtain ⟨ap1, an1, aq1, ap2, an2, aq2, ap5, an5, aq5, ap6, an6, aq6, ap7, an7, aq7, ap8, an8, aq8, ap9, an9, aq9, ap10, an10, aq10, ap11, an11, aq11, ahcs, aw0, as1, as2, as5, as6, as7, as8, as9, as10, as11, aw12⟩ := fmStage hR2
  obtain rfl : cs = #[.int .i64 x0, .slice ap1 an1 aq1, .slice ap2 an2 aq2, .bool x3, .bool x4, .slice ap5 an5 aq5, .slice ap6 an6 aq6, .slice ap7 an7 aq7, .slice ap8 an8 aq8, .slice ap9 an9 aq9, .slice ap10 an10 aq10, .slice ap11 an11 aq11, .int .i64 x12, .bool x13] := arr_of ahcs
  clear ahcs
  have HA1 := Lib.hid as1; clear as1
  have HA2 := Lib.hid as2; clear as2
  have HA5 := Lib.hid as5; clear as5
  have HA6 := Lib.hid as6; clear as6
  have HA7 := Lib.hid as7; clear as7
  have HA8 := Lib.hid as8; clear as8
  have HA9 := Lib.hid as9; clear as9
  have HA10 := Lib.hid as10; clear as10
  have HA11 := Lib.hid as11; clear as11
  go_enter Try.func33, Try.ntmps33
  go_wp2_with fail
  refine (heldInsS_any _ _ _ _ x1 _ (by exact SlRd.below HA1.out belx) (by omega) (by omega)).mono ?_
  rintro e w91 ⟨rfl, b1⟩
  obtain ⟨u1, v1⟩ := bcell b1
  have y1 := b1.size
  try simp only [World.size_alloc, World.size_setCell] at u1 v1 y1
  have yy10 : w.heap.size < w91.heap.size := fcx
  have hnn1 : ¬ (k0 + (cnt (.slice 141 tIns) x1 : Nat) < 0) := by omega
  go_wp2_with fail
  refine (heldOpS_any _ _ _ _ x2 _ (by exact SlRd.below HA2.out belx) (by omega) (by omega)).mono ?_
  rintro e w92 ⟨rfl, b2⟩
  obtain ⟨u2, v2⟩ := bcell b2
  have y2 := b2.size
  try simp only [World.size_alloc, World.size_setCell] at u2 v2 y2
  have yy20 : w.heap.size < w92.heap.size := fcx
  have hnn2 : ¬ (k0 + (cnt (.slice 141 tIns) x1 : Nat) + (cnt (.slice 92 tOp) x2 : Nat) < 0) := by omega
  go_wp2_with fail
  refine (heldSavedS_any _ _ _ _ x5 _ (by exact SlRd.below HA5.out belx) (by omega) (by omega)).mono ?_
  rintro e w95 ⟨rfl, b5⟩
  obtain ⟨u5, v5⟩ := bcell b5
  have y5 := b5.size
  try simp only [World.size_alloc, World.size_setCell] at u5 v5 y5
  have yy50 : w.heap.size < w95.heap.size := fcx
  have hnn5 : ¬ (k0 + (cnt (.slice 141 tIns) x1 : Nat) + (cnt (.slice 92 tOp) x2 : Nat) + (cnt (.slice 146 tSaved) x5 : Nat) < 0) := by omega
  go_wp2_with fail
  refine (heldRowS_any _ _ _ _ x6 _ (by exact SlRd.below HA6.out belx) (by omega) (by omega)).mono ?_
  rintro e w96 ⟨rfl, b6⟩
  obtain ⟨u6, v6⟩ := bcell b6
  have y6 := b6.size
  try simp only [World.size_alloc, World.size_setCell] at u6 v6 y6
  have yy60 : w.heap.size < w96.heap.size := fcx
  have hnn6 : ¬ (k0 + (cnt (.slice 141 tIns) x1 : Nat) + (cnt (.slice 92 tOp) x2 : Nat) + (cnt (.slice 146 tSaved) x5 : Nat) + (cnt (.slice 90 tRow) x6 : Nat) < 0) := by omega
  go_wp2_with fail
  refine (heldIntS_any _ _ _ _ x7 _ (by exact SlRd.below HA7.out belx) (by omega) (by have := cnt_ints x7; omega)).mono ?_
  rintro e w97 ⟨rfl, b7⟩
  obtain ⟨u7, v7⟩ := bcell b7
  have y7 := b7.size
  try simp only [World.size_alloc, World.size_setCell] at u7 v7 y7
  have yy70 : w.heap.size < w97.heap.size := fcx
  have hnn7 : ¬ (k0 + (cnt (.slice 141 tIns) x1 : Nat) + (cnt (.slice 92 tOp) x2 : Nat) + (cnt (.slice 146 tSaved) x5 : Nat) + (cnt (.slice 90 tRow) x6 : Nat) + (cnt tInts x7 : Nat) < 0) := by omega
  go_wp2_with fail
  refine (heldIntS_any _ _ _ _ x8 _ (by exact SlRd.below HA8.out belx) (by omega) (by have := cnt_ints x8; omega)).mono ?_
  rintro e w98 ⟨rfl, b8⟩
  obtain ⟨u8, v8⟩ := bcell b8
  have y8 := b8.size
  try simp only [World.size_alloc, World.size_setCell] at u8 v8 y8
  have yy80 : w.heap.size < w98.heap.size := fcx
  have hnn8 : ¬ (k0 + (cnt (.slice 141 tIns) x1 : Nat) + (cnt (.slice 92 tOp) x2 : Nat) + (cnt (.slice 146 tSaved) x5 : Nat) + (cnt (.slice 90 tRow) x6 : Nat) + (cnt tInts x7 : Nat) + (cnt tInts x8 : Nat) < 0) := by omega
  go_wp2_with fail
  refine (heldIntS_any _ _ _ _ x9 _ (by exact SlRd.below HA9.out belx) (by omega) (by have := cnt_ints x9; omega)).mono ?_
  rintro e w99 ⟨rfl, b9⟩
  obtain ⟨u9, v9⟩ := bcell b9
  have y9 := b9.size
  try simp only [World.size_alloc, World.size_setCell] at u9 v9 y9
  have yy90 : w.heap.size < w99.heap.size := fcx
  have hnn9 : ¬ (k0 + (cnt (.slice 141 tIns) x1 : Nat) + (cnt (.slice 92 tOp) x2 : Nat) + (cnt (.slice 146 tSaved) x5 : Nat) + (cnt (.slice 90 tRow) x6 : Nat) + (cnt tInts x7 : Nat) + (cnt tInts x8 : Nat) + (cnt tInts x9 : Nat) < 0) := by omega
  go_wp2_with fail
  refine (heldIntS_any _ _ _ _ x10 _ (by exact SlRd.below HA10.out belx) (by omega) (by have := cnt_ints x10; omega)).mono ?_
  rintro e w910 ⟨rfl, b10⟩
  obtain ⟨u10, v10⟩ := bcell b10
  have y10 := b10.size
  try simp only [World.size_alloc, World.size_setCell] at u10 v10 y10
  have yy100 : w.heap.size < w910.heap.size := fcx
  have hnn10 : ¬ (k0 + (cnt (.slice 141 tIns) x1 : Nat) + (cnt (.slice 92 tOp) x2 : Nat) + (cnt (.slice 146 tSaved) x5 : Nat) + (cnt (.slice 90 tRow) x6 : Nat) + (cnt tInts x7 : Nat) + (cnt tInts x8 : Nat) + (cnt tInts x9 : Nat) + (cnt tInts x10 : Nat) < 0) := by omega
  go_wp2_with fail
  have ee11 : cntt tGrads (x11, (x12, x13)) = cnt (.slice 90 tRow) x11 := by first | rfl | (simp only [cntt]; omega)
  have eb11 : k0 + (cnt (.slice 141 tIns) x1 : Nat) + (cnt (.slice 92 tOp) x2 : Nat) + (cnt (.slice 146 tSaved) x5 : Nat) + (cnt (.slice 90 tRow) x6 : Nat) + (cnt tInts x7 : Nat) + (cnt tInts x8 : Nat) + (cnt tInts x9 : Nat) + (cnt tInts x10 : Nat) + (cntt tGrads (x11, (x12, x13)) : Nat) ≤ 1000000000000 := by rw [ee11]; omega
  refine (heldGrads_any _ _ (x11, (x12, x13)) _ (by exact ⟨[_], [_, _], rfl, ⟨_, _, _, rfl, SlRd.below HA11.out belx⟩, ⟨[_], [_], rfl, ⟨rfl, aw12⟩, rfl⟩⟩) (by omega) eb11).mono ?_
  rintro e w911 ⟨rfl, b11⟩
  rw [ee11]
  obtain ⟨u11, v11⟩ := bcell b11
  have y11 := b11.size
  try simp only [World.size_alloc, World.size_setCell] at u11 v11 y11
  have yy110 : w.heap.size < w911.heap.size := fcx
  have hnn11 : ¬ (k0 + (cnt (.slice 141 tIns) x1 : Nat) + (cnt (.slice 92 tOp) x2 : Nat) + (cnt (.slice 146 tSaved) x5 : Nat) + (cnt (.slice 90 tRow) x6 : Nat) + (cnt tInts x7 : Nat) + (cnt tInts x8 : Nat) + (cnt tInts x9 : Nat) + (cnt tInts x10 : Nat) + (cnt (.slice 90 tRow) x11 : Nat) < 0) := by omega
  go_wp2
  go_ret
  exact ⟨ret_int (by have hcx : cntt tStage (x0, (x1, (x2, (x3, (x4, (x5, (x6, (x7, (x8, (x9, (x10, (x11, (x12, x13))))))))))))) = cnt (.slice 141 tIns) x1 + cnt (.slice 92 tOp) x2 + cnt (.slice 146 tSaved) x5 + cnt (.slice 90 tRow) x6 + cnt tInts x7 + cnt tInts x8 + cnt tInts x9 + cnt tInts x10 + cnt (.slice 90 tRow) x11 := (show cntt tStage (x0, (x1, (x2, (x3, (x4, (x5, (x6, (x7, (x8, (x9, (x10, (x11, (x12, x13))))))))))))) = (0 + (cnt (.slice 141 tIns) x1 + (cnt (.slice 92 tOp) x2 + (0 + (0 + (cnt (.slice 146 tSaved) x5 + (cnt (.slice 90 tRow) x6 + (cnt tInts x7 + (cnt tInts x8 + (cnt tInts x9 + (cnt tInts x10 + (cnt (.slice 90 tRow) x11 + (0 + 0))))))))))))) from rfl).trans (by omega); rw [hcx]; try omega), belx⟩
end Go.Proofs.Ytepjkojfjdcegaa
