/- Marks over rows that are met once: Op. -/
import Derived.Test.YtahggdiafncdhaaDoorTOp
import Derived.Test.YtahggdiafncdhaaDoorUPath
namespace Go.Proofs.YtahggdiafncdhaaDoor
open Go.ChangeShapes Go.WideShapes Go.ChangeAt Go.RowKit
set_option linter.unusedVariables false
set_option linter.unusedSimpArgs false

set_option maxHeartbeats 4000000 in
set_option maxRecDepth 100000 in
theorem markOp_un (cs : Array Value) (k0 : Int) (d : tOp.D) (bl : List Nat) (w : World) (h : Un tOp w cs.toList d bl) (hnd : bl.Nodup) (h0 : 0 ≤ k0) (h1 : k0 + (cntt tOp d : Nat) ≤ 1000000000000) :
    Calls Tryd.prog 24 #[.agg cs, .int .i64 k0] w (RetUt tOp w cs.toList (mkt tOp d k0) bl (k0 + (cntt tOp d : Nat))) := by
  obtain ⟨x0, ⟨x1, ⟨x2, x3⟩⟩⟩ := d
  have hcx : cntt tOp (x0, (x1, (x2, x3))) = cnt tInts x3 := by first | rfl | (show 0 + (0 + (0 + cnt tInts x3)) = cnt tInts x3; omega)
  rw [hcx] at h1
  clear hcx
  obtain ⟨sp3, sn3, sq3, shcs, sw0, sw1, sw2, ss3⟩ := fmOp (un_rd h)
  obtain rfl : cs = #[.int .i64 x0, .int .i64 x1, .int .i64 x2, .slice sp3 sn3 sq3] := arr_of shcs
  clear shcs
  have hbl := un_lt _ _ _ _ _ h
  have HH := Lib.hid h
  go_enter Tryd.func24, Tryd.ntmps24
  obtain ⟨bu3, hR3, hn3, hs3, hA3⟩ := un_top HH.out hnd [true, true, true]
  have hq3 : Un tInts w [.slice sp3 sn3 sq3] x3 bu3 := hR3
  have HA3 := Lib.hid hA3; have HQ3 := Lib.hid hq3; clear hA3 hR3 hq3
  go_wp2_with fail
  refine (markIntS_un _ _ _ _ x3 _ _ (by exact (Un.keep _ _ _ _ (fun q hq => Below.heap_alloc _ _ _ (hbl q (hs3 q hq))) HQ3.out)) hn3 (by omega) (by have := cnt_ints x3; omega)).mono ?_
  rintro e w93 ⟨rfl, rp3, on3⟩
  have HU1 := Lib.hid (HA3.out w93 _ (fun q hq hz => (on3.block q hq (by simp; omega)).trans (Below.heap_alloc _ _ _ hz)) rp3)
  have O1 : Only bl w w93 := Only.trans (Only.alloc (Only.refl _ w) _) (on3.mono hs3)
  have HB1 := Lib.hid (fun (a : Addr) (ha : a.block = w.heap.size) => on3.cell (a := a) (fun hm => by have := hbl _ (hs3 _ hm); omega) (by rw [ha]; simp))
  have zb1 : w.heap.size < w93.heap.size := by have := on3.size; (try simp at this); omega
  clear HA3 HQ3 rp3
  go_wp2
  go_ret
  exact ⟨ret_int (by have hcx : cntt tOp (x0, (x1, (x2, x3))) = cnt tInts x3 := (by first | rfl | (show 0 + (0 + (0 + cnt tInts x3)) = cnt tInts x3; omega)); rw [hcx]; try omega), (by have hh := HU1.out; first | exact hh | (have e9 : mkt tOp (x0, (x1, (x2, x3))) k0 = (x0, (x1, (x2, (mk tInts x3 (k0))))) := (by simp only [mkt, cntt, Int.natCast_add, Int.natCast_zero, Int.add_zero, Int.zero_add, ← Int.add_assoc]); rw [e9]; exact hh)), O1⟩


set_option maxHeartbeats 4000000 in
set_option maxRecDepth 100000 in
theorem heldOp_any (cs : Array Value) (k0 : Int) (d : tOp.D) (w : World) (h : rd tOp w cs.toList (mkt tOp d k0)) (h0 : 0 ≤ k0) (h1 : k0 + (cntt tOp d : Nat) ≤ 1000000000000) :
    Calls Tryd.prog 25 #[.agg cs, .int .i64 k0] w (RetV (.int .i64 (k0 + (cntt tOp d : Nat))) w) := by
  obtain ⟨x0, ⟨x1, ⟨x2, x3⟩⟩⟩ := d
  have hcx : cntt tOp (x0, (x1, (x2, x3))) = cnt tInts x3 := by first | rfl | (show 0 + (0 + (0 + cnt tInts x3)) = cnt tInts x3; omega)
  rw [hcx] at h1
  clear hcx
  have hR2 : rd tOp w cs.toList (x0, (x1, (x2, (mk tInts x3 (k0))))) := by
    first | exact h | (simpa only [mkt, cntt, Int.natCast_add, Int.natCast_zero, Int.add_zero, Int.zero_add, ← Int.add_assoc] using h)
  clear h
  obtain ⟨ap3, an3, aq3, ahcs, aw0, aw1, aw2, as3⟩ := fmOp hR2
  obtain rfl : cs = #[.int .i64 x0, .int .i64 x1, .int .i64 x2, .slice ap3 an3 aq3] := arr_of ahcs
  clear ahcs
  have HA3 := Lib.hid as3; clear as3
  go_enter Tryd.func25, Tryd.ntmps25
  go_wp2_with fail
  refine (heldIntS_any _ _ _ _ x3 _ (by exact SlRd.below HA3.out belx) (by omega) (by have := cnt_ints x3; omega)).mono ?_
  rintro e w93 ⟨rfl, b3⟩
  obtain ⟨u3, v3⟩ := bcell b3
  have y3 := b3.size
  try simp only [World.size_alloc, World.size_setCell] at u3 v3 y3
  have yy30 : w.heap.size < w93.heap.size := fcx
  have hnn3 : ¬ (k0 + (cnt tInts x3 : Nat) < 0) := by omega
  go_wp2
  go_ret
  exact ⟨ret_int (by have hcx : cntt tOp (x0, (x1, (x2, x3))) = cnt tInts x3 := (by first | rfl | (show 0 + (0 + (0 + cnt tInts x3)) = cnt tInts x3; omega)); rw [hcx]; try omega), belx⟩

end Go.Proofs.YtahggdiafncdhaaDoor
