/- Marks over rows that are met once: Model. -/
import Derived.Test.YtllphmcjocidaaaGreatDoorTModel
import Derived.Test.YtllphmcjocidaaaGreatDoorUPath
import Derived.Test.YtllphmcjocidaaaGreatDoorUOp
namespace Go.Proofs.YtllphmcjocidaaaGreatDoor
open Go.ChangeShapes Go.WideShapes Go.ChangeAt Go.RowKit
set_option linter.unusedVariables false
set_option linter.unusedSimpArgs false

set_option maxHeartbeats 4000000 in
set_option maxRecDepth 100000 in
theorem markModel_un (cs : Array Value) (k0 : Int) (d : tModel.D) (bl : List Nat) (w : World) (h : Un tModel w cs.toList d bl) (hnd : bl.Nodup) (h0 : 0 ≤ k0) (h1 : k0 + (cntt tModel d : Nat) ≤ 1000000000000) :
    Calls Tryz.prog 8 #[.agg cs, .int .i64 k0] w (RetUt tModel w cs.toList (mkt tModel d k0) bl (k0 + (cntt tModel d : Nat))) := by
  obtain ⟨x0, hx0⟩ : ∃ y, y = d := ⟨_, rfl⟩
  subst hx0
  have hcx : cntt tModel x0 = cnt (.slice 34 tOp) x0 := by first | rfl | (simp only [cntt]; omega)
  rw [hcx] at h1
  clear hcx
  obtain ⟨sp0, sn0, sq0, shcs⟩ := un_form h
  obtain rfl : cs = #[.slice sp0 sn0 sq0] := arr_of shcs
  clear shcs
  have hbl := un_lt _ _ _ _ _ h
  have HH := Lib.hid h
  go_enter Tryz.func8, Tryz.ntmps8
  obtain ⟨bu0, hR0, hn0, hs0, hA0⟩ := un_top HH.out hnd []
  have hq0 : Un (.slice 34 tOp) w [.slice sp0 sn0 sq0] x0 bu0 := hR0
  have HA0 := Lib.hid hA0; have HQ0 := Lib.hid hq0; clear hA0 hR0 hq0
  go_wp2_with fail
  refine (markOpS_un _ _ _ _ x0 _ _ (by exact (Un.keep _ _ _ _ (fun q hq => Below.heap_alloc _ _ _ (hbl q (hs0 q hq))) HQ0.out)) hn0 (by omega) (by omega)).mono ?_
  rintro e w90 ⟨rfl, rp0, on0⟩
  have HU1 := Lib.hid (HA0.out w90 _ (fun q hq hz => (on0.block q hq (by simp; omega)).trans (Below.heap_alloc _ _ _ hz)) rp0)
  have O1 : Only bl w w90 := Only.trans (Only.alloc (Only.refl _ w) _) (on0.mono hs0)
  have HB1 := Lib.hid (fun (a : Addr) (ha : a.block = w.heap.size) => on0.cell (a := a) (fun hm => by have := hbl _ (hs0 _ hm); omega) (by rw [ha]; simp))
  have zb1 : w.heap.size < w90.heap.size := by have := on0.size; (try simp at this); omega
  clear HA0 HQ0 rp0
  go_wp2
  go_ret
  exact ⟨ret_int (by have hcx : cntt tModel x0 = cnt (.slice 34 tOp) x0 := (by first | rfl | (simp only [cntt]; omega)); rw [hcx]; try omega), (by have hh := HU1.out; first | exact hh | (have e9 : mkt tModel x0 k0 = (mk (.slice 34 tOp) x0 (k0)) := (by simp only [mkt, cntt, Int.natCast_add, Int.natCast_zero, Int.add_zero, Int.zero_add, ← Int.add_assoc]); rw [e9]; exact hh)), O1⟩


set_option maxHeartbeats 4000000 in
set_option maxRecDepth 100000 in
theorem heldModel_any (cs : Array Value) (k0 : Int) (d : tModel.D) (w : World) (h : rd tModel w cs.toList (mkt tModel d k0)) (h0 : 0 ≤ k0) (h1 : k0 + (cntt tModel d : Nat) ≤ 1000000000000) :
    Calls Tryz.prog 9 #[.agg cs, .int .i64 k0] w (RetV (.int .i64 (k0 + (cntt tModel d : Nat))) w) := by
  obtain ⟨x0, hx0⟩ : ∃ y, y = d := ⟨_, rfl⟩
  subst hx0
  have hcx : cntt tModel x0 = cnt (.slice 34 tOp) x0 := by first | rfl | (simp only [cntt]; omega)
  rw [hcx] at h1
  clear hcx
  have hR2 : rd tModel w cs.toList (mk (.slice 34 tOp) x0 (k0)) := by
    first | exact h | (simpa only [mkt, cntt, Int.natCast_add, Int.natCast_zero, Int.add_zero, Int.zero_add, ← Int.add_assoc] using h)
  clear h
  obtain ⟨ap0, an0, aq0, ahcs, as0⟩ := hR2
  obtain rfl : cs = #[.slice ap0 an0 aq0] := arr_of ahcs
  clear ahcs
  have HA0 := Lib.hid as0; clear as0
  go_enter Tryz.func9, Tryz.ntmps9
  go_wp2_with fail
  refine (heldOpS_any _ _ _ _ x0 _ (by exact SlRd.below HA0.out belx) (by omega) (by omega)).mono ?_
  rintro e w90 ⟨rfl, b0⟩
  obtain ⟨u0, v0⟩ := bcell b0
  have y0 := b0.size
  try simp only [World.size_alloc, World.size_setCell] at u0 v0 y0
  have yy00 : w.heap.size < w90.heap.size := fcx
  have hnn0 : ¬ (k0 + (cnt (.slice 34 tOp) x0 : Nat) < 0) := by omega
  go_wp2
  go_ret
  exact ⟨ret_int (by have hcx : cntt tModel x0 = cnt (.slice 34 tOp) x0 := (by first | rfl | (simp only [cntt]; omega)); rw [hcx]; try omega), belx⟩

end Go.Proofs.YtllphmcjocidaaaGreatDoor
