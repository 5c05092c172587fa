/- The laws' own helpers over Model: copy, compare, count, mark, look at the marks. -/
import Derived.Test.YtllphmcjocidaaaGreatDoorTOp
namespace Go.Proofs.YtllphmcjocidaaaGreatDoor
open Go.ChangeShapes Go.WideShapes Go.ChangeAt Go.RowKit
set_option linter.unusedVariables false
set_option linter.unusedSimpArgs false




set_option maxHeartbeats 1000000 in
set_option maxRecDepth 100000 in
theorem eqModel_any (ca cb : Array Value) (d : tModel.D) (w : World) (ha : rd tModel w ca.toList d) (hb : rd tModel w cb.toList d) :
    Calls Tryz.prog 7 #[.agg ca, .agg cb] w (RetV (.bool true) w) := by
  obtain ⟨x0, hx0⟩ : ∃ y, y = d := ⟨_, rfl⟩
  subst hx0
  obtain ⟨ap0, an0, aq0, ahcs, as0⟩ := ha
  obtain ⟨bp0, bn0, bq0, bhcs, bs0⟩ := hb
  obtain rfl : ca = #[.slice ap0 an0 aq0] := arr_of ahcs
  obtain rfl : cb = #[.slice bp0 bn0 bq0] := arr_of bhcs
  clear ahcs bhcs
  go_enter Tryz.func7, Tryz.ntmps7
  go_wp2_with fail
  refine (eqOpS_any _ _ _ _ _ _ x0 _ (by exact as0.below belx) (by exact bs0.below belx)).mono ?_
  rintro e w90 ⟨rfl, b0⟩
  obtain ⟨u0, v0⟩ := bcell b0
  have y0 := b0.size
  try simp only [World.size_alloc, World.size_setCell] at u0 v0 y0
  have yy00 : w.heap.size < w90.heap.size := fcx
  have yy01 : w.heap.size + 1 < w90.heap.size := fcx
  go_wp2
  go_ret
  exact ⟨rfl, belx⟩


end Go.Proofs.YtllphmcjocidaaaGreatDoor
