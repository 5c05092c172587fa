/- The walk of FnExactShowModel, out of what its code tells. -/
import Derived.Test.YtahggdiafncdhaaDoorDec5
import Derived.Test.YtahggdiafncdhaaDoorCe
namespace Go.Proofs.YtahggdiafncdhaaDoor
open Go.ChangeShapes Go.WideShapes Go.ChangeAt Go.RowKit Go.Deep
set_option linter.unusedVariables false
set_option linter.unusedSimpArgs false
theorem fnExactShowModel_walk (w : World) (ht : tabP.p w) (cs0 : Array Value) (d0 : Ty.D tModel) (h0 : rd tModel w cs0.toList d0) :
    Calls Tryd.prog 5 #[.agg cs0] w fun e w' => e = .returned (.bool true) ∧ Below w.heap.size w w' := by
  have hA : argsRd w c_w_FnExactShowModel.ams [.agg cs0] (parts (c_w_FnExactShowModel.ams.map (·.mv.t)) (SV.as _ ⟨c_w_FnExactShowModel.argTy, d0⟩)) := by
    have e : SV.as (packTy (c_w_FnExactShowModel.ams.map (·.mv.t))) ⟨c_w_FnExactShowModel.argTy, d0⟩ = d0 := SV.as_self _ _
    rw [e]
    exact (argsRd.cons rfl (by simp [mkV, Value.cells]) h0 argsRd.nil)
  have hg := h_w_FnExactShowModel.givesL rfl (x := d0) trivial (RdG.okD (RdG.of_rd h0)) hA rfl ht
  have e : SV.as (packTy (c_w_FnExactShowModel.rms.map (·.t))) ⟨c_w_FnExactShowModel.resTy, c_w_FnExactShowModel.fn d0⟩ = true := SV.as_self _ _
  rw [e] at hg
  refine hg.mono fun e w' hh => ?_
  clear hg
  obtain ⟨rs, bl, he, ho, hn, hb, bel⟩ := hh
  obtain ⟨r0, rs0, b0, bb0, rfl, rfl, k0, ho⟩ := OutsV.inv ho
  obtain ⟨rfl, rfl⟩ := ho
  have e0 := k0.bool
  exact ⟨he.trans (congrArg (fun l => Ending.returned (retV l)) (congr (congrArg List.cons e0) rfl)), bel⟩
end Go.Proofs.YtahggdiafncdhaaDoor
