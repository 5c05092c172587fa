/- ShowPipe: what both tell. -/
import Derived.Test.YtbbbpbioehnblaaGreatShowPS
import Derived.Test.YtbbbpbioehnblaaGreatCe
import Derived.Test.YtbbbpbioehnblaaGreatTPipe
namespace Go.Proofs.YtbbbpbioehnblaaGreat
open Go.ChangeShapes Go.WideShapes Go.ChangeAt Go.RowKit Go.Deep
set_option linter.unusedVariables false
set_option linter.unusedSimpArgs false
theorem showPipe_both (d0 : Ty.D tPipe) (hz0 : ((szT tPipe d0 : Nat) : Int) ≤ (1048576 : Int)) :
    ∃ (R0 : ByteArray), (∀ (cs0 : Array Value) (w : World), rd tPipe w cs0.toList d0 → Calls Tryz.prog 7 #[.agg cs0] w (fun e w' => e = .returned (.string R0) ∧ Below w.heap.size w w')) ∧
      (∀ (cs0 : Array Value) (w : World), rd tPipe w cs0.toList d0 → Calls Tryz.prog 9 #[.agg cs0] w (fun e w' => e = .returned (.string R0) ∧ Below w.heap.size w w')) := by
  obtain ⟨hpS, hpI⟩ := p_ShowPipe d0 hz0
  refine ⟨(pipeS d0), fun cs0 w r0 => ?_, fun cs0 w r0 => ?_⟩
  · have hA : argsRd w c_s_ShowPipe.ams [.agg cs0] (parts (c_s_ShowPipe.ams.map (·.mv.t)) (SV.as _ ⟨c_s_ShowPipe.argTy, d0⟩)) := by
      have e : SV.as (packTy (c_s_ShowPipe.ams.map (·.mv.t))) ⟨c_s_ShowPipe.argTy, d0⟩ = d0 := SV.as_self _ _
      rw [e]
      exact (argsRd.cons rfl (by simp [mkV, Value.cells]) r0 argsRd.nil)
    have hg := h_s_ShowPipe.givesL rfl (x := d0) hpS (RdG.okD (RdG.of_rd r0)) hA
    have e : SV.as (packTy (c_s_ShowPipe.rms.map (·.t))) ⟨c_s_ShowPipe.resTy, c_s_ShowPipe.fn d0⟩ = pipeS d0 := SV.as_self _ _
    rw [e] at hg
    refine hg.mono fun e w' hh => ?_
    clear hg
    obtain ⟨rs, bl, he, ho, hn, hb, bel⟩ := hh
    obtain ⟨r0, rs0, b0, bb0, rfl, rfl, k0, ho⟩ := OutsV.inv ho
    obtain ⟨rfl, rfl⟩ := ho
    have e0 := k0.str
    exact ⟨he.trans (congrArg (fun l => Ending.returned (retV l)) (congr (congrArg List.cons e0) rfl)), bel⟩
  · have hA : argsRd w c_i_ShowPipe.ams [.agg cs0] (parts (c_i_ShowPipe.ams.map (·.mv.t)) (SV.as _ ⟨c_i_ShowPipe.argTy, d0⟩)) := by
      have e : SV.as (packTy (c_i_ShowPipe.ams.map (·.mv.t))) ⟨c_i_ShowPipe.argTy, d0⟩ = d0 := SV.as_self _ _
      rw [e]
      exact (argsRd.cons rfl (by simp [mkV, Value.cells]) r0 argsRd.nil)
    have hg := h_i_ShowPipe.givesL rfl (x := d0) hpI (RdG.okD (RdG.of_rd r0)) hA
    have e : SV.as (packTy (c_i_ShowPipe.rms.map (·.t))) ⟨c_i_ShowPipe.resTy, c_i_ShowPipe.fn d0⟩ = pipeS d0 := SV.as_self _ _
    rw [e] at hg
    refine hg.mono fun e w' hh => ?_
    clear hg
    obtain ⟨rs, bl, he, ho, hn, hb, bel⟩ := hh
    obtain ⟨r0, rs0, b0, bb0, rfl, rfl, k0, ho⟩ := OutsV.inv ho
    obtain ⟨rfl, rfl⟩ := ho
    have e0 := k0.str
    exact ⟨he.trans (congrArg (fun l => Ending.returned (retV l)) (congr (congrArg List.cons e0) rfl)), bel⟩
end Go.Proofs.YtbbbpbioehnblaaGreat
