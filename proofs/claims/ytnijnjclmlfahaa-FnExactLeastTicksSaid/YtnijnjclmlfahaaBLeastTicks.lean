/- LeastTicks: what both tell. -/
import Derived.Test.YtnijnjclmlfahaaTickS
import Derived.Test.YtnijnjclmlfahaaCe
import Derived.Test.YtnijnjclmlfahaaTConfig
namespace Go.Proofs.Ytnijnjclmlfahaa
open Go.ChangeShapes Go.WideShapes Go.ChangeAt Go.RowKit Go.Deep
set_option linter.unusedVariables false
set_option linter.unusedSimpArgs false
theorem leastTicks_both (d0 : Ty.D tConfig) (x1 : Int) (h1 : (Lit.int .i64 x1).wf = true) (hz0 : ((szT tConfig d0 : Nat) : Int) ≤ (1048576 : Int)) :
    ∃ (R0 : Int), (∀ (cs0 : Array Value) (w : World), rd tConfig w cs0.toList d0 → Calls Try.prog 45 #[.agg cs0, .int .i64 x1] w (fun e w' => e = .returned (.int .i64 R0) ∧ Below w.heap.size w w')) ∧
      (∀ (cs0 : Array Value) (w : World), rd tConfig w cs0.toList d0 → Calls Try.prog 47 #[.agg cs0, .int .i64 x1] w (fun e w' => e = .returned (.int .i64 R0) ∧ Below w.heap.size w w')) := by
  obtain ⟨hpS, hpI⟩ := p_LeastTicks d0 x1 hz0
  refine ⟨((fun x => ticksF x.1 x.2) (d0, x1)), fun cs0 w r0 => ?_, fun cs0 w r0 => ?_⟩
  · have hA : argsRd w c_s_LeastTicks.ams [.agg cs0, .int .i64 x1] (parts (c_s_LeastTicks.ams.map (·.mv.t)) (SV.as _ ⟨c_s_LeastTicks.argTy, (d0, x1)⟩)) := by
      have e : SV.as (packTy (c_s_LeastTicks.ams.map (·.mv.t))) ⟨c_s_LeastTicks.argTy, (d0, x1)⟩ = (d0, x1) := SV.as_self _ _
      rw [e]
      exact (argsRd.cons rfl (by simp [mkV, Value.cells]) r0 (argsRd.cons rfl rfl (show rd (.int .i64) w [.int .i64 x1] x1 from ⟨rfl, h1⟩) argsRd.nil))
    have hg := h_s_LeastTicks.givesL rfl (x := (d0, x1)) hpS ⟨RdG.okD (RdG.of_rd r0), RdG.okD (RdG.of_rd (show rd (.int .i64) w [.int .i64 x1] x1 from ⟨rfl, h1⟩))⟩ hA
    have e : SV.as (packTy (c_s_LeastTicks.rms.map (·.t))) ⟨c_s_LeastTicks.resTy, c_s_LeastTicks.fn (d0, x1)⟩ = (fun x => ticksF x.1 x.2) (d0, x1) := SV.as_self _ _
    rw [e] at hg
    refine hg.mono fun e w' hh => ?_
    clear hg
    obtain ⟨rs, bl, he, ho, hn, hb, bel⟩ := hh
    obtain ⟨r0, rs0, b0, bb0, rfl, rfl, k0, ho⟩ := OutsV.inv ho
    obtain ⟨rfl, rfl⟩ := ho
    have e0 := k0.int
    exact ⟨he.trans (congrArg (fun l => Ending.returned (retV l)) (congr (congrArg List.cons e0) rfl)), bel⟩
  · have hA : argsRd w c_i_LeastTicks.ams [.agg cs0, .int .i64 x1] (parts (c_i_LeastTicks.ams.map (·.mv.t)) (SV.as _ ⟨c_i_LeastTicks.argTy, (d0, x1)⟩)) := by
      have e : SV.as (packTy (c_i_LeastTicks.ams.map (·.mv.t))) ⟨c_i_LeastTicks.argTy, (d0, x1)⟩ = (d0, x1) := SV.as_self _ _
      rw [e]
      exact (argsRd.cons rfl (by simp [mkV, Value.cells]) r0 (argsRd.cons rfl rfl (show rd (.int .i64) w [.int .i64 x1] x1 from ⟨rfl, h1⟩) argsRd.nil))
    have hg := h_i_LeastTicks.givesL rfl (x := (d0, x1)) hpI ⟨RdG.okD (RdG.of_rd r0), RdG.okD (RdG.of_rd (show rd (.int .i64) w [.int .i64 x1] x1 from ⟨rfl, h1⟩))⟩ hA
    have e : SV.as (packTy (c_i_LeastTicks.rms.map (·.t))) ⟨c_i_LeastTicks.resTy, c_i_LeastTicks.fn (d0, x1)⟩ = (fun x => ticksF x.1 x.2) (d0, x1) := SV.as_self _ _
    rw [e] at hg
    refine hg.mono fun e w' hh => ?_
    clear hg
    obtain ⟨rs, bl, he, ho, hn, hb, bel⟩ := hh
    obtain ⟨r0, rs0, b0, bb0, rfl, rfl, k0, ho⟩ := OutsV.inv ho
    obtain ⟨rfl, rfl⟩ := ho
    have e0 := k0.int
    exact ⟨he.trans (congrArg (fun l => Ending.returned (retV l)) (congr (congrArg List.cons e0) rfl)), bel⟩
end Go.Proofs.Ytnijnjclmlfahaa
