/- SamePipe: what both tell. -/
import Derived.Test.YtbbbpbioehnblaaSameS
import Derived.Test.YtbbbpbioehnblaaCe
import Derived.Test.YtbbbpbioehnblaaTPipe
namespace Go.Proofs.Ytbbbpbioehnblaa
open Go.ChangeShapes Go.WideShapes Go.ChangeAt Go.RowKit Go.Deep
set_option linter.unusedVariables false
set_option linter.unusedSimpArgs false
theorem samePipe_both (d0 : Ty.D tPipe) (d1 : Ty.D tPipe) (hz0 : ((szT tPipe d0 : Nat) : Int) ≤ (1048576 : Int)) (hz1 : ((szT tPipe d1 : Nat) : Int) ≤ (1048576 : Int) - (szT tPipe d0 : Nat)) :
    ∃ (R0 : Bool), (∀ (cs0 : Array Value) (cs1 : Array Value) (w : World), rd tPipe w cs0.toList d0 → rd tPipe w cs1.toList d1 → Calls Try.prog 7 #[.agg cs0, .agg cs1] w (fun e w' => e = .returned (.bool R0) ∧ Below w.heap.size w w')) ∧
      (∀ (cs0 : Array Value) (cs1 : Array Value) (w : World), rd tPipe w cs0.toList d0 → rd tPipe w cs1.toList d1 → Calls Try.prog 9 #[.agg cs0, .agg cs1] w (fun e w' => e = .returned (.bool R0) ∧ Below w.heap.size w w')) := by
  obtain ⟨hpS, hpI⟩ := p_SamePipe d0 d1 hz0 hz1
  refine ⟨((fun x => eqB x.1 x.2) (d0, d1)), fun cs0 cs1 w r0 r1 => ?_, fun cs0 cs1 w r0 r1 => ?_⟩
  · have hA : argsRd w c_s_SamePipe.ams [.agg cs0, .agg cs1] (parts (c_s_SamePipe.ams.map (·.mv.t)) (SV.as _ ⟨c_s_SamePipe.argTy, (d0, d1)⟩)) := by
      have e : SV.as (packTy (c_s_SamePipe.ams.map (·.mv.t))) ⟨c_s_SamePipe.argTy, (d0, d1)⟩ = (d0, d1) := SV.as_self _ _
      rw [e]
      exact (argsRd.cons rfl (by simp [mkV, Value.cells]) r0 (argsRd.cons rfl (by simp [mkV, Value.cells]) r1 argsRd.nil))
    have hg := h_s_SamePipe.givesL rfl (x := (d0, d1)) hpS ⟨RdG.okD (RdG.of_rd r0), RdG.okD (RdG.of_rd r1)⟩ hA
    have e : SV.as (packTy (c_s_SamePipe.rms.map (·.t))) ⟨c_s_SamePipe.resTy, c_s_SamePipe.fn (d0, d1)⟩ = (fun x => eqB x.1 x.2) (d0, d1) := SV.as_self _ _
    rw [e] at hg
    refine hg.mono fun e w' hh => ?_
    clear hg
    obtain ⟨rs, bl, he, ho, hn, hb, bel⟩ := hh
    obtain ⟨r0, rs0, b0, bb0, rfl, rfl, k0, ho⟩ := OutsV.inv ho
    obtain ⟨rfl, rfl⟩ := ho
    have e0 := k0.bool
    exact ⟨he.trans (congrArg (fun l => Ending.returned (retV l)) (congr (congrArg List.cons e0) rfl)), bel⟩
  · have hA : argsRd w c_i_SamePipe.ams [.agg cs0, .agg cs1] (parts (c_i_SamePipe.ams.map (·.mv.t)) (SV.as _ ⟨c_i_SamePipe.argTy, (d0, d1)⟩)) := by
      have e : SV.as (packTy (c_i_SamePipe.ams.map (·.mv.t))) ⟨c_i_SamePipe.argTy, (d0, d1)⟩ = (d0, d1) := SV.as_self _ _
      rw [e]
      exact (argsRd.cons rfl (by simp [mkV, Value.cells]) r0 (argsRd.cons rfl (by simp [mkV, Value.cells]) r1 argsRd.nil))
    have hg := h_i_SamePipe.givesL rfl (x := (d0, d1)) hpI ⟨RdG.okD (RdG.of_rd r0), RdG.okD (RdG.of_rd r1)⟩ hA
    have e : SV.as (packTy (c_i_SamePipe.rms.map (·.t))) ⟨c_i_SamePipe.resTy, c_i_SamePipe.fn (d0, d1)⟩ = (fun x => eqB x.1 x.2) (d0, d1) := SV.as_self _ _
    rw [e] at hg
    refine hg.mono fun e w' hh => ?_
    clear hg
    obtain ⟨rs, bl, he, ho, hn, hb, bel⟩ := hh
    obtain ⟨r0, rs0, b0, bb0, rfl, rfl, k0, ho⟩ := OutsV.inv ho
    obtain ⟨rfl, rfl⟩ := ho
    have e0 := k0.bool
    exact ⟨he.trans (congrArg (fun l => Ending.returned (retV l)) (congr (congrArg List.cons e0) rfl)), bel⟩
end Go.Proofs.Ytbbbpbioehnblaa
