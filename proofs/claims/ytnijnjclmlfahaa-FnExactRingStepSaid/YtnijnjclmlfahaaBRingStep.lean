/- RingStep: what both tell. -/
import Derived.Test.YtnijnjclmlfahaaRingS
import Derived.Test.YtnijnjclmlfahaaCe
import Derived.Test.YtnijnjclmlfahaaTRing
namespace Go.Proofs.Ytnijnjclmlfahaa
open Go.ChangeShapes Go.WideShapes Go.ChangeAt Go.RowKit Go.Deep
set_option linter.unusedVariables false
set_option linter.unusedSimpArgs false
theorem ringStep_both (d0 : Ty.D tRing) (hz0 : ((szT tRing d0 : Nat) : Int) ≤ (1048576 : Int)) :
    ∃ (R0 : Ty.D tRing), (∀ (cs0 : Array Value) (w : World), rd tRing w cs0.toList d0 → Calls Try.prog 41 #[.agg cs0] w (fun e w' => ∃ (rs0 : Array Value), e = .returned (.agg rs0) ∧ FrR tRing w.heap.size w'.heap.size w' rs0.toList R0 ∧ Below w.heap.size w w')) ∧
      (∀ (cs0 : Array Value) (w : World), rd tRing w cs0.toList d0 → Calls Try.prog 43 #[.agg cs0] w (fun e w' => ∃ (rs0 : Array Value), e = .returned (.agg rs0) ∧ FrA tRing w.heap.size w'.heap.size w' rs0.toList R0 ∧ Below w.heap.size w w')) ∧ (cntt tRing R0 : Int) ≤ 1000000000 := by
  obtain ⟨hpS, hpI⟩ := p_RingStep d0 hz0
  refine ⟨(ringStep d0), fun cs0 w r0 => ?_, fun cs0 w r0 => ?_, q_RingStep d0 hz0⟩
  · have hA : argsRd w c_s_RingStep.ams [.agg cs0] (parts (c_s_RingStep.ams.map (·.mv.t)) (SV.as _ ⟨c_s_RingStep.argTy, d0⟩)) := by
      have e : SV.as (packTy (c_s_RingStep.ams.map (·.mv.t))) ⟨c_s_RingStep.argTy, d0⟩ = d0 := SV.as_self _ _
      rw [e]
      exact (argsRd.cons rfl (by simp [mkV, Value.cells]) r0 argsRd.nil)
    have hg := h_s_RingStep.givesL rfl (x := d0) hpS (RdG.okD (RdG.of_rd r0)) hA
    have e : SV.as (packTy (c_s_RingStep.rms.map (·.t))) ⟨c_s_RingStep.resTy, c_s_RingStep.fn d0⟩ = ringStep d0 := SV.as_self _ _
    rw [e] at hg
    refine hg.mono fun e w' hh => ?_
    clear hg
    obtain ⟨rs, bl, he, ho, hn, hb, bel⟩ := hh
    obtain ⟨r0, rs0, b0, bb0, rfl, rfl, k0, ho⟩ := OutsV.inv ho
    obtain ⟨rfl, rfl⟩ := ho
    obtain ⟨e0, f0⟩ := k0.agR
    exact ⟨_, he.trans (congrArg (fun l => Ending.returned (retV l)) (congr (congrArg List.cons e0) rfl)), f0, bel⟩
  · have hA : argsRd w c_i_RingStep.ams [.agg cs0] (parts (c_i_RingStep.ams.map (·.mv.t)) (SV.as _ ⟨c_i_RingStep.argTy, d0⟩)) := by
      have e : SV.as (packTy (c_i_RingStep.ams.map (·.mv.t))) ⟨c_i_RingStep.argTy, d0⟩ = d0 := SV.as_self _ _
      rw [e]
      exact (argsRd.cons rfl (by simp [mkV, Value.cells]) r0 argsRd.nil)
    have hg := h_i_RingStep.givesL rfl (x := d0) hpI (RdG.okD (RdG.of_rd r0)) hA
    have e : SV.as (packTy (c_i_RingStep.rms.map (·.t))) ⟨c_i_RingStep.resTy, c_i_RingStep.fn d0⟩ = ringStep d0 := SV.as_self _ _
    rw [e] at hg
    refine hg.mono fun e w' hh => ?_
    clear hg
    obtain ⟨rs, bl, he, ho, hn, hb, bel⟩ := hh
    obtain ⟨r0, rs0, b0, bb0, rfl, rfl, k0, ho⟩ := OutsV.inv ho
    obtain ⟨rfl, rfl⟩ := ho
    obtain ⟨e0, f0⟩ := k0.agA rfl (hn.sublist (List.sublist_append_left _ _)) (fun b h => hb b ((List.sublist_append_left _ _).subset h))
    exact ⟨_, he.trans (congrArg (fun l => Ending.returned (retV l)) (congr (congrArg List.cons e0) rfl)), f0, bel⟩
end Go.Proofs.Ytnijnjclmlfahaa
