/- SwingNew: what both tell. -/
import Derived.Test.YtnijnjclmlfahaaZeroS
import Derived.Test.YtnijnjclmlfahaaCe
import Derived.Test.YtnijnjclmlfahaaTModel
import Derived.Test.YtnijnjclmlfahaaTSwing
namespace Go.Proofs.Ytnijnjclmlfahaa
open Go.ChangeShapes Go.WideShapes Go.ChangeAt Go.RowKit Go.Deep
set_option linter.unusedVariables false
set_option linter.unusedSimpArgs false
theorem swingNew_both (d0 : Ty.D tModel) (hz0 : ((szT tModel d0 : Nat) : Int) ≤ (1048576 : Int)) :
    ∃ (R0 : Ty.D tSwing), (∀ (cs0 : Array Value) (w : World), rd tModel w cs0.toList d0 → Calls Try.prog 28 #[.agg cs0] w (fun e w' => ∃ (rs0 : Array Value), e = .returned (.agg rs0) ∧ FrR tSwing w.heap.size w'.heap.size w' rs0.toList R0 ∧ Below w.heap.size w w')) ∧
      (∀ (cs0 : Array Value) (w : World), rd tModel w cs0.toList d0 → Calls Try.prog 30 #[.agg cs0] w (fun e w' => ∃ (rs0 : Array Value), e = .returned (.agg rs0) ∧ FrA tSwing w.heap.size w'.heap.size w' rs0.toList R0 ∧ Below w.heap.size w w')) ∧ (cntt tSwing R0 : Int) ≤ 1000000000 := by
  obtain ⟨hpS, hpI⟩ := p_SwingNew d0 hz0
  refine ⟨((fun x => (((zeroG x).1, 0) : SwingD)) d0), fun cs0 w r0 => ?_, fun cs0 w r0 => ?_, q_SwingNew d0 hz0⟩
  · have hA : argsRd w c_s_SwingNew.ams [.agg cs0] (parts (c_s_SwingNew.ams.map (·.mv.t)) (SV.as _ ⟨c_s_SwingNew.argTy, d0⟩)) := by
      have e : SV.as (packTy (c_s_SwingNew.ams.map (·.mv.t))) ⟨c_s_SwingNew.argTy, d0⟩ = d0 := SV.as_self _ _
      rw [e]
      exact (argsRd.cons rfl (by simp [mkV, Value.cells]) r0 argsRd.nil)
    have hg := h_s_SwingNew.givesL rfl (x := d0) hpS (RdG.okD (RdG.of_rd r0)) hA
    have e : SV.as (packTy (c_s_SwingNew.rms.map (·.t))) ⟨c_s_SwingNew.resTy, c_s_SwingNew.fn d0⟩ = (fun x => (((zeroG x).1, 0) : SwingD)) d0 := SV.as_self _ _
    rw [e] at hg
    refine hg.mono fun e w' hh => ?_
    clear hg
    obtain ⟨rs, bl, he, ho, hn, hb, bel⟩ := hh
    obtain ⟨r0, rs0, b0, bb0, rfl, rfl, k0, ho⟩ := OutsV.inv ho
    obtain ⟨rfl, rfl⟩ := ho
    obtain ⟨e0, f0⟩ := k0.agR
    exact ⟨_, he.trans (congrArg (fun l => Ending.returned (retV l)) (congr (congrArg List.cons e0) rfl)), f0, bel⟩
  · have hA : argsRd w c_i_SwingNew.ams [.agg cs0] (parts (c_i_SwingNew.ams.map (·.mv.t)) (SV.as _ ⟨c_i_SwingNew.argTy, d0⟩)) := by
      have e : SV.as (packTy (c_i_SwingNew.ams.map (·.mv.t))) ⟨c_i_SwingNew.argTy, d0⟩ = d0 := SV.as_self _ _
      rw [e]
      exact (argsRd.cons rfl (by simp [mkV, Value.cells]) r0 argsRd.nil)
    have hg := h_i_SwingNew.givesL rfl (x := d0) hpI (RdG.okD (RdG.of_rd r0)) hA
    have e : SV.as (packTy (c_i_SwingNew.rms.map (·.t))) ⟨c_i_SwingNew.resTy, c_i_SwingNew.fn d0⟩ = (fun x => (((zeroG x).1, 0) : SwingD)) d0 := SV.as_self _ _
    rw [e] at hg
    refine hg.mono fun e w' hh => ?_
    clear hg
    obtain ⟨rs, bl, he, ho, hn, hb, bel⟩ := hh
    obtain ⟨r0, rs0, b0, bb0, rfl, rfl, k0, ho⟩ := OutsV.inv ho
    obtain ⟨rfl, rfl⟩ := ho
    obtain ⟨e0, f0⟩ := k0.agA rfl (hn.sublist (List.sublist_append_left _ _)) (fun b h => hb b ((List.sublist_append_left _ _).subset h))
    exact ⟨_, he.trans (congrArg (fun l => Ending.returned (retV l)) (congr (congrArg List.cons e0) rfl)), f0, bel⟩
end Go.Proofs.Ytnijnjclmlfahaa
