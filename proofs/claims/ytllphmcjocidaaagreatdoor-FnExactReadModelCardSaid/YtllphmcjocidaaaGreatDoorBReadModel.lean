/- ReadModel: what both tell. -/
import Derived.Test.YtllphmcjocidaaaGreatDoorRdmS
import Derived.Test.YtllphmcjocidaaaGreatDoorCe
import Derived.Test.YtllphmcjocidaaaGreatDoorTModel
namespace Go.Proofs.YtllphmcjocidaaaGreatDoor
open Go.ChangeShapes Go.WideShapes Go.ChangeAt Go.RowKit Go.Deep
set_option linter.unusedVariables false
set_option linter.unusedSimpArgs false
theorem readModel_both (x0 : ByteArray) (h0 : x0.size ≤ maxLen) (hz0 : (x0.size : Int) ≤ 1048576) :
    ∃ (R0 : Ty.D tModel) (R1 : Bool), (∀ (w : World), tabP.p w → Calls Tryz.prog 5 #[.string x0] w (fun e w' => ∃ (rs0 : Array Value), e = .returned (.tuple #[.agg rs0, .bool R1]) ∧ FrR tModel w.heap.size w'.heap.size w' rs0.toList R0 ∧ Below w.heap.size w w')) ∧
      (∀ (w : World), tabP.p w → Calls Tryz.prog 6 #[.string x0] w (fun e w' => ∃ (rs0 : Array Value), e = .returned (.tuple #[.agg rs0, .bool R1]) ∧ FrA tModel w.heap.size w'.heap.size w' rs0.toList R0 ∧ Below w.heap.size w w')) ∧ (cntt tModel R0 : Int) ≤ 1000000000 := by
  obtain ⟨hpS, hpI⟩ := p_ReadModel x0 hz0
  refine ⟨(rdModel x0).1, (rdModel x0).2, fun w ht => ?_, fun w ht => ?_, q_ReadModel x0 hz0⟩
  · have hA : argsRd w c_s_ReadModel.ams [.string x0] (parts (c_s_ReadModel.ams.map (·.mv.t)) (SV.as _ ⟨c_s_ReadModel.argTy, x0⟩)) := by
      have e : SV.as (packTy (c_s_ReadModel.ams.map (·.mv.t))) ⟨c_s_ReadModel.argTy, x0⟩ = x0 := SV.as_self _ _
      rw [e]
      exact (argsRd.cons rfl rfl (show rd .str w [.string x0] x0 from ⟨rfl, h0⟩) argsRd.nil)
    have hg := h_s_ReadModel.givesL rfl (x := x0) hpS (RdG.okD (RdG.of_rd (show rd .str w [.string x0] x0 from ⟨rfl, h0⟩))) hA rfl ht
    have e : SV.as (packTy (c_s_ReadModel.rms.map (·.t))) ⟨c_s_ReadModel.resTy, c_s_ReadModel.fn x0⟩ = rdModel x0 := SV.as_self _ _
    rw [e] at hg
    refine hg.mono fun e w' hh => ?_
    clear hg
    obtain ⟨rs, bl, he, ho, hn, hb, bel⟩ := hh
    obtain ⟨r0, rs0, b0, bb0, rfl, rfl, k0, ho⟩ := OutsV.inv ho
    obtain ⟨r1, rs1, b1, bb1, rfl, rfl, k1, ho⟩ := OutsV.inv ho
    obtain ⟨rfl, rfl⟩ := ho
    obtain ⟨e0, f0⟩ := k0.agR
    have e1 := k1.bool
    exact ⟨_, he.trans (congrArg (fun l => Ending.returned (retV l)) (congr (congrArg List.cons e0) (congr (congrArg List.cons e1) rfl))), f0, bel⟩
  · have hA : argsRd w c_i_ReadModel.ams [.string x0] (parts (c_i_ReadModel.ams.map (·.mv.t)) (SV.as _ ⟨c_i_ReadModel.argTy, x0⟩)) := by
      have e : SV.as (packTy (c_i_ReadModel.ams.map (·.mv.t))) ⟨c_i_ReadModel.argTy, x0⟩ = x0 := SV.as_self _ _
      rw [e]
      exact (argsRd.cons rfl rfl (show rd .str w [.string x0] x0 from ⟨rfl, h0⟩) argsRd.nil)
    have hg := h_i_ReadModel.givesL rfl (x := x0) hpI (RdG.okD (RdG.of_rd (show rd .str w [.string x0] x0 from ⟨rfl, h0⟩))) hA rfl ht
    have e : SV.as (packTy (c_i_ReadModel.rms.map (·.t))) ⟨c_i_ReadModel.resTy, c_i_ReadModel.fn x0⟩ = rdModel x0 := SV.as_self _ _
    rw [e] at hg
    refine hg.mono fun e w' hh => ?_
    clear hg
    obtain ⟨rs, bl, he, ho, hn, hb, bel⟩ := hh
    obtain ⟨r0, rs0, b0, bb0, rfl, rfl, k0, ho⟩ := OutsV.inv ho
    obtain ⟨r1, rs1, b1, bb1, rfl, rfl, k1, ho⟩ := OutsV.inv ho
    obtain ⟨rfl, rfl⟩ := ho
    obtain ⟨e0, f0⟩ := k0.agA rfl (hn.sublist (List.sublist_append_left _ _)) (fun b h => hb b ((List.sublist_append_left _ _).subset h))
    have e1 := k1.bool
    exact ⟨_, he.trans (congrArg (fun l => Ending.returned (retV l)) (congr (congrArg List.cons e0) (congr (congrArg List.cons e1) rfl))), f0, bel⟩
end Go.Proofs.YtllphmcjocidaaaGreatDoor
