/- ReadStage: what both tell. -/
import Derived.Test.YtepjkojfjdcegaaReadStS
import Derived.Test.YtepjkojfjdcegaaCe
import Derived.Test.YtepjkojfjdcegaaTStage
namespace Go.Proofs.Ytepjkojfjdcegaa
open Go.ChangeShapes Go.WideShapes Go.ChangeAt Go.RowKit Go.Deep
set_option linter.unusedVariables false
set_option linter.unusedSimpArgs false
set_option maxHeartbeats 1000000 in
theorem readStage_both (x0 : ByteArray) (h0 : x0.size ≤ maxLen) (hz0 : (x0.size : Int) ≤ 1048576) :
    ∃ (R0 : Ty.D tStage) (R1 : Int) (R2 : Bool), (∀ (w : World), Calls Try.prog 29 #[.string x0] w (fun e w' => ∃ (rs0 : Array Value), e = .returned (.tuple #[.agg rs0, .int .i64 R1, .bool R2]) ∧ FrR tStage w.heap.size w'.heap.size w' rs0.toList R0 ∧ Below w.heap.size w w')) ∧
      (∀ (w : World), Calls Try.prog 30 #[.string x0] w (fun e w' => ∃ (rs0 : Array Value), e = .returned (.tuple #[.agg rs0, .int .i64 R1, .bool R2]) ∧ FrA tStage w.heap.size w'.heap.size w' rs0.toList R0 ∧ Below w.heap.size w w')) ∧ (cntt tStage R0 : Int) ≤ 1000000000 := by
  obtain ⟨hpS, hpI⟩ := p_ReadStage x0 hz0
  refine ⟨(rdStI x0).1, (rdStI x0).2.1, (rdStI x0).2.2, fun w => ?_, fun w => ?_, q_ReadStage x0 hz0⟩
  · have hA : argsRd w c_s_ReadStage.ams [.string x0] (parts (c_s_ReadStage.ams.map (·.mv.t)) (SV.as _ ⟨c_s_ReadStage.argTy, x0⟩)) := by
      have e : SV.as (packTy (c_s_ReadStage.ams.map (·.mv.t))) ⟨c_s_ReadStage.argTy, x0⟩ = x0 := SV.as_self _ _
      rw [e]
      exact (argsRd.cons rfl rfl (show rd .str w [.string x0] x0 from ⟨rfl, h0⟩) argsRd.nil)
    have hg := h_s_ReadStage.givesL rfl (x := x0) hpS (RdG.okD (RdG.of_rd (show rd .str w [.string x0] x0 from ⟨rfl, h0⟩))) hA
    have ef : c_s_ReadStage.fn x0 = rdStI x0 := by dsimp only [c_s_ReadStage]
    have e : SV.as (packTy (c_s_ReadStage.rms.map (·.t))) ⟨c_s_ReadStage.resTy, c_s_ReadStage.fn x0⟩ = rdStI x0 := (SV.as_self _ _).trans ef
    rw [e] at hg
    refine hg.mono fun e w' hh => ?_
    clear hg
    obtain ⟨rs, bl, he, ho, hn, hb, bel⟩ := hh
    obtain ⟨r0, rs0, b0, bb0, rfl, rfl, k0, ho⟩ := OutsV.inv ho
    obtain ⟨r1, rs1, b1, bb1, rfl, rfl, k1, ho⟩ := OutsV.inv ho
    obtain ⟨r2, rs2, b2, bb2, rfl, rfl, k2, ho⟩ := OutsV.inv ho
    obtain ⟨rfl, rfl⟩ := ho
    obtain ⟨e0, f0⟩ := k0.agR
    have e1 := k1.int
    have e2 := k2.bool
    exact ⟨_, he.trans (congrArg (fun l => Ending.returned (retV l)) (congr (congrArg List.cons e0) (congr (congrArg List.cons e1) (congr (congrArg List.cons e2) rfl)))), f0, bel⟩
  · have hA : argsRd w c_i_ReadStage.ams [.string x0] (parts (c_i_ReadStage.ams.map (·.mv.t)) (SV.as _ ⟨c_i_ReadStage.argTy, x0⟩)) := by
      have e : SV.as (packTy (c_i_ReadStage.ams.map (·.mv.t))) ⟨c_i_ReadStage.argTy, x0⟩ = x0 := SV.as_self _ _
      rw [e]
      exact (argsRd.cons rfl rfl (show rd .str w [.string x0] x0 from ⟨rfl, h0⟩) argsRd.nil)
    have hg := h_i_ReadStage.givesL rfl (x := x0) hpI (RdG.okD (RdG.of_rd (show rd .str w [.string x0] x0 from ⟨rfl, h0⟩))) hA
    have ef : c_i_ReadStage.fn x0 = rdStI x0 := by dsimp only [c_i_ReadStage]
    have e : SV.as (packTy (c_i_ReadStage.rms.map (·.t))) ⟨c_i_ReadStage.resTy, c_i_ReadStage.fn x0⟩ = rdStI x0 := (SV.as_self _ _).trans ef
    rw [e] at hg
    refine hg.mono fun e w' hh => ?_
    clear hg
    obtain ⟨rs, bl, he, ho, hn, hb, bel⟩ := hh
    obtain ⟨r0, rs0, b0, bb0, rfl, rfl, k0, ho⟩ := OutsV.inv ho
    obtain ⟨r1, rs1, b1, bb1, rfl, rfl, k1, ho⟩ := OutsV.inv ho
    obtain ⟨r2, rs2, b2, bb2, rfl, rfl, k2, ho⟩ := OutsV.inv ho
    obtain ⟨rfl, rfl⟩ := ho
    obtain ⟨e0, f0⟩ := k0.agA rfl (hn.sublist (List.sublist_append_left _ _)) (fun b h => hb b ((List.sublist_append_left _ _).subset h))
    have e1 := k1.int
    have e2 := k2.bool
    exact ⟨_, he.trans (congrArg (fun l => Ending.returned (retV l)) (congr (congrArg List.cons e0) (congr (congrArg List.cons e1) (congr (congrArg List.cons e2) rfl)))), f0, bel⟩
end Go.Proofs.Ytepjkojfjdcegaa
