/- ReadOp: what both tell. -/
import Derived.Test.YtahggdiafncdhaaDoorRdS
import Derived.Test.YtahggdiafncdhaaDoorCe
import Derived.Test.YtahggdiafncdhaaDoorTOp
namespace Go.Proofs.YtahggdiafncdhaaDoor
open Go.ChangeShapes Go.WideShapes Go.ChangeAt Go.RowKit Go.Deep
set_option linter.unusedVariables false
set_option linter.unusedSimpArgs false
theorem readOp_both (x0 : ByteArray) (h0 : x0.size ≤ maxLen) (hz0 : (x0.size : Int) ≤ 1048576) :
    ∃ (R0 : Ty.D tOp) (R1 : Bool), (∀ (w : World), tabP.p w → Calls Tryd.prog 22 #[.string x0] w (fun e w' => ∃ (rs0 : Array Value), e = .returned (.tuple #[.agg rs0, .bool R1]) ∧ FrR tOp w.heap.size w'.heap.size w' rs0.toList R0 ∧ Below w.heap.size w w')) ∧
      (∀ (w : World), tabP.p w → Calls Tryd.prog 23 #[.string x0] w (fun e w' => ∃ (rs0 : Array Value), e = .returned (.tuple #[.agg rs0, .bool R1]) ∧ FrA tOp w.heap.size w'.heap.size w' rs0.toList R0 ∧ Below w.heap.size w w')) ∧ (cntt tOp R0 : Int) ≤ 1000000000 := by
  obtain ⟨hpS, hpI⟩ := p_ReadOp x0 hz0
  refine ⟨(rdOp x0).1, (rdOp x0).2, fun w ht => ?_, fun w ht => ?_, q_ReadOp x0 hz0⟩
  · have hA : argsRd w c_s_ReadOp.ams [.string x0] (parts (c_s_ReadOp.ams.map (·.mv.t)) (SV.as _ ⟨c_s_ReadOp.argTy, x0⟩)) := by
      have e : SV.as (packTy (c_s_ReadOp.ams.map (·.mv.t))) ⟨c_s_ReadOp.argTy, x0⟩ = x0 := SV.as_self _ _
      rw [e]
      exact (argsRd.cons rfl rfl (show rd .str w [.string x0] x0 from ⟨rfl, h0⟩) argsRd.nil)
    have hg := h_s_ReadOp.givesL rfl (x := x0) hpS (RdG.okD (RdG.of_rd (show rd .str w [.string x0] x0 from ⟨rfl, h0⟩))) hA rfl ht
    have e : SV.as (packTy (c_s_ReadOp.rms.map (·.t))) ⟨c_s_ReadOp.resTy, c_s_ReadOp.fn x0⟩ = rdOp x0 := SV.as_self _ _
    rw [e] at hg
    refine hg.mono fun e w' hh => ?_
    clear hg
    obtain ⟨rs, bl, he, ho, hn, hb, bel⟩ := hh
    obtain ⟨r0, rs0, b0, bb0, rfl, rfl, k0, ho⟩ := OutsV.inv ho
    obtain ⟨r1, rs1, b1, bb1, rfl, rfl, k1, ho⟩ := OutsV.inv ho
    obtain ⟨rfl, rfl⟩ := ho
    obtain ⟨e0, f0⟩ := k0.agR
    have e1 := k1.bool
    exact ⟨_, he.trans (congrArg (fun l => Ending.returned (retV l)) (congr (congrArg List.cons e0) (congr (congrArg List.cons e1) rfl))), f0, bel⟩
  · have hA : argsRd w c_i_ReadOp.ams [.string x0] (parts (c_i_ReadOp.ams.map (·.mv.t)) (SV.as _ ⟨c_i_ReadOp.argTy, x0⟩)) := by
      have e : SV.as (packTy (c_i_ReadOp.ams.map (·.mv.t))) ⟨c_i_ReadOp.argTy, x0⟩ = x0 := SV.as_self _ _
      rw [e]
      exact (argsRd.cons rfl rfl (show rd .str w [.string x0] x0 from ⟨rfl, h0⟩) argsRd.nil)
    have hg := h_i_ReadOp.givesL rfl (x := x0) hpI (RdG.okD (RdG.of_rd (show rd .str w [.string x0] x0 from ⟨rfl, h0⟩))) hA rfl ht
    have e : SV.as (packTy (c_i_ReadOp.rms.map (·.t))) ⟨c_i_ReadOp.resTy, c_i_ReadOp.fn x0⟩ = rdOp x0 := SV.as_self _ _
    rw [e] at hg
    refine hg.mono fun e w' hh => ?_
    clear hg
    obtain ⟨rs, bl, he, ho, hn, hb, bel⟩ := hh
    obtain ⟨r0, rs0, b0, bb0, rfl, rfl, k0, ho⟩ := OutsV.inv ho
    obtain ⟨r1, rs1, b1, bb1, rfl, rfl, k1, ho⟩ := OutsV.inv ho
    obtain ⟨rfl, rfl⟩ := ho
    obtain ⟨e0, f0⟩ := k0.agA rfl (hn.sublist (List.sublist_append_left _ _)) (fun b h => hb b ((List.sublist_append_left _ _).subset h))
    have e1 := k1.bool
    exact ⟨_, he.trans (congrArg (fun l => Ending.returned (retV l)) (congr (congrArg List.cons e0) (congr (congrArg List.cons e1) rfl))), f0, bel⟩
end Go.Proofs.YtahggdiafncdhaaDoor
