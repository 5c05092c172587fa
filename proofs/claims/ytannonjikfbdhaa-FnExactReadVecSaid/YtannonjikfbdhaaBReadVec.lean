/- ReadVec: what both tell. -/
import Derived.Test.YtannonjikfbdhaaReadS
import Derived.Test.YtannonjikfbdhaaCe
namespace Go.Proofs.Ytannonjikfbdhaa
open Go.ChangeShapes Go.WideShapes Go.ChangeAt Go.RowKit Go.Deep
set_option linter.unusedVariables false
set_option linter.unusedSimpArgs false
theorem readVec_both (x0 : ByteArray) (h0 : x0.size ≤ maxLen) (hz0 : (x0.size : Int) ≤ 1048576) :
    ∃ (R0 : List (Ty.D tInt)) (R1 : Int) (R2 : Bool), (∀ (w : World), Calls Try.prog 15 #[.string x0] w (fun e w' => ∃ p0 c0, e = .returned (.tuple #[.slice p0 (List.length R0) c0, .int .i64 R1, .bool R2]) ∧ FrR tInts w.heap.size w'.heap.size w' [.slice p0 (List.length R0) c0] R0 ∧ Below w.heap.size w w')) ∧
      (∀ (w : World), Calls Try.prog 16 #[.string x0] w (fun e w' => ∃ p0 c0, e = .returned (.tuple #[.slice p0 (List.length R0) c0, .int .i64 R1, .bool R2]) ∧ FrA tInts w.heap.size w'.heap.size w' [.slice p0 (List.length R0) c0] R0 ∧ Below w.heap.size w w')) ∧ (cnt tInts R0 : Int) ≤ 1000000000 := by
  obtain ⟨hpS, hpI⟩ := p_ReadVec x0 hz0
  refine ⟨(readV x0).1, (readV x0).2.1, (readV x0).2.2, fun w => ?_, fun w => ?_, q_ReadVec x0 hz0⟩
  · have hA : argsRd w c_s_ReadVec.ams [.string x0] (parts (c_s_ReadVec.ams.map (·.mv.t)) (SV.as _ ⟨c_s_ReadVec.argTy, x0⟩)) := by
      have e : SV.as (packTy (c_s_ReadVec.ams.map (·.mv.t))) ⟨c_s_ReadVec.argTy, x0⟩ = x0 := SV.as_self _ _
      rw [e]
      exact (argsRd.cons rfl rfl (show rd .str w [.string x0] x0 from ⟨rfl, h0⟩) argsRd.nil)
    have hg := h_s_ReadVec.givesL rfl (x := x0) hpS (RdG.okD (RdG.of_rd (show rd .str w [.string x0] x0 from ⟨rfl, h0⟩))) hA
    have e : SV.as (packTy (c_s_ReadVec.rms.map (·.t))) ⟨c_s_ReadVec.resTy, c_s_ReadVec.fn x0⟩ = readV x0 := SV.as_self _ _
    rw [e] at hg
    refine hg.mono fun e w' hh => ?_
    clear hg
    obtain ⟨rs, bl, he, ho, hn, hb, bel⟩ := hh
    obtain ⟨r0, rs0, b0, bb0, rfl, rfl, k0, ho⟩ := OutsV.inv ho
    obtain ⟨r1, rs1, b1, bb1, rfl, rfl, k1, ho⟩ := OutsV.inv ho
    obtain ⟨r2, rs2, b2, bb2, rfl, rfl, k2, ho⟩ := OutsV.inv ho
    obtain ⟨rfl, rfl⟩ := ho
    obtain ⟨q0, qc0, e0, f0⟩ := k0.slR
    have e1 := k1.int
    have e2 := k2.bool
    exact ⟨q0, qc0, he.trans (congrArg (fun l => Ending.returned (retV l)) (congr (congrArg List.cons e0) (congr (congrArg List.cons e1) (congr (congrArg List.cons e2) rfl)))), f0, bel⟩
  · have hA : argsRd w c_i_ReadVec.ams [.string x0] (parts (c_i_ReadVec.ams.map (·.mv.t)) (SV.as _ ⟨c_i_ReadVec.argTy, x0⟩)) := by
      have e : SV.as (packTy (c_i_ReadVec.ams.map (·.mv.t))) ⟨c_i_ReadVec.argTy, x0⟩ = x0 := SV.as_self _ _
      rw [e]
      exact (argsRd.cons rfl rfl (show rd .str w [.string x0] x0 from ⟨rfl, h0⟩) argsRd.nil)
    have hg := h_i_ReadVec.givesL rfl (x := x0) hpI (RdG.okD (RdG.of_rd (show rd .str w [.string x0] x0 from ⟨rfl, h0⟩))) hA
    have e : SV.as (packTy (c_i_ReadVec.rms.map (·.t))) ⟨c_i_ReadVec.resTy, c_i_ReadVec.fn x0⟩ = readV x0 := SV.as_self _ _
    rw [e] at hg
    refine hg.mono fun e w' hh => ?_
    clear hg
    obtain ⟨rs, bl, he, ho, hn, hb, bel⟩ := hh
    obtain ⟨r0, rs0, b0, bb0, rfl, rfl, k0, ho⟩ := OutsV.inv ho
    obtain ⟨r1, rs1, b1, bb1, rfl, rfl, k1, ho⟩ := OutsV.inv ho
    obtain ⟨r2, rs2, b2, bb2, rfl, rfl, k2, ho⟩ := OutsV.inv ho
    obtain ⟨rfl, rfl⟩ := ho
    obtain ⟨q0, qc0, e0, f0⟩ := k0.slA rfl (hn.sublist (List.sublist_append_left _ _)) (fun b h => hb b ((List.sublist_append_left _ _).subset h))
    have e1 := k1.int
    have e2 := k2.bool
    exact ⟨q0, qc0, he.trans (congrArg (fun l => Ending.returned (retV l)) (congr (congrArg List.cons e0) (congr (congrArg List.cons e1) (congr (congrArg List.cons e2) rfl)))), f0, bel⟩
end Go.Proofs.Ytannonjikfbdhaa
