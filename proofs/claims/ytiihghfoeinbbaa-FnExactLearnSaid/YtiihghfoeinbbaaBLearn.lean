/- Learn: what both tell. -/
import Derived.Test.YtiihghfoeinbbaaLearnS
import Derived.Test.YtiihghfoeinbbaaCe
import Derived.Test.YtiihghfoeinbbaaTModel
import Derived.Test.YtiihghfoeinbbaaTGrads
namespace Go.Proofs.Ytiihghfoeinbbaa
open Go.ChangeShapes Go.WideShapes Go.ChangeAt Go.RowKit Go.Deep
set_option linter.unusedVariables false
set_option linter.unusedSimpArgs false
theorem learn_both (d0 : Ty.D tModel) (d1 : Ty.D tGrads) (x2 : Int) (h2 : (Lit.int .i64 x2).wf = true) (hz0 : ((szT tModel d0 : Nat) : Int) ≤ (1048576 : Int)) (hz1 : ((szT tGrads d1 : Nat) : Int) ≤ (1048576 : Int) - (szT tModel d0 : Nat)) :
    ∃ (R0 : Ty.D tModel) (R1 : Bool), (∀ (cs0 : Array Value) (cs1 : Array Value) (w : World), rd tModel w cs0.toList d0 → rd tGrads w cs1.toList d1 → Calls Try.prog 12 #[.agg cs0, .agg cs1, .int .i64 x2] w (fun e w' => ∃ (rs0 : Array Value), e = .returned (.tuple #[.agg rs0, .bool R1]) ∧ FrR tModel w.heap.size w'.heap.size w' rs0.toList R0 ∧ Below w.heap.size w w')) ∧
      (∀ (cs0 : Array Value) (cs1 : Array Value) (w : World), rd tModel w cs0.toList d0 → rd tGrads w cs1.toList d1 → Calls Try.prog 15 #[.agg cs0, .agg cs1, .int .i64 x2] w (fun e w' => ∃ (rs0 : Array Value), e = .returned (.tuple #[.agg rs0, .bool R1]) ∧ FrA tModel w.heap.size w'.heap.size w' rs0.toList R0 ∧ Below w.heap.size w w')) ∧ (cntt tModel R0 : Int) ≤ 1000000000 := by
  obtain ⟨hpS, hpI⟩ := p_Learn d0 d1 x2 hz0 hz1
  refine ⟨(learnP (d0, d1, x2)).1, (learnP (d0, d1, x2)).2, fun cs0 cs1 w r0 r1 => ?_, fun cs0 cs1 w r0 r1 => ?_, q_Learn d0 d1 x2 hz0 hz1⟩
  · have hA : argsRd w c_s_Learn.ams [.agg cs0, .agg cs1, .int .i64 x2] (parts (c_s_Learn.ams.map (·.mv.t)) (SV.as _ ⟨c_s_Learn.argTy, (d0, d1, x2)⟩)) := by
      have e : SV.as (packTy (c_s_Learn.ams.map (·.mv.t))) ⟨c_s_Learn.argTy, (d0, d1, x2)⟩ = (d0, d1, x2) := SV.as_self _ _
      rw [e]
      exact (argsRd.cons rfl (by simp [mkV, Value.cells]) r0 (argsRd.cons rfl (by simp [mkV, Value.cells]) r1 (argsRd.cons rfl rfl (show rd (.int .i64) w [.int .i64 x2] x2 from ⟨rfl, h2⟩) argsRd.nil)))
    have hg := h_s_Learn.givesL rfl (x := (d0, d1, x2)) hpS ⟨RdG.okD (RdG.of_rd r0), RdG.okD (RdG.of_rd r1), RdG.okD (RdG.of_rd (show rd (.int .i64) w [.int .i64 x2] x2 from ⟨rfl, h2⟩))⟩ hA
    have e : SV.as (packTy (c_s_Learn.rms.map (·.t))) ⟨c_s_Learn.resTy, c_s_Learn.fn (d0, d1, x2)⟩ = learnP (d0, d1, x2) := SV.as_self _ _
    rw [e] at hg
    refine hg.mono fun e w' hh => ?_
    clear hg
    obtain ⟨rs, bl, he, ho, hn, hb, bel⟩ := hh
    obtain ⟨r0, rs0, b0, bb0, rfl, rfl, k0, ho⟩ := OutsV.inv ho
    obtain ⟨r1, rs1, b1, bb1, rfl, rfl, k1, ho⟩ := OutsV.inv ho
    obtain ⟨rfl, rfl⟩ := ho
    obtain ⟨e0, f0⟩ := k0.agR
    have e1 := k1.bool
    exact ⟨_, he.trans (congrArg (fun l => Ending.returned (retV l)) (congr (congrArg List.cons e0) (congr (congrArg List.cons e1) rfl))), f0, bel⟩
  · have hA : argsRd w c_i_Learn.ams [.agg cs0, .agg cs1, .int .i64 x2] (parts (c_i_Learn.ams.map (·.mv.t)) (SV.as _ ⟨c_i_Learn.argTy, (d0, d1, x2)⟩)) := by
      have e : SV.as (packTy (c_i_Learn.ams.map (·.mv.t))) ⟨c_i_Learn.argTy, (d0, d1, x2)⟩ = (d0, d1, x2) := SV.as_self _ _
      rw [e]
      exact (argsRd.cons rfl (by simp [mkV, Value.cells]) r0 (argsRd.cons rfl (by simp [mkV, Value.cells]) r1 (argsRd.cons rfl rfl (show rd (.int .i64) w [.int .i64 x2] x2 from ⟨rfl, h2⟩) argsRd.nil)))
    have hg := h_i_Learn.givesL rfl (x := (d0, d1, x2)) hpI ⟨RdG.okD (RdG.of_rd r0), RdG.okD (RdG.of_rd r1), RdG.okD (RdG.of_rd (show rd (.int .i64) w [.int .i64 x2] x2 from ⟨rfl, h2⟩))⟩ hA
    have e : SV.as (packTy (c_i_Learn.rms.map (·.t))) ⟨c_i_Learn.resTy, c_i_Learn.fn (d0, d1, x2)⟩ = learnP (d0, d1, x2) := SV.as_self _ _
    rw [e] at hg
    refine hg.mono fun e w' hh => ?_
    clear hg
    obtain ⟨rs, bl, he, ho, hn, hb, bel⟩ := hh
    obtain ⟨r0, rs0, b0, bb0, rfl, rfl, k0, ho⟩ := OutsV.inv ho
    obtain ⟨r1, rs1, b1, bb1, rfl, rfl, k1, ho⟩ := OutsV.inv ho
    obtain ⟨rfl, rfl⟩ := ho
    obtain ⟨e0, f0⟩ := k0.agA rfl (hn.sublist (List.sublist_append_left _ _)) (fun b h => hb b ((List.sublist_append_left _ _).subset h))
    have e1 := k1.bool
    exact ⟨_, he.trans (congrArg (fun l => Ending.returned (retV l)) (congr (congrArg List.cons e0) (congr (congrArg List.cons e1) rfl))), f0, bel⟩
end Go.Proofs.Ytiihghfoeinbbaa
