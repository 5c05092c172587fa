/- TrainAlone: what both tell. -/
import Derived.Test.YtiihghfoeinbbaaGreatTrainS
import Derived.Test.YtiihghfoeinbbaaGreatCe
import Derived.Test.YtiihghfoeinbbaaGreatFrU
import Derived.Test.YtiihghfoeinbbaaGreatTModel
import Derived.Test.YtiihghfoeinbbaaGreatTBatch
namespace Go.Proofs.YtiihghfoeinbbaaGreat
open Go.ChangeShapes Go.WideShapes Go.ChangeAt Go.RowKit Go.Deep
set_option linter.unusedVariables false
set_option linter.unusedSimpArgs false
theorem trainAlone_both (d0 : Ty.D tModel) (l1 : List (Ty.D tBatch)) (x2 : Int) (h2 : (Lit.int .i64 x2).wf = true) (hz0 : ((szT tModel d0 : Nat) : Int) ≤ (1048576 : Int)) (hz1 : ((szT (.slice 96 tBatch) l1 : Nat) : Int) ≤ (1048576 : Int) - (szT tModel d0 : Nat)) :
    ∃ (R0 : Ty.D tModel) (R1 : List (Ty.D tInt)) (R2 : Bool), (∀ (cs0 : Array Value) (p1 : Option Addr) (c1 : Nat) (w : World), rd tModel w cs0.toList d0 → SlRd (Ty.n tBatch) (rd tBatch w) w p1 (List.length l1) c1 l1 → Calls Tryz.prog 10 #[.agg cs0, .slice p1 (List.length l1) c1, .int .i64 x2] w (fun e w' => ∃ (rs0 : Array Value) (p1 : Option Addr) (c1 : Nat), e = .returned (.tuple #[.agg rs0, .slice p1 (List.length R1) c1, .bool R2]) ∧ FrR tModel w.heap.size w'.heap.size w' rs0.toList R0 ∧ FrR tInts w.heap.size w'.heap.size w' [.slice p1 (List.length R1) c1] R1 ∧ Below w.heap.size w w')) ∧
      (∀ (cs0 : Array Value) (p1 : Option Addr) (c1 : Nat) (w : World), rd tModel w cs0.toList d0 → SlRd (Ty.n tBatch) (rd tBatch w) w p1 (List.length l1) c1 l1 → Calls Tryz.prog 13 #[.agg cs0, .slice p1 (List.length l1) c1, .int .i64 x2] w (fun e w' => ∃ (rs0 : Array Value) (p1 : Option Addr) (c1 : Nat) (y0 : List Nat) (y1 : List Nat), e = .returned (.tuple #[.agg rs0, .slice p1 (List.length R1) c1, .bool R2]) ∧ FrU tModel y0 w.heap.size w'.heap.size w' rs0.toList R0 ∧ FrU tInts y1 w.heap.size w'.heap.size w' [.slice p1 (List.length R1) c1] R1 ∧ (∀ b ∈ y0, b ∉ y1) ∧ Below w.heap.size w w')) ∧ (cntt tModel R0 : Int) ≤ 1000000000 ∧ (cnt tInts R1 : Int) ≤ 1000000000 := by
  obtain ⟨hpS, hpI⟩ := p_TrainAlone d0 l1 x2 hz0 hz1
  refine ⟨(trainP (d0, l1, x2)).1, (trainP (d0, l1, x2)).2.1, (trainP (d0, l1, x2)).2.2, fun cs0 p1 c1 w r0 r1 => ?_, fun cs0 p1 c1 w r0 r1 => ?_, q_TrainAlone d0 l1 x2 hz0 hz1⟩
  · have hA : argsRd w c_s_TrainAlone.ams [.agg cs0, .slice p1 (List.length l1) c1, .int .i64 x2] (parts (c_s_TrainAlone.ams.map (·.mv.t)) (SV.as _ ⟨c_s_TrainAlone.argTy, (d0, l1, x2)⟩)) := by
      have e : SV.as (packTy (c_s_TrainAlone.ams.map (·.mv.t))) ⟨c_s_TrainAlone.argTy, (d0, l1, x2)⟩ = (d0, l1, x2) := SV.as_self _ _
      rw [e]
      exact (argsRd.cons rfl (by simp [mkV, Value.cells]) r0 (argsRd.cons rfl rfl (SlRd.toRd (e := 96) r1) (argsRd.cons rfl rfl (show rd (.int .i64) w [.int .i64 x2] x2 from ⟨rfl, h2⟩) argsRd.nil)))
    have hg := h_s_TrainAlone.givesL rfl (x := (d0, l1, x2)) hpS ⟨RdG.okD (RdG.of_rd r0), RdG.okD (RdG.of_rd (SlRd.toRd (e := 96) r1)), RdG.okD (RdG.of_rd (show rd (.int .i64) w [.int .i64 x2] x2 from ⟨rfl, h2⟩))⟩ hA
    have e : SV.as (packTy (c_s_TrainAlone.rms.map (·.t))) ⟨c_s_TrainAlone.resTy, c_s_TrainAlone.fn (d0, l1, x2)⟩ = trainP (d0, l1, x2) := SV.as_self _ _
    rw [e] at hg
    refine hg.mono fun e w' hh => ?_
    clear hg
    obtain ⟨rs, bl, he, ho, hn, hb, bel⟩ := hh
    obtain ⟨r0, rs0, b0, bb0, rfl, rfl, k0, ho⟩ := OutsV.inv ho
    obtain ⟨r1, rs1, b1, bb1, rfl, rfl, k1, ho⟩ := OutsV.inv ho
    obtain ⟨r2, rs2, b2, bb2, rfl, rfl, k2, ho⟩ := OutsV.inv ho
    obtain ⟨rfl, rfl⟩ := ho
    obtain ⟨e0, f0⟩ := k0.agR
    obtain ⟨q1, qc1, e1, f1⟩ := k1.slR
    have e2 := k2.bool
    exact ⟨_, q1, qc1, he.trans (congrArg (fun l => Ending.returned (retV l)) (congr (congrArg List.cons e0) (congr (congrArg List.cons e1) (congr (congrArg List.cons e2) rfl)))), f0, f1, bel⟩
  · have hA : argsRd w c_i_TrainAlone.ams [.agg cs0, .slice p1 (List.length l1) c1, .int .i64 x2] (parts (c_i_TrainAlone.ams.map (·.mv.t)) (SV.as _ ⟨c_i_TrainAlone.argTy, (d0, l1, x2)⟩)) := by
      have e : SV.as (packTy (c_i_TrainAlone.ams.map (·.mv.t))) ⟨c_i_TrainAlone.argTy, (d0, l1, x2)⟩ = (d0, l1, x2) := SV.as_self _ _
      rw [e]
      exact (argsRd.cons rfl (by simp [mkV, Value.cells]) r0 (argsRd.cons rfl rfl (SlRd.toRd (e := 96) r1) (argsRd.cons rfl rfl (show rd (.int .i64) w [.int .i64 x2] x2 from ⟨rfl, h2⟩) argsRd.nil)))
    have hg := h_i_TrainAlone.givesL rfl (x := (d0, l1, x2)) hpI ⟨RdG.okD (RdG.of_rd r0), RdG.okD (RdG.of_rd (SlRd.toRd (e := 96) r1)), RdG.okD (RdG.of_rd (show rd (.int .i64) w [.int .i64 x2] x2 from ⟨rfl, h2⟩))⟩ hA
    have e : SV.as (packTy (c_i_TrainAlone.rms.map (·.t))) ⟨c_i_TrainAlone.resTy, c_i_TrainAlone.fn (d0, l1, x2)⟩ = trainP (d0, l1, x2) := SV.as_self _ _
    rw [e] at hg
    refine hg.mono fun e w' hh => ?_
    clear hg
    obtain ⟨rs, bl, he, ho, hn, hb, bel⟩ := hh
    obtain ⟨r0, rs0, b0, bb0, rfl, rfl, k0, ho⟩ := OutsV.inv ho
    obtain ⟨r1, rs1, b1, bb1, rfl, rfl, k1, ho⟩ := OutsV.inv ho
    obtain ⟨r2, rs2, b2, bb2, rfl, rfl, k2, ho⟩ := OutsV.inv ho
    obtain ⟨rfl, rfl⟩ := ho
    obtain ⟨e0, -⟩ := k0.agR
    have f0 := FrU.of (k0.2.2 rfl) (hn.sublist (List.sublist_append_left _ _)) (fun b h => hb b ((List.sublist_append_left _ _).subset h)) (Nat.le_refl _)
    obtain ⟨q1, qc1, e1, -⟩ := k1.slR
    have f1 := FrU.of (k1.2.2 rfl) (hn.sublist ((List.sublist_append_left _ _).trans (List.sublist_append_right _ _))) (fun b h => hb b (((List.sublist_append_left _ _).trans (List.sublist_append_right _ _)).subset h)) (Nat.le_refl _)
    rw [show r1.cells.toList = [.slice q1 _ qc1] from by rw [e1]; rfl] at f1
    have e2 := k2.bool
    exact ⟨_, q1, qc1, b0, b1, he.trans (congrArg (fun l => Ending.returned (retV l)) (congr (congrArg List.cons e0) (congr (congrArg List.cons e1) (congr (congrArg List.cons e2) rfl)))), f0, f1, (fun b h h2 => (List.nodup_append.1 hn).2.2 b h b (List.mem_append_left _ h2) rfl), bel⟩
end Go.Proofs.YtiihghfoeinbbaaGreat
