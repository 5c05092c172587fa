/- Stage3: trees, and what they say. -/
import Derived.Test.YtiihghfoeinbbaaGreatZero2
import Derived.Test.YtiihghfoeinbbaaGreatSame3
namespace Go.Proofs.YtiihghfoeinbbaaGreat
open Go.ChangeShapes Go.WideShapes Go.ChangeAt Go.RowKit Go.Deep
set_option linter.unusedVariables false
set_option linter.unusedSimpArgs false
def inOf (m : List OpD) : Int := if modelB m = true then (m.getD 0 zOp).2.1 else 0
def outOf (m : List OpD) : Int := if modelB m = true then (m.getD (m.length - 1) zOp).2.2.1 else 0
def vecN (v : List Int) (n : Int) : Bool := vecB v && decide ((v.length : Int) = n)
theorem vecN_iff (v : List Int) (n : Int) : vecN v n = true ↔ vecB v = true ∧ (v.length : Int) = n := by unfold vecN; rw [Bool.and_eq_true, decide_eq_true_eq]
def handB (v : List Int) (n : Int) : Bool := decide (v.length = 0) || vecN v n
def sizeAt (m : List OpD) (i : Nat) : Int := if i < m.length then (m.getD i zOp).2.1 else (m.getD (m.length - 1) zOp).2.2.1
def rowsAt (m : List OpD) (r : List (List Int)) (n : Nat) : Bool := (List.range n).all fun i => vecN (r.getD i []) (sizeAt m i)
def keptN (m : List OpD) (redo : Bool) : Nat := if redo = true then 1 else m.length + 1
def savedB (m : List OpD) (redo : Bool) (x : Int × List (List Int)) : Bool := decide (x.2.length = keptN m redo) && rowsAt m x.2 (keptN m redo)
def stageB (s : StageD) : Bool := modelB s.2.2.1 && (decide (0 ≤ s.1 ∧ s.1 ≤ (s.2.1.length : Int)) && (fitB s.2.2.1 s.2.2.2.2.2.2.2.2.2.2.2.1 && (s.2.2.2.2.2.1.all (savedB s.2.2.1 s.2.2.2.2.1) &&
  (handB s.2.2.2.2.2.2.2.1 (inOf s.2.2.1) && (handB s.2.2.2.2.2.2.2.2.2.2.1 (inOf s.2.2.1) && (handB s.2.2.2.2.2.2.2.2.1 (outOf s.2.2.1) && handB s.2.2.2.2.2.2.2.2.2.1 (outOf s.2.2.1)))))))
theorem vecN_f {v : List Int} {n : Int} (h : vecB v = false) : false = vecN v n := by unfold vecN; rw [h]; rfl
theorem vecN_t {v : List Int} {n : Int} (h : vecB v = true) : ((v.length : Int) == n) = vecN v n := by unfold vecN; rw [h, Bool.true_and]; rfl
noncomputable def c_i_VecOk : Con := ⟨189, tInts, .bool, [.val ⟨false, tInts, []⟩], [⟨false, .bool, [0]⟩], false, none,
  ((fun _ => True) : (List Int) → Prop),
  ((fun x => vecB x) : (List Int) → (Bool))⟩
def t_i_VecOk : T :=
  .prim (.llen 3 tI) (.vr 0) <|
  .prim (.cmp .geq .i64) (.mk2 tI tI (.vr 1) (.ci .i64 1)) <|
  .ite (.vr 2) (
   .prim (.llen 3 tI) (.vr 0) <|
   .prim (.cmp .leq .i64) (.mk2 tI tI (.vr 3) (.ci .i64 6)) <|
   .ite (.vr 4) (
    .call 0 (.vr 0) <|
    .ret (.vr 5)) (
    .ret (.cb false))) (
   .ret (.cb false))
set_option maxRecDepth 100000 in
theorem e_i_VecOk : exFn Tryz.prog [c_i_allFix] c_i_VecOk false 3000 ⟨[], []⟩ = .ok t_i_VecOk := by kernel_rfl
theorem v_i_VecOk (x : List Int) (hx : okD tInts x) (hp : (fun _ => True) x) : t_i_VecOk.wp [c_i_allFix] [⟨tInts, x⟩] [] (fun v => v.as .bool = (fun x => vecB x) x) := by
  delta t_i_VecOk c_i_allFix; refine vcx ?_; try with_reducible exact True.intro
  (repeat' first | intro _ | (with_reducible apply And.intro))
  all_goals simp only [Int.toNat_natCast, Bool.not_eq_true', Bool.not_eq_false', Bool.and_eq_true, Bool.and_eq_false_iff, decide_eq_true_eq, decide_eq_false_iff_not, Int.not_lt, Int.not_le, ge_iff_le, gt_iff_lt, List.length_cons, List.length_nil, List.length_append, Nat.zero_add, List.nil_append, beq_iff_eq, beq_eq_false_iff_ne, bne_iff_ne, bne_eq_false_iff_eq, ne_eq, toNat_pred, toNat_succ, toNat_l0, toNat_l1] at *
  all_goals first | (first | (refine (Bool.eq_false_iff.2 ?_).symm; rw [ne_eq, vecB_iff]; intro hh; omega) | (refine (vecB_iff.2 ?_).symm; omega)) | (rw [Bool.eq_iff_iff, vecB_iff]; exact ⟨fun h => ⟨by omega, by omega, h⟩, fun h => h.2.2⟩)
theorem h_i_VecOk : Con.Holds Tryz.prog c_i_VecOk := tree_ok mixedP (consAt h_i_allFix consNil) e_i_VecOk fun x hx hp => v_i_VecOk x hx hp
noncomputable def c_i_vecOf : Con := ⟨209, (.pair tInts tI), .bool, [.val ⟨false, tInts, []⟩, .val ⟨false, tI, []⟩], [⟨false, .bool, [0]⟩], false, none,
  ((fun _ => True) : (IntsD × Int) → Prop),
  ((fun x => vecN x.1 x.2) : (IntsD × Int) → (Bool))⟩
def t_i_vecOf : T :=
  .call 0 (.p1 tInts tI (.vr 0)) <|
  .ite (.vr 1) (
   .prim (.llen 3 tI) (.p1 tInts tI (.vr 0)) <|
   .prim (.cmp .eql .i64) (.mk2 tI tI (.vr 2) (prA (.pair tInts tI) 1 (.vr 0))) <|
   .ret (.vr 3)) (
   .ret (.cb false))
set_option maxRecDepth 100000 in
theorem e_i_vecOf : exFn Tryz.prog [c_i_VecOk] c_i_vecOf false 3000 ⟨[], []⟩ = .ok t_i_vecOf := by kernel_rfl
theorem v_i_vecOf (x : IntsD × Int) (hx : okD (.pair tInts tI) x) (hp : (fun _ => True) x) : t_i_vecOf.wp [c_i_VecOk] [⟨(.pair tInts tI), x⟩] [] (fun v => v.as .bool = (fun x => vecN x.1 x.2) x) := by
  delta t_i_vecOf c_i_VecOk; refine vcx ?_; try with_reducible exact True.intro
  exact ⟨fun h _ => vecN_t h, fun h => vecN_f h⟩
theorem h_i_vecOf : Con.Holds Tryz.prog c_i_vecOf := tree_ok mixedP (consAt h_i_VecOk consNil) e_i_vecOf fun x hx hp => v_i_vecOf x hx hp
noncomputable def c_i_InOf : Con := ⟨210, tModel, tI, [.val ⟨true, tModel, []⟩], [⟨false, tI, [0]⟩], false, none,
  ((fun _ => True) : (ModelD) → Prop),
  ((fun x => inOf x) : (ModelD) → (Int))⟩
def t_i_InOf : T :=
  .call 0 (.vr 0) <|
  .prim .not (.vr 1) <|
  .ite (.vr 2) (
   .ret (.ci .i64 0)) (
   .prim (.lidx 146 tOp) (.mk2 tModel tI (.vr 0) (.ci .i64 0)) <|
   .ret (pjA tOp 1 (.vr 3)))
set_option maxRecDepth 100000 in
theorem e_i_InOf : exFn Tryz.prog [c_i_ModelOk] c_i_InOf false 3000 ⟨[], []⟩ = .ok t_i_InOf := by kernel_rfl
theorem v_i_InOf (x : ModelD) (hx : okD tModel x) (hp : (fun _ => True) x) : t_i_InOf.wp [c_i_ModelOk] [⟨tModel, x⟩] [] (fun v => v.as tI = (fun x => inOf x) x) := by
  delta t_i_InOf c_i_ModelOk; refine vcx ?_; try with_reducible exact True.intro
  refine ⟨fun h => ?_, fun h => ?_⟩
  all_goals simp only [Int.toNat_natCast, Bool.not_eq_true', Bool.not_eq_false', Bool.and_eq_true, Bool.and_eq_false_iff, decide_eq_true_eq, decide_eq_false_iff_not, Int.not_lt, Int.not_le, ge_iff_le, gt_iff_lt, List.length_cons, List.length_nil, List.length_append, Nat.zero_add, List.nil_append, beq_iff_eq, beq_eq_false_iff_ne, bne_iff_ne, bne_eq_false_iff_eq, ne_eq, toNat_pred, toNat_succ, toNat_l0, toNat_l1] at h
  · unfold inOf; rw [h]; rfl
  · have := (modelB_iff x).1 h
    refine ⟨by omega, fun _ => ?_⟩
    unfold inOf; rw [if_pos h]; rfl
theorem h_i_InOf : Con.Holds Tryz.prog c_i_InOf := tree_ok mixedP (consAt h_i_ModelOk consNil) e_i_InOf fun x hx hp => v_i_InOf x hx hp
noncomputable def c_i_OutOf : Con := ⟨211, tModel, tI, [.val ⟨true, tModel, []⟩], [⟨false, tI, [0]⟩], false, none,
  ((fun _ => True) : (ModelD) → Prop),
  ((fun x => outOf x) : (ModelD) → (Int))⟩
def t_i_OutOf : T :=
  .call 0 (.vr 0) <|
  .prim .not (.vr 1) <|
  .ite (.vr 2) (
   .ret (.ci .i64 0)) (
   .prim (.llen 146 tOp) (.vr 0) <|
   .prim (.ar .sub .i64) (.mk2 tI tI (.vr 3) (.ci .i64 1)) <|
   .prim (.lidx 146 tOp) (.mk2 tModel tI (.vr 0) (.vr 4)) <|
   .ret (pjA tOp 2 (.vr 5)))
set_option maxRecDepth 100000 in
theorem e_i_OutOf : exFn Tryz.prog [c_i_ModelOk] c_i_OutOf false 3000 ⟨[], []⟩ = .ok t_i_OutOf := by kernel_rfl
theorem v_i_OutOf (x : ModelD) (hx : okD tModel x) (hp : (fun _ => True) x) : t_i_OutOf.wp [c_i_ModelOk] [⟨tModel, x⟩] [] (fun v => v.as tI = (fun x => outOf x) x) := by
  delta t_i_OutOf c_i_ModelOk; refine vcx ?_; try with_reducible exact True.intro
  refine ⟨fun h => ?_, fun h => ?_⟩
  all_goals simp only [Int.toNat_natCast, Bool.not_eq_true', Bool.not_eq_false', Bool.and_eq_true, Bool.and_eq_false_iff, decide_eq_true_eq, decide_eq_false_iff_not, Int.not_lt, Int.not_le, ge_iff_le, gt_iff_lt, List.length_cons, List.length_nil, List.length_append, Nat.zero_add, List.nil_append, beq_iff_eq, beq_eq_false_iff_ne, bne_iff_ne, bne_eq_false_iff_eq, ne_eq, toNat_pred, toNat_succ, toNat_l0, toNat_l1] at h
  · unfold outOf; rw [h]; rfl
  · have := (modelB_iff x).1 h
    refine fun _ => ⟨by omega, fun _ => ⟨by omega, fun _ => ?_⟩⟩
    unfold outOf; rw [if_pos h, toNat_pred]; rfl
theorem h_i_OutOf : Con.Holds Tryz.prog c_i_OutOf := tree_ok mixedP (consAt h_i_ModelOk consNil) e_i_OutOf fun x hx hp => v_i_OutOf x hx hp
noncomputable def c_i_emptyOr : Con := ⟨265, (.pair tInts tI), .bool, [.val ⟨false, tInts, []⟩, .val ⟨false, tI, []⟩], [⟨false, .bool, [0]⟩], false, none,
  ((fun _ => True) : (IntsD × Int) → Prop),
  ((fun x => handB x.1 x.2) : (IntsD × Int) → (Bool))⟩
def t_i_emptyOr : T :=
  .prim (.llen 3 tI) (.p1 tInts tI (.vr 0)) <|
  .prim (.cmp .eql .i64) (.mk2 tI tI (.vr 1) (.ci .i64 0)) <|
  .ite (.vr 2) (
   .ret (.cb true)) (
   .call 0 (.vr 0) <|
   .ret (.vr 3))
noncomputable def c_s_l11Hand : Con := ⟨259, (.pair tInts tI), .bool, [.val ⟨false, tInts, []⟩, .val ⟨false, tI, []⟩], [⟨false, .bool, [0]⟩], false, none,
  ((fun _ => True) : (IntsD × Int) → Prop),
  ((fun x => handB x.1 x.2) : (IntsD × Int) → (Bool))⟩
def t_s_l11Hand : T :=
  .prim (.llen 3 tI) (.p1 tInts tI (.vr 0)) <|
  .prim (.cmp .eql .i64) (.mk2 tI tI (.vr 1) (.ci .i64 0)) <|
  .ite (.vr 2) (
   .ret (.cb true)) (
   .call 0 (.p1 tInts tI (.vr 0)) <|
   .ite (.vr 3) (
    .prim (.llen 3 tI) (.p1 tInts tI (.vr 0)) <|
    .prim (.cmp .eql .i64) (.mk2 tI tI (.vr 4) (prA (.pair tInts tI) 1 (.vr 0))) <|
    .ret (.vr 5)) (
    .ret (.cb false)))
noncomputable def c_i_goesIn : Con := ⟨246, (.pair tModel (.pair tRows tI)), .bool, [.val ⟨false, tModel, []⟩, .val ⟨false, tRows, []⟩, .val ⟨false, tI, []⟩], [⟨false, .bool, [0]⟩], false, none,
  ((fun x => modelB x.1 = true ∧ x.2.2 ≤ (x.2.1.length : Int)) : (ModelD × (RowsD × Int)) → Prop),
  ((fun x => rowsAt x.1 x.2.1 x.2.2.toNat) : (ModelD × (RowsD × Int)) → (Bool))⟩
def t_i_goesIn : T :=
  .loop tI (.ci .i64 0) <|
   .prim (.cmp .lss .i64) (.mk2 tI tI (.vr 1) (prA (.pair tModel (.pair tRows tI)) 2 (.vr 0))) <|
   .ite (.vr 2) (
    .prim (.llen 146 tOp) (.p1 tModel (.pair tRows tI) (.vr 0)) <|
    .prim (.ar .sub .i64) (.mk2 tI tI (.vr 3) (.ci .i64 1)) <|
    .prim (.lidx 146 tOp) (.mk2 tModel tI (.p1 tModel (.pair tRows tI) (.vr 0)) (.vr 4)) <|
    .prim (.llen 146 tOp) (.p1 tModel (.pair tRows tI) (.vr 0)) <|
    .prim (.cmp .lss .i64) (.mk2 tI tI (.vr 1) (.vr 6)) <|
    .ite (.vr 7) (
     .prim (.lidx 146 tOp) (.mk2 tModel tI (.p1 tModel (.pair tRows tI) (.vr 0)) (.vr 1)) <|
     .prim (.lidx 156 tInts) (.mk2 tRows tI (pjA (.pair tModel (.pair tRows tI)) 1 (.vr 0)) (.vr 1)) <|
     .call 0 (.mk2 tInts tI (.vr 9) (pjA tOp 1 (.vr 8))) <|
     .prim .not (.vr 10) <|
     .ite (.vr 11) (
      .ret (.cb false)) (
      .prim (.ar .add .i64) (.mk2 tI tI (.vr 1) (.ci .i64 1)) <|
      .again 0 (.vr 12))) (
     .prim (.lidx 156 tInts) (.mk2 tRows tI (pjA (.pair tModel (.pair tRows tI)) 1 (.vr 0)) (.vr 1)) <|
     .call 0 (.mk2 tInts tI (.vr 8) (pjA tOp 2 (.vr 5))) <|
     .prim .not (.vr 9) <|
     .ite (.vr 10) (
      .ret (.cb false)) (
      .prim (.ar .add .i64) (.mk2 tI tI (.vr 1) (.ci .i64 1)) <|
      .again 0 (.vr 11)))) (
    .ret (.cb true))
noncomputable def c_i_StageOk : Con := ⟨191, tStage, .bool, [.val ⟨true, tStage, []⟩], [⟨false, .bool, [0]⟩], false, none,
  ((fun _ => True) : (StageD) → Prop),
  ((fun x => stageB x) : (StageD) → (Bool))⟩
def t_i_StageOk : T :=
  .call 0 (.vr 0) <|
  .call 1 (.vr 1) <|
  .prim .not (.vr 2) <|
  .ite (.vr 3) (
   .ret (.cb false)) (
   .prim (.cmp .lss .i64) (.mk2 tI tI (.p1 tI (.pair tPlan (.pair tModel (.pair .bool (.pair .bool (.pair (.slice 206 tSaved) (.pair tRows (.pair tInts (.pair tInts (.pair tInts (.pair tInts tGrads)))))))))) (.vr 0)) (.ci .i64 0)) <|
   .ite (.vr 4) (
    .ret (.cb false)) (
    .prim (.llen 194 tIns) (pjA tStage 1 (.vr 0)) <|
    .prim (.cmp .gtr .i64) (.mk2 tI tI (.p1 tI (.pair tPlan (.pair tModel (.pair .bool (.pair .bool (.pair (.slice 206 tSaved) (.pair tRows (.pair tInts (.pair tInts (.pair tInts (.pair tInts tGrads)))))))))) (.vr 0)) (.vr 5)) <|
    .ite (.vr 6) (
     .ret (.cb false)) (
     .call 2 (.mk2 tModel tRows (.vr 1) (pjA tStage 11 (.vr 0))) <|
     .prim .not (.vr 7) <|
     .ite (.vr 8) (
      .ret (.cb false)) (
      .prim (.llen 146 tOp) (pjA tStage 2 (.vr 0)) <|
      .prim (.ar .add .i64) (.mk2 tI tI (.vr 9) (.ci .i64 1)) <|
      .ite (pjA tStage 4 (.vr 0)) (
       .prim (.llen 206 tSaved) (pjA tStage 5 (.vr 0)) <|
       .loop tI (.ci .i64 0) <|
        .prim (.cmp .lss .i64) (.mk2 tI tI (.vr 12) (.vr 11)) <|
        .ite (.vr 13) (
         .prim (.lidx 206 tSaved) (.mk2 (.slice 206 tSaved) tI (pjA tStage 5 (.vr 0)) (.vr 12)) <|
         .prim (.llen 156 tInts) (prA tSaved 1 (.vr 14)) <|
         .prim (.cmp .neq .i64) (.mk2 tI tI (.vr 15) (.ci .i64 1)) <|
         .ite (.vr 16) (
          .ret (.cb false)) (
          .call 3 (mkA (.pair tModel (.pair tRows tI)) [(pjA tStage 2 (.vr 0)), (prA tSaved 1 (.vr 14)), (.ci .i64 1)]) <|
          .prim .not (.vr 17) <|
          .ite (.vr 18) (
           .ret (.cb false)) (
           .prim (.ar .add .i64) (.mk2 tI tI (.vr 12) (.ci .i64 1)) <|
           .again 0 (.vr 19)))) (
         .call 4 (.vr 1) <|
         .call 5 (.vr 1) <|
         .call 6 (.mk2 tInts tI (pjA tStage 7 (.vr 0)) (.vr 14)) <|
         .ite (.vr 16) (
          .call 6 (.mk2 tInts tI (pjA tStage 10 (.vr 0)) (.vr 14)) <|
          .ite (.vr 17) (
           .call 6 (.mk2 tInts tI (pjA tStage 8 (.vr 0)) (.vr 15)) <|
           .ite (.vr 18) (
            .call 6 (.mk2 tInts tI (pjA tStage 9 (.vr 0)) (.vr 15)) <|
            .ret (.vr 19)) (
            .ret (.cb false))) (
           .ret (.cb false))) (
          .ret (.cb false)))) (
       .prim (.llen 206 tSaved) (pjA tStage 5 (.vr 0)) <|
       .loop tI (.ci .i64 0) <|
        .prim (.cmp .lss .i64) (.mk2 tI tI (.vr 12) (.vr 11)) <|
        .ite (.vr 13) (
         .prim (.lidx 206 tSaved) (.mk2 (.slice 206 tSaved) tI (pjA tStage 5 (.vr 0)) (.vr 12)) <|
         .prim (.llen 156 tInts) (prA tSaved 1 (.vr 14)) <|
         .prim (.cmp .neq .i64) (.mk2 tI tI (.vr 15) (.vr 10)) <|
         .ite (.vr 16) (
          .ret (.cb false)) (
          .call 3 (mkA (.pair tModel (.pair tRows tI)) [(pjA tStage 2 (.vr 0)), (prA tSaved 1 (.vr 14)), (.vr 10)]) <|
          .prim .not (.vr 17) <|
          .ite (.vr 18) (
           .ret (.cb false)) (
           .prim (.ar .add .i64) (.mk2 tI tI (.vr 12) (.ci .i64 1)) <|
           .again 0 (.vr 19)))) (
         .call 4 (.vr 1) <|
         .call 5 (.vr 1) <|
         .call 6 (.mk2 tInts tI (pjA tStage 7 (.vr 0)) (.vr 14)) <|
         .ite (.vr 16) (
          .call 6 (.mk2 tInts tI (pjA tStage 10 (.vr 0)) (.vr 14)) <|
          .ite (.vr 17) (
           .call 6 (.mk2 tInts tI (pjA tStage 8 (.vr 0)) (.vr 15)) <|
           .ite (.vr 18) (
            .call 6 (.mk2 tInts tI (pjA tStage 9 (.vr 0)) (.vr 15)) <|
            .ret (.vr 19)) (
            .ret (.cb false))) (
           .ret (.cb false))) (
          .ret (.cb false))))))))
noncomputable def c_s_StageOk : Con := ⟨184, tStage, .bool, [.val ⟨true, tStage, []⟩], [⟨false, .bool, [0]⟩], false, none,
  ((fun _ => True) : (StageD) → Prop),
  ((fun x => stageB x) : (StageD) → (Bool))⟩
def t_s_StageOk : T :=
  .call 0 (pjA tStage 2 (.vr 0)) <|
  .prim .not (.vr 1) <|
  .ite (.vr 2) (
   .ret (.cb false)) (
   .prim (.llen 194 tIns) (pjA tStage 1 (.vr 0)) <|
   .call 1 (mkA (.pair tI tIns) [(.p1 tI (.pair tPlan (.pair tModel (.pair .bool (.pair .bool (.pair (.slice 206 tSaved) (.pair tRows (.pair tInts (.pair tInts (.pair tInts (.pair tInts tGrads)))))))))) (.vr 0)), (.ci .i64 0), (.vr 3)]) <|
   .prim .not (.vr 4) <|
   .ite (.vr 5) (
    .ret (.cb false)) (
    .prim (.llen 156 tInts) (pjA tStage 11 (.vr 0)) <|
    .prim (.llen 146 tOp) (pjA tStage 2 (.vr 0)) <|
    .prim (.cmp .neq .i64) (.mk2 tI tI (.vr 6) (.vr 7)) <|
    .ite (.vr 8) (
     .ret (.cb false)) (
     .prim (.lidx 146 tOp) (.mk2 tModel tI (pjA tStage 2 (.vr 0)) (.ci .i64 0)) <|
     .prim (.llen 146 tOp) (pjA tStage 2 (.vr 0)) <|
     .prim (.ar .sub .i64) (.mk2 tI tI (.vr 10) (.ci .i64 1)) <|
     .prim (.lidx 146 tOp) (.mk2 tModel tI (pjA tStage 2 (.vr 0)) (.vr 11)) <|
     .loop tI (.ci .i64 0) <|
      .prim (.llen 146 tOp) (pjA tStage 2 (.vr 0)) <|
      .prim (.cmp .lss .i64) (.mk2 tI tI (.vr 13) (.vr 14)) <|
      .ite (.vr 15) (
       .prim (.lidx 156 tInts) (.mk2 tRows tI (pjA tStage 11 (.vr 0)) (.vr 13)) <|
       .prim (.llen 3 tI) (.vr 16) <|
       .prim (.lidx 146 tOp) (.mk2 tModel tI (pjA tStage 2 (.vr 0)) (.vr 13)) <|
       .prim (.llen 3 tI) (prA tOp 3 (.vr 18)) <|
       .prim (.cmp .neq .i64) (.mk2 tI tI (.vr 17) (.vr 19)) <|
       .ite (.vr 20) (
        .ret (.cb false)) (
        .prim (.ar .add .i64) (.mk2 tI tI (.vr 13) (.ci .i64 1)) <|
        .again 0 (.vr 21))) (
       .loop tI (.ci .i64 0) <|
        .prim (.llen 206 tSaved) (pjA tStage 5 (.vr 0)) <|
        .prim (.cmp .lss .i64) (.mk2 tI tI (.vr 16) (.vr 17)) <|
        .ite (.vr 18) (
         .prim (.lidx 206 tSaved) (.mk2 (.slice 206 tSaved) tI (pjA tStage 5 (.vr 0)) (.vr 16)) <|
         .prim (.llen 156 tInts) (prA tSaved 1 (.vr 19)) <|
         .prim (.cmp .eql .i64) (.mk2 tI tI (.vr 20) (.ci .i64 0)) <|
         .ite (.vr 21) (
          .ret (.cb false)) (
          .prim (.lidx 156 tInts) (.mk2 tRows tI (prA tSaved 1 (.vr 19)) (.ci .i64 0)) <|
          .call 2 (.vr 22) <|
          .prim .not (.vr 23) <|
          .ite (.vr 24) (
           .ret (.cb false)) (
           .prim (.lidx 156 tInts) (.mk2 tRows tI (prA tSaved 1 (.vr 19)) (.ci .i64 0)) <|
           .prim (.llen 3 tI) (.vr 25) <|
           .prim (.cmp .neq .i64) (.mk2 tI tI (.vr 26) (pjA tOp 1 (.vr 9))) <|
           .ite (.vr 27) (
            .ret (.cb false)) (
            .prim .not (pjA tStage 4 (.vr 0)) <|
            .ite (.vr 28) (
             .prim (.llen 156 tInts) (prA tSaved 1 (.vr 19)) <|
             .prim (.llen 146 tOp) (pjA tStage 2 (.vr 0)) <|
             .prim (.ar .add .i64) (.mk2 tI tI (.vr 30) (.ci .i64 1)) <|
             .prim (.cmp .neq .i64) (.mk2 tI tI (.vr 29) (.vr 31)) <|
             .ite (.vr 32) (
              .ret (.cb false)) (
              .ite (pjA tStage 4 (.vr 0)) (
               .prim (.llen 156 tInts) (prA tSaved 1 (.vr 19)) <|
               .prim (.cmp .neq .i64) (.mk2 tI tI (.vr 33) (.ci .i64 1)) <|
               .ite (.vr 34) (
                .ret (.cb false)) (
                .loop tI (.ci .i64 1) <|
                 .prim (.llen 156 tInts) (prA tSaved 1 (.vr 19)) <|
                 .prim (.cmp .lss .i64) (.mk2 tI tI (.vr 35) (.vr 36)) <|
                 .ite (.vr 37) (
                  .prim (.lidx 156 tInts) (.mk2 tRows tI (prA tSaved 1 (.vr 19)) (.vr 35)) <|
                  .call 2 (.vr 38) <|
                  .prim .not (.vr 39) <|
                  .ite (.vr 40) (
                   .ret (.cb false)) (
                   .prim (.ar .sub .i64) (.mk2 tI tI (.vr 35) (.ci .i64 1)) <|
                   .prim (.lidx 156 tInts) (.mk2 tRows tI (prA tSaved 1 (.vr 19)) (.vr 35)) <|
                   .prim (.llen 3 tI) (.vr 42) <|
                   .prim (.lidx 146 tOp) (.mk2 tModel tI (pjA tStage 2 (.vr 0)) (.vr 41)) <|
                   .prim (.cmp .neq .i64) (.mk2 tI tI (.vr 43) (pjA tOp 2 (.vr 44))) <|
                   .ite (.vr 45) (
                    .ret (.cb false)) (
                    .prim (.ar .add .i64) (.mk2 tI tI (.vr 35) (.ci .i64 1)) <|
                    .again 0 (.vr 46)))) (
                  .prim (.ar .add .i64) (.mk2 tI tI (.vr 16) (.ci .i64 1)) <|
                  .again 1 (.vr 38)))) (
               .loop tI (.ci .i64 1) <|
                .prim (.llen 156 tInts) (prA tSaved 1 (.vr 19)) <|
                .prim (.cmp .lss .i64) (.mk2 tI tI (.vr 33) (.vr 34)) <|
                .ite (.vr 35) (
                 .prim (.lidx 156 tInts) (.mk2 tRows tI (prA tSaved 1 (.vr 19)) (.vr 33)) <|
                 .call 2 (.vr 36) <|
                 .prim .not (.vr 37) <|
                 .ite (.vr 38) (
                  .ret (.cb false)) (
                  .prim (.ar .sub .i64) (.mk2 tI tI (.vr 33) (.ci .i64 1)) <|
                  .prim (.lidx 156 tInts) (.mk2 tRows tI (prA tSaved 1 (.vr 19)) (.vr 33)) <|
                  .prim (.llen 3 tI) (.vr 40) <|
                  .prim (.lidx 146 tOp) (.mk2 tModel tI (pjA tStage 2 (.vr 0)) (.vr 39)) <|
                  .prim (.cmp .neq .i64) (.mk2 tI tI (.vr 41) (pjA tOp 2 (.vr 42))) <|
                  .ite (.vr 43) (
                   .ret (.cb false)) (
                   .prim (.ar .add .i64) (.mk2 tI tI (.vr 33) (.ci .i64 1)) <|
                   .again 0 (.vr 44)))) (
                 .prim (.ar .add .i64) (.mk2 tI tI (.vr 16) (.ci .i64 1)) <|
                 .again 1 (.vr 36))))) (
             .ite (pjA tStage 4 (.vr 0)) (
              .prim (.llen 156 tInts) (prA tSaved 1 (.vr 19)) <|
              .prim (.cmp .neq .i64) (.mk2 tI tI (.vr 29) (.ci .i64 1)) <|
              .ite (.vr 30) (
               .ret (.cb false)) (
               .loop tI (.ci .i64 1) <|
                .prim (.llen 156 tInts) (prA tSaved 1 (.vr 19)) <|
                .prim (.cmp .lss .i64) (.mk2 tI tI (.vr 31) (.vr 32)) <|
                .ite (.vr 33) (
                 .prim (.lidx 156 tInts) (.mk2 tRows tI (prA tSaved 1 (.vr 19)) (.vr 31)) <|
                 .call 2 (.vr 34) <|
                 .prim .not (.vr 35) <|
                 .ite (.vr 36) (
                  .ret (.cb false)) (
                  .prim (.ar .sub .i64) (.mk2 tI tI (.vr 31) (.ci .i64 1)) <|
                  .prim (.lidx 156 tInts) (.mk2 tRows tI (prA tSaved 1 (.vr 19)) (.vr 31)) <|
                  .prim (.llen 3 tI) (.vr 38) <|
                  .prim (.lidx 146 tOp) (.mk2 tModel tI (pjA tStage 2 (.vr 0)) (.vr 37)) <|
                  .prim (.cmp .neq .i64) (.mk2 tI tI (.vr 39) (pjA tOp 2 (.vr 40))) <|
                  .ite (.vr 41) (
                   .ret (.cb false)) (
                   .prim (.ar .add .i64) (.mk2 tI tI (.vr 31) (.ci .i64 1)) <|
                   .again 0 (.vr 42)))) (
                 .prim (.ar .add .i64) (.mk2 tI tI (.vr 16) (.ci .i64 1)) <|
                 .again 1 (.vr 34)))) (
              .loop tI (.ci .i64 1) <|
               .prim (.llen 156 tInts) (prA tSaved 1 (.vr 19)) <|
               .prim (.cmp .lss .i64) (.mk2 tI tI (.vr 29) (.vr 30)) <|
               .ite (.vr 31) (
                .prim (.lidx 156 tInts) (.mk2 tRows tI (prA tSaved 1 (.vr 19)) (.vr 29)) <|
                .call 2 (.vr 32) <|
                .prim .not (.vr 33) <|
                .ite (.vr 34) (
                 .ret (.cb false)) (
                 .prim (.ar .sub .i64) (.mk2 tI tI (.vr 29) (.ci .i64 1)) <|
                 .prim (.lidx 156 tInts) (.mk2 tRows tI (prA tSaved 1 (.vr 19)) (.vr 29)) <|
                 .prim (.llen 3 tI) (.vr 36) <|
                 .prim (.lidx 146 tOp) (.mk2 tModel tI (pjA tStage 2 (.vr 0)) (.vr 35)) <|
                 .prim (.cmp .neq .i64) (.mk2 tI tI (.vr 37) (pjA tOp 2 (.vr 38))) <|
                 .ite (.vr 39) (
                  .ret (.cb false)) (
                  .prim (.ar .add .i64) (.mk2 tI tI (.vr 29) (.ci .i64 1)) <|
                  .again 0 (.vr 40)))) (
                .prim (.ar .add .i64) (.mk2 tI tI (.vr 16) (.ci .i64 1)) <|
                .again 1 (.vr 32)))))))) (
         .call 3 (.mk2 tInts tI (pjA tStage 7 (.vr 0)) (pjA tOp 1 (.vr 9))) <|
         .ite (.vr 19) (
          .call 3 (.mk2 tInts tI (pjA tStage 8 (.vr 0)) (pjA tOp 2 (.vr 12))) <|
          .ite (.vr 20) (
           .call 3 (.mk2 tInts tI (pjA tStage 9 (.vr 0)) (pjA tOp 2 (.vr 12))) <|
           .ite (.vr 21) (
            .call 3 (.mk2 tInts tI (pjA tStage 10 (.vr 0)) (pjA tOp 1 (.vr 9))) <|
            .ret (.vr 22)) (
            .ret (.cb false))) (
           .ret (.cb false))) (
          .ret (.cb false)))))))
end Go.Proofs.YtiihghfoeinbbaaGreat
