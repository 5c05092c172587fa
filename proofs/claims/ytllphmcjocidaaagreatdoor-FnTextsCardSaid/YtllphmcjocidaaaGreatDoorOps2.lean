/- Ops2: trees, and what they say. -/
import Derived.Test.YtllphmcjocidaaaGreatDoorGr2
namespace Go.Proofs.YtllphmcjocidaaaGreatDoor
open Go.ChangeShapes Go.WideShapes Go.ChangeAt Go.RowKit Go.Deep
set_option linter.unusedVariables false
set_option linter.unusedSimpArgs false
def vecB (v : List Int) : Bool := decide (1 ≤ v.length) && (decide (v.length ≤ 6) && v.all fixB)
theorem vecB_iff (v : List Int) : vecB v = true ↔ 1 ≤ v.length ∧ v.length ≤ 6 ∧ v.all fixB = true := by unfold vecB; simp only [Bool.and_eq_true, decide_eq_true_eq]

def opSize (o : OpD) : Int := if o.2.1 < 1 ∨ 6 < o.2.1 ∨ o.2.2.1 < 1 ∨ 6 < o.2.2.1 then 0 else if o.1 = 1 ∨ o.1 = 5 then o.2.1 * o.2.2.1 else if o.1 = 2 then o.2.1 else if o.1 = 4 then 1 else 0
def opB (o : OpD) : Bool := decide (1 ≤ o.1 ∧ o.1 ≤ 5 ∧ 1 ≤ o.2.1 ∧ o.2.1 ≤ 6 ∧ 1 ≤ o.2.2.1 ∧ o.2.2.1 ≤ 6 ∧ (o.1 ≠ 1 → o.2.1 = o.2.2.1) ∧ (o.2.2.2.length : Int) = opSize o) && o.2.2.2.all fixB
theorem opB_iff (o : OpD) : opB o = true ↔ (1 ≤ o.1 ∧ o.1 ≤ 5 ∧ 1 ≤ o.2.1 ∧ o.2.1 ≤ 6 ∧ 1 ≤ o.2.2.1 ∧ o.2.2.1 ≤ 6 ∧ (o.1 ≠ 1 → o.2.1 = o.2.2.1) ∧ (o.2.2.2.length : Int) = opSize o) ∧ o.2.2.2.all fixB = true := by
  unfold opB; simp only [Bool.and_eq_true, decide_eq_true_eq]
theorem lenN {m n : Nat} : ((m : Int) = (n : Int)) ↔ m = n := by omega
def zOp : OpD := (0, 0, 0, [])
def okAt (m : List OpD) (i : Nat) : Bool := opB (m.getD i zOp) && (decide (i = 0) || decide ((m.getD (i - 1) zOp).2.2.1 = (m.getD i zOp).2.1))
theorem okAt_iff (m : List OpD) {i : Nat} (h : i < m.length) : okAt m i = true ↔ opB m[i] = true ∧ (i = 0 ∨ (m[i - 1]'(by omega)).2.2.1 = m[i].2.1) := by
  unfold okAt
  rw [getD_at h, getD_at (show i - 1 < m.length by omega)]
  simp only [Bool.and_eq_true, Bool.or_eq_true, decide_eq_true_eq]
def modelB (m : List OpD) : Bool := decide (1 ≤ m.length) && (decide (m.length ≤ 8) && (List.range m.length).all (okAt m))
theorem modelB_iff (m : List OpD) : modelB m = true ↔ 1 ≤ m.length ∧ m.length ≤ 8 ∧ ∀ i, i < m.length → okAt m i = true := by
  unfold modelB; simp only [Bool.and_eq_true, decide_eq_true_eq, List.all_eq_true, List.mem_range]
theorem modelB_bad {m : List OpD} {i : Nat} (h : i < m.length) (hb : ¬ okAt m i = true) : false = modelB m := by
  refine (Bool.eq_false_iff.2 ?_).symm
  rw [ne_eq, modelB_iff]
  exact fun hh => hb (hh.2.2 i h)
theorem opSize_0 {o : OpD} (h : o.2.1 < 1 ∨ 6 < o.2.1 ∨ o.2.2.1 < 1 ∨ 6 < o.2.2.1 ∨ (o.1 ≠ 1 ∧ o.1 ≠ 5 ∧ o.1 ≠ 2 ∧ o.1 ≠ 4)) : 0 = opSize o := by
  unfold opSize
  split
  · rfl
  · rw [if_neg (by omega), if_neg (by omega), if_neg (by omega)]
theorem opSize_m {o : OpD} (h : 1 ≤ o.2.1 ∧ o.2.1 ≤ 6 ∧ 1 ≤ o.2.2.1 ∧ o.2.2.1 ≤ 6 ∧ (o.1 = 1 ∨ o.1 = 5)) : o.2.1 * o.2.2.1 = opSize o := by
  unfold opSize; rw [if_neg (by omega), if_pos (by omega)]
theorem opSize_b {o : OpD} (h : 1 ≤ o.2.1 ∧ o.2.1 ≤ 6 ∧ 1 ≤ o.2.2.1 ∧ o.2.2.1 ≤ 6 ∧ o.1 = 2) : o.2.1 = opSize o := by
  unfold opSize; rw [if_neg (by omega), if_neg (by omega), if_pos (by omega)]
theorem opSize_1 {o : OpD} (h : 1 ≤ o.2.1 ∧ o.2.1 ≤ 6 ∧ 1 ≤ o.2.2.1 ∧ o.2.2.1 ≤ 6 ∧ o.1 = 4) : 1 = opSize o := by
  unfold opSize; rw [if_neg (by omega), if_neg (by omega), if_neg (by omega), if_pos (by omega)]
theorem mul_b {a b : Int} (h1 : 1 ≤ a) (h2 : a ≤ 6) (h3 : 1 ≤ b) (h4 : b ≤ 6) : 0 ≤ a * b ∧ a * b ≤ 36 :=
  ⟨Int.mul_nonneg (by omega) (by omega), Int.le_trans (Int.mul_le_mul h2 h4 (by omega) (by omega)) (by omega)⟩

/-! impl.allFix -/

noncomputable def c_i_allFix : Con := ⟨63, tInts, .bool, [.val ⟨false, tInts, []⟩], [⟨false, .bool, [0]⟩], false, none,
  ((fun _ => True) : (List Int) → Prop),
  ((fun x => List.all x fixB) : (List Int) → (Bool))⟩
def t_i_allFix : T :=
  .prim (.llen 3 tI) (.vr 0) <|
  .loop tI (.ci .i64 0) <|
   .prim (.cmp .lss .i64) (.mk2 tI tI (.vr 2) (.vr 1)) <|
   .ite (.vr 3) (
    .prim (.lidx 3 tI) (.mk2 tInts tI (.vr 0) (.vr 2)) <|
    .call 0 (.vr 4) <|
    .prim .not (.vr 5) <|
    .ite (.vr 6) (
     .ret (.cb false)) (
     .prim (.ar .add .i64) (.mk2 tI tI (.vr 2) (.ci .i64 1)) <|
     .again 0 (.vr 7))) (
    .ret (.cb true))
set_option maxRecDepth 100000 in
theorem e_i_allFix : exFn Tryz.prog [c_i_FixOk] c_i_allFix false 3000 ⟨[(2993, 1002, [.dr 0, .tm 7 0])], []⟩ = .ok t_i_allFix := by kernel_rfl
/- loops: Int -/
theorem v_i_allFix (x : List Int) (hx : okD tInts x) (hp : (fun _ => True) x) : t_i_allFix.wp [c_i_FixOk] [⟨tInts, x⟩] [] (fun v => v.as .bool = (fun x => List.all x fixB) x) := by
  have hp : List.length x ≤ 9223372036854775807 := hx.1
  delta t_i_allFix c_i_FixOk; refine vcx ?_; try with_reducible exact True.intro
  intro _
  refine ⟨fun s => ∃ k : Nat, k ≤ x.length ∧ s = (k : Int) ∧ (x.take k).all fixB = true, fun s => x.length - (s : Int).toNat, ⟨0, by omega, rfl, rfl⟩, fun s _ hI => ?_⟩
  obtain ⟨k, hk, rfl, ha⟩ := hI
  (refine dcx ?_; try with_reducible exact True.intro)
  constructor
  · intro hlt
    have hk' : k < x.length := by omega
    rw [getD_at hk']
    have e := all_next fixB x hk'
    (repeat' first | intro _ | (with_reducible apply And.intro))
    all_goals first | omega | skip
    · exact (all_bad hk' (by assumption)).symm
    · exact ⟨k + 1, by omega, rfl, by rw [e, ha]; simpa using ‹fixB _ = true›⟩
  · intro hge
    have : k = x.length := by omega
    subst this
    rw [List.take_length] at ha
    exact ha.symm
theorem h_i_allFix : Con.Holds Tryz.prog c_i_allFix := tree_ok mixedP (consAt h_i_FixOk consNil) e_i_allFix fun x hx hp => v_i_allFix x hx hp

/-! impl.OpSize -/

noncomputable def c_i_OpSize : Con := ⟨62, tOp, tI, [.val ⟨true, tOp, []⟩], [⟨false, tI, [0]⟩], false, none,
  ((fun _ => True) : (OpD) → Prop),
  ((fun x => opSize x) : (OpD) → (Int))⟩
def t_i_OpSize : T :=
  .prim (.cmp .lss .i64) (.mk2 tI tI (pjA tOp 1 (.vr 0)) (.ci .i64 1)) <|
  .ite (.vr 1) (
   .ret (.ci .i64 0)) (
   .prim (.cmp .gtr .i64) (.mk2 tI tI (pjA tOp 1 (.vr 0)) (.ci .i64 6)) <|
   .ite (.vr 2) (
    .ret (.ci .i64 0)) (
    .prim (.cmp .lss .i64) (.mk2 tI tI (pjA tOp 2 (.vr 0)) (.ci .i64 1)) <|
    .ite (.vr 3) (
     .ret (.ci .i64 0)) (
     .prim (.cmp .gtr .i64) (.mk2 tI tI (pjA tOp 2 (.vr 0)) (.ci .i64 6)) <|
     .ite (.vr 4) (
      .ret (.ci .i64 0)) (
      .prim (.cmp .eql .i64) (.mk2 tI tI (.p1 tI (.pair tI tItem) (.vr 0)) (.ci .i64 1)) <|
      .ite (.vr 5) (
       .prim (.ar .mul .i64) (.mk2 tI tI (pjA tOp 1 (.vr 0)) (pjA tOp 2 (.vr 0))) <|
       .ret (.vr 6)) (
       .prim (.cmp .eql .i64) (.mk2 tI tI (.p1 tI (.pair tI tItem) (.vr 0)) (.ci .i64 5)) <|
       .ite (.vr 6) (
        .prim (.ar .mul .i64) (.mk2 tI tI (pjA tOp 1 (.vr 0)) (pjA tOp 2 (.vr 0))) <|
        .ret (.vr 7)) (
        .prim (.cmp .eql .i64) (.mk2 tI tI (.p1 tI (.pair tI tItem) (.vr 0)) (.ci .i64 2)) <|
        .ite (.vr 7) (
         .ret (pjA tOp 1 (.vr 0))) (
         .prim (.cmp .eql .i64) (.mk2 tI tI (.p1 tI (.pair tI tItem) (.vr 0)) (.ci .i64 4)) <|
         .ite (.vr 8) (
          .ret (.ci .i64 1)) (
          .ret (.ci .i64 0)))))))))
set_option maxRecDepth 100000 in
theorem e_i_OpSize : exFn Tryz.prog [] c_i_OpSize false 3000 ⟨[], []⟩ = .ok t_i_OpSize := by kernel_rfl
theorem v_i_OpSize (x : OpD) (hx : okD tOp x) (hp : (fun _ => True) x) : t_i_OpSize.wp [] [⟨tOp, x⟩] [] (fun v => v.as tI = (fun x => opSize x) x) := by
  delta t_i_OpSize; refine vcx ?_; try with_reducible exact True.intro
  (repeat' first | intro _ | (with_reducible apply And.intro))
  all_goals simp only [Int.toNat_natCast, Bool.not_eq_true', Bool.not_eq_false', Bool.and_eq_true, Bool.and_eq_false_iff, decide_eq_true_eq, decide_eq_false_iff_not, Int.not_lt, Int.not_le, ge_iff_le, gt_iff_lt, List.length_cons, List.length_nil, List.length_append, Nat.zero_add, List.nil_append, beq_iff_eq, beq_eq_false_iff_ne, bne_iff_ne, bne_eq_false_iff_eq, ne_eq, toNat_pred, toNat_succ, toNat_l0, toNat_l1] at *
  all_goals first | omega | (have := mul_b (a := x.2.1) (b := x.2.2.1) (by omega) (by omega) (by omega) (by omega); omega) | exact opSize_0 (by omega) | exact opSize_m (by omega) | exact opSize_b (by omega) | exact opSize_1 (by omega)
theorem h_i_OpSize : Con.Holds Tryz.prog c_i_OpSize := tree_ok mixedP consNil e_i_OpSize fun x hx hp => v_i_OpSize x hx hp

/-! impl.OpOk -/

noncomputable def c_i_OpOk : Con := ⟨33, tOp, .bool, [.val ⟨true, tOp, []⟩], [⟨false, .bool, [0]⟩], false, none,
  ((fun _ => True) : (OpD) → Prop),
  ((fun x => opB x) : (OpD) → (Bool))⟩
def t_i_OpOk : T :=
  .prim (.cmp .lss .i64) (.mk2 tI tI (.p1 tI (.pair tI tItem) (.vr 0)) (.ci .i64 1)) <|
  .ite (.vr 1) (
   .ret (.cb false)) (
   .prim (.cmp .gtr .i64) (.mk2 tI tI (.p1 tI (.pair tI tItem) (.vr 0)) (.ci .i64 5)) <|
   .ite (.vr 2) (
    .ret (.cb false)) (
    .prim (.cmp .lss .i64) (.mk2 tI tI (pjA tOp 1 (.vr 0)) (.ci .i64 1)) <|
    .ite (.vr 3) (
     .ret (.cb false)) (
     .prim (.cmp .gtr .i64) (.mk2 tI tI (pjA tOp 1 (.vr 0)) (.ci .i64 6)) <|
     .ite (.vr 4) (
      .ret (.cb false)) (
      .prim (.cmp .lss .i64) (.mk2 tI tI (pjA tOp 2 (.vr 0)) (.ci .i64 1)) <|
      .ite (.vr 5) (
       .ret (.cb false)) (
       .prim (.cmp .gtr .i64) (.mk2 tI tI (pjA tOp 2 (.vr 0)) (.ci .i64 6)) <|
       .ite (.vr 6) (
        .ret (.cb false)) (
        .prim (.cmp .neq .i64) (.mk2 tI tI (.p1 tI (.pair tI tItem) (.vr 0)) (.ci .i64 1)) <|
        .ite (.vr 7) (
         .prim (.cmp .neq .i64) (.mk2 tI tI (pjA tOp 1 (.vr 0)) (pjA tOp 2 (.vr 0))) <|
         .ite (.vr 8) (
          .ret (.cb false)) (
          .prim (.llen 3 tI) (prA tOp 3 (.vr 0)) <|
          .call 0 (.vr 0) <|
          .prim (.cmp .eql .i64) (.mk2 tI tI (.vr 9) (.vr 10)) <|
          .ite (.vr 11) (
           .call 1 (prA tOp 3 (.vr 0)) <|
           .ret (.vr 12)) (
           .ret (.cb false)))) (
         .prim (.llen 3 tI) (prA tOp 3 (.vr 0)) <|
         .call 0 (.vr 0) <|
         .prim (.cmp .eql .i64) (.mk2 tI tI (.vr 8) (.vr 9)) <|
         .ite (.vr 10) (
          .call 1 (prA tOp 3 (.vr 0)) <|
          .ret (.vr 11)) (
          .ret (.cb false)))))))))
set_option maxRecDepth 100000 in
theorem e_i_OpOk : exFn Tryz.prog [c_i_OpSize, c_i_allFix] c_i_OpOk false 3000 ⟨[], []⟩ = .ok t_i_OpOk := by kernel_rfl
theorem v_i_OpOk (x : OpD) (hx : okD tOp x) (hp : (fun _ => True) x) : t_i_OpOk.wp [c_i_OpSize, c_i_allFix] [⟨tOp, x⟩] [] (fun v => v.as .bool = (fun x => opB x) x) := by
  have hp : List.length x.2.2.2 ≤ 9223372036854775807 := hx.2.2.2.1
  delta t_i_OpOk c_i_OpSize c_i_allFix; refine vcx ?_; try with_reducible exact True.intro
  (repeat' first | intro _ | (with_reducible apply And.intro))
  all_goals simp only [Int.toNat_natCast, Bool.not_eq_true', Bool.not_eq_false', Bool.and_eq_true, Bool.and_eq_false_iff, decide_eq_true_eq, decide_eq_false_iff_not, Int.not_lt, Int.not_le, ge_iff_le, gt_iff_lt, List.length_cons, List.length_nil, List.length_append, Nat.zero_add, List.nil_append, beq_iff_eq, beq_eq_false_iff_ne, bne_iff_ne, bne_eq_false_iff_eq, ne_eq, toNat_pred, toNat_succ, toNat_l0, toNat_l1] at *
  all_goals first | assumption | (first | (refine (Bool.eq_false_iff.2 ?_).symm; rw [ne_eq, opB_iff]; intro hh; omega) | (refine (opB_iff.2 ?_).symm; omega)) | (rw [Bool.eq_iff_iff, opB_iff]; exact ⟨fun h => ⟨by omega, h⟩, fun h => h.2⟩)
theorem h_i_OpOk : Con.Holds Tryz.prog c_i_OpOk := tree_ok mixedP (consAt h_i_OpSize (consAt h_i_allFix consNil)) e_i_OpOk fun x hx hp => v_i_OpOk x hx hp

/-! impl.ModelOk -/

noncomputable def c_i_ModelOk : Con := ⟨27, tModel, .bool, [.val ⟨true, tModel, []⟩], [⟨false, .bool, [0]⟩], false, none,
  ((fun _ => True) : (ModelD) → Prop),
  ((fun x => modelB x) : (ModelD) → (Bool))⟩
def t_i_ModelOk : T :=
  .prim (.llen 34 tOp) (.vr 0) <|
  .prim (.cmp .lss .i64) (.mk2 tI tI (.vr 1) (.ci .i64 1)) <|
  .ite (.vr 2) (
   .ret (.cb false)) (
   .prim (.llen 34 tOp) (.vr 0) <|
   .prim (.cmp .gtr .i64) (.mk2 tI tI (.vr 3) (.ci .i64 8)) <|
   .ite (.vr 4) (
    .ret (.cb false)) (
    .prim (.llen 34 tOp) (.vr 0) <|
    .loop tI (.ci .i64 0) <|
     .prim (.cmp .lss .i64) (.mk2 tI tI (.vr 6) (.vr 5)) <|
     .ite (.vr 7) (
      .prim (.lidx 34 tOp) (.mk2 tModel tI (.vr 0) (.vr 6)) <|
      .call 0 (.vr 8) <|
      .prim .not (.vr 9) <|
      .ite (.vr 10) (
       .ret (.cb false)) (
       .prim (.cmp .gtr .i64) (.mk2 tI tI (.vr 6) (.ci .i64 0)) <|
       .ite (.vr 11) (
        .prim (.ar .sub .i64) (.mk2 tI tI (.vr 6) (.ci .i64 1)) <|
        .prim (.lidx 34 tOp) (.mk2 tModel tI (.vr 0) (.vr 12)) <|
        .prim (.cmp .neq .i64) (.mk2 tI tI (pjA tOp 2 (.vr 13)) (pjA tOp 1 (.vr 8))) <|
        .ite (.vr 14) (
         .ret (.cb false)) (
         .prim (.ar .add .i64) (.mk2 tI tI (.vr 6) (.ci .i64 1)) <|
         .again 0 (.vr 15))) (
        .prim (.ar .add .i64) (.mk2 tI tI (.vr 6) (.ci .i64 1)) <|
        .again 0 (.vr 12)))) (
      .ret (.cb true))))
set_option maxRecDepth 100000 in
theorem e_i_ModelOk : exFn Tryz.prog [c_i_OpOk] c_i_ModelOk false 3000 ⟨[(2988, 4006, drd 15 5 ++ [.dr 0, .tm 18 0])], []⟩ = .ok t_i_ModelOk := by kernel_rfl
/- loops: Int -/
theorem v_i_ModelOk (x : ModelD) (hx : okD tModel x) (hp : (fun _ => True) x) : t_i_ModelOk.wp [c_i_OpOk] [⟨tModel, x⟩] [] (fun v => v.as .bool = (fun x => modelB x) x) := by
  obtain ⟨hp1, hp2⟩ : List.length x ≤ 9223372036854775807 ∧ ∀ o ∈ (x : List OpD), List.length o.2.2.2 ≤ 9223372036854775807 := ⟨hx.1, fun o ho => (hx.2 o ho).2.2.2.1⟩
  delta t_i_ModelOk c_i_OpOk; refine vcx ?_; try with_reducible exact True.intro
  (repeat' first | intro _ | (with_reducible apply And.intro))
  all_goals simp only [Int.toNat_natCast, Bool.not_eq_true', Bool.not_eq_false', Bool.and_eq_true, Bool.and_eq_false_iff, decide_eq_true_eq, decide_eq_false_iff_not, Int.not_lt, Int.not_le, ge_iff_le, gt_iff_lt, List.length_cons, List.length_nil, List.length_append, Nat.zero_add, List.nil_append, beq_iff_eq, beq_eq_false_iff_ne, bne_iff_ne, bne_eq_false_iff_eq, ne_eq, toNat_pred, toNat_succ, toNat_l0, toNat_l1] at *
  · (first | (refine (Bool.eq_false_iff.2 ?_).symm; rw [ne_eq, modelB_iff]; intro hh; omega) | (refine (modelB_iff.2 ?_).symm; omega))
  · (first | (refine (Bool.eq_false_iff.2 ?_).symm; rw [ne_eq, modelB_iff]; intro hh; omega) | (refine (modelB_iff.2 ?_).symm; omega))
  refine ⟨fun s => ∃ k : Nat, k ≤ x.length ∧ s = (k : Int) ∧ ∀ i, i < k → okAt x i = true, fun s => x.length - (s : Int).toNat, ⟨0, by omega, rfl, by omega⟩, fun s _ hI => ?_⟩
  obtain ⟨k, hk, rfl, ha⟩ := hI
  (refine dcx ?_; try with_reducible exact True.intro)
  constructor
  · intro hlt
    have hk' : k < x.length := by omega
    rw [getD_at hk', getD_at (show k - 1 < x.length by omega)]
    have e := okAt_iff x hk'
    have hm := hp2 _ (List.getElem_mem hk')
    (repeat' first | intro _ | (with_reducible apply And.intro))
    all_goals first | omega | exact hm | skip
    all_goals first | (refine modelB_bad hk' fun h => ?_; rw [e] at h; obtain ⟨h1, h2⟩ := h; first | (simp_all; done) | omega) | skip
    all_goals refine ⟨k + 1, by omega, rfl, fun i hi => ?_⟩
    all_goals rcases Nat.lt_or_eq_of_le (Nat.le_of_lt_succ hi) with h | rfl
    all_goals first | exact ha i h | (refine e.2 ⟨by assumption, ?_⟩; first | exact .inl (by omega) | exact .inr (by assumption) | exact .inr (by omega))
  · intro hge
    have : k = x.length := by omega
    subst this
    refine ((modelB_iff x).2 ⟨?_, ?_, ha⟩).symm <;> omega
theorem h_i_ModelOk : Con.Holds Tryz.prog c_i_ModelOk := tree_ok mixedP (consAt h_i_OpOk consNil) e_i_ModelOk fun x hx hp => v_i_ModelOk x hx hp

/-! spec.FixOk -/

noncomputable def c_s_FixOk : Con := ⟨50, tI, .bool, [.val ⟨false, tI, []⟩], [⟨false, .bool, [0]⟩], false, none,
  ((fun _ => True) : (Int) → Prop),
  ((fun x => fixB x) : (Int) → (Bool))⟩
def t_s_FixOk : T :=
  .call 0 (mkA (.pair tI tIns) [(.vr 0), (.ci .i64 (-2147483647)), (.ci .i64 2147483647)]) <|
  .ret (.vr 1)
set_option maxRecDepth 100000 in
theorem e_s_FixOk : exFn Tryz.prog [c_s_l1In] c_s_FixOk false 3000 ⟨[], []⟩ = .ok t_s_FixOk := by kernel_rfl
theorem v_s_FixOk (x : Int) (hx : okD tI x) (hp : (fun _ => True) x) : t_s_FixOk.wp [c_s_l1In] [⟨tI, x⟩] [] (fun v => v.as .bool = (fun x => fixB x) x) := by
  delta t_s_FixOk c_s_l1In; refine vcx ?_; try with_reducible exact True.intro
  rw [Bool.eq_iff_iff, fixB_iff]
  (refine dcx ?_; try with_reducible exact True.intro)
theorem h_s_FixOk : Con.Holds Tryz.prog c_s_FixOk := tree_ok mixedP (consAt h_s_l1In consNil) e_s_FixOk fun x hx hp => v_s_FixOk x hx hp

/-! spec.OpSize -/

noncomputable def c_s_OpSize : Con := ⟨49, tOp, tI, [.val ⟨true, tOp, []⟩], [⟨false, tI, [0]⟩], false, none,
  ((fun _ => True) : (OpD) → Prop),
  ((fun x => opSize x) : (OpD) → (Int))⟩
def t_s_OpSize : T :=
  .call 0 (mkA (.pair tI tIns) [(pjA tOp 1 (.vr 0)), (.ci .i64 1), (.ci .i64 6)]) <|
  .prim .not (.vr 1) <|
  .ite (.vr 2) (
   .ret (.ci .i64 0)) (
   .call 0 (mkA (.pair tI tIns) [(pjA tOp 2 (.vr 0)), (.ci .i64 1), (.ci .i64 6)]) <|
   .prim .not (.vr 3) <|
   .ite (.vr 4) (
    .ret (.ci .i64 0)) (
    .prim (.cmp .eql .i64) (.mk2 tI tI (.p1 tI (.pair tI tItem) (.vr 0)) (.ci .i64 1)) <|
    .ite (.vr 5) (
     .prim (.ar .mul .i64) (.mk2 tI tI (pjA tOp 1 (.vr 0)) (pjA tOp 2 (.vr 0))) <|
     .ret (.vr 6)) (
     .prim (.cmp .eql .i64) (.mk2 tI tI (.p1 tI (.pair tI tItem) (.vr 0)) (.ci .i64 5)) <|
     .ite (.vr 6) (
      .prim (.ar .mul .i64) (.mk2 tI tI (pjA tOp 1 (.vr 0)) (pjA tOp 2 (.vr 0))) <|
      .ret (.vr 7)) (
      .prim (.cmp .eql .i64) (.mk2 tI tI (.p1 tI (.pair tI tItem) (.vr 0)) (.ci .i64 2)) <|
      .ite (.vr 7) (
       .ret (pjA tOp 1 (.vr 0))) (
       .prim (.cmp .eql .i64) (.mk2 tI tI (.p1 tI (.pair tI tItem) (.vr 0)) (.ci .i64 4)) <|
       .ite (.vr 8) (
        .ret (.ci .i64 1)) (
        .ret (.ci .i64 0)))))))
set_option maxRecDepth 100000 in
theorem e_s_OpSize : exFn Tryz.prog [c_s_l1In] c_s_OpSize false 3000 ⟨[], []⟩ = .ok t_s_OpSize := by kernel_rfl
theorem v_s_OpSize (x : OpD) (hx : okD tOp x) (hp : (fun _ => True) x) : t_s_OpSize.wp [c_s_l1In] [⟨tOp, x⟩] [] (fun v => v.as tI = (fun x => opSize x) x) := by
  delta t_s_OpSize c_s_l1In; refine vcx ?_; try with_reducible exact True.intro
  (repeat' first | intro _ | (with_reducible apply And.intro))
  all_goals simp only [Int.toNat_natCast, Bool.not_eq_true', Bool.not_eq_false', Bool.and_eq_true, Bool.and_eq_false_iff, decide_eq_true_eq, decide_eq_false_iff_not, Int.not_lt, Int.not_le, ge_iff_le, gt_iff_lt, List.length_cons, List.length_nil, List.length_append, Nat.zero_add, List.nil_append, beq_iff_eq, beq_eq_false_iff_ne, bne_iff_ne, bne_eq_false_iff_eq, ne_eq, toNat_pred, toNat_succ, toNat_l0, toNat_l1] at *
  all_goals first | omega | (have := mul_b (a := x.2.1) (b := x.2.2.1) (by omega) (by omega) (by omega) (by omega); omega) | exact opSize_0 (by omega) | exact opSize_m (by omega) | exact opSize_b (by omega) | exact opSize_1 (by omega)
theorem h_s_OpSize : Con.Holds Tryz.prog c_s_OpSize := tree_ok mixedP (consAt h_s_l1In consNil) e_s_OpSize fun x hx hp => v_s_OpSize x hx hp

/-! spec.OpOk -/

noncomputable def c_s_OpOk : Con := ⟨18, tOp, .bool, [.val ⟨true, tOp, []⟩], [⟨false, .bool, [0]⟩], false, none,
  ((fun _ => True) : (OpD) → Prop),
  ((fun x => opB x) : (OpD) → (Bool))⟩
def t_s_OpOk : T :=
  .call 0 (mkA (.pair tI tIns) [(.p1 tI (.pair tI tItem) (.vr 0)), (.ci .i64 1), (.ci .i64 5)]) <|
  .prim .not (.vr 1) <|
  .ite (.vr 2) (
   .ret (.cb false)) (
   .call 0 (mkA (.pair tI tIns) [(pjA tOp 1 (.vr 0)), (.ci .i64 1), (.ci .i64 6)]) <|
   .prim .not (.vr 3) <|
   .ite (.vr 4) (
    .ret (.cb false)) (
    .call 0 (mkA (.pair tI tIns) [(pjA tOp 2 (.vr 0)), (.ci .i64 1), (.ci .i64 6)]) <|
    .prim .not (.vr 5) <|
    .ite (.vr 6) (
     .ret (.cb false)) (
     .prim (.cmp .neq .i64) (.mk2 tI tI (.p1 tI (.pair tI tItem) (.vr 0)) (.ci .i64 1)) <|
     .ite (.vr 7) (
      .prim (.cmp .neq .i64) (.mk2 tI tI (pjA tOp 1 (.vr 0)) (pjA tOp 2 (.vr 0))) <|
      .ite (.vr 8) (
       .ret (.cb false)) (
       .prim (.llen 3 tI) (prA tOp 3 (.vr 0)) <|
       .call 1 (.vr 0) <|
       .prim (.cmp .neq .i64) (.mk2 tI tI (.vr 9) (.vr 10)) <|
       .ite (.vr 11) (
        .ret (.cb false)) (
        .loop tI (.ci .i64 0) <|
         .prim (.llen 3 tI) (prA tOp 3 (.vr 0)) <|
         .prim (.cmp .lss .i64) (.mk2 tI tI (.vr 12) (.vr 13)) <|
         .ite (.vr 14) (
          .prim (.lidx 3 tI) (.mk2 tInts tI (prA tOp 3 (.vr 0)) (.vr 12)) <|
          .call 2 (.vr 15) <|
          .prim .not (.vr 16) <|
          .ite (.vr 17) (
           .ret (.cb false)) (
           .prim (.ar .add .i64) (.mk2 tI tI (.vr 12) (.ci .i64 1)) <|
           .again 0 (.vr 18))) (
          .ret (.cb true))))) (
      .prim (.llen 3 tI) (prA tOp 3 (.vr 0)) <|
      .call 1 (.vr 0) <|
      .prim (.cmp .neq .i64) (.mk2 tI tI (.vr 8) (.vr 9)) <|
      .ite (.vr 10) (
       .ret (.cb false)) (
       .loop tI (.ci .i64 0) <|
        .prim (.llen 3 tI) (prA tOp 3 (.vr 0)) <|
        .prim (.cmp .lss .i64) (.mk2 tI tI (.vr 11) (.vr 12)) <|
        .ite (.vr 13) (
         .prim (.lidx 3 tI) (.mk2 tInts tI (prA tOp 3 (.vr 0)) (.vr 11)) <|
         .call 2 (.vr 14) <|
         .prim .not (.vr 15) <|
         .ite (.vr 16) (
          .ret (.cb false)) (
          .prim (.ar .add .i64) (.mk2 tI tI (.vr 11) (.ci .i64 1)) <|
          .again 0 (.vr 17))) (
         .ret (.cb true)))))))
set_option maxRecDepth 100000 in
theorem e_s_OpOk : exFn Tryz.prog [c_s_l1In, c_s_OpSize, c_s_FixOk] c_s_OpOk false 3000 ⟨[(2988, 72012, drd 39 28 ++ [.dr 26, .dr 27] ++ drd 25 4 ++ [.dr 0, .tm 3 0]), (2988, 32011, drd 39 28 ++ [.dr 26, .dr 27] ++ drd 25 4 ++ [.dr 0, .tm 3 0])], []⟩ = .ok t_s_OpOk := by kernel_rfl
/- loops: Int ¦ Int -/
theorem v_s_OpOk (x : OpD) (hx : okD tOp x) (hp : (fun _ => True) x) : t_s_OpOk.wp [c_s_l1In, c_s_OpSize, c_s_FixOk] [⟨tOp, x⟩] [] (fun v => v.as .bool = (fun x => opB x) x) := by
  have hp : List.length x.2.2.2 ≤ 9223372036854775807 := hx.2.2.2.1
  delta t_s_OpOk c_s_l1In c_s_OpSize c_s_FixOk; refine vcx ?_; try with_reducible exact True.intro
  (repeat' first | intro _ | (with_reducible apply And.intro))
  all_goals simp only [Int.toNat_natCast, Bool.not_eq_true', Bool.not_eq_false', Bool.and_eq_true, Bool.and_eq_false_iff, decide_eq_true_eq, decide_eq_false_iff_not, Int.not_lt, Int.not_le, ge_iff_le, gt_iff_lt, List.length_cons, List.length_nil, List.length_append, Nat.zero_add, List.nil_append, beq_iff_eq, beq_eq_false_iff_ne, bne_iff_ne, bne_eq_false_iff_eq, ne_eq, toNat_pred, toNat_succ, toNat_l0, toNat_l1] at *
  all_goals first | assumption | (first | (refine (Bool.eq_false_iff.2 ?_).symm; rw [ne_eq, opB_iff]; intro hh; omega) | (refine (opB_iff.2 ?_).symm; omega)) | skip
  all_goals refine ⟨fun s => ∃ k : Nat, k ≤ x.2.2.2.length ∧ s = (k : Int) ∧ (x.2.2.2.take k).all fixB = true, fun s => x.2.2.2.length - (s : Int).toNat, ⟨0, by omega, rfl, rfl⟩, fun s _ hI => ?_⟩
  all_goals obtain ⟨k, hk, rfl, ha⟩ := hI
  all_goals (refine dcx ?_; try with_reducible exact True.intro)
  all_goals intro _
  all_goals have hin : k < x.2.2.2.length → x.2.2.2.getD k 0 = x.2.2.2.getD k (0 : Int) := fun _ => rfl
  all_goals constructor
  all_goals intro hlt
  all_goals first
    | (have hk' : k < x.2.2.2.length := by omega
       rw [getD_at hk']
       have e := all_next fixB x.2.2.2 hk'
       refine ⟨by omega, fun _ => ⟨fun hf => ?_, fun hf => ⟨by omega, fun _ => ⟨⟨k + 1, by omega, rfl, by rw [e, ha, hf]; rfl⟩, by omega⟩⟩⟩⟩
       have hb := all_bad hk' hf
       refine (Bool.eq_false_iff.2 fun h => ?_).symm
       rw [opB_iff] at h
       rw [hb] at h
       exact Bool.noConfusion h.2)
    | (have : k = x.2.2.2.length := by omega
       subst this
       rw [List.take_length] at ha
       exact ((opB_iff x).2 ⟨by omega, ha⟩).symm)
theorem h_s_OpOk : Con.Holds Tryz.prog c_s_OpOk := tree_ok mixedP (consAt h_s_l1In (consAt h_s_OpSize (consAt h_s_FixOk consNil))) e_s_OpOk fun x hx hp => v_s_OpOk x hx hp

/-! spec.ModelOk -/

noncomputable def c_s_ModelOk : Con := ⟨20, tModel, .bool, [.val ⟨true, tModel, []⟩], [⟨false, .bool, [0]⟩], false, none,
  ((fun _ => True) : (ModelD) → Prop),
  ((fun x => modelB x) : (ModelD) → (Bool))⟩
def t_s_ModelOk : T :=
  .loop tI (.ci .i64 0) <|
   .prim (.llen 34 tOp) (.vr 0) <|
   .prim (.cmp .lss .i64) (.mk2 tI tI (.vr 1) (.vr 2)) <|
   .ite (.vr 3) (
    .prim (.lidx 34 tOp) (.mk2 tModel tI (.vr 0) (.vr 1)) <|
    .call 0 (.vr 4) <|
    .prim .not (.vr 5) <|
    .ite (.vr 6) (
     .ret (.cb false)) (
     .prim (.cmp .gtr .i64) (.mk2 tI tI (.vr 1) (.ci .i64 0)) <|
     .ite (.vr 7) (
      .prim (.ar .sub .i64) (.mk2 tI tI (.vr 1) (.ci .i64 1)) <|
      .prim (.lidx 34 tOp) (.mk2 tModel tI (.vr 0) (.vr 1)) <|
      .prim (.lidx 34 tOp) (.mk2 tModel tI (.vr 0) (.vr 8)) <|
      .prim (.cmp .neq .i64) (.mk2 tI tI (pjA tOp 1 (.vr 9)) (pjA tOp 2 (.vr 10))) <|
      .ite (.vr 11) (
       .ret (.cb false)) (
       .prim (.ar .add .i64) (.mk2 tI tI (.vr 1) (.ci .i64 1)) <|
       .again 0 (.vr 12))) (
      .prim (.ar .add .i64) (.mk2 tI tI (.vr 1) (.ci .i64 1)) <|
      .again 0 (.vr 8)))) (
    .prim (.llen 34 tOp) (.vr 0) <|
    .call 1 (mkA (.pair tI tIns) [(.vr 4), (.ci .i64 1), (.ci .i64 8)]) <|
    .ret (.vr 5))
set_option maxRecDepth 100000 in
theorem e_s_ModelOk : exFn Tryz.prog [c_s_OpOk, c_s_l1In] c_s_ModelOk false 3000 ⟨[(2993, 1001, [.dr 0, .tm 3 0])], []⟩ = .ok t_s_ModelOk := by kernel_rfl
/- loops: Int -/
theorem v_s_ModelOk (x : ModelD) (hx : okD tModel x) (hp : (fun _ => True) x) : t_s_ModelOk.wp [c_s_OpOk, c_s_l1In] [⟨tModel, x⟩] [] (fun v => v.as .bool = (fun x => modelB x) x) := by
  obtain ⟨hp1, hp2⟩ : List.length x ≤ 9223372036854775807 ∧ ∀ o ∈ (x : List OpD), List.length o.2.2.2 ≤ 9223372036854775807 := ⟨hx.1, fun o ho => (hx.2 o ho).2.2.2.1⟩
  delta t_s_ModelOk c_s_OpOk c_s_l1In; refine vcx ?_; try with_reducible exact True.intro
  refine ⟨fun s => ∃ k : Nat, k ≤ x.length ∧ s = (k : Int) ∧ ∀ i, i < k → okAt x i = true, fun s => x.length - (s : Int).toNat, ⟨0, by omega, rfl, by omega⟩, fun s _ hI => ?_⟩
  obtain ⟨k, hk, rfl, ha⟩ := hI
  (refine dcx ?_; try with_reducible exact True.intro)
  intro _
  constructor
  · intro hlt
    have hk' : k < x.length := by omega
    rw [getD_at hk', getD_at (show k - 1 < x.length by omega)]
    have e := okAt_iff x hk'
    have hm := hp2 _ (List.getElem_mem hk')
    (repeat' first | intro _ | (with_reducible apply And.intro))
    all_goals first | omega | exact hm | skip
    all_goals first | (refine modelB_bad hk' fun h => ?_; rw [e] at h; obtain ⟨h1, h2⟩ := h; first | (simp_all; done) | omega) | skip
    all_goals refine ⟨k + 1, by omega, rfl, fun i hi => ?_⟩
    all_goals rcases Nat.lt_or_eq_of_le (Nat.le_of_lt_succ hi) with h | rfl
    all_goals first | exact ha i h | (refine e.2 ⟨by assumption, ?_⟩; first | exact .inl (by omega) | exact .inr (by assumption) | exact .inr (by omega))
  · intro hge
    have : k = x.length := by omega
    subst this
    intro _
    rw [Bool.eq_iff_iff, modelB_iff]
    (refine dcx ?_; try with_reducible exact True.intro)
    constructor
    · intro h; exact ⟨by omega, by omega, ha⟩
    · intro h; omega
theorem h_s_ModelOk : Con.Holds Tryz.prog c_s_ModelOk := tree_ok mixedP (consAt h_s_OpOk (consAt h_s_l1In consNil)) e_s_ModelOk fun x hx hp => v_s_ModelOk x hx hp
end Go.Proofs.YtllphmcjocidaaaGreatDoor
