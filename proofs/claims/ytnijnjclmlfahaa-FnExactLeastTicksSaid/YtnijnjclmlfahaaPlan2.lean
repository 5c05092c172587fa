/- Plan2: trees, and what they say. -/
import Derived.Test.YtnijnjclmlfahaaOps2
namespace Go.Proofs.Ytnijnjclmlfahaa
open Go.ChangeShapes Go.WideShapes Go.ChangeAt Go.RowKit Go.Deep
set_option linter.unusedVariables false
set_option linter.unusedSimpArgs false
abbrev InsD := Int × Int
def aheadF (st s m : Int) : List InsD := (if 0 < s then [((1 : Int), m)] else []) ++ ([((2 : Int), m)] ++ (if s < st - 1 then [((3 : Int), m)] else []))
def backF (st s m : Int) (redo : Bool) : List InsD := (if s < st - 1 then [((4 : Int), m)] else []) ++ ((if redo = true then [((5 : Int), m)] else []) ++ ([((6 : Int), m)] ++ (if 0 < s then [((7 : Int), m)] else [])))
def plannedB (st s micro : Int) : Bool := decide (1 ≤ st ∧ st ≤ 4 ∧ 0 ≤ s ∧ s < st ∧ 1 ≤ micro ∧ micro ≤ 5)
theorem plannedB_iff (st s micro : Int) : plannedB st s micro = true ↔ 1 ≤ st ∧ st ≤ 4 ∧ 0 ≤ s ∧ s < st ∧ 1 ≤ micro ∧ micro ≤ 5 := by unfold plannedB; rw [decide_eq_true_eq]
def warmF (ds st s micro : Int) : Int := if plannedB st s micro = true then (if ds = 2 then min micro (st - 1 - s) else micro) else 0
def planA (st s : Int) : Nat → List InsD
  | 0 => []
  | k + 1 => planA st s k ++ aheadF st s k
def planB (st s micro w : Int) (redo : Bool) : Nat → List InsD
  | 0 => planA st s w.toNat
  | k + 1 => planB st s micro w redo k ++ ((if (k : Int) + w < micro then aheadF st s ((k : Int) + w) else []) ++ backF st s k redo)
def planF (ds st s micro : Int) (redo : Bool) : List InsD := if (ds = 1 ∨ ds = 2) ∧ plannedB st s micro = true then planB st s micro (warmF ds st s micro) redo micro.toNat ++ [((8 : Int), (0 : Int))] else []
theorem aheadF_len (st s m : Int) : (aheadF st s m).length ≤ 3 := by unfold aheadF; split <;> split <;> simp
theorem backF_len (st s m : Int) (r : Bool) : (backF st s m r).length ≤ 4 := by unfold backF; split <;> split <;> split <;> simp
theorem planA_len (st s : Int) : (k : Nat) → (planA st s k).length ≤ 3 * k
  | 0 => Nat.le_refl _
  | k + 1 => by
    have h1 := planA_len st s k
    have h2 := aheadF_len st s k
    unfold planA
    rw [List.length_append]; omega
theorem planB_len (st s micro w : Int) (r : Bool) : (k : Nat) → (planB st s micro w r k).length ≤ 3 * w.toNat + 7 * k
  | 0 => by have := planA_len st s w.toNat; unfold planB; omega
  | k + 1 => by
    have h1 := planB_len st s micro w r k
    have h2 := aheadF_len st s ((k : Int) + w)
    have h3 := backF_len st s k r
    unfold planB
    rw [List.length_append, List.length_append]
    split
    · omega
    · simp only [List.length_nil]; omega
theorem warm_0 {ds st s micro : Int} (h : plannedB st s micro = false) : 0 = warmF ds st s micro := by unfold warmF; rw [if_neg (by rw [h]; simp)]
theorem warm_1 {ds st s micro : Int} (h : plannedB st s micro = true) (hd : ds = 2) : min micro (st - 1 - s) = warmF ds st s micro := by unfold warmF; rw [if_pos h, if_pos hd]
theorem warm_2 {ds st s micro : Int} (h : plannedB st s micro = true) (hd : ¬ ds = 2) : micro = warmF ds st s micro := by unfold warmF; rw [if_pos h, if_neg hd]
theorem planned_f {st s micro : Int} (h : ¬ (1 ≤ st ∧ st ≤ 4 ∧ 0 ≤ s ∧ s < st ∧ 1 ≤ micro ∧ micro ≤ 5)) : plannedB st s micro = false := Bool.eq_false_iff.2 fun h' => h ((plannedB_iff _ _ _).1 h')
theorem planned_t {st s micro : Int} (h : 1 ≤ st ∧ st ≤ 4 ∧ 0 ≤ s ∧ s < st ∧ 1 ≤ micro ∧ micro ≤ 5) : plannedB st s micro = true := (plannedB_iff _ _ _).2 h
theorem plan_0 {ds st s micro : Int} {r : Bool} (h : ¬ ((ds = 1 ∨ ds = 2) ∧ plannedB st s micro = true)) : [] = planF ds st s micro r := by unfold planF; rw [if_neg h]
theorem plan_1 {ds st s micro : Int} {r : Bool} (h : (ds = 1 ∨ ds = 2) ∧ plannedB st s micro = true) : planB st s micro (warmF ds st s micro) r micro.toNat ++ [((8 : Int), (0 : Int))] = planF ds st s micro r := by unfold planF; rw [if_pos h]
theorem warm_b {ds st s micro : Int} (h : plannedB st s micro = true) : 0 ≤ warmF ds st s micro ∧ warmF ds st s micro ≤ 5 := by
  rw [plannedB_iff] at h
  unfold warmF
  rw [if_pos (planned_t h)]
  split <;> omega
theorem planB_A {st s micro w : Int} {r : Bool} {k : Nat} (h : ((k : Int) + w < micro)) : planB st s micro w r k ++ aheadF st s ((k : Int) + w) ++ backF st s k r = planB st s micro w r (k + 1) := by
  conv => rhs; unfold planB
  rw [if_pos h, List.append_assoc]
theorem planB_B {st s micro w : Int} {r : Bool} {k : Nat} (h : ¬ ((k : Int) + w < micro)) : planB st s micro w r k ++ backF st s k r = planB st s micro w r (k + 1) := by
  conv => rhs; unfold planB
  rw [if_neg h, List.nil_append]

/-! impl.planned -/

def c_i_planned : Con := ⟨137, (.pair tI (.pair tI tI)), .bool, [.val ⟨false, tI, []⟩, .val ⟨false, tI, []⟩, .val ⟨false, tI, []⟩], [⟨false, .bool, [0]⟩], false,
  ((fun _ => True) : ((Int) × ((Int) × (Int))) → Prop),
  ((fun x => plannedB x.1 x.2.1 x.2.2) : ((Int) × ((Int) × (Int))) → (Bool))⟩
def t_i_planned : T :=
  .prim (.cmp .geq .i64) (.mk2 tI tI (.p1 tI (.pair tI tI) (.vr 0)) (.ci .i64 1)) <|
  .ite (.vr 1) (
   .prim (.cmp .leq .i64) (.mk2 tI tI (.p1 tI (.pair tI tI) (.vr 0)) (.ci .i64 4)) <|
   .ite (.vr 2) (
    .prim (.cmp .geq .i64) (.mk2 tI tI (.p1 tI tI (.p2 tI (.pair tI tI) (.vr 0))) (.ci .i64 0)) <|
    .ite (.vr 3) (
     .prim (.cmp .lss .i64) (.mk2 tI tI (.p1 tI tI (.p2 tI (.pair tI tI) (.vr 0))) (.p1 tI (.pair tI tI) (.vr 0))) <|
     .ite (.vr 4) (
      .prim (.cmp .geq .i64) (.mk2 tI tI (.p2 tI tI (.p2 tI (.pair tI tI) (.vr 0))) (.ci .i64 1)) <|
      .ite (.vr 5) (
       .prim (.cmp .leq .i64) (.mk2 tI tI (.p2 tI tI (.p2 tI (.pair tI tI) (.vr 0))) (.ci .i64 5)) <|
       .ret (.vr 6)) (
       .ret (.cb false))) (
      .ret (.cb false))) (
     .ret (.cb false))) (
    .ret (.cb false))) (
   .ret (.cb false))
set_option maxRecDepth 100000 in
theorem e_i_planned : exFn Try.prog [] c_i_planned false 3000 ⟨[], []⟩ = .ok t_i_planned := by kernel_rfl
theorem v_i_planned (x : (Int) × ((Int) × (Int))) (hx : okD (.pair tI (.pair tI tI)) x) (hp : (fun _ => True) x) : t_i_planned.wp [] [⟨(.pair tI (.pair tI tI)), x⟩] [] (fun v => v.as .bool = (fun x => plannedB x.1 x.2.1 x.2.2) x) := by
  dsimp only [t_i_planned, T.wp, litTy, litFn, Ar.val, envAt, Prim.cond, Prim.fn, Prim.ity, Prim.oty, List.getElem?_cons_succ, List.getElem?_cons_zero, Option.getD_some, List.cons_append, List.nil_append, inK, arI, cmpI, maxI, minI, negI]; simp only [SV.as_self, true_and, forall_const, okD_bool, le_tI, lt_tI, ne_tI, eq_tI, zero_tI]
  (repeat' first | intro _ | (with_reducible apply And.intro))
  all_goals (try simp only [Int.toNat_natCast, Bool.not_eq_true', Bool.not_eq_false', Bool.and_eq_true, Bool.and_eq_false_iff, decide_eq_true_eq, decide_eq_false_iff_not, Int.not_lt, Int.not_le, ge_iff_le, gt_iff_lt, List.length_cons, List.length_nil, List.length_append, Nat.zero_add, List.nil_append, beq_iff_eq, beq_eq_false_iff_ne, bne_iff_ne, bne_eq_false_iff_eq, ne_eq, toNat_pred, toNat_succ] at *)
  all_goals first | exact (planned_f (by omega)).symm | skip
  rw [Bool.eq_iff_iff, plannedB_iff]
  simp only [Int.toNat_natCast, Bool.not_eq_true', Bool.not_eq_false', Bool.and_eq_true, Bool.and_eq_false_iff, decide_eq_true_eq, decide_eq_false_iff_not, Int.not_lt, Int.not_le, ge_iff_le, gt_iff_lt, List.length_cons, List.length_nil, List.length_append, Nat.zero_add, List.nil_append, beq_iff_eq, beq_eq_false_iff_ne, bne_iff_ne, bne_eq_false_iff_eq, ne_eq, toNat_pred, toNat_succ]
  omega
theorem h_i_planned : Con.Holds Try.prog c_i_planned := tree_ok mixedP consNil e_i_planned fun x hx hp => v_i_planned x hx hp

/-! impl.WarmUp -/

def c_i_WarmUp : Con := ⟨138, (.pair tI (.pair tI (.pair tI tI))), tI, [.val ⟨false, tI, []⟩, .val ⟨false, tI, []⟩, .val ⟨false, tI, []⟩, .val ⟨false, tI, []⟩], [⟨false, tI, [0]⟩], false,
  ((fun _ => True) : ((Int) × ((Int) × ((Int) × (Int)))) → Prop),
  ((fun x => warmF x.1 x.2.1 x.2.2.1 x.2.2.2) : ((Int) × ((Int) × ((Int) × (Int)))) → (Int))⟩
def t_i_WarmUp : T :=
  .call 0 (.p2 tI (.pair tI (.pair tI tI)) (.vr 0)) <|
  .prim .not (.vr 1) <|
  .ite (.vr 2) (
   .ret (.ci .i64 0)) (
   .prim (.cmp .eql .i64) (.mk2 tI tI (.p1 tI (.pair tI (.pair tI tI)) (.vr 0)) (.ci .i64 2)) <|
   .ite (.vr 3) (
    .prim (.ar .sub .i64) (.mk2 tI tI (.p1 tI (.pair tI tI) (.p2 tI (.pair tI (.pair tI tI)) (.vr 0))) (.ci .i64 1)) <|
    .prim (.ar .sub .i64) (.mk2 tI tI (.vr 4) (.p1 tI tI (.p2 tI (.pair tI tI) (.p2 tI (.pair tI (.pair tI tI)) (.vr 0))))) <|
    .prim (.mn .i64) (.mk2 tI tI (.p2 tI tI (.p2 tI (.pair tI tI) (.p2 tI (.pair tI (.pair tI tI)) (.vr 0)))) (.vr 5)) <|
    .ret (.vr 6)) (
    .ret (.p2 tI tI (.p2 tI (.pair tI tI) (.p2 tI (.pair tI (.pair tI tI)) (.vr 0))))))
set_option maxRecDepth 100000 in
theorem e_i_WarmUp : exFn Try.prog [c_i_planned] c_i_WarmUp false 3000 ⟨[], []⟩ = .ok t_i_WarmUp := by kernel_rfl
theorem v_i_WarmUp (x : (Int) × ((Int) × ((Int) × (Int)))) (hx : okD (.pair tI (.pair tI (.pair tI tI))) x) (hp : (fun _ => True) x) : t_i_WarmUp.wp [c_i_planned] [⟨(.pair tI (.pair tI (.pair tI tI))), x⟩] [] (fun v => v.as tI = (fun x => warmF x.1 x.2.1 x.2.2.1 x.2.2.2) x) := by
  dsimp only [t_i_WarmUp, c_i_planned, T.wp, litTy, litFn, Ar.val, envAt, Prim.cond, Prim.fn, Prim.ity, Prim.oty, List.getElem?_cons_succ, List.getElem?_cons_zero, Option.getD_some, List.cons_append, List.nil_append, inK, arI, cmpI, maxI, minI, negI]; simp only [SV.as_self, true_and, forall_const, okD_bool, le_tI, lt_tI, ne_tI, eq_tI, zero_tI]
  refine ⟨fun h => ?_, fun h => ?_⟩
  · simp only [Int.toNat_natCast, Bool.not_eq_true', Bool.not_eq_false', Bool.and_eq_true, Bool.and_eq_false_iff, decide_eq_true_eq, decide_eq_false_iff_not, Int.not_lt, Int.not_le, ge_iff_le, gt_iff_lt, List.length_cons, List.length_nil, List.length_append, Nat.zero_add, List.nil_append, beq_iff_eq, beq_eq_false_iff_ne, bne_iff_ne, bne_eq_false_iff_eq, ne_eq, toNat_pred, toNat_succ] at h; exact warm_0 h
  simp only [Int.toNat_natCast, Bool.not_eq_true', Bool.not_eq_false', Bool.and_eq_true, Bool.and_eq_false_iff, decide_eq_true_eq, decide_eq_false_iff_not, Int.not_lt, Int.not_le, ge_iff_le, gt_iff_lt, List.length_cons, List.length_nil, List.length_append, Nat.zero_add, List.nil_append, beq_iff_eq, beq_eq_false_iff_ne, bne_iff_ne, bne_eq_false_iff_eq, ne_eq, toNat_pred, toNat_succ] at h
  have hb := (plannedB_iff _ _ _).1 h
  (repeat' first | intro _ | (with_reducible apply And.intro))
  all_goals first | omega | skip
  · exact warm_1 h (by simp only [Int.toNat_natCast, Bool.not_eq_true', Bool.not_eq_false', Bool.and_eq_true, Bool.and_eq_false_iff, decide_eq_true_eq, decide_eq_false_iff_not, Int.not_lt, Int.not_le, ge_iff_le, gt_iff_lt, List.length_cons, List.length_nil, List.length_append, Nat.zero_add, List.nil_append, beq_iff_eq, beq_eq_false_iff_ne, bne_iff_ne, bne_eq_false_iff_eq, ne_eq, toNat_pred, toNat_succ] at *; omega)
  · exact warm_2 h (by simp only [Int.toNat_natCast, Bool.not_eq_true', Bool.not_eq_false', Bool.and_eq_true, Bool.and_eq_false_iff, decide_eq_true_eq, decide_eq_false_iff_not, Int.not_lt, Int.not_le, ge_iff_le, gt_iff_lt, List.length_cons, List.length_nil, List.length_append, Nat.zero_add, List.nil_append, beq_iff_eq, beq_eq_false_iff_ne, bne_iff_ne, bne_eq_false_iff_eq, ne_eq, toNat_pred, toNat_succ] at *; omega)
theorem h_i_WarmUp : Con.Holds Try.prog c_i_WarmUp := tree_ok mixedP (consAt h_i_planned consNil) e_i_WarmUp fun x hx hp => v_i_WarmUp x hx hp

/-! impl.ahead -/

def c_i_ahead : Con := ⟨139, (.pair tI (.pair tI tI)), (.slice 157 (.pair tI tI)), [.val ⟨false, tI, []⟩, .val ⟨false, tI, []⟩, .val ⟨false, tI, []⟩], [⟨false, (.slice 157 (.pair tI tI)), [2]⟩], false,
  ((fun x => 1 ≤ x.1 ∧ x.1 ≤ 4) : ((Int) × ((Int) × (Int))) → Prop),
  ((fun x => aheadF x.1 x.2.1 x.2.2) : ((Int) × ((Int) × (Int))) → (List ((Int) × (Int))))⟩
def t_i_ahead : T :=
  .prim (.cmp .gtr .i64) (.mk2 tI tI (.p1 tI tI (.p2 tI (.pair tI tI) (.vr 0))) (.ci .i64 0)) <|
  .ite (.vr 1) (
   .prim (.lit 157 (.pair tI tI) 1) (.mk2 tI tI (.ci .i64 1) (.p2 tI tI (.p2 tI (.pair tI tI) (.vr 0)))) <|
   .prim (.lapp 157 (.pair tI tI) 16) (.mk2 (.slice 157 (.pair tI tI)) (.slice 157 (.pair tI tI)) (.nl 157 (.pair tI tI)) (.vr 2)) <|
   .prim (.lit 157 (.pair tI tI) 1) (.mk2 tI tI (.ci .i64 2) (.p2 tI tI (.p2 tI (.pair tI tI) (.vr 0)))) <|
   .prim (.lapp 157 (.pair tI tI) 16) (.mk2 (.slice 157 (.pair tI tI)) (.slice 157 (.pair tI tI)) (.vr 3) (.vr 4)) <|
   .prim (.ar .sub .i64) (.mk2 tI tI (.p1 tI (.pair tI tI) (.vr 0)) (.ci .i64 1)) <|
   .prim (.cmp .lss .i64) (.mk2 tI tI (.p1 tI tI (.p2 tI (.pair tI tI) (.vr 0))) (.vr 6)) <|
   .ite (.vr 7) (
    .prim (.lit 157 (.pair tI tI) 1) (.mk2 tI tI (.ci .i64 3) (.p2 tI tI (.p2 tI (.pair tI tI) (.vr 0)))) <|
    .prim (.lapp 157 (.pair tI tI) 16) (.mk2 (.slice 157 (.pair tI tI)) (.slice 157 (.pair tI tI)) (.vr 5) (.vr 8)) <|
    .ret (.vr 9)) (
    .ret (.vr 5))) (
   .prim (.lit 157 (.pair tI tI) 1) (.mk2 tI tI (.ci .i64 2) (.p2 tI tI (.p2 tI (.pair tI tI) (.vr 0)))) <|
   .prim (.lapp 157 (.pair tI tI) 16) (.mk2 (.slice 157 (.pair tI tI)) (.slice 157 (.pair tI tI)) (.nl 157 (.pair tI tI)) (.vr 2)) <|
   .prim (.ar .sub .i64) (.mk2 tI tI (.p1 tI (.pair tI tI) (.vr 0)) (.ci .i64 1)) <|
   .prim (.cmp .lss .i64) (.mk2 tI tI (.p1 tI tI (.p2 tI (.pair tI tI) (.vr 0))) (.vr 4)) <|
   .ite (.vr 5) (
    .prim (.lit 157 (.pair tI tI) 1) (.mk2 tI tI (.ci .i64 3) (.p2 tI tI (.p2 tI (.pair tI tI) (.vr 0)))) <|
    .prim (.lapp 157 (.pair tI tI) 16) (.mk2 (.slice 157 (.pair tI tI)) (.slice 157 (.pair tI tI)) (.vr 3) (.vr 6)) <|
    .ret (.vr 7)) (
    .ret (.vr 3)))
set_option maxRecDepth 100000 in
theorem e_i_ahead : exFn Try.prog [] c_i_ahead false 3000 ⟨[], []⟩ = .ok t_i_ahead := by kernel_rfl
theorem v_i_ahead (x : (Int) × ((Int) × (Int))) (hx : okD (.pair tI (.pair tI tI)) x) (hp : (fun x => 1 ≤ x.1 ∧ x.1 ≤ 4) x) : t_i_ahead.wp [] [⟨(.pair tI (.pair tI tI)), x⟩] [] (fun v => v.as (.slice 157 (.pair tI tI)) = (fun x => aheadF x.1 x.2.1 x.2.2) x) := by
  have hp : 1 ≤ x.1 ∧ x.1 ≤ 4 := hp
  dsimp only [t_i_ahead, T.wp, litTy, litFn, Ar.val, envAt, Prim.cond, Prim.fn, Prim.ity, Prim.oty, List.getElem?_cons_succ, List.getElem?_cons_zero, Option.getD_some, List.cons_append, List.nil_append, inK, arI, cmpI, maxI, minI, negI]; simp only [SV.as_self, true_and, forall_const, okD_bool, le_tI, lt_tI, ne_tI, eq_tI, zero_tI]
  (repeat' first | intro _ | (with_reducible apply And.intro))
  all_goals (try simp only [Int.toNat_natCast, Bool.not_eq_true', Bool.not_eq_false', Bool.and_eq_true, Bool.and_eq_false_iff, decide_eq_true_eq, decide_eq_false_iff_not, Int.not_lt, Int.not_le, ge_iff_le, gt_iff_lt, List.length_cons, List.length_nil, List.length_append, Nat.zero_add, List.nil_append, beq_iff_eq, beq_eq_false_iff_ne, bne_iff_ne, bne_eq_false_iff_eq, ne_eq, toNat_pred, toNat_succ] at *)
  all_goals first | omega | (unfold maxLen; omega) | skip
  all_goals (unfold aheadF; (repeat' split) <;> first | omega | (simp; done))
theorem h_i_ahead : Con.Holds Try.prog c_i_ahead := tree_ok mixedP consNil e_i_ahead fun x hx hp => v_i_ahead x hx hp

/-! impl.backOf -/

def c_i_backOf : Con := ⟨140, (.pair tI (.pair tI (.pair tI .bool))), (.slice 157 (.pair tI tI)), [.val ⟨false, tI, []⟩, .val ⟨false, tI, []⟩, .val ⟨false, tI, []⟩, .val ⟨false, .bool, []⟩], [⟨false, (.slice 157 (.pair tI tI)), [2]⟩], false,
  ((fun x => 1 ≤ x.1 ∧ x.1 ≤ 4) : ((Int) × ((Int) × ((Int) × (Bool)))) → Prop),
  ((fun x => backF x.1 x.2.1 x.2.2.1 x.2.2.2) : ((Int) × ((Int) × ((Int) × (Bool)))) → (List ((Int) × (Int))))⟩
def t_i_backOf : T :=
  .prim (.ar .sub .i64) (.mk2 tI tI (.p1 tI (.pair tI (.pair tI .bool)) (.vr 0)) (.ci .i64 1)) <|
  .prim (.cmp .lss .i64) (.mk2 tI tI (.p1 tI (.pair tI .bool) (.p2 tI (.pair tI (.pair tI .bool)) (.vr 0))) (.vr 1)) <|
  .ite (.vr 2) (
   .prim (.lit 157 (.pair tI tI) 1) (.mk2 tI tI (.ci .i64 4) (.p1 tI .bool (.p2 tI (.pair tI .bool) (.p2 tI (.pair tI (.pair tI .bool)) (.vr 0))))) <|
   .prim (.lapp 157 (.pair tI tI) 16) (.mk2 (.slice 157 (.pair tI tI)) (.slice 157 (.pair tI tI)) (.nl 157 (.pair tI tI)) (.vr 3)) <|
   .ite (.p2 tI .bool (.p2 tI (.pair tI .bool) (.p2 tI (.pair tI (.pair tI .bool)) (.vr 0)))) (
    .prim (.lit 157 (.pair tI tI) 1) (.mk2 tI tI (.ci .i64 5) (.p1 tI .bool (.p2 tI (.pair tI .bool) (.p2 tI (.pair tI (.pair tI .bool)) (.vr 0))))) <|
    .prim (.lapp 157 (.pair tI tI) 16) (.mk2 (.slice 157 (.pair tI tI)) (.slice 157 (.pair tI tI)) (.vr 4) (.vr 5)) <|
    .prim (.lit 157 (.pair tI tI) 1) (.mk2 tI tI (.ci .i64 6) (.p1 tI .bool (.p2 tI (.pair tI .bool) (.p2 tI (.pair tI (.pair tI .bool)) (.vr 0))))) <|
    .prim (.lapp 157 (.pair tI tI) 16) (.mk2 (.slice 157 (.pair tI tI)) (.slice 157 (.pair tI tI)) (.vr 6) (.vr 7)) <|
    .prim (.cmp .gtr .i64) (.mk2 tI tI (.p1 tI (.pair tI .bool) (.p2 tI (.pair tI (.pair tI .bool)) (.vr 0))) (.ci .i64 0)) <|
    .ite (.vr 9) (
     .prim (.lit 157 (.pair tI tI) 1) (.mk2 tI tI (.ci .i64 7) (.p1 tI .bool (.p2 tI (.pair tI .bool) (.p2 tI (.pair tI (.pair tI .bool)) (.vr 0))))) <|
     .prim (.lapp 157 (.pair tI tI) 16) (.mk2 (.slice 157 (.pair tI tI)) (.slice 157 (.pair tI tI)) (.vr 8) (.vr 10)) <|
     .ret (.vr 11)) (
     .ret (.vr 8))) (
    .prim (.lit 157 (.pair tI tI) 1) (.mk2 tI tI (.ci .i64 6) (.p1 tI .bool (.p2 tI (.pair tI .bool) (.p2 tI (.pair tI (.pair tI .bool)) (.vr 0))))) <|
    .prim (.lapp 157 (.pair tI tI) 16) (.mk2 (.slice 157 (.pair tI tI)) (.slice 157 (.pair tI tI)) (.vr 4) (.vr 5)) <|
    .prim (.cmp .gtr .i64) (.mk2 tI tI (.p1 tI (.pair tI .bool) (.p2 tI (.pair tI (.pair tI .bool)) (.vr 0))) (.ci .i64 0)) <|
    .ite (.vr 7) (
     .prim (.lit 157 (.pair tI tI) 1) (.mk2 tI tI (.ci .i64 7) (.p1 tI .bool (.p2 tI (.pair tI .bool) (.p2 tI (.pair tI (.pair tI .bool)) (.vr 0))))) <|
     .prim (.lapp 157 (.pair tI tI) 16) (.mk2 (.slice 157 (.pair tI tI)) (.slice 157 (.pair tI tI)) (.vr 6) (.vr 8)) <|
     .ret (.vr 9)) (
     .ret (.vr 6)))) (
   .ite (.p2 tI .bool (.p2 tI (.pair tI .bool) (.p2 tI (.pair tI (.pair tI .bool)) (.vr 0)))) (
    .prim (.lit 157 (.pair tI tI) 1) (.mk2 tI tI (.ci .i64 5) (.p1 tI .bool (.p2 tI (.pair tI .bool) (.p2 tI (.pair tI (.pair tI .bool)) (.vr 0))))) <|
    .prim (.lapp 157 (.pair tI tI) 16) (.mk2 (.slice 157 (.pair tI tI)) (.slice 157 (.pair tI tI)) (.nl 157 (.pair tI tI)) (.vr 3)) <|
    .prim (.lit 157 (.pair tI tI) 1) (.mk2 tI tI (.ci .i64 6) (.p1 tI .bool (.p2 tI (.pair tI .bool) (.p2 tI (.pair tI (.pair tI .bool)) (.vr 0))))) <|
    .prim (.lapp 157 (.pair tI tI) 16) (.mk2 (.slice 157 (.pair tI tI)) (.slice 157 (.pair tI tI)) (.vr 4) (.vr 5)) <|
    .prim (.cmp .gtr .i64) (.mk2 tI tI (.p1 tI (.pair tI .bool) (.p2 tI (.pair tI (.pair tI .bool)) (.vr 0))) (.ci .i64 0)) <|
    .ite (.vr 7) (
     .prim (.lit 157 (.pair tI tI) 1) (.mk2 tI tI (.ci .i64 7) (.p1 tI .bool (.p2 tI (.pair tI .bool) (.p2 tI (.pair tI (.pair tI .bool)) (.vr 0))))) <|
     .prim (.lapp 157 (.pair tI tI) 16) (.mk2 (.slice 157 (.pair tI tI)) (.slice 157 (.pair tI tI)) (.vr 6) (.vr 8)) <|
     .ret (.vr 9)) (
     .ret (.vr 6))) (
    .prim (.lit 157 (.pair tI tI) 1) (.mk2 tI tI (.ci .i64 6) (.p1 tI .bool (.p2 tI (.pair tI .bool) (.p2 tI (.pair tI (.pair tI .bool)) (.vr 0))))) <|
    .prim (.lapp 157 (.pair tI tI) 16) (.mk2 (.slice 157 (.pair tI tI)) (.slice 157 (.pair tI tI)) (.nl 157 (.pair tI tI)) (.vr 3)) <|
    .prim (.cmp .gtr .i64) (.mk2 tI tI (.p1 tI (.pair tI .bool) (.p2 tI (.pair tI (.pair tI .bool)) (.vr 0))) (.ci .i64 0)) <|
    .ite (.vr 5) (
     .prim (.lit 157 (.pair tI tI) 1) (.mk2 tI tI (.ci .i64 7) (.p1 tI .bool (.p2 tI (.pair tI .bool) (.p2 tI (.pair tI (.pair tI .bool)) (.vr 0))))) <|
     .prim (.lapp 157 (.pair tI tI) 16) (.mk2 (.slice 157 (.pair tI tI)) (.slice 157 (.pair tI tI)) (.vr 4) (.vr 6)) <|
     .ret (.vr 7)) (
     .ret (.vr 4))))
set_option maxRecDepth 100000 in
theorem e_i_backOf : exFn Try.prog [] c_i_backOf false 3000 ⟨[], []⟩ = .ok t_i_backOf := by kernel_rfl
theorem v_i_backOf (x : (Int) × ((Int) × ((Int) × (Bool)))) (hx : okD (.pair tI (.pair tI (.pair tI .bool))) x) (hp : (fun x => 1 ≤ x.1 ∧ x.1 ≤ 4) x) : t_i_backOf.wp [] [⟨(.pair tI (.pair tI (.pair tI .bool))), x⟩] [] (fun v => v.as (.slice 157 (.pair tI tI)) = (fun x => backF x.1 x.2.1 x.2.2.1 x.2.2.2) x) := by
  have hp : 1 ≤ x.1 ∧ x.1 ≤ 4 := hp
  dsimp only [t_i_backOf, T.wp, litTy, litFn, Ar.val, envAt, Prim.cond, Prim.fn, Prim.ity, Prim.oty, List.getElem?_cons_succ, List.getElem?_cons_zero, Option.getD_some, List.cons_append, List.nil_append, inK, arI, cmpI, maxI, minI, negI]; simp only [SV.as_self, true_and, forall_const, okD_bool, le_tI, lt_tI, ne_tI, eq_tI, zero_tI]
  (repeat' first | intro _ | (with_reducible apply And.intro))
  all_goals (try simp only [Int.toNat_natCast, Bool.not_eq_true', Bool.not_eq_false', Bool.and_eq_true, Bool.and_eq_false_iff, decide_eq_true_eq, decide_eq_false_iff_not, Int.not_lt, Int.not_le, ge_iff_le, gt_iff_lt, List.length_cons, List.length_nil, List.length_append, Nat.zero_add, List.nil_append, beq_iff_eq, beq_eq_false_iff_ne, bne_iff_ne, bne_eq_false_iff_eq, ne_eq, toNat_pred, toNat_succ] at *)
  all_goals first | omega | (unfold maxLen; omega) | skip
  all_goals (unfold backF; (repeat' split) <;> first | omega | contradiction | (simp; done) | (simp_all; done))
theorem h_i_backOf : Con.Holds Try.prog c_i_backOf := tree_ok mixedP consNil e_i_backOf fun x hx hp => v_i_backOf x hx hp

/-! impl.Plan -/

def c_i_Plan : Con := ⟨94, (.pair tI (.pair tI (.pair tI (.pair tI .bool)))), (.slice 157 (.pair tI tI)), [.val ⟨false, tI, []⟩, .val ⟨false, tI, []⟩, .val ⟨false, tI, []⟩, .val ⟨false, tI, []⟩, .val ⟨false, .bool, []⟩], [⟨false, (.slice 157 (.pair tI tI)), [2]⟩], false,
  ((fun _ => True) : ((Int) × ((Int) × ((Int) × ((Int) × (Bool))))) → Prop),
  ((fun x => planF x.1 x.2.1 x.2.2.1 x.2.2.2.1 x.2.2.2.2) : ((Int) × ((Int) × ((Int) × ((Int) × (Bool))))) → (List ((Int) × (Int))))⟩
def t_i_Plan : T :=
  .prim (.cmp .neq .i64) (.mk2 tI tI (.p1 tI (.pair tI (.pair tI (.pair tI .bool))) (.vr 0)) (.ci .i64 1)) <|
  .ite (.vr 1) (
   .prim (.cmp .neq .i64) (.mk2 tI tI (.p1 tI (.pair tI (.pair tI (.pair tI .bool))) (.vr 0)) (.ci .i64 2)) <|
   .ite (.vr 2) (
    .ret (.nl 157 (.pair tI tI))) (
    .call 0 (.mk2 tI (.pair tI tI) (.p1 tI (.pair tI (.pair tI .bool)) (.p2 tI (.pair tI (.pair tI (.pair tI .bool))) (.vr 0))) (.mk2 tI tI (.p1 tI (.pair tI .bool) (.p2 tI (.pair tI (.pair tI .bool)) (.p2 tI (.pair tI (.pair tI (.pair tI .bool))) (.vr 0)))) (.p1 tI .bool (.p2 tI (.pair tI .bool) (.p2 tI (.pair tI (.pair tI .bool)) (.p2 tI (.pair tI (.pair tI (.pair tI .bool))) (.vr 0))))))) <|
    .prim .not (.vr 3) <|
    .ite (.vr 4) (
     .ret (.nl 157 (.pair tI tI))) (
     .call 1 (.mk2 tI (.pair tI (.pair tI tI)) (.p1 tI (.pair tI (.pair tI (.pair tI .bool))) (.vr 0)) (.mk2 tI (.pair tI tI) (.p1 tI (.pair tI (.pair tI .bool)) (.p2 tI (.pair tI (.pair tI (.pair tI .bool))) (.vr 0))) (.mk2 tI tI (.p1 tI (.pair tI .bool) (.p2 tI (.pair tI (.pair tI .bool)) (.p2 tI (.pair tI (.pair tI (.pair tI .bool))) (.vr 0)))) (.p1 tI .bool (.p2 tI (.pair tI .bool) (.p2 tI (.pair tI (.pair tI .bool)) (.p2 tI (.pair tI (.pair tI (.pair tI .bool))) (.vr 0)))))))) <|
     .loop (.pair tI (.slice 157 (.pair tI tI))) (.mk2 tI (.slice 157 (.pair tI tI)) (.ci .i64 0) (.nl 157 (.pair tI tI))) <|
      .prim (.cmp .lss .i64) (.mk2 tI tI (.p1 tI (.slice 157 (.pair tI tI)) (.vr 6)) (.vr 5)) <|
      .ite (.vr 7) (
       .call 2 (.mk2 tI (.pair tI tI) (.p1 tI (.pair tI (.pair tI .bool)) (.p2 tI (.pair tI (.pair tI (.pair tI .bool))) (.vr 0))) (.mk2 tI tI (.p1 tI (.pair tI .bool) (.p2 tI (.pair tI (.pair tI .bool)) (.p2 tI (.pair tI (.pair tI (.pair tI .bool))) (.vr 0)))) (.p1 tI (.slice 157 (.pair tI tI)) (.vr 6)))) <|
       .prim (.lapp 157 (.pair tI tI) 16) (.mk2 (.slice 157 (.pair tI tI)) (.slice 157 (.pair tI tI)) (.p2 tI (.slice 157 (.pair tI tI)) (.vr 6)) (.vr 8)) <|
       .prim (.ar .add .i64) (.mk2 tI tI (.p1 tI (.slice 157 (.pair tI tI)) (.vr 6)) (.ci .i64 1)) <|
       .again 0 (.mk2 tI (.slice 157 (.pair tI tI)) (.vr 10) (.vr 9))) (
       .loop (.pair tI (.slice 157 (.pair tI tI))) (.mk2 tI (.slice 157 (.pair tI tI)) (.ci .i64 0) (.p2 tI (.slice 157 (.pair tI tI)) (.vr 6))) <|
        .prim (.cmp .lss .i64) (.mk2 tI tI (.p1 tI (.slice 157 (.pair tI tI)) (.vr 8)) (.p1 tI .bool (.p2 tI (.pair tI .bool) (.p2 tI (.pair tI (.pair tI .bool)) (.p2 tI (.pair tI (.pair tI (.pair tI .bool))) (.vr 0)))))) <|
        .ite (.vr 9) (
         .prim (.ar .add .i64) (.mk2 tI tI (.p1 tI (.slice 157 (.pair tI tI)) (.vr 8)) (.vr 5)) <|
         .prim (.cmp .lss .i64) (.mk2 tI tI (.vr 10) (.p1 tI .bool (.p2 tI (.pair tI .bool) (.p2 tI (.pair tI (.pair tI .bool)) (.p2 tI (.pair tI (.pair tI (.pair tI .bool))) (.vr 0)))))) <|
         .ite (.vr 11) (
          .prim (.ar .add .i64) (.mk2 tI tI (.p1 tI (.slice 157 (.pair tI tI)) (.vr 8)) (.vr 5)) <|
          .call 2 (.mk2 tI (.pair tI tI) (.p1 tI (.pair tI (.pair tI .bool)) (.p2 tI (.pair tI (.pair tI (.pair tI .bool))) (.vr 0))) (.mk2 tI tI (.p1 tI (.pair tI .bool) (.p2 tI (.pair tI (.pair tI .bool)) (.p2 tI (.pair tI (.pair tI (.pair tI .bool))) (.vr 0)))) (.vr 12))) <|
          .prim (.lapp 157 (.pair tI tI) 16) (.mk2 (.slice 157 (.pair tI tI)) (.slice 157 (.pair tI tI)) (.p2 tI (.slice 157 (.pair tI tI)) (.vr 8)) (.vr 13)) <|
          .call 3 (.mk2 tI (.pair tI (.pair tI .bool)) (.p1 tI (.pair tI (.pair tI .bool)) (.p2 tI (.pair tI (.pair tI (.pair tI .bool))) (.vr 0))) (.mk2 tI (.pair tI .bool) (.p1 tI (.pair tI .bool) (.p2 tI (.pair tI (.pair tI .bool)) (.p2 tI (.pair tI (.pair tI (.pair tI .bool))) (.vr 0)))) (.mk2 tI .bool (.p1 tI (.slice 157 (.pair tI tI)) (.vr 8)) (.p2 tI .bool (.p2 tI (.pair tI .bool) (.p2 tI (.pair tI (.pair tI .bool)) (.p2 tI (.pair tI (.pair tI (.pair tI .bool))) (.vr 0)))))))) <|
          .prim (.lapp 157 (.pair tI tI) 16) (.mk2 (.slice 157 (.pair tI tI)) (.slice 157 (.pair tI tI)) (.vr 14) (.vr 15)) <|
          .prim (.ar .add .i64) (.mk2 tI tI (.p1 tI (.slice 157 (.pair tI tI)) (.vr 8)) (.ci .i64 1)) <|
          .again 0 (.mk2 tI (.slice 157 (.pair tI tI)) (.vr 17) (.vr 16))) (
          .call 3 (.mk2 tI (.pair tI (.pair tI .bool)) (.p1 tI (.pair tI (.pair tI .bool)) (.p2 tI (.pair tI (.pair tI (.pair tI .bool))) (.vr 0))) (.mk2 tI (.pair tI .bool) (.p1 tI (.pair tI .bool) (.p2 tI (.pair tI (.pair tI .bool)) (.p2 tI (.pair tI (.pair tI (.pair tI .bool))) (.vr 0)))) (.mk2 tI .bool (.p1 tI (.slice 157 (.pair tI tI)) (.vr 8)) (.p2 tI .bool (.p2 tI (.pair tI .bool) (.p2 tI (.pair tI (.pair tI .bool)) (.p2 tI (.pair tI (.pair tI (.pair tI .bool))) (.vr 0)))))))) <|
          .prim (.lapp 157 (.pair tI tI) 16) (.mk2 (.slice 157 (.pair tI tI)) (.slice 157 (.pair tI tI)) (.p2 tI (.slice 157 (.pair tI tI)) (.vr 8)) (.vr 12)) <|
          .prim (.ar .add .i64) (.mk2 tI tI (.p1 tI (.slice 157 (.pair tI tI)) (.vr 8)) (.ci .i64 1)) <|
          .again 0 (.mk2 tI (.slice 157 (.pair tI tI)) (.vr 14) (.vr 13)))) (
         .prim (.lit 157 (.pair tI tI) 1) (.mk2 tI tI (.ci .i64 8) (.ci .i64 0)) <|
         .prim (.lapp 157 (.pair tI tI) 16) (.mk2 (.slice 157 (.pair tI tI)) (.slice 157 (.pair tI tI)) (.p2 tI (.slice 157 (.pair tI tI)) (.vr 8)) (.vr 10)) <|
         .ret (.vr 11)))))) (
   .call 0 (.mk2 tI (.pair tI tI) (.p1 tI (.pair tI (.pair tI .bool)) (.p2 tI (.pair tI (.pair tI (.pair tI .bool))) (.vr 0))) (.mk2 tI tI (.p1 tI (.pair tI .bool) (.p2 tI (.pair tI (.pair tI .bool)) (.p2 tI (.pair tI (.pair tI (.pair tI .bool))) (.vr 0)))) (.p1 tI .bool (.p2 tI (.pair tI .bool) (.p2 tI (.pair tI (.pair tI .bool)) (.p2 tI (.pair tI (.pair tI (.pair tI .bool))) (.vr 0))))))) <|
   .prim .not (.vr 2) <|
   .ite (.vr 3) (
    .ret (.nl 157 (.pair tI tI))) (
    .call 1 (.mk2 tI (.pair tI (.pair tI tI)) (.p1 tI (.pair tI (.pair tI (.pair tI .bool))) (.vr 0)) (.mk2 tI (.pair tI tI) (.p1 tI (.pair tI (.pair tI .bool)) (.p2 tI (.pair tI (.pair tI (.pair tI .bool))) (.vr 0))) (.mk2 tI tI (.p1 tI (.pair tI .bool) (.p2 tI (.pair tI (.pair tI .bool)) (.p2 tI (.pair tI (.pair tI (.pair tI .bool))) (.vr 0)))) (.p1 tI .bool (.p2 tI (.pair tI .bool) (.p2 tI (.pair tI (.pair tI .bool)) (.p2 tI (.pair tI (.pair tI (.pair tI .bool))) (.vr 0)))))))) <|
    .loop (.pair tI (.slice 157 (.pair tI tI))) (.mk2 tI (.slice 157 (.pair tI tI)) (.ci .i64 0) (.nl 157 (.pair tI tI))) <|
     .prim (.cmp .lss .i64) (.mk2 tI tI (.p1 tI (.slice 157 (.pair tI tI)) (.vr 5)) (.vr 4)) <|
     .ite (.vr 6) (
      .call 2 (.mk2 tI (.pair tI tI) (.p1 tI (.pair tI (.pair tI .bool)) (.p2 tI (.pair tI (.pair tI (.pair tI .bool))) (.vr 0))) (.mk2 tI tI (.p1 tI (.pair tI .bool) (.p2 tI (.pair tI (.pair tI .bool)) (.p2 tI (.pair tI (.pair tI (.pair tI .bool))) (.vr 0)))) (.p1 tI (.slice 157 (.pair tI tI)) (.vr 5)))) <|
      .prim (.lapp 157 (.pair tI tI) 16) (.mk2 (.slice 157 (.pair tI tI)) (.slice 157 (.pair tI tI)) (.p2 tI (.slice 157 (.pair tI tI)) (.vr 5)) (.vr 7)) <|
      .prim (.ar .add .i64) (.mk2 tI tI (.p1 tI (.slice 157 (.pair tI tI)) (.vr 5)) (.ci .i64 1)) <|
      .again 0 (.mk2 tI (.slice 157 (.pair tI tI)) (.vr 9) (.vr 8))) (
      .loop (.pair tI (.slice 157 (.pair tI tI))) (.mk2 tI (.slice 157 (.pair tI tI)) (.ci .i64 0) (.p2 tI (.slice 157 (.pair tI tI)) (.vr 5))) <|
       .prim (.cmp .lss .i64) (.mk2 tI tI (.p1 tI (.slice 157 (.pair tI tI)) (.vr 7)) (.p1 tI .bool (.p2 tI (.pair tI .bool) (.p2 tI (.pair tI (.pair tI .bool)) (.p2 tI (.pair tI (.pair tI (.pair tI .bool))) (.vr 0)))))) <|
       .ite (.vr 8) (
        .prim (.ar .add .i64) (.mk2 tI tI (.p1 tI (.slice 157 (.pair tI tI)) (.vr 7)) (.vr 4)) <|
        .prim (.cmp .lss .i64) (.mk2 tI tI (.vr 9) (.p1 tI .bool (.p2 tI (.pair tI .bool) (.p2 tI (.pair tI (.pair tI .bool)) (.p2 tI (.pair tI (.pair tI (.pair tI .bool))) (.vr 0)))))) <|
        .ite (.vr 10) (
         .prim (.ar .add .i64) (.mk2 tI tI (.p1 tI (.slice 157 (.pair tI tI)) (.vr 7)) (.vr 4)) <|
         .call 2 (.mk2 tI (.pair tI tI) (.p1 tI (.pair tI (.pair tI .bool)) (.p2 tI (.pair tI (.pair tI (.pair tI .bool))) (.vr 0))) (.mk2 tI tI (.p1 tI (.pair tI .bool) (.p2 tI (.pair tI (.pair tI .bool)) (.p2 tI (.pair tI (.pair tI (.pair tI .bool))) (.vr 0)))) (.vr 11))) <|
         .prim (.lapp 157 (.pair tI tI) 16) (.mk2 (.slice 157 (.pair tI tI)) (.slice 157 (.pair tI tI)) (.p2 tI (.slice 157 (.pair tI tI)) (.vr 7)) (.vr 12)) <|
         .call 3 (.mk2 tI (.pair tI (.pair tI .bool)) (.p1 tI (.pair tI (.pair tI .bool)) (.p2 tI (.pair tI (.pair tI (.pair tI .bool))) (.vr 0))) (.mk2 tI (.pair tI .bool) (.p1 tI (.pair tI .bool) (.p2 tI (.pair tI (.pair tI .bool)) (.p2 tI (.pair tI (.pair tI (.pair tI .bool))) (.vr 0)))) (.mk2 tI .bool (.p1 tI (.slice 157 (.pair tI tI)) (.vr 7)) (.p2 tI .bool (.p2 tI (.pair tI .bool) (.p2 tI (.pair tI (.pair tI .bool)) (.p2 tI (.pair tI (.pair tI (.pair tI .bool))) (.vr 0)))))))) <|
         .prim (.lapp 157 (.pair tI tI) 16) (.mk2 (.slice 157 (.pair tI tI)) (.slice 157 (.pair tI tI)) (.vr 13) (.vr 14)) <|
         .prim (.ar .add .i64) (.mk2 tI tI (.p1 tI (.slice 157 (.pair tI tI)) (.vr 7)) (.ci .i64 1)) <|
         .again 0 (.mk2 tI (.slice 157 (.pair tI tI)) (.vr 16) (.vr 15))) (
         .call 3 (.mk2 tI (.pair tI (.pair tI .bool)) (.p1 tI (.pair tI (.pair tI .bool)) (.p2 tI (.pair tI (.pair tI (.pair tI .bool))) (.vr 0))) (.mk2 tI (.pair tI .bool) (.p1 tI (.pair tI .bool) (.p2 tI (.pair tI (.pair tI .bool)) (.p2 tI (.pair tI (.pair tI (.pair tI .bool))) (.vr 0)))) (.mk2 tI .bool (.p1 tI (.slice 157 (.pair tI tI)) (.vr 7)) (.p2 tI .bool (.p2 tI (.pair tI .bool) (.p2 tI (.pair tI (.pair tI .bool)) (.p2 tI (.pair tI (.pair tI (.pair tI .bool))) (.vr 0)))))))) <|
         .prim (.lapp 157 (.pair tI tI) 16) (.mk2 (.slice 157 (.pair tI tI)) (.slice 157 (.pair tI tI)) (.p2 tI (.slice 157 (.pair tI tI)) (.vr 7)) (.vr 11)) <|
         .prim (.ar .add .i64) (.mk2 tI tI (.p1 tI (.slice 157 (.pair tI tI)) (.vr 7)) (.ci .i64 1)) <|
         .again 0 (.mk2 tI (.slice 157 (.pair tI tI)) (.vr 13) (.vr 12)))) (
        .prim (.lit 157 (.pair tI tI) 1) (.mk2 tI tI (.ci .i64 8) (.ci .i64 0)) <|
        .prim (.lapp 157 (.pair tI tI) 16) (.mk2 (.slice 157 (.pair tI tI)) (.slice 157 (.pair tI tI)) (.p2 tI (.slice 157 (.pair tI tI)) (.vr 7)) (.vr 9)) <|
        .ret (.vr 10)))))
set_option maxRecDepth 100000 in
theorem e_i_Plan : exFn Try.prog [c_i_planned, c_i_WarmUp, c_i_ahead, c_i_backOf] c_i_Plan false 3000 ⟨[(2984, 6, [.dr 33, .dr 32, .dr 31, .dr 30, .dr 29, .dr 28, .dr 27, .dr 26, .dr 25, .dr 24, .dr 23, .dr 22, .dr 21, .dr 20, .dr 19, .dr 18, .dr 17, .dr 16, .dr 15, .dr 0, .tm 13 0, .on 12, .sl 1]), (2974, 8, [.dr 36, .dr 35, .dr 34, .dr 13, .tm 14 0, .sl 1]), (2984, 5, [.dr 33, .dr 32, .dr 31, .dr 30, .dr 29, .dr 28, .dr 27, .dr 26, .dr 25, .dr 24, .dr 23, .dr 22, .dr 21, .dr 20, .dr 19, .dr 18, .dr 17, .dr 16, .dr 15, .dr 0, .tm 13 0, .on 12, .sl 1]), (2974, 7, [.dr 36, .dr 35, .dr 34, .dr 13, .tm 14 0, .sl 1])], []⟩ = .ok t_i_Plan := by kernel_rfl
/- loops: (Int) × (List ((Int) × (Int))) ¦ (Int) × (List ((Int) × (Int))) ¦ (Int) × (List ((Int) × (Int))) ¦ (Int) × (List ((Int) × (Int))) -/
theorem v_i_Plan (x : (Int) × ((Int) × ((Int) × ((Int) × (Bool))))) (hx : okD (.pair tI (.pair tI (.pair tI (.pair tI .bool)))) x) (hp : (fun _ => True) x) : t_i_Plan.wp [c_i_planned, c_i_WarmUp, c_i_ahead, c_i_backOf] [⟨(.pair tI (.pair tI (.pair tI (.pair tI .bool)))), x⟩] [] (fun v => v.as (.slice 157 (.pair tI tI)) = (fun x => planF x.1 x.2.1 x.2.2.1 x.2.2.2.1 x.2.2.2.2) x) := by
  obtain ⟨ds, st, s, micro, r⟩ := x
  dsimp only [t_i_Plan, c_i_planned, c_i_WarmUp, c_i_ahead, c_i_backOf, T.wp, litTy, litFn, Ar.val, envAt, Prim.cond, Prim.fn, Prim.ity, Prim.oty, List.getElem?_cons_succ, List.getElem?_cons_zero, Option.getD_some, List.cons_append, List.nil_append, inK, arI, cmpI, maxI, minI, negI]; simp only [SV.as_self, true_and, forall_const, okD_bool, le_tI, lt_tI, ne_tI, eq_tI, zero_tI]
  (repeat' first | intro _ | (with_reducible apply And.intro))
  all_goals (try simp only [Int.toNat_natCast, Bool.not_eq_true', Bool.not_eq_false', Bool.and_eq_true, Bool.and_eq_false_iff, decide_eq_true_eq, decide_eq_false_iff_not, Int.not_lt, Int.not_le, ge_iff_le, gt_iff_lt, List.length_cons, List.length_nil, List.length_append, Nat.zero_add, List.nil_append, beq_iff_eq, beq_eq_false_iff_ne, bne_iff_ne, bne_eq_false_iff_eq, ne_eq, toNat_pred, toNat_succ] at *)
  all_goals first | exact plan_0 (fun h => by rcases h with ⟨h1 | h1, h2⟩ <;> first | omega | (simp_all; done)) | skip
  all_goals have hP : plannedB st s micro = true := by first | assumption | exact planned_t (by omega)
  all_goals have hd : ds = 1 ∨ ds = 2 := by omega
  all_goals have hb := (plannedB_iff _ _ _).1 hP
  all_goals have hw := warm_b (ds := ds) hP
  all_goals have hfin := plan_1 (r := r) ⟨hd, hP⟩
  all_goals generalize warmF ds st s micro = W at *
  all_goals refine ⟨fun q => ∃ k : Nat, (k : Int) ≤ W ∧ q = ((k : Int), planA st s k), fun q => W.toNat - (q.1 : Int).toNat, ⟨0, by omega, rfl⟩, fun q _ hI => ?_⟩
  all_goals obtain ⟨k, hk, rfl⟩ := hI
  all_goals dsimp only
  all_goals have l1 := planA_len st s k
  all_goals have l2 := aheadF_len st s k
  all_goals refine ⟨fun hlt => ?_, fun hge => ?_⟩
  all_goals first
    | (have h0 : (k : Int) < W := hlt
       (repeat' first | intro _ | (with_reducible apply And.intro))
       all_goals first | omega | (unfold maxLen; omega) | exact ⟨k + 1, by omega, rfl⟩)
    | skip
  all_goals have hkW : k = W.toNat := by omega
  all_goals refine ⟨fun q => ∃ j : Nat, (j : Int) ≤ micro ∧ q = ((j : Int), planB st s micro W r j), fun q => micro.toNat - (q.1 : Int).toNat, ⟨0, by omega, by rw [hkW]; rfl⟩, fun q _ hI => ?_⟩
  all_goals obtain ⟨j, hj, rfl⟩ := hI
  all_goals dsimp only
  all_goals try rw [show W + (j : Int) = (j : Int) + W from Int.add_comm _ _]
  all_goals have l3 := planB_len st s micro W r j
  all_goals have l4 := aheadF_len st s ((j : Int) + W)
  all_goals have l5 := backF_len st s j r
  all_goals (repeat' first | intro _ | (with_reducible apply And.intro))
  all_goals first
    | omega
    | (unfold maxLen; omega)
    | exact ⟨j + 1, by omega, by rw [← planB_A (by omega)]; rfl⟩
    | exact ⟨j + 1, by omega, by rw [← planB_B (by omega)]; rfl⟩
    | (have hj2 : j = micro.toNat := by omega
       rw [hj2]
       exact hfin)
theorem h_i_Plan : Con.Holds Try.prog c_i_Plan := tree_ok mixedP (consAt h_i_planned (consAt h_i_WarmUp (consAt h_i_ahead (consAt h_i_backOf consNil)))) e_i_Plan fun x hx hp => v_i_Plan x hx hp

/-! spec.WarmUp -/

def c_s_WarmUp : Con := ⟨133, (.pair tI (.pair tI (.pair tI tI))), tI, [.val ⟨false, tI, []⟩, .val ⟨false, tI, []⟩, .val ⟨false, tI, []⟩, .val ⟨false, tI, []⟩], [⟨false, tI, [0]⟩], false,
  ((fun _ => True) : ((Int) × ((Int) × ((Int) × (Int)))) → Prop),
  ((fun x => warmF x.1 x.2.1 x.2.2.1 x.2.2.2) : ((Int) × ((Int) × ((Int) × (Int)))) → (Int))⟩
def t_s_WarmUp : T :=
  .call 0 (.mk2 tI (.pair tI tI) (.p1 tI (.pair tI tI) (.p2 tI (.pair tI (.pair tI tI)) (.vr 0))) (.mk2 tI tI (.ci .i64 1) (.ci .i64 4))) <|
  .prim .not (.vr 1) <|
  .ite (.vr 2) (
   .ret (.ci .i64 0)) (
   .prim (.ar .sub .i64) (.mk2 tI tI (.p1 tI (.pair tI tI) (.p2 tI (.pair tI (.pair tI tI)) (.vr 0))) (.ci .i64 1)) <|
   .call 0 (.mk2 tI (.pair tI tI) (.p1 tI tI (.p2 tI (.pair tI tI) (.p2 tI (.pair tI (.pair tI tI)) (.vr 0)))) (.mk2 tI tI (.ci .i64 0) (.vr 3))) <|
   .prim .not (.vr 4) <|
   .ite (.vr 5) (
    .ret (.ci .i64 0)) (
    .call 0 (.mk2 tI (.pair tI tI) (.p2 tI tI (.p2 tI (.pair tI tI) (.p2 tI (.pair tI (.pair tI tI)) (.vr 0)))) (.mk2 tI tI (.ci .i64 1) (.ci .i64 5))) <|
    .prim .not (.vr 6) <|
    .ite (.vr 7) (
     .ret (.ci .i64 0)) (
     .prim (.cmp .eql .i64) (.mk2 tI tI (.p1 tI (.pair tI (.pair tI tI)) (.vr 0)) (.ci .i64 2)) <|
     .ite (.vr 8) (
      .prim (.ar .sub .i64) (.mk2 tI tI (.p1 tI (.pair tI tI) (.p2 tI (.pair tI (.pair tI tI)) (.vr 0))) (.ci .i64 1)) <|
      .prim (.ar .sub .i64) (.mk2 tI tI (.vr 9) (.p1 tI tI (.p2 tI (.pair tI tI) (.p2 tI (.pair tI (.pair tI tI)) (.vr 0))))) <|
      .prim (.mn .i64) (.mk2 tI tI (.p2 tI tI (.p2 tI (.pair tI tI) (.p2 tI (.pair tI (.pair tI tI)) (.vr 0)))) (.vr 10)) <|
      .ret (.vr 11)) (
      .ret (.p2 tI tI (.p2 tI (.pair tI tI) (.p2 tI (.pair tI (.pair tI tI)) (.vr 0))))))))
set_option maxRecDepth 100000 in
theorem e_s_WarmUp : exFn Try.prog [c_s_l1In] c_s_WarmUp false 3000 ⟨[], []⟩ = .ok t_s_WarmUp := by kernel_rfl
theorem v_s_WarmUp (x : (Int) × ((Int) × ((Int) × (Int)))) (hx : okD (.pair tI (.pair tI (.pair tI tI))) x) (hp : (fun _ => True) x) : t_s_WarmUp.wp [c_s_l1In] [⟨(.pair tI (.pair tI (.pair tI tI))), x⟩] [] (fun v => v.as tI = (fun x => warmF x.1 x.2.1 x.2.2.1 x.2.2.2) x) := by
  dsimp only [t_s_WarmUp, c_s_l1In, T.wp, litTy, litFn, Ar.val, envAt, Prim.cond, Prim.fn, Prim.ity, Prim.oty, List.getElem?_cons_succ, List.getElem?_cons_zero, Option.getD_some, List.cons_append, List.nil_append, inK, arI, cmpI, maxI, minI, negI]; simp only [SV.as_self, true_and, forall_const, okD_bool, le_tI, lt_tI, ne_tI, eq_tI, zero_tI]
  (repeat' first | intro _ | (with_reducible apply And.intro))
  all_goals (try simp only [Int.toNat_natCast, Bool.not_eq_true', Bool.not_eq_false', Bool.and_eq_true, Bool.and_eq_false_iff, decide_eq_true_eq, decide_eq_false_iff_not, Int.not_lt, Int.not_le, ge_iff_le, gt_iff_lt, List.length_cons, List.length_nil, List.length_append, Nat.zero_add, List.nil_append, beq_iff_eq, beq_eq_false_iff_ne, bne_iff_ne, bne_eq_false_iff_eq, ne_eq, toNat_pred, toNat_succ] at *)
  all_goals first | omega | exact warm_0 (planned_f (by omega)) | exact warm_1 (planned_t (by omega)) (by omega) | exact warm_2 (planned_t (by omega)) (by omega)
theorem h_s_WarmUp : Con.Holds Try.prog c_s_WarmUp := tree_ok mixedP (consAt h_s_l1In consNil) e_s_WarmUp fun x hx hp => v_s_WarmUp x hx hp

/-! spec.l9Ahead -/

def c_s_l9Ahead : Con := ⟨134, (.pair (.slice 157 (.pair tI tI)) (.pair tI (.pair tI tI))), (.slice 157 (.pair tI tI)), [.val ⟨false, (.slice 157 (.pair tI tI)), [2]⟩, .val ⟨false, tI, []⟩, .val ⟨false, tI, []⟩, .val ⟨false, tI, []⟩], [⟨false, (.slice 157 (.pair tI tI)), [2]⟩], false,
  ((fun x => List.length x.1 ≤ 1000000 ∧ 1 ≤ x.2.1 ∧ x.2.1 ≤ 4) : ((List ((Int) × (Int))) × ((Int) × ((Int) × (Int)))) → Prop),
  ((fun x => x.1 ++ aheadF x.2.1 x.2.2.1 x.2.2.2) : ((List ((Int) × (Int))) × ((Int) × ((Int) × (Int)))) → (List ((Int) × (Int))))⟩
def t_s_l9Ahead : T :=
  .prim (.cmp .gtr .i64) (.mk2 tI tI (.p1 tI tI (.p2 tI (.pair tI tI) (.p2 (.slice 157 (.pair tI tI)) (.pair tI (.pair tI tI)) (.vr 0)))) (.ci .i64 0)) <|
  .ite (.vr 1) (
   .prim (.lit 157 (.pair tI tI) 1) (.mk2 tI tI (.ci .i64 1) (.p2 tI tI (.p2 tI (.pair tI tI) (.p2 (.slice 157 (.pair tI tI)) (.pair tI (.pair tI tI)) (.vr 0))))) <|
   .prim (.lapp 157 (.pair tI tI) 16) (.mk2 (.slice 157 (.pair tI tI)) (.slice 157 (.pair tI tI)) (.p1 (.slice 157 (.pair tI tI)) (.pair tI (.pair tI tI)) (.vr 0)) (.vr 2)) <|
   .prim (.lit 157 (.pair tI tI) 1) (.mk2 tI tI (.ci .i64 2) (.p2 tI tI (.p2 tI (.pair tI tI) (.p2 (.slice 157 (.pair tI tI)) (.pair tI (.pair tI tI)) (.vr 0))))) <|
   .prim (.lapp 157 (.pair tI tI) 16) (.mk2 (.slice 157 (.pair tI tI)) (.slice 157 (.pair tI tI)) (.vr 3) (.vr 4)) <|
   .prim (.ar .sub .i64) (.mk2 tI tI (.p1 tI (.pair tI tI) (.p2 (.slice 157 (.pair tI tI)) (.pair tI (.pair tI tI)) (.vr 0))) (.ci .i64 1)) <|
   .prim (.cmp .lss .i64) (.mk2 tI tI (.p1 tI tI (.p2 tI (.pair tI tI) (.p2 (.slice 157 (.pair tI tI)) (.pair tI (.pair tI tI)) (.vr 0)))) (.vr 6)) <|
   .ite (.vr 7) (
    .prim (.lit 157 (.pair tI tI) 1) (.mk2 tI tI (.ci .i64 3) (.p2 tI tI (.p2 tI (.pair tI tI) (.p2 (.slice 157 (.pair tI tI)) (.pair tI (.pair tI tI)) (.vr 0))))) <|
    .prim (.lapp 157 (.pair tI tI) 16) (.mk2 (.slice 157 (.pair tI tI)) (.slice 157 (.pair tI tI)) (.vr 5) (.vr 8)) <|
    .ret (.vr 9)) (
    .ret (.vr 5))) (
   .prim (.lit 157 (.pair tI tI) 1) (.mk2 tI tI (.ci .i64 2) (.p2 tI tI (.p2 tI (.pair tI tI) (.p2 (.slice 157 (.pair tI tI)) (.pair tI (.pair tI tI)) (.vr 0))))) <|
   .prim (.lapp 157 (.pair tI tI) 16) (.mk2 (.slice 157 (.pair tI tI)) (.slice 157 (.pair tI tI)) (.p1 (.slice 157 (.pair tI tI)) (.pair tI (.pair tI tI)) (.vr 0)) (.vr 2)) <|
   .prim (.ar .sub .i64) (.mk2 tI tI (.p1 tI (.pair tI tI) (.p2 (.slice 157 (.pair tI tI)) (.pair tI (.pair tI tI)) (.vr 0))) (.ci .i64 1)) <|
   .prim (.cmp .lss .i64) (.mk2 tI tI (.p1 tI tI (.p2 tI (.pair tI tI) (.p2 (.slice 157 (.pair tI tI)) (.pair tI (.pair tI tI)) (.vr 0)))) (.vr 4)) <|
   .ite (.vr 5) (
    .prim (.lit 157 (.pair tI tI) 1) (.mk2 tI tI (.ci .i64 3) (.p2 tI tI (.p2 tI (.pair tI tI) (.p2 (.slice 157 (.pair tI tI)) (.pair tI (.pair tI tI)) (.vr 0))))) <|
    .prim (.lapp 157 (.pair tI tI) 16) (.mk2 (.slice 157 (.pair tI tI)) (.slice 157 (.pair tI tI)) (.vr 3) (.vr 6)) <|
    .ret (.vr 7)) (
    .ret (.vr 3)))
set_option maxRecDepth 100000 in
theorem e_s_l9Ahead : exFn Try.prog [] c_s_l9Ahead false 3000 ⟨[], []⟩ = .ok t_s_l9Ahead := by kernel_rfl
theorem v_s_l9Ahead (x : (List ((Int) × (Int))) × ((Int) × ((Int) × (Int)))) (hx : okD (.pair (.slice 157 (.pair tI tI)) (.pair tI (.pair tI tI))) x) (hp : (fun x => List.length x.1 ≤ 1000000 ∧ 1 ≤ x.2.1 ∧ x.2.1 ≤ 4) x) : t_s_l9Ahead.wp [] [⟨(.pair (.slice 157 (.pair tI tI)) (.pair tI (.pair tI tI))), x⟩] [] (fun v => v.as (.slice 157 (.pair tI tI)) = (fun x => x.1 ++ aheadF x.2.1 x.2.2.1 x.2.2.2) x) := by
  have hp : List.length x.1 ≤ 1000000 ∧ 1 ≤ x.2.1 ∧ x.2.1 ≤ 4 := hp
  dsimp only [t_s_l9Ahead, T.wp, litTy, litFn, Ar.val, envAt, Prim.cond, Prim.fn, Prim.ity, Prim.oty, List.getElem?_cons_succ, List.getElem?_cons_zero, Option.getD_some, List.cons_append, List.nil_append, inK, arI, cmpI, maxI, minI, negI]; simp only [SV.as_self, true_and, forall_const, okD_bool, le_tI, lt_tI, ne_tI, eq_tI, zero_tI]
  (repeat' first | intro _ | (with_reducible apply And.intro))
  all_goals (try simp only [Int.toNat_natCast, Bool.not_eq_true', Bool.not_eq_false', Bool.and_eq_true, Bool.and_eq_false_iff, decide_eq_true_eq, decide_eq_false_iff_not, Int.not_lt, Int.not_le, ge_iff_le, gt_iff_lt, List.length_cons, List.length_nil, List.length_append, Nat.zero_add, List.nil_append, beq_iff_eq, beq_eq_false_iff_ne, bne_iff_ne, bne_eq_false_iff_eq, ne_eq, toNat_pred, toNat_succ] at *)
  all_goals first | omega | (unfold maxLen; omega) | skip
  all_goals (unfold aheadF; (repeat' split) <;> first | omega | (simp; done))
theorem h_s_l9Ahead : Con.Holds Try.prog c_s_l9Ahead := tree_ok mixedP consNil e_s_l9Ahead fun x hx hp => v_s_l9Ahead x hx hp

/-! spec.l9Back -/

def c_s_l9Back : Con := ⟨135, (.pair (.slice 157 (.pair tI tI)) (.pair tI (.pair tI (.pair tI .bool)))), (.slice 157 (.pair tI tI)), [.val ⟨false, (.slice 157 (.pair tI tI)), [2]⟩, .val ⟨false, tI, []⟩, .val ⟨false, tI, []⟩, .val ⟨false, tI, []⟩, .val ⟨false, .bool, []⟩], [⟨false, (.slice 157 (.pair tI tI)), [2]⟩], false,
  ((fun x => List.length x.1 ≤ 1000000 ∧ 1 ≤ x.2.1 ∧ x.2.1 ≤ 4) : ((List ((Int) × (Int))) × ((Int) × ((Int) × ((Int) × (Bool))))) → Prop),
  ((fun x => x.1 ++ backF x.2.1 x.2.2.1 x.2.2.2.1 x.2.2.2.2) : ((List ((Int) × (Int))) × ((Int) × ((Int) × ((Int) × (Bool))))) → (List ((Int) × (Int))))⟩
def t_s_l9Back : T :=
  .prim (.ar .sub .i64) (.mk2 tI tI (.p1 tI (.pair tI (.pair tI .bool)) (.p2 (.slice 157 (.pair tI tI)) (.pair tI (.pair tI (.pair tI .bool))) (.vr 0))) (.ci .i64 1)) <|
  .prim (.cmp .lss .i64) (.mk2 tI tI (.p1 tI (.pair tI .bool) (.p2 tI (.pair tI (.pair tI .bool)) (.p2 (.slice 157 (.pair tI tI)) (.pair tI (.pair tI (.pair tI .bool))) (.vr 0)))) (.vr 1)) <|
  .ite (.vr 2) (
   .prim (.lit 157 (.pair tI tI) 1) (.mk2 tI tI (.ci .i64 4) (.p1 tI .bool (.p2 tI (.pair tI .bool) (.p2 tI (.pair tI (.pair tI .bool)) (.p2 (.slice 157 (.pair tI tI)) (.pair tI (.pair tI (.pair tI .bool))) (.vr 0)))))) <|
   .prim (.lapp 157 (.pair tI tI) 16) (.mk2 (.slice 157 (.pair tI tI)) (.slice 157 (.pair tI tI)) (.p1 (.slice 157 (.pair tI tI)) (.pair tI (.pair tI (.pair tI .bool))) (.vr 0)) (.vr 3)) <|
   .ite (.p2 tI .bool (.p2 tI (.pair tI .bool) (.p2 tI (.pair tI (.pair tI .bool)) (.p2 (.slice 157 (.pair tI tI)) (.pair tI (.pair tI (.pair tI .bool))) (.vr 0))))) (
    .prim (.lit 157 (.pair tI tI) 1) (.mk2 tI tI (.ci .i64 5) (.p1 tI .bool (.p2 tI (.pair tI .bool) (.p2 tI (.pair tI (.pair tI .bool)) (.p2 (.slice 157 (.pair tI tI)) (.pair tI (.pair tI (.pair tI .bool))) (.vr 0)))))) <|
    .prim (.lapp 157 (.pair tI tI) 16) (.mk2 (.slice 157 (.pair tI tI)) (.slice 157 (.pair tI tI)) (.vr 4) (.vr 5)) <|
    .prim (.lit 157 (.pair tI tI) 1) (.mk2 tI tI (.ci .i64 6) (.p1 tI .bool (.p2 tI (.pair tI .bool) (.p2 tI (.pair tI (.pair tI .bool)) (.p2 (.slice 157 (.pair tI tI)) (.pair tI (.pair tI (.pair tI .bool))) (.vr 0)))))) <|
    .prim (.lapp 157 (.pair tI tI) 16) (.mk2 (.slice 157 (.pair tI tI)) (.slice 157 (.pair tI tI)) (.vr 6) (.vr 7)) <|
    .prim (.cmp .gtr .i64) (.mk2 tI tI (.p1 tI (.pair tI .bool) (.p2 tI (.pair tI (.pair tI .bool)) (.p2 (.slice 157 (.pair tI tI)) (.pair tI (.pair tI (.pair tI .bool))) (.vr 0)))) (.ci .i64 0)) <|
    .ite (.vr 9) (
     .prim (.lit 157 (.pair tI tI) 1) (.mk2 tI tI (.ci .i64 7) (.p1 tI .bool (.p2 tI (.pair tI .bool) (.p2 tI (.pair tI (.pair tI .bool)) (.p2 (.slice 157 (.pair tI tI)) (.pair tI (.pair tI (.pair tI .bool))) (.vr 0)))))) <|
     .prim (.lapp 157 (.pair tI tI) 16) (.mk2 (.slice 157 (.pair tI tI)) (.slice 157 (.pair tI tI)) (.vr 8) (.vr 10)) <|
     .ret (.vr 11)) (
     .ret (.vr 8))) (
    .prim (.lit 157 (.pair tI tI) 1) (.mk2 tI tI (.ci .i64 6) (.p1 tI .bool (.p2 tI (.pair tI .bool) (.p2 tI (.pair tI (.pair tI .bool)) (.p2 (.slice 157 (.pair tI tI)) (.pair tI (.pair tI (.pair tI .bool))) (.vr 0)))))) <|
    .prim (.lapp 157 (.pair tI tI) 16) (.mk2 (.slice 157 (.pair tI tI)) (.slice 157 (.pair tI tI)) (.vr 4) (.vr 5)) <|
    .prim (.cmp .gtr .i64) (.mk2 tI tI (.p1 tI (.pair tI .bool) (.p2 tI (.pair tI (.pair tI .bool)) (.p2 (.slice 157 (.pair tI tI)) (.pair tI (.pair tI (.pair tI .bool))) (.vr 0)))) (.ci .i64 0)) <|
    .ite (.vr 7) (
     .prim (.lit 157 (.pair tI tI) 1) (.mk2 tI tI (.ci .i64 7) (.p1 tI .bool (.p2 tI (.pair tI .bool) (.p2 tI (.pair tI (.pair tI .bool)) (.p2 (.slice 157 (.pair tI tI)) (.pair tI (.pair tI (.pair tI .bool))) (.vr 0)))))) <|
     .prim (.lapp 157 (.pair tI tI) 16) (.mk2 (.slice 157 (.pair tI tI)) (.slice 157 (.pair tI tI)) (.vr 6) (.vr 8)) <|
     .ret (.vr 9)) (
     .ret (.vr 6)))) (
   .ite (.p2 tI .bool (.p2 tI (.pair tI .bool) (.p2 tI (.pair tI (.pair tI .bool)) (.p2 (.slice 157 (.pair tI tI)) (.pair tI (.pair tI (.pair tI .bool))) (.vr 0))))) (
    .prim (.lit 157 (.pair tI tI) 1) (.mk2 tI tI (.ci .i64 5) (.p1 tI .bool (.p2 tI (.pair tI .bool) (.p2 tI (.pair tI (.pair tI .bool)) (.p2 (.slice 157 (.pair tI tI)) (.pair tI (.pair tI (.pair tI .bool))) (.vr 0)))))) <|
    .prim (.lapp 157 (.pair tI tI) 16) (.mk2 (.slice 157 (.pair tI tI)) (.slice 157 (.pair tI tI)) (.p1 (.slice 157 (.pair tI tI)) (.pair tI (.pair tI (.pair tI .bool))) (.vr 0)) (.vr 3)) <|
    .prim (.lit 157 (.pair tI tI) 1) (.mk2 tI tI (.ci .i64 6) (.p1 tI .bool (.p2 tI (.pair tI .bool) (.p2 tI (.pair tI (.pair tI .bool)) (.p2 (.slice 157 (.pair tI tI)) (.pair tI (.pair tI (.pair tI .bool))) (.vr 0)))))) <|
    .prim (.lapp 157 (.pair tI tI) 16) (.mk2 (.slice 157 (.pair tI tI)) (.slice 157 (.pair tI tI)) (.vr 4) (.vr 5)) <|
    .prim (.cmp .gtr .i64) (.mk2 tI tI (.p1 tI (.pair tI .bool) (.p2 tI (.pair tI (.pair tI .bool)) (.p2 (.slice 157 (.pair tI tI)) (.pair tI (.pair tI (.pair tI .bool))) (.vr 0)))) (.ci .i64 0)) <|
    .ite (.vr 7) (
     .prim (.lit 157 (.pair tI tI) 1) (.mk2 tI tI (.ci .i64 7) (.p1 tI .bool (.p2 tI (.pair tI .bool) (.p2 tI (.pair tI (.pair tI .bool)) (.p2 (.slice 157 (.pair tI tI)) (.pair tI (.pair tI (.pair tI .bool))) (.vr 0)))))) <|
     .prim (.lapp 157 (.pair tI tI) 16) (.mk2 (.slice 157 (.pair tI tI)) (.slice 157 (.pair tI tI)) (.vr 6) (.vr 8)) <|
     .ret (.vr 9)) (
     .ret (.vr 6))) (
    .prim (.lit 157 (.pair tI tI) 1) (.mk2 tI tI (.ci .i64 6) (.p1 tI .bool (.p2 tI (.pair tI .bool) (.p2 tI (.pair tI (.pair tI .bool)) (.p2 (.slice 157 (.pair tI tI)) (.pair tI (.pair tI (.pair tI .bool))) (.vr 0)))))) <|
    .prim (.lapp 157 (.pair tI tI) 16) (.mk2 (.slice 157 (.pair tI tI)) (.slice 157 (.pair tI tI)) (.p1 (.slice 157 (.pair tI tI)) (.pair tI (.pair tI (.pair tI .bool))) (.vr 0)) (.vr 3)) <|
    .prim (.cmp .gtr .i64) (.mk2 tI tI (.p1 tI (.pair tI .bool) (.p2 tI (.pair tI (.pair tI .bool)) (.p2 (.slice 157 (.pair tI tI)) (.pair tI (.pair tI (.pair tI .bool))) (.vr 0)))) (.ci .i64 0)) <|
    .ite (.vr 5) (
     .prim (.lit 157 (.pair tI tI) 1) (.mk2 tI tI (.ci .i64 7) (.p1 tI .bool (.p2 tI (.pair tI .bool) (.p2 tI (.pair tI (.pair tI .bool)) (.p2 (.slice 157 (.pair tI tI)) (.pair tI (.pair tI (.pair tI .bool))) (.vr 0)))))) <|
     .prim (.lapp 157 (.pair tI tI) 16) (.mk2 (.slice 157 (.pair tI tI)) (.slice 157 (.pair tI tI)) (.vr 4) (.vr 6)) <|
     .ret (.vr 7)) (
     .ret (.vr 4))))
set_option maxRecDepth 100000 in
theorem e_s_l9Back : exFn Try.prog [] c_s_l9Back false 3000 ⟨[], []⟩ = .ok t_s_l9Back := by kernel_rfl
theorem v_s_l9Back (x : (List ((Int) × (Int))) × ((Int) × ((Int) × ((Int) × (Bool))))) (hx : okD (.pair (.slice 157 (.pair tI tI)) (.pair tI (.pair tI (.pair tI .bool)))) x) (hp : (fun x => List.length x.1 ≤ 1000000 ∧ 1 ≤ x.2.1 ∧ x.2.1 ≤ 4) x) : t_s_l9Back.wp [] [⟨(.pair (.slice 157 (.pair tI tI)) (.pair tI (.pair tI (.pair tI .bool)))), x⟩] [] (fun v => v.as (.slice 157 (.pair tI tI)) = (fun x => x.1 ++ backF x.2.1 x.2.2.1 x.2.2.2.1 x.2.2.2.2) x) := by
  have hp : List.length x.1 ≤ 1000000 ∧ 1 ≤ x.2.1 ∧ x.2.1 ≤ 4 := hp
  dsimp only [t_s_l9Back, T.wp, litTy, litFn, Ar.val, envAt, Prim.cond, Prim.fn, Prim.ity, Prim.oty, List.getElem?_cons_succ, List.getElem?_cons_zero, Option.getD_some, List.cons_append, List.nil_append, inK, arI, cmpI, maxI, minI, negI]; simp only [SV.as_self, true_and, forall_const, okD_bool, le_tI, lt_tI, ne_tI, eq_tI, zero_tI]
  (repeat' first | intro _ | (with_reducible apply And.intro))
  all_goals (try simp only [Int.toNat_natCast, Bool.not_eq_true', Bool.not_eq_false', Bool.and_eq_true, Bool.and_eq_false_iff, decide_eq_true_eq, decide_eq_false_iff_not, Int.not_lt, Int.not_le, ge_iff_le, gt_iff_lt, List.length_cons, List.length_nil, List.length_append, Nat.zero_add, List.nil_append, beq_iff_eq, beq_eq_false_iff_ne, bne_iff_ne, bne_eq_false_iff_eq, ne_eq, toNat_pred, toNat_succ] at *)
  all_goals first | omega | (unfold maxLen; omega) | skip
  all_goals (unfold backF; (repeat' split) <;> first | omega | contradiction | (simp; done) | (simp_all; done))
theorem h_s_l9Back : Con.Holds Try.prog c_s_l9Back := tree_ok mixedP consNil e_s_l9Back fun x hx hp => v_s_l9Back x hx hp

/-! spec.Plan -/

def c_s_Plan : Con := ⟨90, (.pair tI (.pair tI (.pair tI (.pair tI .bool)))), (.slice 157 (.pair tI tI)), [.val ⟨false, tI, []⟩, .val ⟨false, tI, []⟩, .val ⟨false, tI, []⟩, .val ⟨false, tI, []⟩, .val ⟨false, .bool, []⟩], [⟨false, (.slice 157 (.pair tI tI)), [2]⟩], false,
  ((fun _ => True) : ((Int) × ((Int) × ((Int) × ((Int) × (Bool))))) → Prop),
  ((fun x => planF x.1 x.2.1 x.2.2.1 x.2.2.2.1 x.2.2.2.2) : ((Int) × ((Int) × ((Int) × ((Int) × (Bool))))) → (List ((Int) × (Int))))⟩
def t_s_Plan : T :=
  .call 0 (.mk2 tI (.pair tI tI) (.p1 tI (.pair tI (.pair tI (.pair tI .bool))) (.vr 0)) (.mk2 tI tI (.ci .i64 1) (.ci .i64 2))) <|
  .prim .not (.vr 1) <|
  .ite (.vr 2) (
   .ret (.nl 157 (.pair tI tI))) (
   .call 0 (.mk2 tI (.pair tI tI) (.p1 tI (.pair tI (.pair tI .bool)) (.p2 tI (.pair tI (.pair tI (.pair tI .bool))) (.vr 0))) (.mk2 tI tI (.ci .i64 1) (.ci .i64 4))) <|
   .prim .not (.vr 3) <|
   .ite (.vr 4) (
    .ret (.nl 157 (.pair tI tI))) (
    .prim (.ar .sub .i64) (.mk2 tI tI (.p1 tI (.pair tI (.pair tI .bool)) (.p2 tI (.pair tI (.pair tI (.pair tI .bool))) (.vr 0))) (.ci .i64 1)) <|
    .call 0 (.mk2 tI (.pair tI tI) (.p1 tI (.pair tI .bool) (.p2 tI (.pair tI (.pair tI .bool)) (.p2 tI (.pair tI (.pair tI (.pair tI .bool))) (.vr 0)))) (.mk2 tI tI (.ci .i64 0) (.vr 5))) <|
    .prim .not (.vr 6) <|
    .ite (.vr 7) (
     .ret (.nl 157 (.pair tI tI))) (
     .call 0 (.mk2 tI (.pair tI tI) (.p1 tI .bool (.p2 tI (.pair tI .bool) (.p2 tI (.pair tI (.pair tI .bool)) (.p2 tI (.pair tI (.pair tI (.pair tI .bool))) (.vr 0))))) (.mk2 tI tI (.ci .i64 1) (.ci .i64 5))) <|
     .prim .not (.vr 8) <|
     .ite (.vr 9) (
      .ret (.nl 157 (.pair tI tI))) (
      .call 1 (.mk2 tI (.pair tI (.pair tI tI)) (.p1 tI (.pair tI (.pair tI (.pair tI .bool))) (.vr 0)) (.mk2 tI (.pair tI tI) (.p1 tI (.pair tI (.pair tI .bool)) (.p2 tI (.pair tI (.pair tI (.pair tI .bool))) (.vr 0))) (.mk2 tI tI (.p1 tI (.pair tI .bool) (.p2 tI (.pair tI (.pair tI .bool)) (.p2 tI (.pair tI (.pair tI (.pair tI .bool))) (.vr 0)))) (.p1 tI .bool (.p2 tI (.pair tI .bool) (.p2 tI (.pair tI (.pair tI .bool)) (.p2 tI (.pair tI (.pair tI (.pair tI .bool))) (.vr 0)))))))) <|
      .loop (.pair tI (.slice 157 (.pair tI tI))) (.mk2 tI (.slice 157 (.pair tI tI)) (.ci .i64 0) (.nl 157 (.pair tI tI))) <|
       .prim (.cmp .lss .i64) (.mk2 tI tI (.p1 tI (.slice 157 (.pair tI tI)) (.vr 11)) (.vr 10)) <|
       .ite (.vr 12) (
        .call 2 (.mk2 (.slice 157 (.pair tI tI)) (.pair tI (.pair tI tI)) (.p2 tI (.slice 157 (.pair tI tI)) (.vr 11)) (.mk2 tI (.pair tI tI) (.p1 tI (.pair tI (.pair tI .bool)) (.p2 tI (.pair tI (.pair tI (.pair tI .bool))) (.vr 0))) (.mk2 tI tI (.p1 tI (.pair tI .bool) (.p2 tI (.pair tI (.pair tI .bool)) (.p2 tI (.pair tI (.pair tI (.pair tI .bool))) (.vr 0)))) (.p1 tI (.slice 157 (.pair tI tI)) (.vr 11))))) <|
        .prim (.ar .add .i64) (.mk2 tI tI (.p1 tI (.slice 157 (.pair tI tI)) (.vr 11)) (.ci .i64 1)) <|
        .again 0 (.mk2 tI (.slice 157 (.pair tI tI)) (.vr 14) (.vr 13))) (
        .loop (.pair tI (.slice 157 (.pair tI tI))) (.mk2 tI (.slice 157 (.pair tI tI)) (.ci .i64 0) (.p2 tI (.slice 157 (.pair tI tI)) (.vr 11))) <|
         .prim (.cmp .lss .i64) (.mk2 tI tI (.p1 tI (.slice 157 (.pair tI tI)) (.vr 13)) (.p1 tI .bool (.p2 tI (.pair tI .bool) (.p2 tI (.pair tI (.pair tI .bool)) (.p2 tI (.pair tI (.pair tI (.pair tI .bool))) (.vr 0)))))) <|
         .ite (.vr 14) (
          .prim (.ar .add .i64) (.mk2 tI tI (.vr 10) (.p1 tI (.slice 157 (.pair tI tI)) (.vr 13))) <|
          .prim (.cmp .lss .i64) (.mk2 tI tI (.vr 15) (.p1 tI .bool (.p2 tI (.pair tI .bool) (.p2 tI (.pair tI (.pair tI .bool)) (.p2 tI (.pair tI (.pair tI (.pair tI .bool))) (.vr 0)))))) <|
          .ite (.vr 16) (
           .prim (.ar .add .i64) (.mk2 tI tI (.vr 10) (.p1 tI (.slice 157 (.pair tI tI)) (.vr 13))) <|
           .call 2 (.mk2 (.slice 157 (.pair tI tI)) (.pair tI (.pair tI tI)) (.p2 tI (.slice 157 (.pair tI tI)) (.vr 13)) (.mk2 tI (.pair tI tI) (.p1 tI (.pair tI (.pair tI .bool)) (.p2 tI (.pair tI (.pair tI (.pair tI .bool))) (.vr 0))) (.mk2 tI tI (.p1 tI (.pair tI .bool) (.p2 tI (.pair tI (.pair tI .bool)) (.p2 tI (.pair tI (.pair tI (.pair tI .bool))) (.vr 0)))) (.vr 17)))) <|
           .call 3 (.mk2 (.slice 157 (.pair tI tI)) (.pair tI (.pair tI (.pair tI .bool))) (.vr 18) (.mk2 tI (.pair tI (.pair tI .bool)) (.p1 tI (.pair tI (.pair tI .bool)) (.p2 tI (.pair tI (.pair tI (.pair tI .bool))) (.vr 0))) (.mk2 tI (.pair tI .bool) (.p1 tI (.pair tI .bool) (.p2 tI (.pair tI (.pair tI .bool)) (.p2 tI (.pair tI (.pair tI (.pair tI .bool))) (.vr 0)))) (.mk2 tI .bool (.p1 tI (.slice 157 (.pair tI tI)) (.vr 13)) (.p2 tI .bool (.p2 tI (.pair tI .bool) (.p2 tI (.pair tI (.pair tI .bool)) (.p2 tI (.pair tI (.pair tI (.pair tI .bool))) (.vr 0))))))))) <|
           .prim (.ar .add .i64) (.mk2 tI tI (.p1 tI (.slice 157 (.pair tI tI)) (.vr 13)) (.ci .i64 1)) <|
           .again 0 (.mk2 tI (.slice 157 (.pair tI tI)) (.vr 20) (.vr 19))) (
           .call 3 (.mk2 (.slice 157 (.pair tI tI)) (.pair tI (.pair tI (.pair tI .bool))) (.p2 tI (.slice 157 (.pair tI tI)) (.vr 13)) (.mk2 tI (.pair tI (.pair tI .bool)) (.p1 tI (.pair tI (.pair tI .bool)) (.p2 tI (.pair tI (.pair tI (.pair tI .bool))) (.vr 0))) (.mk2 tI (.pair tI .bool) (.p1 tI (.pair tI .bool) (.p2 tI (.pair tI (.pair tI .bool)) (.p2 tI (.pair tI (.pair tI (.pair tI .bool))) (.vr 0)))) (.mk2 tI .bool (.p1 tI (.slice 157 (.pair tI tI)) (.vr 13)) (.p2 tI .bool (.p2 tI (.pair tI .bool) (.p2 tI (.pair tI (.pair tI .bool)) (.p2 tI (.pair tI (.pair tI (.pair tI .bool))) (.vr 0))))))))) <|
           .prim (.ar .add .i64) (.mk2 tI tI (.p1 tI (.slice 157 (.pair tI tI)) (.vr 13)) (.ci .i64 1)) <|
           .again 0 (.mk2 tI (.slice 157 (.pair tI tI)) (.vr 18) (.vr 17)))) (
          .prim (.lit 157 (.pair tI tI) 1) (.mk2 tI tI (.ci .i64 8) (.ci .i64 0)) <|
          .prim (.lapp 157 (.pair tI tI) 16) (.mk2 (.slice 157 (.pair tI tI)) (.slice 157 (.pair tI tI)) (.p2 tI (.slice 157 (.pair tI tI)) (.vr 13)) (.vr 15)) <|
          .ret (.vr 16)))))))
set_option maxRecDepth 100000 in
theorem e_s_Plan : exFn Try.prog [c_s_l1In, c_s_WarmUp, c_s_l9Ahead, c_s_l9Back] c_s_Plan false 3000 ⟨[(2984, 11, [.dr 41, .dr 40, .dr 39, .dr 38, .dr 37, .dr 35, .dr 34, .dr 33, .dr 32, .dr 31, .dr 30, .dr 29, .dr 28, .dr 27, .dr 26, .dr 25, .dr 24, .dr 23, .dr 22, .dr 21, .dr 20, .dr 19, .dr 18, .dr 17, .dr 16, .dr 15, .dr 0, .tm 13 0, .on 11, .sl 1]), (2974, 13, [.dr 44, .dr 43, .dr 42, .dr 13, .tm 14 0, .sl 1])], []⟩ = .ok t_s_Plan := by kernel_rfl
/- loops: (Int) × (List ((Int) × (Int))) ¦ (Int) × (List ((Int) × (Int))) -/
theorem v_s_Plan (x : (Int) × ((Int) × ((Int) × ((Int) × (Bool))))) (hx : okD (.pair tI (.pair tI (.pair tI (.pair tI .bool)))) x) (hp : (fun _ => True) x) : t_s_Plan.wp [c_s_l1In, c_s_WarmUp, c_s_l9Ahead, c_s_l9Back] [⟨(.pair tI (.pair tI (.pair tI (.pair tI .bool)))), x⟩] [] (fun v => v.as (.slice 157 (.pair tI tI)) = (fun x => planF x.1 x.2.1 x.2.2.1 x.2.2.2.1 x.2.2.2.2) x) := by
  obtain ⟨ds, st, s, micro, r⟩ := x
  dsimp only [t_s_Plan, c_s_l1In, c_s_WarmUp, c_s_l9Ahead, c_s_l9Back, T.wp, litTy, litFn, Ar.val, envAt, Prim.cond, Prim.fn, Prim.ity, Prim.oty, List.getElem?_cons_succ, List.getElem?_cons_zero, Option.getD_some, List.cons_append, List.nil_append, inK, arI, cmpI, maxI, minI, negI]; simp only [SV.as_self, true_and, forall_const, okD_bool, le_tI, lt_tI, ne_tI, eq_tI, zero_tI]
  (repeat' first | intro _ | (with_reducible apply And.intro))
  all_goals (try simp only [Int.toNat_natCast, Bool.not_eq_true', Bool.not_eq_false', Bool.and_eq_true, Bool.and_eq_false_iff, decide_eq_true_eq, decide_eq_false_iff_not, Int.not_lt, Int.not_le, ge_iff_le, gt_iff_lt, List.length_cons, List.length_nil, List.length_append, Nat.zero_add, List.nil_append, beq_iff_eq, beq_eq_false_iff_ne, bne_iff_ne, bne_eq_false_iff_eq, ne_eq, toNat_pred, toNat_succ] at *)
  all_goals first | omega | exact plan_0 (fun h => by rw [plannedB_iff] at h; omega) | skip
  all_goals have hP : plannedB st s micro = true := by first | assumption | exact planned_t (by omega)
  all_goals have hd : ds = 1 ∨ ds = 2 := by omega
  all_goals have hb := (plannedB_iff _ _ _).1 hP
  all_goals have hw := warm_b (ds := ds) hP
  all_goals have hfin := plan_1 (r := r) ⟨hd, hP⟩
  all_goals generalize warmF ds st s micro = W at *
  all_goals refine ⟨fun q => ∃ k : Nat, (k : Int) ≤ W ∧ q = ((k : Int), planA st s k), fun q => W.toNat - (q.1 : Int).toNat, ⟨0, by omega, rfl⟩, fun q _ hI => ?_⟩
  all_goals obtain ⟨k, hk, rfl⟩ := hI
  all_goals dsimp only
  all_goals have l1 := planA_len st s k
  all_goals have l2 := aheadF_len st s k
  all_goals refine ⟨fun hlt => ?_, fun hge => ?_⟩
  all_goals first
    | (have h0 : (k : Int) < W := hlt
       (repeat' first | intro _ | (with_reducible apply And.intro))
       all_goals first | omega | (unfold maxLen; omega) | exact ⟨k + 1, by omega, rfl⟩)
    | skip
  all_goals have hkW : k = W.toNat := by omega
  all_goals refine ⟨fun q => ∃ j : Nat, (j : Int) ≤ micro ∧ q = ((j : Int), planB st s micro W r j), fun q => micro.toNat - (q.1 : Int).toNat, ⟨0, by omega, by rw [hkW]; rfl⟩, fun q _ hI => ?_⟩
  all_goals obtain ⟨j, hj, rfl⟩ := hI
  all_goals dsimp only
  all_goals try rw [show W + (j : Int) = (j : Int) + W from Int.add_comm _ _]
  all_goals have l3 := planB_len st s micro W r j
  all_goals have l4 := aheadF_len st s ((j : Int) + W)
  all_goals have l5 := backF_len st s j r
  all_goals (repeat' first | intro _ | (with_reducible apply And.intro))
  all_goals first
    | omega
    | (unfold maxLen; omega)
    | exact ⟨j + 1, by omega, by rw [← planB_A (by omega)]; rfl⟩
    | exact ⟨j + 1, by omega, by rw [← planB_B (by omega)]; rfl⟩
    | (have hj2 : j = micro.toNat := by omega
       rw [hj2]
       exact hfin)
theorem h_s_Plan : Con.Holds Try.prog c_s_Plan := tree_ok mixedP (consAt h_s_l1In (consAt h_s_WarmUp (consAt h_s_l9Ahead (consAt h_s_l9Back consNil)))) e_s_Plan fun x hx hp => v_s_Plan x hx hp
end Go.Proofs.Ytnijnjclmlfahaa
