/- Ticks2: trees, and what they say. -/
import Derived.Test.YtnijnjclmlfahaaPlan2
import Derived.Test.YtnijnjclmlfahaaZero2
namespace Go.Proofs.Ytnijnjclmlfahaa
open Go.ChangeShapes Go.WideShapes Go.ChangeAt Go.RowKit Go.Deep
set_option linter.unusedVariables false
set_option linter.unusedSimpArgs false
abbrev ConfD := List OpD × (List Int × (Int × (List Bool × (List Int × List Int))))
def cutAt (c : List Int) (n : Nat) (i : Nat) : Bool := decide (1 ≤ c.getD i 0 ∧ c.getD i 0 ≤ (n : Int) - 1 ∧ (i = 0 ∨ c.getD (i - 1) 0 < c.getD i 0))
theorem cutAt_iff (c : List Int) (n : Nat) {i : Nat} (h : i < c.length) : cutAt c n i = true ↔ 1 ≤ c[i] ∧ c[i] ≤ (n : Int) - 1 ∧ (i = 0 ∨ (c[i - 1]'(by omega)) < c[i]) := by
  unfold cutAt
  rw [getD_at h, getD_at (show i - 1 < c.length by omega), decide_eq_true_eq]
def cutsB (m : List OpD) (c : List Int) : Bool := modelB m && (List.range c.length).all (cutAt c m.length)
theorem cutsB_iff (m : List OpD) (c : List Int) : cutsB m c = true ↔ modelB m = true ∧ ∀ i, i < c.length → cutAt c m.length i = true := by
  unfold cutsB; simp only [Bool.and_eq_true, List.all_eq_true, List.mem_range]
theorem cuts_f1 {m : List OpD} {c : List Int} (h : modelB m = false) : false = cutsB m c := by unfold cutsB; rw [h]; rfl
theorem cuts_f2 {m : List OpD} {c : List Int} {i : Nat} (hi : i < c.length) (h : ¬ cutAt c m.length i = true) : false = cutsB m c := by
  refine (Bool.eq_false_iff.2 fun h' => ?_).symm
  rw [cutsB_iff] at h'
  exact h (h'.2 i hi)
def stagesF (m : List OpD) (c : List Int) : Int := if cutsB m c = true then (c.length : Int) + 1 else 0
def ticksK (c : ConfD) (micro : Int) : Nat → Int
  | 0 => 0
  | k + 1 => max (ticksK c micro k) ((planF c.2.2.1 (stagesF c.1 c.2.1) k micro (c.2.2.2.1.getD k false)).length : Int)
def ticksF (c : ConfD) (micro : Int) : Int := ticksK c micro (min c.2.2.2.1.length (stagesF c.1 c.2.1).toNat)
def ConfP (c : ConfD) : Prop := ModelP c.1 ∧ List.length c.2.1 ≤ 1000000000 ∧ List.length c.2.2.2.1 ≤ 1000000000 ∧ List.length c.2.2.2.2.1 ≤ 1000000000 ∧ List.length c.2.2.2.2.2 ≤ 1000000000
theorem planF_len (ds st s micro : Int) (r : Bool) : (planF ds st s micro r).length ≤ 60 := by
  unfold planF
  split
  · rename_i h
    have h1 := planB_len st s micro (warmF ds st s micro) r micro.toNat
    have h2 := warm_b (ds := ds) h.2
    have h3 := (plannedB_iff _ _ _).1 h.2
    rw [List.length_append, List.length_singleton]
    omega
  · simp
theorem ticksK_b (c : ConfD) (micro : Int) : (k : Nat) → 0 ≤ ticksK c micro k ∧ ticksK c micro k ≤ 60
  | 0 => by unfold ticksK; omega
  | k + 1 => by
    have h1 := ticksK_b c micro k
    have h2 := planF_len c.2.2.1 (stagesF c.1 c.2.1) k micro (c.2.2.2.1.getD k false)
    unfold ticksK
    omega

/-! impl.CutsOk -/

def c_i_CutsOk : Con := ⟨136, (.pair (.slice 99 (.pair tI (.pair tI (.pair tI (.slice 3 tI))))) (.slice 3 tI)), .bool, [.val ⟨true, (.slice 99 (.pair tI (.pair tI (.pair tI (.slice 3 tI))))), []⟩, .val ⟨false, (.slice 3 tI), []⟩], [⟨false, .bool, [0]⟩], false,
  ((fun x => ModelP x.1 ∧ List.length x.2 ≤ 1000000000) : ((List ((Int) × ((Int) × ((Int) × (List (Int)))))) × (List (Int))) → Prop),
  ((fun x => cutsB x.1 x.2) : ((List ((Int) × ((Int) × ((Int) × (List (Int)))))) × (List (Int))) → (Bool))⟩
def t_i_CutsOk : T :=
  .call 0 (.p1 (.slice 99 (.pair tI (.pair tI (.pair tI (.slice 3 tI))))) (.slice 3 tI) (.vr 0)) <|
  .prim .not (.vr 1) <|
  .ite (.vr 2) (
   .ret (.cb false)) (
   .prim (.llen 3 tI) (.p2 (.slice 99 (.pair tI (.pair tI (.pair tI (.slice 3 tI))))) (.slice 3 tI) (.vr 0)) <|
   .loop tI (.ci .i64 0) <|
    .prim (.cmp .lss .i64) (.mk2 tI tI (.vr 4) (.vr 3)) <|
    .ite (.vr 5) (
     .prim (.lidx 3 tI) (.mk2 (.slice 3 tI) tI (.p2 (.slice 99 (.pair tI (.pair tI (.pair tI (.slice 3 tI))))) (.slice 3 tI) (.vr 0)) (.vr 4)) <|
     .prim (.cmp .lss .i64) (.mk2 tI tI (.vr 6) (.ci .i64 1)) <|
     .ite (.vr 7) (
      .ret (.cb false)) (
      .prim (.llen 99 (.pair tI (.pair tI (.pair tI (.slice 3 tI))))) (.p1 (.slice 99 (.pair tI (.pair tI (.pair tI (.slice 3 tI))))) (.slice 3 tI) (.vr 0)) <|
      .prim (.ar .sub .i64) (.mk2 tI tI (.vr 8) (.ci .i64 1)) <|
      .prim (.cmp .gtr .i64) (.mk2 tI tI (.vr 6) (.vr 9)) <|
      .ite (.vr 10) (
       .ret (.cb false)) (
       .prim (.cmp .gtr .i64) (.mk2 tI tI (.vr 4) (.ci .i64 0)) <|
       .ite (.vr 11) (
        .prim (.ar .sub .i64) (.mk2 tI tI (.vr 4) (.ci .i64 1)) <|
        .prim (.lidx 3 tI) (.mk2 (.slice 3 tI) tI (.p2 (.slice 99 (.pair tI (.pair tI (.pair tI (.slice 3 tI))))) (.slice 3 tI) (.vr 0)) (.vr 12)) <|
        .prim (.cmp .geq .i64) (.mk2 tI tI (.vr 13) (.vr 6)) <|
        .ite (.vr 14) (
         .ret (.cb false)) (
         .prim (.ar .add .i64) (.mk2 tI tI (.vr 4) (.ci .i64 1)) <|
         .again 0 (.vr 15))) (
        .prim (.ar .add .i64) (.mk2 tI tI (.vr 4) (.ci .i64 1)) <|
        .again 0 (.vr 12))))) (
     .ret (.cb true)))
set_option maxRecDepth 100000 in
theorem e_i_CutsOk : exFn Try.prog [c_i_ModelOk] c_i_CutsOk false 3000 ⟨[(2988, 4, [.dr 9, .dr 8, .dr 7, .dr 0, .tm 12 0])], []⟩ = .ok t_i_CutsOk := by kernel_rfl
/- loops: Int -/
theorem v_i_CutsOk (x : (List ((Int) × ((Int) × ((Int) × (List (Int)))))) × (List (Int))) (hx : okD (.pair (.slice 99 (.pair tI (.pair tI (.pair tI (.slice 3 tI))))) (.slice 3 tI)) x) (hp : (fun x => ModelP x.1 ∧ List.length x.2 ≤ 1000000000) x) : t_i_CutsOk.wp [c_i_ModelOk] [⟨(.pair (.slice 99 (.pair tI (.pair tI (.pair tI (.slice 3 tI))))) (.slice 3 tI)), x⟩] [] (fun v => v.as .bool = (fun x => cutsB x.1 x.2) x) := by
  obtain ⟨m, c⟩ := x
  obtain ⟨⟨hm1, hm2⟩, hc⟩ : ModelP m ∧ List.length c ≤ 1000000000 := hp
  dsimp only [t_i_CutsOk, c_i_ModelOk, T.wp, litTy, litFn, Ar.val, envAt, Prim.cond, Prim.fn, Prim.ity, Prim.oty, List.getElem?_cons_succ, List.getElem?_cons_zero, Option.getD_some, List.cons_append, List.nil_append, inK, arI, cmpI, maxI, minI, negI]; simp only [SV.as_self, true_and, forall_const, okD_bool, le_tI, lt_tI, ne_tI, eq_tI, zero_tI]
  refine ⟨⟨hm1, hm2⟩, fun hb => ?_, fun hb _ => ?_⟩
  all_goals simp only [Int.toNat_natCast, Bool.not_eq_true', Bool.not_eq_false', Bool.and_eq_true, Bool.and_eq_false_iff, decide_eq_true_eq, decide_eq_false_iff_not, Int.not_lt, Int.not_le, ge_iff_le, gt_iff_lt, List.length_cons, List.length_nil, List.length_append, Nat.zero_add, List.nil_append, beq_iff_eq, beq_eq_false_iff_ne, bne_iff_ne, bne_eq_false_iff_eq, ne_eq, toNat_pred, toNat_succ] at hb
  · exact cuts_f1 hb
  refine ⟨fun s => ∃ k : Nat, k ≤ c.length ∧ s = (k : Int) ∧ ∀ i, i < k → cutAt c m.length i = true, fun s => c.length - (s : Int).toNat, ⟨0, by omega, rfl, by omega⟩, fun s _ hI => ?_⟩
  obtain ⟨k, hk, rfl, ha⟩ := hI
  simp only [Int.toNat_natCast, Bool.not_eq_true', Bool.not_eq_false', Bool.and_eq_true, Bool.and_eq_false_iff, decide_eq_true_eq, decide_eq_false_iff_not, Int.not_lt, Int.not_le, ge_iff_le, gt_iff_lt, List.length_cons, List.length_nil, List.length_append, Nat.zero_add, List.nil_append, beq_iff_eq, beq_eq_false_iff_ne, bne_iff_ne, bne_eq_false_iff_eq, ne_eq, toNat_pred, toNat_succ]
  constructor
  · intro hlt
    have hk' : k < c.length := by omega
    rw [getD_at hk', getD_at (show k - 1 < c.length by omega)]
    have e := cutAt_iff c m.length hk'
    (repeat' first | intro _ | (with_reducible apply And.intro))
    all_goals first | omega | (refine cuts_f2 hk' fun h => ?_; rw [e] at h; omega) | skip
    all_goals refine ⟨k + 1, by omega, rfl, fun i hi => ?_⟩
    all_goals rcases Nat.lt_or_eq_of_le (Nat.le_of_lt_succ hi) with h | rfl
    all_goals first | exact ha i h | exact e.2 ⟨by omega, by omega, by omega⟩
  · intro hge
    have : k = c.length := by omega
    subst this
    exact ((cutsB_iff m c).2 ⟨hb, ha⟩).symm
theorem h_i_CutsOk : Con.Holds Try.prog c_i_CutsOk := tree_ok mixedP (consAt h_i_ModelOk consNil) e_i_CutsOk fun x hx hp => v_i_CutsOk x hx hp

/-! spec.CutsOk -/

def c_s_CutsOk : Con := ⟨132, (.pair (.slice 99 (.pair tI (.pair tI (.pair tI (.slice 3 tI))))) (.slice 3 tI)), .bool, [.val ⟨true, (.slice 99 (.pair tI (.pair tI (.pair tI (.slice 3 tI))))), []⟩, .val ⟨false, (.slice 3 tI), []⟩], [⟨false, .bool, [0]⟩], false,
  ((fun x => ModelP x.1 ∧ List.length x.2 ≤ 1000000000) : ((List ((Int) × ((Int) × ((Int) × (List (Int)))))) × (List (Int))) → Prop),
  ((fun x => cutsB x.1 x.2) : ((List ((Int) × ((Int) × ((Int) × (List (Int)))))) × (List (Int))) → (Bool))⟩
def t_s_CutsOk : T :=
  .loop tI (.ci .i64 0) <|
   .prim (.llen 3 tI) (.p2 (.slice 99 (.pair tI (.pair tI (.pair tI (.slice 3 tI))))) (.slice 3 tI) (.vr 0)) <|
   .prim (.cmp .lss .i64) (.mk2 tI tI (.vr 1) (.vr 2)) <|
   .ite (.vr 3) (
    .prim (.lidx 3 tI) (.mk2 (.slice 3 tI) tI (.p2 (.slice 99 (.pair tI (.pair tI (.pair tI (.slice 3 tI))))) (.slice 3 tI) (.vr 0)) (.vr 1)) <|
    .prim (.llen 99 (.pair tI (.pair tI (.pair tI (.slice 3 tI))))) (.p1 (.slice 99 (.pair tI (.pair tI (.pair tI (.slice 3 tI))))) (.slice 3 tI) (.vr 0)) <|
    .prim (.ar .sub .i64) (.mk2 tI tI (.vr 5) (.ci .i64 1)) <|
    .call 0 (.mk2 tI (.pair tI tI) (.vr 4) (.mk2 tI tI (.ci .i64 1) (.vr 6))) <|
    .prim .not (.vr 7) <|
    .ite (.vr 8) (
     .ret (.cb false)) (
     .prim (.cmp .gtr .i64) (.mk2 tI tI (.vr 1) (.ci .i64 0)) <|
     .ite (.vr 9) (
      .prim (.ar .sub .i64) (.mk2 tI tI (.vr 1) (.ci .i64 1)) <|
      .prim (.lidx 3 tI) (.mk2 (.slice 3 tI) tI (.p2 (.slice 99 (.pair tI (.pair tI (.pair tI (.slice 3 tI))))) (.slice 3 tI) (.vr 0)) (.vr 1)) <|
      .prim (.lidx 3 tI) (.mk2 (.slice 3 tI) tI (.p2 (.slice 99 (.pair tI (.pair tI (.pair tI (.slice 3 tI))))) (.slice 3 tI) (.vr 0)) (.vr 10)) <|
      .prim (.cmp .leq .i64) (.mk2 tI tI (.vr 11) (.vr 12)) <|
      .ite (.vr 13) (
       .ret (.cb false)) (
       .prim (.ar .add .i64) (.mk2 tI tI (.vr 1) (.ci .i64 1)) <|
       .again 0 (.vr 14))) (
      .prim (.ar .add .i64) (.mk2 tI tI (.vr 1) (.ci .i64 1)) <|
      .again 0 (.vr 10)))) (
    .call 1 (.p1 (.slice 99 (.pair tI (.pair tI (.pair tI (.slice 3 tI))))) (.slice 3 tI) (.vr 0)) <|
    .ret (.vr 4))
set_option maxRecDepth 100000 in
theorem e_s_CutsOk : exFn Try.prog [c_s_l1In, c_s_ModelOk] c_s_CutsOk false 3000 ⟨[(2993, 1, [.dr 0, .tm 5 0])], []⟩ = .ok t_s_CutsOk := by kernel_rfl
/- loops: Int -/
theorem v_s_CutsOk (x : (List ((Int) × ((Int) × ((Int) × (List (Int)))))) × (List (Int))) (hx : okD (.pair (.slice 99 (.pair tI (.pair tI (.pair tI (.slice 3 tI))))) (.slice 3 tI)) x) (hp : (fun x => ModelP x.1 ∧ List.length x.2 ≤ 1000000000) x) : t_s_CutsOk.wp [c_s_l1In, c_s_ModelOk] [⟨(.pair (.slice 99 (.pair tI (.pair tI (.pair tI (.slice 3 tI))))) (.slice 3 tI)), x⟩] [] (fun v => v.as .bool = (fun x => cutsB x.1 x.2) x) := by
  obtain ⟨m, c⟩ := x
  obtain ⟨⟨hm1, hm2⟩, hc⟩ : ModelP m ∧ List.length c ≤ 1000000000 := hp
  dsimp only [t_s_CutsOk, c_s_l1In, c_s_ModelOk, T.wp, litTy, litFn, Ar.val, envAt, Prim.cond, Prim.fn, Prim.ity, Prim.oty, List.getElem?_cons_succ, List.getElem?_cons_zero, Option.getD_some, List.cons_append, List.nil_append, inK, arI, cmpI, maxI, minI, negI]; simp only [SV.as_self, true_and, forall_const, okD_bool, le_tI, lt_tI, ne_tI, eq_tI, zero_tI]
  refine ⟨fun s => ∃ k : Nat, k ≤ c.length ∧ s = (k : Int) ∧ ∀ i, i < k → cutAt c m.length i = true, fun s => c.length - (s : Int).toNat, ⟨0, by omega, rfl, by omega⟩, fun s _ hI => ?_⟩
  obtain ⟨k, hk, rfl, ha⟩ := hI
  simp only [Int.toNat_natCast, Bool.not_eq_true', Bool.not_eq_false', Bool.and_eq_true, Bool.and_eq_false_iff, decide_eq_true_eq, decide_eq_false_iff_not, Int.not_lt, Int.not_le, ge_iff_le, gt_iff_lt, List.length_cons, List.length_nil, List.length_append, Nat.zero_add, List.nil_append, beq_iff_eq, beq_eq_false_iff_ne, bne_iff_ne, bne_eq_false_iff_eq, ne_eq, toNat_pred, toNat_succ]
  intro _
  constructor
  · intro hlt
    have hk' : k < c.length := by omega
    rw [getD_at hk', getD_at (show k - 1 < c.length by omega)]
    have e := cutAt_iff c m.length hk'
    (repeat' first | intro _ | (with_reducible apply And.intro))
    all_goals first | omega | (refine cuts_f2 hk' fun h => ?_; rw [e] at h; omega) | skip
    all_goals refine ⟨k + 1, by omega, rfl, fun i hi => ?_⟩
    all_goals rcases Nat.lt_or_eq_of_le (Nat.le_of_lt_succ hi) with h | rfl
    all_goals first | exact ha i h | exact e.2 ⟨by omega, by omega, by omega⟩
  · intro hge
    have : k = c.length := by omega
    subst this
    refine ⟨⟨hm1, hm2⟩, ?_⟩
    rw [Bool.eq_iff_iff, cutsB_iff]
    exact ⟨fun h => ⟨h, ha⟩, fun h => h.1⟩
theorem h_s_CutsOk : Con.Holds Try.prog c_s_CutsOk := tree_ok mixedP (consAt h_s_l1In (consAt h_s_ModelOk consNil)) e_s_CutsOk fun x hx hp => v_s_CutsOk x hx hp

/-! impl.StagesOf -/

def c_i_StagesOf : Con := ⟨93, (.pair (.slice 99 (.pair tI (.pair tI (.pair tI (.slice 3 tI))))) (.pair (.slice 3 tI) (.pair tI (.pair (.slice 4 .bool) (.pair (.slice 3 tI) (.slice 3 tI)))))), tI, [.val ⟨true, (.pair (.slice 99 (.pair tI (.pair tI (.pair tI (.slice 3 tI))))) (.pair (.slice 3 tI) (.pair tI (.pair (.slice 4 .bool) (.pair (.slice 3 tI) (.slice 3 tI)))))), []⟩], [⟨false, tI, [0]⟩], false,
  ((fun x => ModelP x.1 ∧ List.length x.2.1 ≤ 1000000000) : ((List ((Int) × ((Int) × ((Int) × (List (Int)))))) × ((List (Int)) × ((Int) × ((List (Bool)) × ((List (Int)) × (List (Int))))))) → Prop),
  ((fun x => stagesF x.1 x.2.1) : ((List ((Int) × ((Int) × ((Int) × (List (Int)))))) × ((List (Int)) × ((Int) × ((List (Bool)) × ((List (Int)) × (List (Int))))))) → (Int))⟩
def t_i_StagesOf : T :=
  .call 0 (.mk2 (.slice 99 (.pair tI (.pair tI (.pair tI (.slice 3 tI))))) (.slice 3 tI) (.p1 (.slice 99 (.pair tI (.pair tI (.pair tI (.slice 3 tI))))) (.pair (.slice 3 tI) (.pair tI (.pair (.slice 4 .bool) (.pair (.slice 3 tI) (.slice 3 tI))))) (.vr 0)) (.p1 (.slice 3 tI) (.pair tI (.pair (.slice 4 .bool) (.pair (.slice 3 tI) (.slice 3 tI)))) (.p2 (.slice 99 (.pair tI (.pair tI (.pair tI (.slice 3 tI))))) (.pair (.slice 3 tI) (.pair tI (.pair (.slice 4 .bool) (.pair (.slice 3 tI) (.slice 3 tI))))) (.vr 0)))) <|
  .prim .not (.vr 1) <|
  .ite (.vr 2) (
   .ret (.ci .i64 0)) (
   .prim (.llen 3 tI) (.p1 (.slice 3 tI) (.pair tI (.pair (.slice 4 .bool) (.pair (.slice 3 tI) (.slice 3 tI)))) (.p2 (.slice 99 (.pair tI (.pair tI (.pair tI (.slice 3 tI))))) (.pair (.slice 3 tI) (.pair tI (.pair (.slice 4 .bool) (.pair (.slice 3 tI) (.slice 3 tI))))) (.vr 0))) <|
   .prim (.ar .add .i64) (.mk2 tI tI (.vr 3) (.ci .i64 1)) <|
   .ret (.vr 4))
set_option maxRecDepth 100000 in
theorem e_i_StagesOf : exFn Try.prog [c_i_CutsOk] c_i_StagesOf false 3000 ⟨[], []⟩ = .ok t_i_StagesOf := by kernel_rfl
theorem v_i_StagesOf (x : (List ((Int) × ((Int) × ((Int) × (List (Int)))))) × ((List (Int)) × ((Int) × ((List (Bool)) × ((List (Int)) × (List (Int))))))) (hx : okD (.pair (.slice 99 (.pair tI (.pair tI (.pair tI (.slice 3 tI))))) (.pair (.slice 3 tI) (.pair tI (.pair (.slice 4 .bool) (.pair (.slice 3 tI) (.slice 3 tI)))))) x) (hp : (fun x => ModelP x.1 ∧ List.length x.2.1 ≤ 1000000000) x) : t_i_StagesOf.wp [c_i_CutsOk] [⟨(.pair (.slice 99 (.pair tI (.pair tI (.pair tI (.slice 3 tI))))) (.pair (.slice 3 tI) (.pair tI (.pair (.slice 4 .bool) (.pair (.slice 3 tI) (.slice 3 tI)))))), x⟩] [] (fun v => v.as tI = (fun x => stagesF x.1 x.2.1) x) := by
  obtain ⟨m, c, r⟩ := x
  have hq : ModelP m ∧ List.length c ≤ 1000000000 := hp
  have hc := hq.2
  dsimp only [t_i_StagesOf, c_i_CutsOk, T.wp, litTy, litFn, Ar.val, envAt, Prim.cond, Prim.fn, Prim.ity, Prim.oty, List.getElem?_cons_succ, List.getElem?_cons_zero, Option.getD_some, List.cons_append, List.nil_append, inK, arI, cmpI, maxI, minI, negI]; simp only [SV.as_self, true_and, forall_const, okD_bool, le_tI, lt_tI, ne_tI, eq_tI, zero_tI]
  refine ⟨hq, fun hb => ?_, fun hb _ => ?_⟩
  all_goals simp only [Int.toNat_natCast, Bool.not_eq_true', Bool.not_eq_false', Bool.and_eq_true, Bool.and_eq_false_iff, decide_eq_true_eq, decide_eq_false_iff_not, Int.not_lt, Int.not_le, ge_iff_le, gt_iff_lt, List.length_cons, List.length_nil, List.length_append, Nat.zero_add, List.nil_append, beq_iff_eq, beq_eq_false_iff_ne, bne_iff_ne, bne_eq_false_iff_eq, ne_eq, toNat_pred, toNat_succ] at hb
  · unfold stagesF; rw [if_neg (by rw [hb]; simp)]
  · refine ⟨by omega, fun _ => ?_⟩
    unfold stagesF; rw [if_pos hb]
theorem h_i_StagesOf : Con.Holds Try.prog c_i_StagesOf := tree_ok mixedP (consAt h_i_CutsOk consNil) e_i_StagesOf fun x hx hp => v_i_StagesOf x hx hp

/-! spec.StagesOf -/

def c_s_StagesOf : Con := ⟨89, (.pair (.slice 99 (.pair tI (.pair tI (.pair tI (.slice 3 tI))))) (.pair (.slice 3 tI) (.pair tI (.pair (.slice 4 .bool) (.pair (.slice 3 tI) (.slice 3 tI)))))), tI, [.val ⟨true, (.pair (.slice 99 (.pair tI (.pair tI (.pair tI (.slice 3 tI))))) (.pair (.slice 3 tI) (.pair tI (.pair (.slice 4 .bool) (.pair (.slice 3 tI) (.slice 3 tI)))))), []⟩], [⟨false, tI, [0]⟩], false,
  ((fun x => ModelP x.1 ∧ List.length x.2.1 ≤ 1000000000) : ((List ((Int) × ((Int) × ((Int) × (List (Int)))))) × ((List (Int)) × ((Int) × ((List (Bool)) × ((List (Int)) × (List (Int))))))) → Prop),
  ((fun x => stagesF x.1 x.2.1) : ((List ((Int) × ((Int) × ((Int) × (List (Int)))))) × ((List (Int)) × ((Int) × ((List (Bool)) × ((List (Int)) × (List (Int))))))) → (Int))⟩
def t_s_StagesOf : T :=
  .call 0 (.mk2 (.slice 99 (.pair tI (.pair tI (.pair tI (.slice 3 tI))))) (.slice 3 tI) (.p1 (.slice 99 (.pair tI (.pair tI (.pair tI (.slice 3 tI))))) (.pair (.slice 3 tI) (.pair tI (.pair (.slice 4 .bool) (.pair (.slice 3 tI) (.slice 3 tI))))) (.vr 0)) (.p1 (.slice 3 tI) (.pair tI (.pair (.slice 4 .bool) (.pair (.slice 3 tI) (.slice 3 tI)))) (.p2 (.slice 99 (.pair tI (.pair tI (.pair tI (.slice 3 tI))))) (.pair (.slice 3 tI) (.pair tI (.pair (.slice 4 .bool) (.pair (.slice 3 tI) (.slice 3 tI))))) (.vr 0)))) <|
  .prim .not (.vr 1) <|
  .ite (.vr 2) (
   .ret (.ci .i64 0)) (
   .prim (.llen 3 tI) (.p1 (.slice 3 tI) (.pair tI (.pair (.slice 4 .bool) (.pair (.slice 3 tI) (.slice 3 tI)))) (.p2 (.slice 99 (.pair tI (.pair tI (.pair tI (.slice 3 tI))))) (.pair (.slice 3 tI) (.pair tI (.pair (.slice 4 .bool) (.pair (.slice 3 tI) (.slice 3 tI))))) (.vr 0))) <|
   .prim (.ar .add .i64) (.mk2 tI tI (.vr 3) (.ci .i64 1)) <|
   .ret (.vr 4))
set_option maxRecDepth 100000 in
theorem e_s_StagesOf : exFn Try.prog [c_s_CutsOk] c_s_StagesOf false 3000 ⟨[], []⟩ = .ok t_s_StagesOf := by kernel_rfl
theorem v_s_StagesOf (x : (List ((Int) × ((Int) × ((Int) × (List (Int)))))) × ((List (Int)) × ((Int) × ((List (Bool)) × ((List (Int)) × (List (Int))))))) (hx : okD (.pair (.slice 99 (.pair tI (.pair tI (.pair tI (.slice 3 tI))))) (.pair (.slice 3 tI) (.pair tI (.pair (.slice 4 .bool) (.pair (.slice 3 tI) (.slice 3 tI)))))) x) (hp : (fun x => ModelP x.1 ∧ List.length x.2.1 ≤ 1000000000) x) : t_s_StagesOf.wp [c_s_CutsOk] [⟨(.pair (.slice 99 (.pair tI (.pair tI (.pair tI (.slice 3 tI))))) (.pair (.slice 3 tI) (.pair tI (.pair (.slice 4 .bool) (.pair (.slice 3 tI) (.slice 3 tI)))))), x⟩] [] (fun v => v.as tI = (fun x => stagesF x.1 x.2.1) x) := by
  obtain ⟨m, c, r⟩ := x
  have hq : ModelP m ∧ List.length c ≤ 1000000000 := hp
  have hc := hq.2
  dsimp only [t_s_StagesOf, c_s_CutsOk, T.wp, litTy, litFn, Ar.val, envAt, Prim.cond, Prim.fn, Prim.ity, Prim.oty, List.getElem?_cons_succ, List.getElem?_cons_zero, Option.getD_some, List.cons_append, List.nil_append, inK, arI, cmpI, maxI, minI, negI]; simp only [SV.as_self, true_and, forall_const, okD_bool, le_tI, lt_tI, ne_tI, eq_tI, zero_tI]
  refine ⟨hq, fun hb => ?_, fun hb _ => ?_⟩
  all_goals simp only [Int.toNat_natCast, Bool.not_eq_true', Bool.not_eq_false', Bool.and_eq_true, Bool.and_eq_false_iff, decide_eq_true_eq, decide_eq_false_iff_not, Int.not_lt, Int.not_le, ge_iff_le, gt_iff_lt, List.length_cons, List.length_nil, List.length_append, Nat.zero_add, List.nil_append, beq_iff_eq, beq_eq_false_iff_ne, bne_iff_ne, bne_eq_false_iff_eq, ne_eq, toNat_pred, toNat_succ] at hb
  · unfold stagesF; rw [if_neg (by rw [hb]; simp)]
  · refine ⟨by omega, fun _ => ?_⟩
    unfold stagesF; rw [if_pos hb]
theorem h_s_StagesOf : Con.Holds Try.prog c_s_StagesOf := tree_ok mixedP (consAt h_s_CutsOk consNil) e_s_StagesOf fun x hx hp => v_s_StagesOf x hx hp

/-! impl.LeastTicks -/

def c_i_LeastTicks : Con := ⟨47, (.pair (.pair (.slice 99 (.pair tI (.pair tI (.pair tI (.slice 3 tI))))) (.pair (.slice 3 tI) (.pair tI (.pair (.slice 4 .bool) (.pair (.slice 3 tI) (.slice 3 tI)))))) tI), tI, [.val ⟨true, (.pair (.slice 99 (.pair tI (.pair tI (.pair tI (.slice 3 tI))))) (.pair (.slice 3 tI) (.pair tI (.pair (.slice 4 .bool) (.pair (.slice 3 tI) (.slice 3 tI)))))), []⟩, .val ⟨false, tI, []⟩], [⟨false, tI, [0]⟩], false,
  ((fun x => ConfP x.1) : (((List ((Int) × ((Int) × ((Int) × (List (Int)))))) × ((List (Int)) × ((Int) × ((List (Bool)) × ((List (Int)) × (List (Int))))))) × (Int)) → Prop),
  ((fun x => ticksF x.1 x.2) : (((List ((Int) × ((Int) × ((Int) × (List (Int)))))) × ((List (Int)) × ((Int) × ((List (Bool)) × ((List (Int)) × (List (Int))))))) × (Int)) → (Int))⟩
def t_i_LeastTicks : T :=
  .loop (.pair tI tI) (.mk2 tI tI (.ci .i64 0) (.ci .i64 0)) <|
   .prim (.llen 4 .bool) (.p1 (.slice 4 .bool) (.pair (.slice 3 tI) (.slice 3 tI)) (.p2 tI (.pair (.slice 4 .bool) (.pair (.slice 3 tI) (.slice 3 tI))) (.p2 (.slice 3 tI) (.pair tI (.pair (.slice 4 .bool) (.pair (.slice 3 tI) (.slice 3 tI)))) (.p2 (.slice 99 (.pair tI (.pair tI (.pair tI (.slice 3 tI))))) (.pair (.slice 3 tI) (.pair tI (.pair (.slice 4 .bool) (.pair (.slice 3 tI) (.slice 3 tI))))) (.p1 (.pair (.slice 99 (.pair tI (.pair tI (.pair tI (.slice 3 tI))))) (.pair (.slice 3 tI) (.pair tI (.pair (.slice 4 .bool) (.pair (.slice 3 tI) (.slice 3 tI)))))) tI (.vr 0)))))) <|
   .prim (.cmp .lss .i64) (.mk2 tI tI (.p1 tI tI (.vr 1)) (.vr 2)) <|
   .ite (.vr 3) (
    .call 0 (.p1 (.pair (.slice 99 (.pair tI (.pair tI (.pair tI (.slice 3 tI))))) (.pair (.slice 3 tI) (.pair tI (.pair (.slice 4 .bool) (.pair (.slice 3 tI) (.slice 3 tI)))))) tI (.vr 0)) <|
    .prim (.cmp .lss .i64) (.mk2 tI tI (.p1 tI tI (.vr 1)) (.vr 4)) <|
    .ite (.vr 5) (
     .prim (.lidx 4 .bool) (.mk2 (.slice 4 .bool) tI (.p1 (.slice 4 .bool) (.pair (.slice 3 tI) (.slice 3 tI)) (.p2 tI (.pair (.slice 4 .bool) (.pair (.slice 3 tI) (.slice 3 tI))) (.p2 (.slice 3 tI) (.pair tI (.pair (.slice 4 .bool) (.pair (.slice 3 tI) (.slice 3 tI)))) (.p2 (.slice 99 (.pair tI (.pair tI (.pair tI (.slice 3 tI))))) (.pair (.slice 3 tI) (.pair tI (.pair (.slice 4 .bool) (.pair (.slice 3 tI) (.slice 3 tI))))) (.p1 (.pair (.slice 99 (.pair tI (.pair tI (.pair tI (.slice 3 tI))))) (.pair (.slice 3 tI) (.pair tI (.pair (.slice 4 .bool) (.pair (.slice 3 tI) (.slice 3 tI)))))) tI (.vr 0)))))) (.p1 tI tI (.vr 1))) <|
     .call 0 (.p1 (.pair (.slice 99 (.pair tI (.pair tI (.pair tI (.slice 3 tI))))) (.pair (.slice 3 tI) (.pair tI (.pair (.slice 4 .bool) (.pair (.slice 3 tI) (.slice 3 tI)))))) tI (.vr 0)) <|
     .call 1 (.mk2 tI (.pair tI (.pair tI (.pair tI .bool))) (.p1 tI (.pair (.slice 4 .bool) (.pair (.slice 3 tI) (.slice 3 tI))) (.p2 (.slice 3 tI) (.pair tI (.pair (.slice 4 .bool) (.pair (.slice 3 tI) (.slice 3 tI)))) (.p2 (.slice 99 (.pair tI (.pair tI (.pair tI (.slice 3 tI))))) (.pair (.slice 3 tI) (.pair tI (.pair (.slice 4 .bool) (.pair (.slice 3 tI) (.slice 3 tI))))) (.p1 (.pair (.slice 99 (.pair tI (.pair tI (.pair tI (.slice 3 tI))))) (.pair (.slice 3 tI) (.pair tI (.pair (.slice 4 .bool) (.pair (.slice 3 tI) (.slice 3 tI)))))) tI (.vr 0))))) (.mk2 tI (.pair tI (.pair tI .bool)) (.vr 7) (.mk2 tI (.pair tI .bool) (.p1 tI tI (.vr 1)) (.mk2 tI .bool (.p2 (.pair (.slice 99 (.pair tI (.pair tI (.pair tI (.slice 3 tI))))) (.pair (.slice 3 tI) (.pair tI (.pair (.slice 4 .bool) (.pair (.slice 3 tI) (.slice 3 tI)))))) tI (.vr 0)) (.vr 6))))) <|
     .prim (.llen 157 (.pair tI tI)) (.vr 8) <|
     .prim (.mx .i64) (.mk2 tI tI (.p2 tI tI (.vr 1)) (.vr 9)) <|
     .prim (.ar .add .i64) (.mk2 tI tI (.p1 tI tI (.vr 1)) (.ci .i64 1)) <|
     .again 0 (.mk2 tI tI (.vr 11) (.vr 10))) (
     .ret (.p2 tI tI (.vr 1)))) (
    .ret (.p2 tI tI (.vr 1)))
set_option maxRecDepth 100000 in
theorem e_i_LeastTicks : exFn Try.prog [c_i_StagesOf, c_i_Plan] c_i_LeastTicks false 3000 ⟨[(2991, 1, [.dr 0, .tm 6 0, .tm 5 0])], []⟩ = .ok t_i_LeastTicks := by kernel_rfl
/- loops: (Int) × (Int) -/
theorem v_i_LeastTicks (x : ((List ((Int) × ((Int) × ((Int) × (List (Int)))))) × ((List (Int)) × ((Int) × ((List (Bool)) × ((List (Int)) × (List (Int))))))) × (Int)) (hx : okD (.pair (.pair (.slice 99 (.pair tI (.pair tI (.pair tI (.slice 3 tI))))) (.pair (.slice 3 tI) (.pair tI (.pair (.slice 4 .bool) (.pair (.slice 3 tI) (.slice 3 tI)))))) tI) x) (hp : (fun x => ConfP x.1) x) : t_i_LeastTicks.wp [c_i_StagesOf, c_i_Plan] [⟨(.pair (.pair (.slice 99 (.pair tI (.pair tI (.pair tI (.slice 3 tI))))) (.pair (.slice 3 tI) (.pair tI (.pair (.slice 4 .bool) (.pair (.slice 3 tI) (.slice 3 tI)))))) tI), x⟩] [] (fun v => v.as tI = (fun x => ticksF x.1 x.2) x) := by
  obtain ⟨c, micro⟩ := x
  have hq : ConfP c := hp
  obtain ⟨h1, h2, h3, h4, h5⟩ : ConfP c := hp
  dsimp only [t_i_LeastTicks, c_i_StagesOf, c_i_Plan, T.wp, litTy, litFn, Ar.val, envAt, Prim.cond, Prim.fn, Prim.ity, Prim.oty, List.getElem?_cons_succ, List.getElem?_cons_zero, Option.getD_some, List.cons_append, List.nil_append, inK, arI, cmpI, maxI, minI, negI]; simp only [SV.as_self, true_and, forall_const, okD_bool, le_tI, lt_tI, ne_tI, eq_tI, zero_tI]
  have hst : 0 ≤ stagesF c.1 c.2.1 := by unfold stagesF; split <;> omega
  refine ⟨fun s => ∃ k : Nat, k ≤ c.2.2.2.1.length ∧ (k : Int) ≤ stagesF c.1 c.2.1 ∧ s = ((k : Int), ticksK c micro k), fun s => c.2.2.2.1.length - (s.1 : Int).toNat, ⟨0, by omega, by omega, rfl⟩, fun s _ hI => ?_⟩
  obtain ⟨k, hk, hk2, rfl⟩ := hI
  have hb := ticksK_b c micro k
  have hpl := planF_len c.2.2.1 (stagesF c.1 c.2.1) k micro (c.2.2.2.1.getD k false)
  have hpl2 : (planF c.2.2.1 (stagesF c.1 c.2.1) k micro (c.2.2.2.1.getD k (zeroD .bool))).length ≤ 60 := hpl
  dsimp only
  simp only [Int.toNat_natCast, Bool.not_eq_true', Bool.not_eq_false', Bool.and_eq_true, Bool.and_eq_false_iff, decide_eq_true_eq, decide_eq_false_iff_not, Int.not_lt, Int.not_le, ge_iff_le, gt_iff_lt, List.length_cons, List.length_nil, List.length_append, Nat.zero_add, List.nil_append, beq_iff_eq, beq_eq_false_iff_ne, bne_iff_ne, bne_eq_false_iff_eq, ne_eq, toNat_pred, toNat_succ]
  (repeat' first | intro _ | (with_reducible apply And.intro))
  all_goals first
    | omega
    | exact ⟨h1, h2⟩
    | exact h1
    | exact ⟨k + 1, by omega, by omega, rfl⟩
    | (show ticksK c micro k = ticksF c micro
       unfold ticksF
       congr 1
       omega)
theorem h_i_LeastTicks : Con.Holds Try.prog c_i_LeastTicks := tree_ok mixedP (consAt h_i_StagesOf (consAt h_i_Plan consNil)) e_i_LeastTicks fun x hx hp => v_i_LeastTicks x hx hp

/-! spec.LeastTicks -/

def c_s_LeastTicks : Con := ⟨45, (.pair (.pair (.slice 99 (.pair tI (.pair tI (.pair tI (.slice 3 tI))))) (.pair (.slice 3 tI) (.pair tI (.pair (.slice 4 .bool) (.pair (.slice 3 tI) (.slice 3 tI)))))) tI), tI, [.val ⟨true, (.pair (.slice 99 (.pair tI (.pair tI (.pair tI (.slice 3 tI))))) (.pair (.slice 3 tI) (.pair tI (.pair (.slice 4 .bool) (.pair (.slice 3 tI) (.slice 3 tI)))))), []⟩, .val ⟨false, tI, []⟩], [⟨false, tI, [0]⟩], false,
  ((fun x => ConfP x.1) : (((List ((Int) × ((Int) × ((Int) × (List (Int)))))) × ((List (Int)) × ((Int) × ((List (Bool)) × ((List (Int)) × (List (Int))))))) × (Int)) → Prop),
  ((fun x => ticksF x.1 x.2) : (((List ((Int) × ((Int) × ((Int) × (List (Int)))))) × ((List (Int)) × ((Int) × ((List (Bool)) × ((List (Int)) × (List (Int))))))) × (Int)) → (Int))⟩
def t_s_LeastTicks : T :=
  .loop (.pair tI tI) (.mk2 tI tI (.ci .i64 0) (.ci .i64 0)) <|
   .call 0 (.p1 (.pair (.slice 99 (.pair tI (.pair tI (.pair tI (.slice 3 tI))))) (.pair (.slice 3 tI) (.pair tI (.pair (.slice 4 .bool) (.pair (.slice 3 tI) (.slice 3 tI)))))) tI (.vr 0)) <|
   .prim (.cmp .lss .i64) (.mk2 tI tI (.p1 tI tI (.vr 1)) (.vr 2)) <|
   .ite (.vr 3) (
    .prim (.llen 4 .bool) (.p1 (.slice 4 .bool) (.pair (.slice 3 tI) (.slice 3 tI)) (.p2 tI (.pair (.slice 4 .bool) (.pair (.slice 3 tI) (.slice 3 tI))) (.p2 (.slice 3 tI) (.pair tI (.pair (.slice 4 .bool) (.pair (.slice 3 tI) (.slice 3 tI)))) (.p2 (.slice 99 (.pair tI (.pair tI (.pair tI (.slice 3 tI))))) (.pair (.slice 3 tI) (.pair tI (.pair (.slice 4 .bool) (.pair (.slice 3 tI) (.slice 3 tI))))) (.p1 (.pair (.slice 99 (.pair tI (.pair tI (.pair tI (.slice 3 tI))))) (.pair (.slice 3 tI) (.pair tI (.pair (.slice 4 .bool) (.pair (.slice 3 tI) (.slice 3 tI)))))) tI (.vr 0)))))) <|
    .prim (.cmp .lss .i64) (.mk2 tI tI (.p1 tI tI (.vr 1)) (.vr 4)) <|
    .ite (.vr 5) (
     .prim (.lidx 4 .bool) (.mk2 (.slice 4 .bool) tI (.p1 (.slice 4 .bool) (.pair (.slice 3 tI) (.slice 3 tI)) (.p2 tI (.pair (.slice 4 .bool) (.pair (.slice 3 tI) (.slice 3 tI))) (.p2 (.slice 3 tI) (.pair tI (.pair (.slice 4 .bool) (.pair (.slice 3 tI) (.slice 3 tI)))) (.p2 (.slice 99 (.pair tI (.pair tI (.pair tI (.slice 3 tI))))) (.pair (.slice 3 tI) (.pair tI (.pair (.slice 4 .bool) (.pair (.slice 3 tI) (.slice 3 tI))))) (.p1 (.pair (.slice 99 (.pair tI (.pair tI (.pair tI (.slice 3 tI))))) (.pair (.slice 3 tI) (.pair tI (.pair (.slice 4 .bool) (.pair (.slice 3 tI) (.slice 3 tI)))))) tI (.vr 0)))))) (.p1 tI tI (.vr 1))) <|
     .call 0 (.p1 (.pair (.slice 99 (.pair tI (.pair tI (.pair tI (.slice 3 tI))))) (.pair (.slice 3 tI) (.pair tI (.pair (.slice 4 .bool) (.pair (.slice 3 tI) (.slice 3 tI)))))) tI (.vr 0)) <|
     .call 1 (.mk2 tI (.pair tI (.pair tI (.pair tI .bool))) (.p1 tI (.pair (.slice 4 .bool) (.pair (.slice 3 tI) (.slice 3 tI))) (.p2 (.slice 3 tI) (.pair tI (.pair (.slice 4 .bool) (.pair (.slice 3 tI) (.slice 3 tI)))) (.p2 (.slice 99 (.pair tI (.pair tI (.pair tI (.slice 3 tI))))) (.pair (.slice 3 tI) (.pair tI (.pair (.slice 4 .bool) (.pair (.slice 3 tI) (.slice 3 tI))))) (.p1 (.pair (.slice 99 (.pair tI (.pair tI (.pair tI (.slice 3 tI))))) (.pair (.slice 3 tI) (.pair tI (.pair (.slice 4 .bool) (.pair (.slice 3 tI) (.slice 3 tI)))))) tI (.vr 0))))) (.mk2 tI (.pair tI (.pair tI .bool)) (.vr 7) (.mk2 tI (.pair tI .bool) (.p1 tI tI (.vr 1)) (.mk2 tI .bool (.p2 (.pair (.slice 99 (.pair tI (.pair tI (.pair tI (.slice 3 tI))))) (.pair (.slice 3 tI) (.pair tI (.pair (.slice 4 .bool) (.pair (.slice 3 tI) (.slice 3 tI)))))) tI (.vr 0)) (.vr 6))))) <|
     .prim (.llen 157 (.pair tI tI)) (.vr 8) <|
     .prim (.mx .i64) (.mk2 tI tI (.p2 tI tI (.vr 1)) (.vr 9)) <|
     .prim (.ar .add .i64) (.mk2 tI tI (.p1 tI tI (.vr 1)) (.ci .i64 1)) <|
     .again 0 (.mk2 tI tI (.vr 11) (.vr 10))) (
     .ret (.p2 tI tI (.vr 1)))) (
    .ret (.p2 tI tI (.vr 1)))
set_option maxRecDepth 100000 in
theorem e_s_LeastTicks : exFn Try.prog [c_s_StagesOf, c_s_Plan] c_s_LeastTicks false 3000 ⟨[(2991, 1, [.dr 0, .tm 6 0, .tm 5 0])], []⟩ = .ok t_s_LeastTicks := by kernel_rfl
/- loops: (Int) × (Int) -/
theorem v_s_LeastTicks (x : ((List ((Int) × ((Int) × ((Int) × (List (Int)))))) × ((List (Int)) × ((Int) × ((List (Bool)) × ((List (Int)) × (List (Int))))))) × (Int)) (hx : okD (.pair (.pair (.slice 99 (.pair tI (.pair tI (.pair tI (.slice 3 tI))))) (.pair (.slice 3 tI) (.pair tI (.pair (.slice 4 .bool) (.pair (.slice 3 tI) (.slice 3 tI)))))) tI) x) (hp : (fun x => ConfP x.1) x) : t_s_LeastTicks.wp [c_s_StagesOf, c_s_Plan] [⟨(.pair (.pair (.slice 99 (.pair tI (.pair tI (.pair tI (.slice 3 tI))))) (.pair (.slice 3 tI) (.pair tI (.pair (.slice 4 .bool) (.pair (.slice 3 tI) (.slice 3 tI)))))) tI), x⟩] [] (fun v => v.as tI = (fun x => ticksF x.1 x.2) x) := by
  obtain ⟨c, micro⟩ := x
  have hq : ConfP c := hp
  obtain ⟨h1, h2, h3, h4, h5⟩ : ConfP c := hp
  dsimp only [t_s_LeastTicks, c_s_StagesOf, c_s_Plan, T.wp, litTy, litFn, Ar.val, envAt, Prim.cond, Prim.fn, Prim.ity, Prim.oty, List.getElem?_cons_succ, List.getElem?_cons_zero, Option.getD_some, List.cons_append, List.nil_append, inK, arI, cmpI, maxI, minI, negI]; simp only [SV.as_self, true_and, forall_const, okD_bool, le_tI, lt_tI, ne_tI, eq_tI, zero_tI]
  have hst : 0 ≤ stagesF c.1 c.2.1 := by unfold stagesF; split <;> omega
  refine ⟨fun s => ∃ k : Nat, k ≤ c.2.2.2.1.length ∧ (k : Int) ≤ stagesF c.1 c.2.1 ∧ s = ((k : Int), ticksK c micro k), fun s => c.2.2.2.1.length - (s.1 : Int).toNat, ⟨0, by omega, by omega, rfl⟩, fun s _ hI => ?_⟩
  obtain ⟨k, hk, hk2, rfl⟩ := hI
  have hb := ticksK_b c micro k
  have hpl := planF_len c.2.2.1 (stagesF c.1 c.2.1) k micro (c.2.2.2.1.getD k false)
  have hpl2 : (planF c.2.2.1 (stagesF c.1 c.2.1) k micro (c.2.2.2.1.getD k (zeroD .bool))).length ≤ 60 := hpl
  dsimp only
  simp only [Int.toNat_natCast, Bool.not_eq_true', Bool.not_eq_false', Bool.and_eq_true, Bool.and_eq_false_iff, decide_eq_true_eq, decide_eq_false_iff_not, Int.not_lt, Int.not_le, ge_iff_le, gt_iff_lt, List.length_cons, List.length_nil, List.length_append, Nat.zero_add, List.nil_append, beq_iff_eq, beq_eq_false_iff_ne, bne_iff_ne, bne_eq_false_iff_eq, ne_eq, toNat_pred, toNat_succ]
  (repeat' first | intro _ | (with_reducible apply And.intro))
  all_goals first
    | omega
    | exact ⟨h1, h2⟩
    | exact h1
    | exact ⟨k + 1, by omega, by omega, rfl⟩
    | (show ticksK c micro k = ticksF c micro
       unfold ticksF
       congr 1
       omega)
theorem h_s_LeastTicks : Con.Holds Try.prog c_s_LeastTicks := tree_ok mixedP (consAt h_s_StagesOf (consAt h_s_Plan consNil)) e_s_LeastTicks fun x hx hp => v_s_LeastTicks x hx hp
end Go.Proofs.Ytnijnjclmlfahaa
