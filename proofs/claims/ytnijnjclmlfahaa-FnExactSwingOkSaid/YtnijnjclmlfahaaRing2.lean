/- Ring2: trees, and what they say. -/
import Derived.Test.YtnijnjclmlfahaaGr2
namespace Go.Proofs.Ytnijnjclmlfahaa
open Go.ChangeShapes Go.WideShapes Go.ChangeAt Go.RowKit Go.Deep
set_option linter.unusedVariables false
set_option linter.unusedSimpArgs false
abbrev RingD := List GradsD × Int
def RingB (r : RingD) : Prop := r.1.length ≤ 1000000000 ∧ ∀ g ∈ r.1, GradsB g
def ringStep (r : RingD) : RingD :=
  if r.2 < 0 ∨ 2 * (r.1.length : Int) - 3 < r.2 then r
  else if r.2 < (r.1.length : Int) - 1 then (r.1.set (r.2 + 1).toNat (addGrads (r.1.getD r.2.toNat ([], 0, false)) (r.1.getD (r.2 + 1).toNat ([], 0, false))), r.2 + 1)
  else (r.1.set (r.2 - ((r.1.length : Int) - 1)).toNat (r.1.getD ((r.1.length : Int) - 1).toNat ([], 0, false)), r.2 + 1)
theorem getD_ok {α : Type} {Q : α → Prop} {l : List α} (h : ∀ g ∈ l, Q g) {i : Nat} (hi : i < l.length) {d : α} : Q (l.getD i d) := by rw [getD_at hi]; exact h _ (List.getElem_mem hi)

/-! impl.RingStep -/

def c_i_RingStep : Con := ⟨43, (.pair (.slice 36 (.pair (.slice 111 (.slice 3 tI)) (.pair tI .bool))) tI), (.pair (.slice 36 (.pair (.slice 111 (.slice 3 tI)) (.pair tI .bool))) tI), [.val ⟨true, (.pair (.slice 36 (.pair (.slice 111 (.slice 3 tI)) (.pair tI .bool))) tI), []⟩], [⟨true, (.pair (.slice 36 (.pair (.slice 111 (.slice 3 tI)) (.pair tI .bool))) tI), [2, 0]⟩], false,
  ((fun x => RingB x) : ((List ((List (List (Int))) × ((Int) × (Bool)))) × (Int)) → Prop),
  ((fun x => ringStep x) : ((List ((List (List (Int))) × ((Int) × (Bool)))) × (Int)) → ((List ((List (List (Int))) × ((Int) × (Bool)))) × (Int)))⟩
def t_i_RingStep : T :=
  .prim (.llen 36 (.pair (.slice 111 (.slice 3 tI)) (.pair tI .bool))) (.p1 (.slice 36 (.pair (.slice 111 (.slice 3 tI)) (.pair tI .bool))) tI (.vr 0)) <|
  .loop (.pair tI (.slice 36 (.pair (.slice 111 (.slice 3 tI)) (.pair tI .bool)))) (.mk2 tI (.slice 36 (.pair (.slice 111 (.slice 3 tI)) (.pair tI .bool))) (.ci .i64 0) (.nl 36 (.pair (.slice 111 (.slice 3 tI)) (.pair tI .bool)))) <|
   .prim (.cmp .lss .i64) (.mk2 tI tI (.p1 tI (.slice 36 (.pair (.slice 111 (.slice 3 tI)) (.pair tI .bool))) (.vr 2)) (.vr 1)) <|
   .ite (.vr 3) (
    .prim (.lidx 36 (.pair (.slice 111 (.slice 3 tI)) (.pair tI .bool))) (.mk2 (.slice 36 (.pair (.slice 111 (.slice 3 tI)) (.pair tI .bool))) tI (.p1 (.slice 36 (.pair (.slice 111 (.slice 3 tI)) (.pair tI .bool))) tI (.vr 0)) (.p1 tI (.slice 36 (.pair (.slice 111 (.slice 3 tI)) (.pair tI .bool))) (.vr 2))) <|
    .call 0 (.vr 4) <|
    .prim (.lit 36 (.pair (.slice 111 (.slice 3 tI)) (.pair tI .bool)) 1) (.vr 5) <|
    .prim (.lapp 36 (.pair (.slice 111 (.slice 3 tI)) (.pair tI .bool)) 40) (.mk2 (.slice 36 (.pair (.slice 111 (.slice 3 tI)) (.pair tI .bool))) (.slice 36 (.pair (.slice 111 (.slice 3 tI)) (.pair tI .bool))) (.p2 tI (.slice 36 (.pair (.slice 111 (.slice 3 tI)) (.pair tI .bool))) (.vr 2)) (.vr 6)) <|
    .prim (.ar .add .i64) (.mk2 tI tI (.p1 tI (.slice 36 (.pair (.slice 111 (.slice 3 tI)) (.pair tI .bool))) (.vr 2)) (.ci .i64 1)) <|
    .again 0 (.mk2 tI (.slice 36 (.pair (.slice 111 (.slice 3 tI)) (.pair tI .bool))) (.vr 8) (.vr 7))) (
    .prim (.llen 36 (.pair (.slice 111 (.slice 3 tI)) (.pair tI .bool))) (.p1 (.slice 36 (.pair (.slice 111 (.slice 3 tI)) (.pair tI .bool))) tI (.vr 0)) <|
    .prim (.cmp .lss .i64) (.mk2 tI tI (.p2 (.slice 36 (.pair (.slice 111 (.slice 3 tI)) (.pair tI .bool))) tI (.vr 0)) (.ci .i64 0)) <|
    .ite (.vr 5) (
     .ret (.mk2 (.slice 36 (.pair (.slice 111 (.slice 3 tI)) (.pair tI .bool))) tI (.p2 tI (.slice 36 (.pair (.slice 111 (.slice 3 tI)) (.pair tI .bool))) (.vr 2)) (.p2 (.slice 36 (.pair (.slice 111 (.slice 3 tI)) (.pair tI .bool))) tI (.vr 0)))) (
     .prim (.ar .mul .i64) (.mk2 tI tI (.ci .i64 2) (.vr 4)) <|
     .prim (.ar .sub .i64) (.mk2 tI tI (.vr 6) (.ci .i64 3)) <|
     .prim (.cmp .gtr .i64) (.mk2 tI tI (.p2 (.slice 36 (.pair (.slice 111 (.slice 3 tI)) (.pair tI .bool))) tI (.vr 0)) (.vr 7)) <|
     .ite (.vr 8) (
      .ret (.mk2 (.slice 36 (.pair (.slice 111 (.slice 3 tI)) (.pair tI .bool))) tI (.p2 tI (.slice 36 (.pair (.slice 111 (.slice 3 tI)) (.pair tI .bool))) (.vr 2)) (.p2 (.slice 36 (.pair (.slice 111 (.slice 3 tI)) (.pair tI .bool))) tI (.vr 0)))) (
      .prim (.ar .sub .i64) (.mk2 tI tI (.vr 4) (.ci .i64 2)) <|
      .prim (.cmp .leq .i64) (.mk2 tI tI (.p2 (.slice 36 (.pair (.slice 111 (.slice 3 tI)) (.pair tI .bool))) tI (.vr 0)) (.vr 9)) <|
      .ite (.vr 10) (
       .prim (.ar .add .i64) (.mk2 tI tI (.p2 (.slice 36 (.pair (.slice 111 (.slice 3 tI)) (.pair tI .bool))) tI (.vr 0)) (.ci .i64 1)) <|
       .prim (.ar .add .i64) (.mk2 tI tI (.p2 (.slice 36 (.pair (.slice 111 (.slice 3 tI)) (.pair tI .bool))) tI (.vr 0)) (.ci .i64 1)) <|
       .prim (.lidx 36 (.pair (.slice 111 (.slice 3 tI)) (.pair tI .bool))) (.mk2 (.slice 36 (.pair (.slice 111 (.slice 3 tI)) (.pair tI .bool))) tI (.p1 (.slice 36 (.pair (.slice 111 (.slice 3 tI)) (.pair tI .bool))) tI (.vr 0)) (.p2 (.slice 36 (.pair (.slice 111 (.slice 3 tI)) (.pair tI .bool))) tI (.vr 0))) <|
       .prim (.lidx 36 (.pair (.slice 111 (.slice 3 tI)) (.pair tI .bool))) (.mk2 (.slice 36 (.pair (.slice 111 (.slice 3 tI)) (.pair tI .bool))) tI (.p1 (.slice 36 (.pair (.slice 111 (.slice 3 tI)) (.pair tI .bool))) tI (.vr 0)) (.vr 12)) <|
       .call 1 (.mk2 (.pair (.slice 111 (.slice 3 tI)) (.pair tI .bool)) (.pair (.slice 111 (.slice 3 tI)) (.pair tI .bool)) (.vr 13) (.vr 14)) <|
       .prim (.lidx 36 (.pair (.slice 111 (.slice 3 tI)) (.pair tI .bool))) (.mk2 (.slice 36 (.pair (.slice 111 (.slice 3 tI)) (.pair tI .bool))) tI (.p2 tI (.slice 36 (.pair (.slice 111 (.slice 3 tI)) (.pair tI .bool))) (.vr 2)) (.vr 11)) <|
       .prim (.lset 36 (.pair (.slice 111 (.slice 3 tI)) (.pair tI .bool))) (.mk2 (.slice 36 (.pair (.slice 111 (.slice 3 tI)) (.pair tI .bool))) (.pair tI (.pair (.slice 111 (.slice 3 tI)) (.pair tI .bool))) (.p2 tI (.slice 36 (.pair (.slice 111 (.slice 3 tI)) (.pair tI .bool))) (.vr 2)) (.mk2 tI (.pair (.slice 111 (.slice 3 tI)) (.pair tI .bool)) (.vr 11) (.vr 15))) <|
       .prim (.ar .add .i64) (.mk2 tI tI (.p2 (.slice 36 (.pair (.slice 111 (.slice 3 tI)) (.pair tI .bool))) tI (.vr 0)) (.ci .i64 1)) <|
       .ret (.mk2 (.slice 36 (.pair (.slice 111 (.slice 3 tI)) (.pair tI .bool))) tI (.vr 17) (.vr 18))) (
       .prim (.ar .sub .i64) (.mk2 tI tI (.vr 4) (.ci .i64 1)) <|
       .prim (.ar .sub .i64) (.mk2 tI tI (.p2 (.slice 36 (.pair (.slice 111 (.slice 3 tI)) (.pair tI .bool))) tI (.vr 0)) (.vr 11)) <|
       .prim (.ar .sub .i64) (.mk2 tI tI (.vr 4) (.ci .i64 1)) <|
       .prim (.lidx 36 (.pair (.slice 111 (.slice 3 tI)) (.pair tI .bool))) (.mk2 (.slice 36 (.pair (.slice 111 (.slice 3 tI)) (.pair tI .bool))) tI (.p1 (.slice 36 (.pair (.slice 111 (.slice 3 tI)) (.pair tI .bool))) tI (.vr 0)) (.vr 13)) <|
       .call 0 (.vr 14) <|
       .prim (.lidx 36 (.pair (.slice 111 (.slice 3 tI)) (.pair tI .bool))) (.mk2 (.slice 36 (.pair (.slice 111 (.slice 3 tI)) (.pair tI .bool))) tI (.p2 tI (.slice 36 (.pair (.slice 111 (.slice 3 tI)) (.pair tI .bool))) (.vr 2)) (.vr 12)) <|
       .prim (.lset 36 (.pair (.slice 111 (.slice 3 tI)) (.pair tI .bool))) (.mk2 (.slice 36 (.pair (.slice 111 (.slice 3 tI)) (.pair tI .bool))) (.pair tI (.pair (.slice 111 (.slice 3 tI)) (.pair tI .bool))) (.p2 tI (.slice 36 (.pair (.slice 111 (.slice 3 tI)) (.pair tI .bool))) (.vr 2)) (.mk2 tI (.pair (.slice 111 (.slice 3 tI)) (.pair tI .bool)) (.vr 12) (.vr 15))) <|
       .prim (.ar .add .i64) (.mk2 tI tI (.p2 (.slice 36 (.pair (.slice 111 (.slice 3 tI)) (.pair tI .bool))) tI (.vr 0)) (.ci .i64 1)) <|
       .ret (.mk2 (.slice 36 (.pair (.slice 111 (.slice 3 tI)) (.pair tI .bool))) tI (.vr 17) (.vr 18))))))
set_option maxRecDepth 100000 in
theorem e_i_RingStep : exFn Try.prog [c_i_copyGrads, c_i_AddGrads] c_i_RingStep false 3000 ⟨[(2991, 2, [.dr 11, .dr 10, .dr 9, .dr 8, .dr 0, .tm 14 0, .sl 6])], [(2981, 5, [21], []), (2972, 11, [60], []), (2972, 11, [74], [])]⟩ = .ok t_i_RingStep := by kernel_rfl
/- loops: (Int) × (List ((List (List (Int))) × ((Int) × (Bool)))) -/
theorem v_i_RingStep (x : (List ((List (List (Int))) × ((Int) × (Bool)))) × (Int)) (hx : okD (.pair (.slice 36 (.pair (.slice 111 (.slice 3 tI)) (.pair tI .bool))) tI) x) (hp : (fun x => RingB x) x) : t_i_RingStep.wp [c_i_copyGrads, c_i_AddGrads] [⟨(.pair (.slice 36 (.pair (.slice 111 (.slice 3 tI)) (.pair tI .bool))) tI), x⟩] [] (fun v => v.as (.pair (.slice 36 (.pair (.slice 111 (.slice 3 tI)) (.pair tI .bool))) tI) = (fun x => ringStep x) x) := by
  obtain ⟨l, st⟩ := x
  obtain ⟨hl, hg⟩ : RingB (l, st) := hp
  dsimp only at hl hg
  have hst : -9223372036854775808 ≤ st ∧ st ≤ 9223372036854775807 := hx.2
  dsimp only [t_i_RingStep, c_i_copyGrads, c_i_AddGrads, T.wp, litTy, litFn, Ar.val, envAt, Prim.cond, Prim.fn, Prim.ity, Prim.oty, List.getElem?_cons_succ, List.getElem?_cons_zero, Option.getD_some, List.cons_append, List.nil_append, inK, arI, cmpI, maxI, minI, negI]; simp only [SV.as_self, true_and, forall_const, okD_bool, le_tI, lt_tI, ne_tI, eq_tI, zero_tI]
  intro _
  refine ⟨fun s => ∃ k : Nat, k ≤ l.length ∧ s = ((k : Int), l.take k), fun s => l.length - (s.1 : Int).toNat, ⟨0, by omega, by simp⟩, fun s _ hI => ?_⟩
  obtain ⟨k, hk, rfl⟩ := hI
  dsimp only
  simp only [Int.toNat_natCast, Bool.not_eq_true', Bool.not_eq_false', Bool.and_eq_true, Bool.and_eq_false_iff, decide_eq_true_eq, decide_eq_false_iff_not, Int.not_lt, Int.not_le, ge_iff_le, gt_iff_lt, List.length_cons, List.length_nil, List.length_append, Nat.zero_add, List.nil_append, beq_iff_eq, beq_eq_false_iff_ne, bne_iff_ne, bne_eq_false_iff_eq, ne_eq, toNat_pred, toNat_succ]
  constructor
  · intro hlt
    have hk' : k < l.length := by omega
    rw [getD_at hk']
    have hm := hg _ (List.getElem_mem hk')
    have hl2 : (l.take k).length = k := List.length_take_of_le hk
    (repeat' first | intro _ | (with_reducible apply And.intro))
    all_goals first | omega | (unfold maxLen; omega) | exact hm | (exact ⟨k + 1, by omega, by rw [take_at hk']; rfl⟩)
  · intro hge
    have : k = l.length := by omega
    subst this
    rw [List.take_length]
    (repeat' first | intro _ | (with_reducible apply And.intro))
    all_goals first | omega | (unfold maxLen; omega) | (exact getD_ok hg (by omega)) | skip
    all_goals unfold ringStep
    all_goals dsimp only
    · rw [if_pos (by omega)]
    · rw [if_pos (by omega)]
    · rw [if_neg (by omega), if_pos (by omega)]; rfl
    · rw [if_neg (by omega), if_neg (by omega), toNat_pred]; rfl
theorem h_i_RingStep : Con.Holds Try.prog c_i_RingStep := tree_ok mixedP (consAt h_i_copyGrads (consAt h_i_AddGrads consNil)) e_i_RingStep fun x hx hp => v_i_RingStep x hx hp

/-! spec.RingStep -/

def c_s_RingStep : Con := ⟨41, (.pair (.slice 36 (.pair (.slice 111 (.slice 3 tI)) (.pair tI .bool))) tI), (.pair (.slice 36 (.pair (.slice 111 (.slice 3 tI)) (.pair tI .bool))) tI), [.val ⟨true, (.pair (.slice 36 (.pair (.slice 111 (.slice 3 tI)) (.pair tI .bool))) tI), []⟩], [⟨true, (.pair (.slice 36 (.pair (.slice 111 (.slice 3 tI)) (.pair tI .bool))) tI), [2, 0]⟩], false,
  ((fun x => RingB x) : ((List ((List (List (Int))) × ((Int) × (Bool)))) × (Int)) → Prop),
  ((fun x => ringStep x) : ((List ((List (List (Int))) × ((Int) × (Bool)))) × (Int)) → ((List ((List (List (Int))) × ((Int) × (Bool)))) × (Int)))⟩
def t_s_RingStep : T :=
  .loop (.pair tI (.slice 36 (.pair (.slice 111 (.slice 3 tI)) (.pair tI .bool)))) (.mk2 tI (.slice 36 (.pair (.slice 111 (.slice 3 tI)) (.pair tI .bool))) (.ci .i64 0) (.nl 36 (.pair (.slice 111 (.slice 3 tI)) (.pair tI .bool)))) <|
   .prim (.llen 36 (.pair (.slice 111 (.slice 3 tI)) (.pair tI .bool))) (.p1 (.slice 36 (.pair (.slice 111 (.slice 3 tI)) (.pair tI .bool))) tI (.vr 0)) <|
   .prim (.cmp .lss .i64) (.mk2 tI tI (.p1 tI (.slice 36 (.pair (.slice 111 (.slice 3 tI)) (.pair tI .bool))) (.vr 1)) (.vr 2)) <|
   .ite (.vr 3) (
    .prim (.lidx 36 (.pair (.slice 111 (.slice 3 tI)) (.pair tI .bool))) (.mk2 (.slice 36 (.pair (.slice 111 (.slice 3 tI)) (.pair tI .bool))) tI (.p1 (.slice 36 (.pair (.slice 111 (.slice 3 tI)) (.pair tI .bool))) tI (.vr 0)) (.p1 tI (.slice 36 (.pair (.slice 111 (.slice 3 tI)) (.pair tI .bool))) (.vr 1))) <|
    .call 0 (.vr 4) <|
    .prim (.lit 36 (.pair (.slice 111 (.slice 3 tI)) (.pair tI .bool)) 1) (.vr 5) <|
    .prim (.lapp 36 (.pair (.slice 111 (.slice 3 tI)) (.pair tI .bool)) 40) (.mk2 (.slice 36 (.pair (.slice 111 (.slice 3 tI)) (.pair tI .bool))) (.slice 36 (.pair (.slice 111 (.slice 3 tI)) (.pair tI .bool))) (.p2 tI (.slice 36 (.pair (.slice 111 (.slice 3 tI)) (.pair tI .bool))) (.vr 1)) (.vr 6)) <|
    .prim (.ar .add .i64) (.mk2 tI tI (.p1 tI (.slice 36 (.pair (.slice 111 (.slice 3 tI)) (.pair tI .bool))) (.vr 1)) (.ci .i64 1)) <|
    .again 0 (.mk2 tI (.slice 36 (.pair (.slice 111 (.slice 3 tI)) (.pair tI .bool))) (.vr 8) (.vr 7))) (
    .prim (.llen 36 (.pair (.slice 111 (.slice 3 tI)) (.pair tI .bool))) (.p2 tI (.slice 36 (.pair (.slice 111 (.slice 3 tI)) (.pair tI .bool))) (.vr 1)) <|
    .prim (.ar .mul .i64) (.mk2 tI tI (.ci .i64 2) (.vr 4)) <|
    .prim (.ar .sub .i64) (.mk2 tI tI (.vr 5) (.ci .i64 3)) <|
    .call 1 (.mk2 tI (.pair tI tI) (.p2 (.slice 36 (.pair (.slice 111 (.slice 3 tI)) (.pair tI .bool))) tI (.vr 0)) (.mk2 tI tI (.ci .i64 0) (.vr 6))) <|
    .prim .not (.vr 7) <|
    .ite (.vr 8) (
     .ret (.mk2 (.slice 36 (.pair (.slice 111 (.slice 3 tI)) (.pair tI .bool))) tI (.p2 tI (.slice 36 (.pair (.slice 111 (.slice 3 tI)) (.pair tI .bool))) (.vr 1)) (.p2 (.slice 36 (.pair (.slice 111 (.slice 3 tI)) (.pair tI .bool))) tI (.vr 0)))) (
     .prim (.ar .add .i64) (.mk2 tI tI (.p2 (.slice 36 (.pair (.slice 111 (.slice 3 tI)) (.pair tI .bool))) tI (.vr 0)) (.ci .i64 1)) <|
     .prim (.ar .sub .i64) (.mk2 tI tI (.vr 4) (.ci .i64 1)) <|
     .prim (.cmp .lss .i64) (.mk2 tI tI (.p2 (.slice 36 (.pair (.slice 111 (.slice 3 tI)) (.pair tI .bool))) tI (.vr 0)) (.vr 10)) <|
     .ite (.vr 11) (
      .prim (.ar .add .i64) (.mk2 tI tI (.p2 (.slice 36 (.pair (.slice 111 (.slice 3 tI)) (.pair tI .bool))) tI (.vr 0)) (.ci .i64 1)) <|
      .prim (.lidx 36 (.pair (.slice 111 (.slice 3 tI)) (.pair tI .bool))) (.mk2 (.slice 36 (.pair (.slice 111 (.slice 3 tI)) (.pair tI .bool))) tI (.p2 tI (.slice 36 (.pair (.slice 111 (.slice 3 tI)) (.pair tI .bool))) (.vr 1)) (.p2 (.slice 36 (.pair (.slice 111 (.slice 3 tI)) (.pair tI .bool))) tI (.vr 0))) <|
      .prim (.lidx 36 (.pair (.slice 111 (.slice 3 tI)) (.pair tI .bool))) (.mk2 (.slice 36 (.pair (.slice 111 (.slice 3 tI)) (.pair tI .bool))) tI (.p2 tI (.slice 36 (.pair (.slice 111 (.slice 3 tI)) (.pair tI .bool))) (.vr 1)) (.p2 (.slice 36 (.pair (.slice 111 (.slice 3 tI)) (.pair tI .bool))) tI (.vr 0))) <|
      .prim (.ar .add .i64) (.mk2 tI tI (.p2 (.slice 36 (.pair (.slice 111 (.slice 3 tI)) (.pair tI .bool))) tI (.vr 0)) (.ci .i64 1)) <|
      .prim (.lidx 36 (.pair (.slice 111 (.slice 3 tI)) (.pair tI .bool))) (.mk2 (.slice 36 (.pair (.slice 111 (.slice 3 tI)) (.pair tI .bool))) tI (.p2 tI (.slice 36 (.pair (.slice 111 (.slice 3 tI)) (.pair tI .bool))) (.vr 1)) (.vr 15)) <|
      .prim (.lidx 36 (.pair (.slice 111 (.slice 3 tI)) (.pair tI .bool))) (.mk2 (.slice 36 (.pair (.slice 111 (.slice 3 tI)) (.pair tI .bool))) tI (.p2 tI (.slice 36 (.pair (.slice 111 (.slice 3 tI)) (.pair tI .bool))) (.vr 1)) (.vr 15)) <|
      .call 2 (.mk2 (.pair (.slice 111 (.slice 3 tI)) (.pair tI .bool)) (.pair (.slice 111 (.slice 3 tI)) (.pair tI .bool)) (.vr 14) (.vr 17)) <|
      .prim (.lidx 36 (.pair (.slice 111 (.slice 3 tI)) (.pair tI .bool))) (.mk2 (.slice 36 (.pair (.slice 111 (.slice 3 tI)) (.pair tI .bool))) tI (.p2 tI (.slice 36 (.pair (.slice 111 (.slice 3 tI)) (.pair tI .bool))) (.vr 1)) (.vr 12)) <|
      .prim (.lset 36 (.pair (.slice 111 (.slice 3 tI)) (.pair tI .bool))) (.mk2 (.slice 36 (.pair (.slice 111 (.slice 3 tI)) (.pair tI .bool))) (.pair tI (.pair (.slice 111 (.slice 3 tI)) (.pair tI .bool))) (.p2 tI (.slice 36 (.pair (.slice 111 (.slice 3 tI)) (.pair tI .bool))) (.vr 1)) (.mk2 tI (.pair (.slice 111 (.slice 3 tI)) (.pair tI .bool)) (.vr 12) (.vr 18))) <|
      .ret (.mk2 (.slice 36 (.pair (.slice 111 (.slice 3 tI)) (.pair tI .bool))) tI (.vr 20) (.vr 9))) (
      .prim (.ar .sub .i64) (.mk2 tI tI (.vr 4) (.ci .i64 1)) <|
      .prim (.ar .sub .i64) (.mk2 tI tI (.p2 (.slice 36 (.pair (.slice 111 (.slice 3 tI)) (.pair tI .bool))) tI (.vr 0)) (.vr 12)) <|
      .prim (.ar .sub .i64) (.mk2 tI tI (.vr 4) (.ci .i64 1)) <|
      .prim (.lidx 36 (.pair (.slice 111 (.slice 3 tI)) (.pair tI .bool))) (.mk2 (.slice 36 (.pair (.slice 111 (.slice 3 tI)) (.pair tI .bool))) tI (.p2 tI (.slice 36 (.pair (.slice 111 (.slice 3 tI)) (.pair tI .bool))) (.vr 1)) (.vr 14)) <|
      .prim (.lidx 36 (.pair (.slice 111 (.slice 3 tI)) (.pair tI .bool))) (.mk2 (.slice 36 (.pair (.slice 111 (.slice 3 tI)) (.pair tI .bool))) tI (.p2 tI (.slice 36 (.pair (.slice 111 (.slice 3 tI)) (.pair tI .bool))) (.vr 1)) (.vr 14)) <|
      .call 0 (.vr 16) <|
      .prim (.lidx 36 (.pair (.slice 111 (.slice 3 tI)) (.pair tI .bool))) (.mk2 (.slice 36 (.pair (.slice 111 (.slice 3 tI)) (.pair tI .bool))) tI (.p2 tI (.slice 36 (.pair (.slice 111 (.slice 3 tI)) (.pair tI .bool))) (.vr 1)) (.vr 13)) <|
      .prim (.lset 36 (.pair (.slice 111 (.slice 3 tI)) (.pair tI .bool))) (.mk2 (.slice 36 (.pair (.slice 111 (.slice 3 tI)) (.pair tI .bool))) (.pair tI (.pair (.slice 111 (.slice 3 tI)) (.pair tI .bool))) (.p2 tI (.slice 36 (.pair (.slice 111 (.slice 3 tI)) (.pair tI .bool))) (.vr 1)) (.mk2 tI (.pair (.slice 111 (.slice 3 tI)) (.pair tI .bool)) (.vr 13) (.vr 17))) <|
      .ret (.mk2 (.slice 36 (.pair (.slice 111 (.slice 3 tI)) (.pair tI .bool))) tI (.vr 19) (.vr 9)))))
set_option maxRecDepth 100000 in
theorem e_s_RingStep : exFn Try.prog [c_s_l7Same, c_s_l1In, c_s_AddGrads] c_s_RingStep false 3000 ⟨[(2991, 1, [.dr 9, .dr 8, .dr 7, .dr 0, .tm 4 0, .sl 6])], [(2983, 4, [24], []), (2971, 12, [66], []), (2968, 14, [83], [])]⟩ = .ok t_s_RingStep := by kernel_rfl
/- loops: (Int) × (List ((List (List (Int))) × ((Int) × (Bool)))) -/
theorem v_s_RingStep (x : (List ((List (List (Int))) × ((Int) × (Bool)))) × (Int)) (hx : okD (.pair (.slice 36 (.pair (.slice 111 (.slice 3 tI)) (.pair tI .bool))) tI) x) (hp : (fun x => RingB x) x) : t_s_RingStep.wp [c_s_l7Same, c_s_l1In, c_s_AddGrads] [⟨(.pair (.slice 36 (.pair (.slice 111 (.slice 3 tI)) (.pair tI .bool))) tI), x⟩] [] (fun v => v.as (.pair (.slice 36 (.pair (.slice 111 (.slice 3 tI)) (.pair tI .bool))) tI) = (fun x => ringStep x) x) := by
  obtain ⟨l, st⟩ := x
  obtain ⟨hl, hg⟩ : RingB (l, st) := hp
  dsimp only at hl hg
  have hst : -9223372036854775808 ≤ st ∧ st ≤ 9223372036854775807 := hx.2
  dsimp only [t_s_RingStep, c_s_l7Same, c_s_l1In, c_s_AddGrads, T.wp, litTy, litFn, Ar.val, envAt, Prim.cond, Prim.fn, Prim.ity, Prim.oty, List.getElem?_cons_succ, List.getElem?_cons_zero, Option.getD_some, List.cons_append, List.nil_append, inK, arI, cmpI, maxI, minI, negI]; simp only [SV.as_self, true_and, forall_const, okD_bool, le_tI, lt_tI, ne_tI, eq_tI, zero_tI]
  refine ⟨fun s => ∃ k : Nat, k ≤ l.length ∧ s = ((k : Int), l.take k), fun s => l.length - (s.1 : Int).toNat, ⟨0, by omega, by simp⟩, fun s _ hI => ?_⟩
  obtain ⟨k, hk, rfl⟩ := hI
  dsimp only
  simp only [Int.toNat_natCast, Bool.not_eq_true', Bool.not_eq_false', Bool.and_eq_true, Bool.and_eq_false_iff, decide_eq_true_eq, decide_eq_false_iff_not, Int.not_lt, Int.not_le, ge_iff_le, gt_iff_lt, List.length_cons, List.length_nil, List.length_append, Nat.zero_add, List.nil_append, beq_iff_eq, beq_eq_false_iff_ne, bne_iff_ne, bne_eq_false_iff_eq, ne_eq, toNat_pred, toNat_succ]
  intro _
  constructor
  · intro hlt
    have hk' : k < l.length := by omega
    rw [getD_at hk']
    have hm := hg _ (List.getElem_mem hk')
    have hl2 : (l.take k).length = k := List.length_take_of_le hk
    (repeat' first | intro _ | (with_reducible apply And.intro))
    all_goals first | omega | (unfold maxLen; omega) | exact hm | (exact ⟨k + 1, by omega, by rw [take_at hk']; rfl⟩)
  · intro hge
    have : k = l.length := by omega
    subst this
    rw [List.take_length]
    (repeat' first | intro _ | (with_reducible apply And.intro))
    all_goals first | omega | (unfold maxLen; omega) | (exact getD_ok hg (by omega)) | skip
    all_goals unfold ringStep
    all_goals dsimp only
    · rw [if_pos (by omega)]
    · rw [if_neg (by omega), if_pos (by omega)]; rfl
    · rw [if_neg (by omega), if_neg (by omega), toNat_pred]; rfl
theorem h_s_RingStep : Con.Holds Try.prog c_s_RingStep := tree_ok mixedP (consAt h_s_l7Same (consAt h_s_l1In (consAt h_s_AddGrads consNil))) e_s_RingStep fun x hx hp => v_s_RingStep x hx hp
end Go.Proofs.Ytnijnjclmlfahaa
