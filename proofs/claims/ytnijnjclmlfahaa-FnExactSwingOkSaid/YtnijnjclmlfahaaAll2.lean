/- All2: trees, and what they say. -/
import Derived.Test.YtnijnjclmlfahaaRing2
namespace Go.Proofs.Ytnijnjclmlfahaa
open Go.ChangeShapes Go.WideShapes Go.ChangeAt Go.RowKit Go.Deep
set_option linter.unusedVariables false
set_option linter.unusedSimpArgs false
def zGrads : GradsD := ([], 0, false)
theorem addGrads_B {a b : GradsD} (h : GradsB a) : GradsB (addGrads a b) := by
  obtain ⟨h1, h2⟩ := h
  refine ⟨?_, fun r hr => ?_⟩
  · show (addRows a.1 b.1).length ≤ _
    rw [addRows_len]; omega
  · obtain ⟨k, hk, rfl⟩ := List.mem_iff_getElem.1 hr
    have hk' : k < (addRows a.1 b.1).length := hk
    rw [addRows_len] at hk'
    have e : (addRows a.1 b.1)[k]'hk = zipV (a.1[k]'(by omega)) (b.1[k]'(by omega)) := List.getElem_zipWith ..
    have h3 := h2 _ (List.getElem_mem (show k < a.1.length by omega))
    show ((addRows a.1 b.1)[k]'hk).length ≤ _
    rw [e, zipV_len]; omega
def sumK (l : List GradsD) (k : Nat) : GradsD := ((l.drop 1).take k).foldl addGrads (l.getD 0 zGrads)
theorem sumK_next (l : List GradsD) {k : Nat} (h : k + 1 < l.length) : sumK l (k + 1) = addGrads (sumK l k) l[k + 1] := by
  have h' : k < (l.drop 1).length := by rw [List.length_drop]; omega
  unfold sumK
  rw [List.take_succ_eq_append_getElem h', List.foldl_append]
  simp only [List.foldl_cons, List.foldl_nil, List.getElem_drop]
  congr 1
  congr 1
  omega
theorem sumK_B {l : List GradsD} (h : ∀ g ∈ l, GradsB g) (h0 : 0 < l.length) : (k : Nat) → GradsB (sumK l k) := by
  intro k
  induction k with
  | zero => unfold sumK; simp only [List.take_zero, List.foldl_nil]; exact getD_ok h h0
  | succ k ih =>
    by_cases hk : k + 1 < l.length
    · rw [sumK_next l hk]; exact addGrads_B ih
    · have : sumK l (k + 1) = sumK l k := by
        unfold sumK
        rw [take_ge (l := l.drop 1) (by rw [List.length_drop]; omega), take_ge (l := l.drop 1) (by rw [List.length_drop]; omega)]
      rw [this]; exact ih
theorem sumK_0 (l : List GradsD) : sumK l 0 = l.getD 0 zGrads := by unfold sumK; simp
def allG (l : List GradsD) : GradsD := if l.length = 0 then zGrads else sumK l (l.length - 1)
theorem allG_0 {l : List GradsD} (h : l.length = 0) : zGrads = allG l := by unfold allG; rw [if_pos h]
theorem allG_k {l : List GradsD} {k : Nat} (h : k + 1 = l.length) : sumK l k = allG l := by unfold allG; rw [if_neg (by omega), ← h]; rfl

/-! impl.AllTogether -/

def c_i_AllTogether : Con := ⟨23, (.slice 36 (.pair (.slice 111 (.slice 3 tI)) (.pair tI .bool))), (.pair (.slice 111 (.slice 3 tI)) (.pair tI .bool)), [.val ⟨false, (.slice 36 (.pair (.slice 111 (.slice 3 tI)) (.pair tI .bool))), []⟩], [⟨true, (.pair (.slice 111 (.slice 3 tI)) (.pair tI .bool)), [2, 0, 0]⟩], false,
  ((fun x => List.length x ≤ 1000000000 ∧ ∀ g ∈ (x : List GradsD), GradsB g) : (List ((List (List (Int))) × ((Int) × (Bool)))) → Prop),
  ((fun x => allG x) : (List ((List (List (Int))) × ((Int) × (Bool)))) → ((List (List (Int))) × ((Int) × (Bool))))⟩
def t_i_AllTogether : T :=
  .prim (.llen 36 (.pair (.slice 111 (.slice 3 tI)) (.pair tI .bool))) (.vr 0) <|
  .prim (.cmp .eql .i64) (.mk2 tI tI (.vr 1) (.ci .i64 0)) <|
  .ite (.vr 2) (
   .ret (.mk2 (.slice 111 (.slice 3 tI)) (.pair tI .bool) (.nl 111 (.slice 3 tI)) (.mk2 tI .bool (.ci .i64 0) (.cb false)))) (
   .prim (.lidx 36 (.pair (.slice 111 (.slice 3 tI)) (.pair tI .bool))) (.mk2 (.slice 36 (.pair (.slice 111 (.slice 3 tI)) (.pair tI .bool))) tI (.vr 0) (.ci .i64 0)) <|
   .call 0 (.vr 3) <|
   .prim (.llen 36 (.pair (.slice 111 (.slice 3 tI)) (.pair tI .bool))) (.vr 0) <|
   .prim (.lsub 36 (.pair (.slice 111 (.slice 3 tI)) (.pair tI .bool))) (.mk2 (.slice 36 (.pair (.slice 111 (.slice 3 tI)) (.pair tI .bool))) (.pair tI tI) (.vr 0) (.mk2 tI tI (.ci .i64 1) (.vr 5))) <|
   .prim (.llen 36 (.pair (.slice 111 (.slice 3 tI)) (.pair tI .bool))) (.vr 6) <|
   .loop (.pair tI (.pair tI (.pair .bool (.slice 111 (.slice 3 tI))))) (.mk2 tI (.pair tI (.pair .bool (.slice 111 (.slice 3 tI)))) (.ci .i64 0) (.mk2 tI (.pair .bool (.slice 111 (.slice 3 tI))) (.p1 tI .bool (.p2 (.slice 111 (.slice 3 tI)) (.pair tI .bool) (.vr 4))) (.mk2 .bool (.slice 111 (.slice 3 tI)) (.p2 tI .bool (.p2 (.slice 111 (.slice 3 tI)) (.pair tI .bool) (.vr 4))) (.p1 (.slice 111 (.slice 3 tI)) (.pair tI .bool) (.vr 4))))) <|
    .prim (.cmp .lss .i64) (.mk2 tI tI (.p1 tI (.pair tI (.pair .bool (.slice 111 (.slice 3 tI)))) (.vr 8)) (.vr 7)) <|
    .ite (.vr 9) (
     .prim (.lidx 36 (.pair (.slice 111 (.slice 3 tI)) (.pair tI .bool))) (.mk2 (.slice 36 (.pair (.slice 111 (.slice 3 tI)) (.pair tI .bool))) tI (.vr 6) (.p1 tI (.pair tI (.pair .bool (.slice 111 (.slice 3 tI)))) (.vr 8))) <|
     .call 1 (.mk2 (.pair (.slice 111 (.slice 3 tI)) (.pair tI .bool)) (.pair (.slice 111 (.slice 3 tI)) (.pair tI .bool)) (.mk2 (.slice 111 (.slice 3 tI)) (.pair tI .bool) (.p2 .bool (.slice 111 (.slice 3 tI)) (.p2 tI (.pair .bool (.slice 111 (.slice 3 tI))) (.p2 tI (.pair tI (.pair .bool (.slice 111 (.slice 3 tI)))) (.vr 8)))) (.mk2 tI .bool (.p1 tI (.pair .bool (.slice 111 (.slice 3 tI))) (.p2 tI (.pair tI (.pair .bool (.slice 111 (.slice 3 tI)))) (.vr 8))) (.p1 .bool (.slice 111 (.slice 3 tI)) (.p2 tI (.pair .bool (.slice 111 (.slice 3 tI))) (.p2 tI (.pair tI (.pair .bool (.slice 111 (.slice 3 tI)))) (.vr 8)))))) (.vr 10)) <|
     .prim (.ar .add .i64) (.mk2 tI tI (.p1 tI (.pair tI (.pair .bool (.slice 111 (.slice 3 tI)))) (.vr 8)) (.ci .i64 1)) <|
     .again 0 (.mk2 tI (.pair tI (.pair .bool (.slice 111 (.slice 3 tI)))) (.vr 12) (.mk2 tI (.pair .bool (.slice 111 (.slice 3 tI))) (.p1 tI .bool (.p2 (.slice 111 (.slice 3 tI)) (.pair tI .bool) (.vr 11))) (.mk2 .bool (.slice 111 (.slice 3 tI)) (.p2 tI .bool (.p2 (.slice 111 (.slice 3 tI)) (.pair tI .bool) (.vr 11))) (.p1 (.slice 111 (.slice 3 tI)) (.pair tI .bool) (.vr 11)))))) (
     .ret (.mk2 (.slice 111 (.slice 3 tI)) (.pair tI .bool) (.p2 .bool (.slice 111 (.slice 3 tI)) (.p2 tI (.pair .bool (.slice 111 (.slice 3 tI))) (.p2 tI (.pair tI (.pair .bool (.slice 111 (.slice 3 tI)))) (.vr 8)))) (.mk2 tI .bool (.p1 tI (.pair .bool (.slice 111 (.slice 3 tI))) (.p2 tI (.pair tI (.pair .bool (.slice 111 (.slice 3 tI)))) (.vr 8))) (.p1 .bool (.slice 111 (.slice 3 tI)) (.p2 tI (.pair .bool (.slice 111 (.slice 3 tI))) (.p2 tI (.pair tI (.pair .bool (.slice 111 (.slice 3 tI)))) (.vr 8))))))))
set_option maxRecDepth 100000 in
theorem e_i_AllTogether : exFn Try.prog [c_i_copyGrads, c_i_AddGrads] c_i_AllTogether false 3000 ⟨[(2986, 8, [.dr 14, .dr 13, .dr 12, .dr 11, .dr 10, .dr 8, .dr 7, .dr 6, .dr 0, .tm 17 0, .bx 4 1, .bx 4 2, .sl 3])], []⟩ = .ok t_i_AllTogether := by kernel_rfl
/- loops: (Int) × ((Int) × ((Bool) × (List (List (Int))))) -/
theorem v_i_AllTogether (x : List ((List (List (Int))) × ((Int) × (Bool)))) (hx : okD (.slice 36 (.pair (.slice 111 (.slice 3 tI)) (.pair tI .bool))) x) (hp : (fun x => List.length x ≤ 1000000000 ∧ ∀ g ∈ (x : List GradsD), GradsB g) x) : t_i_AllTogether.wp [c_i_copyGrads, c_i_AddGrads] [⟨(.slice 36 (.pair (.slice 111 (.slice 3 tI)) (.pair tI .bool))), x⟩] [] (fun v => v.as (.pair (.slice 111 (.slice 3 tI)) (.pair tI .bool)) = (fun x => allG x) x) := by
  obtain ⟨hl, hg⟩ : List.length x ≤ 1000000000 ∧ ∀ g ∈ (x : List GradsD), GradsB g := hp
  dsimp only [t_i_AllTogether, c_i_copyGrads, c_i_AddGrads, T.wp, litTy, litFn, Ar.val, envAt, Prim.cond, Prim.fn, Prim.ity, Prim.oty, List.getElem?_cons_succ, List.getElem?_cons_zero, Option.getD_some, List.cons_append, List.nil_append, inK, arI, cmpI, maxI, minI, negI]; simp only [SV.as_self, true_and, forall_const, okD_bool, le_tI, lt_tI, ne_tI, eq_tI, zero_tI]
  have hd : List.drop (Int.toNat 1) (List.take (x.length : Int).toNat x) = x.drop 1 := by simp
  rw [hd]
  (repeat' first | intro _ | (with_reducible apply And.intro))
  all_goals simp only [Int.toNat_natCast, Bool.not_eq_true', Bool.not_eq_false', Bool.and_eq_true, Bool.and_eq_false_iff, decide_eq_true_eq, decide_eq_false_iff_not, Int.not_lt, Int.not_le, ge_iff_le, gt_iff_lt, List.length_cons, List.length_nil, List.length_append, Nat.zero_add, List.nil_append, beq_iff_eq, beq_eq_false_iff_ne, bne_iff_ne, bne_eq_false_iff_eq, ne_eq, toNat_pred, toNat_succ] at *
  all_goals first | omega | exact allG_0 (by omega) | exact getD_ok hg (by omega) | skip
  have hl1 : (x.drop 1).length = x.length - 1 := List.length_drop
  refine ⟨fun s => ∃ k : Nat, k + 1 ≤ x.length ∧ s = ((k : Int), (sumK x k).2.1, (sumK x k).2.2, (sumK x k).1), fun s => x.length - (s.1 : Int).toNat, ⟨0, by omega, by rw [sumK_0]; rfl⟩, fun s _ hI => ?_⟩
  obtain ⟨k, hk, rfl⟩ := hI
  dsimp only
  simp only [Int.toNat_natCast, Bool.not_eq_true', Bool.not_eq_false', Bool.and_eq_true, Bool.and_eq_false_iff, decide_eq_true_eq, decide_eq_false_iff_not, Int.not_lt, Int.not_le, ge_iff_le, gt_iff_lt, List.length_cons, List.length_nil, List.length_append, Nat.zero_add, List.nil_append, beq_iff_eq, beq_eq_false_iff_ne, bne_iff_ne, bne_eq_false_iff_eq, ne_eq, toNat_pred, toNat_succ, hl1]
  refine ⟨fun hlt => ?_, fun hge => allG_k (by omega)⟩
  have hk' : k < (x.drop 1).length := by omega
  rw [getD_at hk', List.getElem_drop]
  have e := sumK_next x (k := k) (by omega)
  have e1 : x[1 + k]'(by omega) = x[k + 1]'(by omega) := by congr 1; omega
  rw [e1]
  refine ⟨by omega, fun _ => ⟨⟨sumK_B hg (by omega) k, hg _ (List.getElem_mem _)⟩, fun _ => ⟨by omega, fun _ => ⟨⟨k + 1, by omega, by rw [e]; rfl⟩, by omega⟩⟩⟩⟩
theorem h_i_AllTogether : Con.Holds Try.prog c_i_AllTogether := tree_ok mixedP (consAt h_i_copyGrads (consAt h_i_AddGrads consNil)) e_i_AllTogether fun x hx hp => v_i_AllTogether x hx hp

/-! spec.AllTogether -/

def c_s_AllTogether : Con := ⟨22, (.slice 36 (.pair (.slice 111 (.slice 3 tI)) (.pair tI .bool))), (.pair (.slice 111 (.slice 3 tI)) (.pair tI .bool)), [.val ⟨false, (.slice 36 (.pair (.slice 111 (.slice 3 tI)) (.pair tI .bool))), []⟩], [⟨true, (.pair (.slice 111 (.slice 3 tI)) (.pair tI .bool)), [2, 0, 0]⟩], false,
  ((fun x => List.length x ≤ 1000000000 ∧ ∀ g ∈ (x : List GradsD), GradsB g) : (List ((List (List (Int))) × ((Int) × (Bool)))) → Prop),
  ((fun x => allG x) : (List ((List (List (Int))) × ((Int) × (Bool)))) → ((List (List (Int))) × ((Int) × (Bool))))⟩
def t_s_AllTogether : T :=
  .prim (.llen 36 (.pair (.slice 111 (.slice 3 tI)) (.pair tI .bool))) (.vr 0) <|
  .prim (.cmp .eql .i64) (.mk2 tI tI (.vr 1) (.ci .i64 0)) <|
  .ite (.vr 2) (
   .ret (.mk2 (.slice 111 (.slice 3 tI)) (.pair tI .bool) (.nl 111 (.slice 3 tI)) (.mk2 tI .bool (.ci .i64 0) (.cb false)))) (
   .prim (.lidx 36 (.pair (.slice 111 (.slice 3 tI)) (.pair tI .bool))) (.mk2 (.slice 36 (.pair (.slice 111 (.slice 3 tI)) (.pair tI .bool))) tI (.vr 0) (.ci .i64 0)) <|
   .call 0 (.vr 3) <|
   .loop (.pair tI (.pair tI (.pair .bool (.slice 111 (.slice 3 tI))))) (.mk2 tI (.pair tI (.pair .bool (.slice 111 (.slice 3 tI)))) (.ci .i64 1) (.mk2 tI (.pair .bool (.slice 111 (.slice 3 tI))) (.p1 tI .bool (.p2 (.slice 111 (.slice 3 tI)) (.pair tI .bool) (.vr 4))) (.mk2 .bool (.slice 111 (.slice 3 tI)) (.p2 tI .bool (.p2 (.slice 111 (.slice 3 tI)) (.pair tI .bool) (.vr 4))) (.p1 (.slice 111 (.slice 3 tI)) (.pair tI .bool) (.vr 4))))) <|
    .prim (.llen 36 (.pair (.slice 111 (.slice 3 tI)) (.pair tI .bool))) (.vr 0) <|
    .prim (.cmp .lss .i64) (.mk2 tI tI (.p1 tI (.pair tI (.pair .bool (.slice 111 (.slice 3 tI)))) (.vr 5)) (.vr 6)) <|
    .ite (.vr 7) (
     .prim (.lidx 36 (.pair (.slice 111 (.slice 3 tI)) (.pair tI .bool))) (.mk2 (.slice 36 (.pair (.slice 111 (.slice 3 tI)) (.pair tI .bool))) tI (.vr 0) (.p1 tI (.pair tI (.pair .bool (.slice 111 (.slice 3 tI)))) (.vr 5))) <|
     .call 1 (.mk2 (.pair (.slice 111 (.slice 3 tI)) (.pair tI .bool)) (.pair (.slice 111 (.slice 3 tI)) (.pair tI .bool)) (.mk2 (.slice 111 (.slice 3 tI)) (.pair tI .bool) (.p2 .bool (.slice 111 (.slice 3 tI)) (.p2 tI (.pair .bool (.slice 111 (.slice 3 tI))) (.p2 tI (.pair tI (.pair .bool (.slice 111 (.slice 3 tI)))) (.vr 5)))) (.mk2 tI .bool (.p1 tI (.pair .bool (.slice 111 (.slice 3 tI))) (.p2 tI (.pair tI (.pair .bool (.slice 111 (.slice 3 tI)))) (.vr 5))) (.p1 .bool (.slice 111 (.slice 3 tI)) (.p2 tI (.pair .bool (.slice 111 (.slice 3 tI))) (.p2 tI (.pair tI (.pair .bool (.slice 111 (.slice 3 tI)))) (.vr 5)))))) (.vr 8)) <|
     .prim (.ar .add .i64) (.mk2 tI tI (.p1 tI (.pair tI (.pair .bool (.slice 111 (.slice 3 tI)))) (.vr 5)) (.ci .i64 1)) <|
     .again 0 (.mk2 tI (.pair tI (.pair .bool (.slice 111 (.slice 3 tI)))) (.vr 10) (.mk2 tI (.pair .bool (.slice 111 (.slice 3 tI))) (.p1 tI .bool (.p2 (.slice 111 (.slice 3 tI)) (.pair tI .bool) (.vr 9))) (.mk2 .bool (.slice 111 (.slice 3 tI)) (.p2 tI .bool (.p2 (.slice 111 (.slice 3 tI)) (.pair tI .bool) (.vr 9))) (.p1 (.slice 111 (.slice 3 tI)) (.pair tI .bool) (.vr 9)))))) (
     .ret (.mk2 (.slice 111 (.slice 3 tI)) (.pair tI .bool) (.p2 .bool (.slice 111 (.slice 3 tI)) (.p2 tI (.pair .bool (.slice 111 (.slice 3 tI))) (.p2 tI (.pair tI (.pair .bool (.slice 111 (.slice 3 tI)))) (.vr 5)))) (.mk2 tI .bool (.p1 tI (.pair .bool (.slice 111 (.slice 3 tI))) (.p2 tI (.pair tI (.pair .bool (.slice 111 (.slice 3 tI)))) (.vr 5))) (.p1 .bool (.slice 111 (.slice 3 tI)) (.p2 tI (.pair .bool (.slice 111 (.slice 3 tI))) (.p2 tI (.pair tI (.pair .bool (.slice 111 (.slice 3 tI)))) (.vr 5))))))))
set_option maxRecDepth 100000 in
theorem e_s_AllTogether : exFn Try.prog [c_s_l7Same, c_s_AddGrads] c_s_AllTogether false 3000 ⟨[(2986, 5, [.dr 12, .dr 11, .dr 10, .dr 9, .dr 7, .dr 6, .dr 5, .tm 4 0, .bx 4 1, .bx 4 2, .sl 3])], []⟩ = .ok t_s_AllTogether := by kernel_rfl
/- loops: (Int) × ((Int) × ((Bool) × (List (List (Int))))) -/
theorem v_s_AllTogether (x : List ((List (List (Int))) × ((Int) × (Bool)))) (hx : okD (.slice 36 (.pair (.slice 111 (.slice 3 tI)) (.pair tI .bool))) x) (hp : (fun x => List.length x ≤ 1000000000 ∧ ∀ g ∈ (x : List GradsD), GradsB g) x) : t_s_AllTogether.wp [c_s_l7Same, c_s_AddGrads] [⟨(.slice 36 (.pair (.slice 111 (.slice 3 tI)) (.pair tI .bool))), x⟩] [] (fun v => v.as (.pair (.slice 111 (.slice 3 tI)) (.pair tI .bool)) = (fun x => allG x) x) := by
  obtain ⟨hl, hg⟩ : List.length x ≤ 1000000000 ∧ ∀ g ∈ (x : List GradsD), GradsB g := hp
  dsimp only [t_s_AllTogether, c_s_l7Same, c_s_AddGrads, T.wp, litTy, litFn, Ar.val, envAt, Prim.cond, Prim.fn, Prim.ity, Prim.oty, List.getElem?_cons_succ, List.getElem?_cons_zero, Option.getD_some, List.cons_append, List.nil_append, inK, arI, cmpI, maxI, minI, negI]; simp only [SV.as_self, true_and, forall_const, okD_bool, le_tI, lt_tI, ne_tI, eq_tI, zero_tI]
  (repeat' first | intro _ | (with_reducible apply And.intro))
  all_goals simp only [Int.toNat_natCast, Bool.not_eq_true', Bool.not_eq_false', Bool.and_eq_true, Bool.and_eq_false_iff, decide_eq_true_eq, decide_eq_false_iff_not, Int.not_lt, Int.not_le, ge_iff_le, gt_iff_lt, List.length_cons, List.length_nil, List.length_append, Nat.zero_add, List.nil_append, beq_iff_eq, beq_eq_false_iff_ne, bne_iff_ne, bne_eq_false_iff_eq, ne_eq, toNat_pred, toNat_succ] at *
  all_goals first | omega | exact allG_0 (by omega) | exact getD_ok hg (by omega) | skip
  refine ⟨fun s => ∃ k : Nat, k + 1 ≤ x.length ∧ s = (((k + 1 : Nat) : Int), (sumK x k).2.1, (sumK x k).2.2, (sumK x k).1), fun s => x.length - (s.1 : Int).toNat, ⟨0, by omega, by rw [sumK_0]; rfl⟩, fun s _ hI => ?_⟩
  obtain ⟨k, hk, rfl⟩ := hI
  dsimp only
  simp only [Int.toNat_natCast, Bool.not_eq_true', Bool.not_eq_false', Bool.and_eq_true, Bool.and_eq_false_iff, decide_eq_true_eq, decide_eq_false_iff_not, Int.not_lt, Int.not_le, ge_iff_le, gt_iff_lt, List.length_cons, List.length_nil, List.length_append, Nat.zero_add, List.nil_append, beq_iff_eq, beq_eq_false_iff_ne, bne_iff_ne, bne_eq_false_iff_eq, ne_eq, toNat_pred, toNat_succ]
  refine fun _ => ⟨fun hlt => ?_, fun hge => allG_k (by omega)⟩
  have hk' : k + 1 < x.length := by omega
  rw [getD_at hk']
  have e := sumK_next x (k := k) (by omega)
  refine ⟨by omega, fun _ => ⟨⟨sumK_B hg (by omega) k, hg _ (List.getElem_mem _)⟩, fun _ => ⟨by omega, fun _ => ⟨⟨k + 1, by omega, by rw [e]; rfl⟩, by omega⟩⟩⟩⟩
theorem h_s_AllTogether : Con.Holds Try.prog c_s_AllTogether := tree_ok mixedP (consAt h_s_l7Same (consAt h_s_AddGrads consNil)) e_s_AllTogether fun x hx hp => v_s_AllTogether x hx hp
end Go.Proofs.Ytnijnjclmlfahaa
