/- All2: trees, and what they say. -/
import Derived.Test.YtahggdiafncdhaaRing2
namespace Go.Proofs.Ytahggdiafncdhaa
open Go.ChangeShapes Go.WideShapes Go.ChangeAt Go.RowKit Go.Deep
set_option linter.unusedVariables false
set_option linter.unusedSimpArgs false
def zGrads : GradsD := ([], 0, false)
theorem addGrads_B {a b : GradsD} (h : GradsB a) : GradsB (addGrads a b) := by
  obtain ⟨h1, h2⟩ := h
  refine ⟨?_, fun r hr => ?_⟩
  · show (addRows a.1 b.1).length ≤ _
    rw [addRows_len]; omega
  · obtain ⟨k, hk, rfl⟩ := List.mem_iff_getElem.1 hr
    have hk' : k < (addRows a.1 b.1).length := hk
    rw [addRows_len] at hk'
    have e : (addRows a.1 b.1)[k]'hk = zipV (a.1[k]'(by omega)) (b.1[k]'(by omega)) := List.getElem_zipWith ..
    have h3 := h2 _ (List.getElem_mem (show k < a.1.length by omega))
    show ((addRows a.1 b.1)[k]'hk).length ≤ _
    rw [e, zipV_len]; omega
def sumK (l : List GradsD) (k : Nat) : GradsD := ((l.drop 1).take k).foldl addGrads (l.getD 0 zGrads)
theorem sumK_next (l : List GradsD) {k : Nat} (h : k + 1 < l.length) : sumK l (k + 1) = addGrads (sumK l k) l[k + 1] := by
  have h' : k < (l.drop 1).length := by rw [List.length_drop]; omega
  unfold sumK
  rw [List.take_succ_eq_append_getElem h', List.foldl_append]
  simp only [List.foldl_cons, List.foldl_nil, List.getElem_drop]
  congr 1
  congr 1
  omega
theorem sumK_B {l : List GradsD} (h : ∀ g ∈ l, GradsB g) (h0 : 0 < l.length) : (k : Nat) → GradsB (sumK l k) := by
  intro k
  induction k with
  | zero => unfold sumK; simp only [List.take_zero, List.foldl_nil]; exact getD_ok h h0
  | succ k ih =>
    by_cases hk : k + 1 < l.length
    · rw [sumK_next l hk]; exact addGrads_B ih
    · have : sumK l (k + 1) = sumK l k := by
        unfold sumK
        rw [take_ge (l := l.drop 1) (by rw [List.length_drop]; omega), take_ge (l := l.drop 1) (by rw [List.length_drop]; omega)]
      rw [this]; exact ih
theorem sumK_0 (l : List GradsD) : sumK l 0 = l.getD 0 zGrads := by unfold sumK; simp
def allG (l : List GradsD) : GradsD := if l.length = 0 then zGrads else sumK l (l.length - 1)
theorem allG_0 {l : List GradsD} (h : l.length = 0) : zGrads = allG l := by unfold allG; rw [if_pos h]
theorem allG_k {l : List GradsD} {k : Nat} (h : k + 1 = l.length) : sumK l k = allG l := by unfold allG; rw [if_neg (by omega), ← h]; rfl

/-! spec.AllTogether -/

noncomputable def c_s_AllTogether : Con := ⟨24, (.slice 37 tGrads), tGrads, [.val ⟨false, (.slice 37 tGrads), []⟩], [⟨true, tGrads, [2, 0, 0]⟩], false, none,
  ((fun x => List.length x ≤ 1000000000 ∧ ∀ g ∈ (x : List GradsD), GradsB g) : (List GradsD) → Prop),
  ((fun x => allG x) : (List GradsD) → (GradsD))⟩
def t_s_AllTogether : T :=
  .prim (.llen 37 tGrads) (.vr 0) <|
  .prim (.cmp .eql .i64) (.mk2 tI tI (.vr 1) (.ci .i64 0)) <|
  .ite (.vr 2) (
   .ret (mkA tGrads [(.nl 92 tInts), (.ci .i64 0), (.cb false)])) (
   .prim (.lidx 37 tGrads) (.mk2 (.slice 37 tGrads) tI (.vr 0) (.ci .i64 0)) <|
   .call 0 (.vr 3) <|
   .loop (.pair tI (.pair tI (.pair .bool tRows))) (mkA (.pair tI (.pair tI (.pair .bool tRows))) [(.ci .i64 1), (pjA tGrads 1 (.vr 4)), (prA tGrads 2 (.vr 4)), (.p1 tRows (.pair tI .bool) (.vr 4))]) <|
    .prim (.llen 37 tGrads) (.vr 0) <|
    .prim (.cmp .lss .i64) (.mk2 tI tI (.p1 tI (.pair tI (.pair .bool tRows)) (.vr 5)) (.vr 6)) <|
    .ite (.vr 7) (
     .prim (.lidx 37 tGrads) (.mk2 (.slice 37 tGrads) tI (.vr 0) (.p1 tI (.pair tI (.pair .bool tRows)) (.vr 5))) <|
     .call 1 (.mk2 tGrads tGrads (mkA tGrads [(prA (.pair tI (.pair tI (.pair .bool tRows))) 3 (.vr 5)), (pjA (.pair tI (.pair tI (.pair .bool tRows))) 1 (.vr 5)), (pjA (.pair tI (.pair tI (.pair .bool tRows))) 2 (.vr 5))]) (.vr 8)) <|
     .prim (.ar .add .i64) (.mk2 tI tI (.p1 tI (.pair tI (.pair .bool tRows)) (.vr 5)) (.ci .i64 1)) <|
     .again 0 (mkA (.pair tI (.pair tI (.pair .bool tRows))) [(.vr 10), (pjA tGrads 1 (.vr 9)), (prA tGrads 2 (.vr 9)), (.p1 tRows (.pair tI .bool) (.vr 9))])) (
     .ret (mkA tGrads [(prA (.pair tI (.pair tI (.pair .bool tRows))) 3 (.vr 5)), (pjA (.pair tI (.pair tI (.pair .bool tRows))) 1 (.vr 5)), (pjA (.pair tI (.pair tI (.pair .bool tRows))) 2 (.vr 5))])))
set_option maxRecDepth 100000 in
theorem e_s_AllTogether : exFn Try.prog [c_s_l7Same, c_s_AddGrads] c_s_AllTogether false 3000 ⟨[(2986, 2005, drd 12 9 ++ drd 7 5 ++ [.tm 4 0, .bx 4 1, .bx 4 2, .sl 3])], []⟩ = .ok t_s_AllTogether := by kernel_rfl
/- loops: (Int) × ((Int) × ((Bool) × (List (List (Int))))) -/
theorem v_s_AllTogether (x : List GradsD) (hx : okD (.slice 37 tGrads) x) (hp : (fun x => List.length x ≤ 1000000000 ∧ ∀ g ∈ (x : List GradsD), GradsB g) x) : t_s_AllTogether.wp [c_s_l7Same, c_s_AddGrads] [⟨(.slice 37 tGrads), x⟩] [] (fun v => v.as tGrads = (fun x => allG x) x) := by
  obtain ⟨hl, hg⟩ : List.length x ≤ 1000000000 ∧ ∀ g ∈ (x : List GradsD), GradsB g := hp
  delta t_s_AllTogether c_s_l7Same c_s_AddGrads; refine vcx ?_; try with_reducible exact True.intro
  (repeat' first | intro _ | (with_reducible apply And.intro))
  all_goals simp only [Int.toNat_natCast, Bool.not_eq_true', Bool.not_eq_false', Bool.and_eq_true, Bool.and_eq_false_iff, decide_eq_true_eq, decide_eq_false_iff_not, Int.not_lt, Int.not_le, ge_iff_le, gt_iff_lt, List.length_cons, List.length_nil, List.length_append, Nat.zero_add, List.nil_append, beq_iff_eq, beq_eq_false_iff_ne, bne_iff_ne, bne_eq_false_iff_eq, ne_eq, toNat_pred, toNat_succ, toNat_l0, toNat_l1] at *
  all_goals first | omega | exact allG_0 (by omega) | exact getD_ok hg (by omega) | skip
  refine ⟨fun s => ∃ k : Nat, k + 1 ≤ x.length ∧ s = (((k + 1 : Nat) : Int), (sumK x k).2.1, (sumK x k).2.2, (sumK x k).1), fun s => x.length - (s.1 : Int).toNat, ⟨0, by omega, by rw [sumK_0]; rfl⟩, fun s _ hI => ?_⟩
  obtain ⟨k, hk, rfl⟩ := hI
  dsimp only
  (refine dcx ?_; try with_reducible exact True.intro)
  refine fun _ => ⟨fun hlt => ?_, fun hge => allG_k (by omega)⟩
  have hk' : k + 1 < x.length := by omega
  rw [getD_at hk']
  have e := sumK_next x (k := k) (by omega)
  refine ⟨by omega, fun _ => ⟨⟨sumK_B hg (by omega) k, hg _ (List.getElem_mem _)⟩, fun _ => ⟨by omega, fun _ => ⟨⟨k + 1, by omega, by rw [e]; rfl⟩, by omega⟩⟩⟩⟩
theorem h_s_AllTogether : Con.Holds Try.prog c_s_AllTogether := tree_ok mixedP (consAt h_s_l7Same (consAt h_s_AddGrads consNil)) e_s_AllTogether fun x hx hp => v_s_AllTogether x hx hp
end Go.Proofs.Ytahggdiafncdhaa
