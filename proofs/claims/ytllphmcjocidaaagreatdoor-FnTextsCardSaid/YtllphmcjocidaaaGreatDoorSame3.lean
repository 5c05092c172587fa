/- Same3: trees, and what they say. -/
import Derived.Test.YtllphmcjocidaaaGreatDoorOps2
namespace Go.Proofs.YtllphmcjocidaaaGreatDoor
open Go.ChangeShapes Go.WideShapes Go.ChangeAt Go.RowKit Go.Deep
set_option linter.unusedVariables false
set_option linter.unusedSimpArgs false
noncomputable def eqB {α : Type} (a b : α) : Bool := @decide (a = b) (Classical.propDecidable _)
theorem eqB_iff {α : Type} {a b : α} : eqB a b = true ↔ a = b := by unfold eqB; rw [@decide_eq_true_eq]
theorem eqB_no {α : Type} {a b : α} : eqB a b = false ↔ ¬ a = b := by rw [← eqB_iff (a := a) (b := b), Bool.not_eq_true]
theorem eqF {α : Type} {a b : α} (h : ¬ a = b) : false = eqB a b := (eqB_no.2 h).symm
theorem eqT {α : Type} {a b : α} (h : a = b) : true = eqB a b := (eqB_iff.2 h).symm
theorem ext_getD {α : Type} {a b : List α} {d : α} (hl : a.length = b.length) (h : ∀ i, i < a.length → a.getD i d = b.getD i d) : a = b := by
  refine List.ext_getElem hl fun i h1 h2 => ?_
  have := h i h1
  rwa [getD_at h1, getD_at h2] at this
theorem beqP_t {x y : Int × Int} : (beqD tIns x y != true) = true ↔ ¬ x = y := by
  obtain ⟨a, b⟩ := x; obtain ⟨c, d⟩ := y
  simp only [beqD, bne_iff_ne, ne_eq, Bool.and_eq_true, Prod.mk.injEq]
  rw [beq_iff_eq, beq_iff_eq]
theorem beqP_f {x y : Int × Int} : (beqD tIns x y != true) = false ↔ x = y := by
  rw [← Bool.not_eq_true, beqP_t, Classical.not_not]
theorem beqB_t {x y : Bool} : (beqD .bool x y != true) = true ↔ ¬ x = y := by cases x <;> cases y <;> simp [beqD]
theorem beqB_f {x y : Bool} : (beqD .bool x y != true) = false ↔ x = y := by cases x <;> cases y <;> simp [beqD]
theorem beqB_e {x y : Bool} : (beqD .bool x y != false) = eqB x y := by
  rw [Bool.eq_iff_iff, eqB_iff]; cases x <;> cases y <;> simp [beqD]
theorem neqI_t {x y : Int} : (x != y) = true ↔ ¬ x = y := by rw [bne_iff_ne]
theorem neqI_f {x y : Int} : (x != y) = false ↔ x = y := by rw [bne_eq_false_iff_eq]
theorem notB_t {b : Bool} : (!b) = true ↔ b = false := by cases b <;> simp
theorem notB_f {b : Bool} : (!b) = false ↔ b = true := by cases b <;> simp

/-! spec.SameVec -/

noncomputable def c_s_SameVec : Con := ⟨51, tPair, .bool, [.val ⟨false, tInts, []⟩, .val ⟨false, tInts, []⟩], [⟨false, .bool, [0]⟩], false, none,
  ((fun _ => True) : (PairD) → Prop),
  ((fun x => eqB x.1 x.2) : (PairD) → (Bool))⟩
def t_s_SameVec : T :=
  .prim (.llen 3 tI) (.p1 tInts tInts (.vr 0)) <|
  .prim (.llen 3 tI) (prA tPair 1 (.vr 0)) <|
  .prim (.cmp .neq .i64) (.mk2 tI tI (.vr 1) (.vr 2)) <|
  .ite (.vr 3) (
   .ret (.cb false)) (
   .loop tI (.ci .i64 0) <|
    .prim (.llen 3 tI) (.p1 tInts tInts (.vr 0)) <|
    .prim (.cmp .lss .i64) (.mk2 tI tI (.vr 4) (.vr 5)) <|
    .ite (.vr 6) (
     .prim (.lidx 3 tI) (.mk2 tInts tI (.p1 tInts tInts (.vr 0)) (.vr 4)) <|
     .prim (.lidx 3 tI) (.mk2 tInts tI (prA tPair 1 (.vr 0)) (.vr 4)) <|
     .prim (.cmp .neq .i64) (.mk2 tI tI (.vr 7) (.vr 8)) <|
     .ite (.vr 9) (
      .ret (.cb false)) (
      .prim (.ar .add .i64) (.mk2 tI tI (.vr 4) (.ci .i64 1)) <|
      .again 0 (.vr 10))) (
     .ret (.cb true)))
set_option maxRecDepth 100000 in
theorem e_s_SameVec : exFn Tryz.prog [] c_s_SameVec false 3000 ⟨[(2988, 2004, drd 10 6 ++ [.tm 5 0])], []⟩ = .ok t_s_SameVec := by kernel_rfl
/- loops: Int -/
theorem v_s_SameVec (x : PairD) (hx : okD tPair x) (hp : (fun _ => True) x) : t_s_SameVec.wp [] [⟨tPair, x⟩] [] (fun v => v.as .bool = (fun x => eqB x.1 x.2) x) := by
  obtain ⟨a, b⟩ := x
  have hm : a.length ≤ 9223372036854775807 := by have : a.length ≤ maxLen := hx.1.1; unfold maxLen at this; omega
  delta t_s_SameVec; refine vcx ?_; try with_reducible exact True.intro
  simp only [neqI_t, neqI_f, lenN]
  refine fun _ _ => ⟨fun h => eqF fun e => h (by rw [e]), fun hl => ?_⟩
  refine ⟨fun s => ∃ k : Nat, k ≤ a.length ∧ s = (k : Int) ∧ ∀ i, i < k → a.getD i (zeroD tI) = b.getD i (zeroD tI), fun s => a.length - (s : Int).toNat, ⟨0, by omega, rfl, by omega⟩, fun s _ hI => ?_⟩
  obtain ⟨k, hk, rfl, ha⟩ := hI
  (refine dcx ?_; try with_reducible exact True.intro)
  intro _
  constructor
  · intro hlt
    (repeat' first | intro _ | (with_reducible apply And.intro))
    all_goals first | omega | (exact eqF fun e => ‹¬ _ = _› (by rw [e])) | skip
    refine ⟨k + 1, by omega, rfl, fun i hi => ?_⟩
    rcases Nat.lt_or_eq_of_le (Nat.le_of_lt_succ hi) with h | rfl
    · exact ha i h
    · assumption
  · intro hge
    exact eqT (ext_getD hl fun i hi => ha i (by omega))
theorem h_s_SameVec : Con.Holds Tryz.prog c_s_SameVec := tree_ok mixedP consNil e_s_SameVec fun x hx hp => v_s_SameVec x hx hp

/-! spec.SameOp -/

noncomputable def c_s_SameOp : Con := ⟨19, (.pair tOp tOp), .bool, [.val ⟨true, tOp, []⟩, .val ⟨true, tOp, []⟩], [⟨false, .bool, [0]⟩], false, none,
  ((fun _ => True) : (OpD × OpD) → Prop),
  ((fun x => eqB x.1 x.2) : (OpD × OpD) → (Bool))⟩
def t_s_SameOp : T :=
  .prim (.cmp .eql .i64) (.mk2 tI tI (.p1 tI (.pair tI tItem) (.p1 tOp tOp (.vr 0))) (pjA (.pair tOp tOp) 1 (.vr 0))) <|
  .ite (.vr 1) (
   .prim (.cmp .eql .i64) (.mk2 tI tI (pjA tOp 1 (.p1 tOp tOp (.vr 0))) (pjA (.pair tOp tOp) 2 (.vr 0))) <|
   .ite (.vr 2) (
    .prim (.cmp .eql .i64) (.mk2 tI tI (pjA tOp 2 (.p1 tOp tOp (.vr 0))) (pjA (.pair tOp tOp) 3 (.vr 0))) <|
    .ite (.vr 3) (
     .call 0 (.mk2 tInts tInts (prA tOp 3 (.p1 tOp tOp (.vr 0))) (prA (.pair tOp tOp) 4 (.vr 0))) <|
     .ret (.vr 4)) (
     .ret (.cb false))) (
    .ret (.cb false))) (
   .ret (.cb false))
set_option maxRecDepth 100000 in
theorem e_s_SameOp : exFn Tryz.prog [c_s_SameVec] c_s_SameOp false 3000 ⟨[], []⟩ = .ok t_s_SameOp := by kernel_rfl
theorem v_s_SameOp (x : OpD × OpD) (hx : okD (.pair tOp tOp) x) (hp : (fun _ => True) x) : t_s_SameOp.wp [c_s_SameVec] [⟨(.pair tOp tOp), x⟩] [] (fun v => v.as .bool = (fun x => eqB x.1 x.2) x) := by
  obtain ⟨a, b⟩ := x
  delta t_s_SameOp c_s_SameVec; refine vcx ?_; try with_reducible exact True.intro
  have e : (a = b) ↔ (a.1 = b.1 ∧ a.2.1 = b.2.1 ∧ a.2.2.1 = b.2.2.1 ∧ a.2.2.2 = b.2.2.2) := by simp [Prod.ext_iff]
  simp only [beqB_e, beq_iff_eq, beq_eq_false_iff_ne, eqB_iff, eqB_no, ne_eq]
  (repeat' first | intro _ | (with_reducible apply And.intro))
  all_goals first | (refine eqF ?_; rw [e]; simp_all; done) | (rw [Bool.eq_iff_iff, eqB_iff, eqB_iff, e]; simp_all; done)
theorem h_s_SameOp : Con.Holds Tryz.prog c_s_SameOp := tree_ok mixedP (consAt h_s_SameVec consNil) e_s_SameOp fun x hx hp => v_s_SameOp x hx hp
theorem getD_mem {α : Type} {l : List α} {k : Nat} (h : k < l.length) (d : α) : l.getD k d ∈ l := by rw [getD_at h]; exact List.getElem_mem h
end Go.Proofs.YtllphmcjocidaaaGreatDoor
