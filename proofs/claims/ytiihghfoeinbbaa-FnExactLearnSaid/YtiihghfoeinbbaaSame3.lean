/- Same3: trees, and what they say. -/
import Derived.Test.YtiihghfoeinbbaaOps2
namespace Go.Proofs.Ytiihghfoeinbbaa
open Go.ChangeShapes Go.WideShapes Go.ChangeAt Go.RowKit Go.Deep
set_option linter.unusedVariables false
set_option linter.unusedSimpArgs false
noncomputable def eqB {α : Type} (a b : α) : Bool := @decide (a = b) (Classical.propDecidable _)
theorem eqB_iff {α : Type} {a b : α} : eqB a b = true ↔ a = b := by unfold eqB; rw [@decide_eq_true_eq]
theorem eqB_no {α : Type} {a b : α} : eqB a b = false ↔ ¬ a = b := by rw [← eqB_iff (a := a) (b := b), Bool.not_eq_true]
theorem eqF {α : Type} {a b : α} (h : ¬ a = b) : false = eqB a b := (eqB_no.2 h).symm
theorem eqT {α : Type} {a b : α} (h : a = b) : true = eqB a b := (eqB_iff.2 h).symm
theorem ext_getD {α : Type} {a b : List α} {d : α} (hl : a.length = b.length) (h : ∀ i, i < a.length → a.getD i d = b.getD i d) : a = b := by
  refine List.ext_getElem hl fun i h1 h2 => ?_
  have := h i h1
  rwa [getD_at h1, getD_at h2] at this
theorem beqP_t {x y : Int × Int} : (beqD tIns x y != true) = true ↔ ¬ x = y := by
  obtain ⟨a, b⟩ := x; obtain ⟨c, d⟩ := y
  simp only [beqD, bne_iff_ne, ne_eq, Bool.and_eq_true, Prod.mk.injEq]
  rw [beq_iff_eq, beq_iff_eq]
theorem beqP_f {x y : Int × Int} : (beqD tIns x y != true) = false ↔ x = y := by
  rw [← Bool.not_eq_true, beqP_t, Classical.not_not]
theorem beqB_t {x y : Bool} : (beqD .bool x y != true) = true ↔ ¬ x = y := by cases x <;> cases y <;> simp [beqD]
theorem beqB_f {x y : Bool} : (beqD .bool x y != true) = false ↔ x = y := by cases x <;> cases y <;> simp [beqD]
theorem beqB_e {x y : Bool} : (beqD .bool x y != false) = eqB x y := by
  rw [Bool.eq_iff_iff, eqB_iff]; cases x <;> cases y <;> simp [beqD]
theorem neqI_t {x y : Int} : (x != y) = true ↔ ¬ x = y := by rw [bne_iff_ne]
theorem neqI_f {x y : Int} : (x != y) = false ↔ x = y := by rw [bne_eq_false_iff_eq]
theorem notB_t {b : Bool} : (!b) = true ↔ b = false := by cases b <;> simp
theorem notB_f {b : Bool} : (!b) = false ↔ b = true := by cases b <;> simp
theorem getD_mem {α : Type} {l : List α} {k : Nat} (h : k < l.length) (d : α) : l.getD k d ∈ l := by rw [getD_at h]; exact List.getElem_mem h
end Go.Proofs.Ytiihghfoeinbbaa
