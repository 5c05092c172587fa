/- Same3: trees, and what they say. -/
import Derived.Test.YtiihghfoeinbbaaGreatOps2
namespace Go.Proofs.YtiihghfoeinbbaaGreat
open Go.ChangeShapes Go.WideShapes Go.ChangeAt Go.RowKit Go.Deep
set_option linter.unusedVariables false
set_option linter.unusedSimpArgs false
noncomputable def eqB {α : Type} (a b : α) : Bool := @decide (a = b) (Classical.propDecidable _)
theorem beqB_t {x y : Bool} : (beqD .bool x y != true) = true ↔ ¬ x = y := by cases x <;> cases y <;> simp [beqD]
theorem beqB_f {x y : Bool} : (beqD .bool x y != true) = false ↔ x = y := by cases x <;> cases y <;> simp [beqD]
theorem neqI_t {x y : Int} : (x != y) = true ↔ ¬ x = y := by rw [bne_iff_ne]
theorem neqI_f {x y : Int} : (x != y) = false ↔ x = y := by rw [bne_eq_false_iff_eq]
noncomputable def c_i_modelOf : Con := ⟨242, tStage, tModel, [.val ⟨true, tStage, []⟩], [⟨true, tModel, [0]⟩], true, none,
  ((fun _ => True) : (StageD) → Prop),
  ((fun x => x.2.2.1) : (StageD) → (ModelD))⟩
def t_i_modelOf : T :=
  .ret (pjA tStage 2 (.vr 0))
end Go.Proofs.YtiihghfoeinbbaaGreat
