/- Pipe4: lemmas. No conditions. -/
import Derived.Test.YtdeobhdbmehpgaaGreatStage3
namespace Go.Proofs.YtdeobhdbmehpgaaGreat
noncomputable section
open Go.ChangeShapes Go.WideShapes Go.ChangeAt Go.RowKit Go.Deep
set_option linter.unusedVariables false
set_option linter.unusedSimpArgs false
theorem bCL {P:Nat→Prop} {k:Nat} (h:∀ i,i<k→P i) (h2:P k):∀ i,i<k+1→P i:=fun i hi=>by
 rcases Nat.lt_or_eq_of_le (Nat.le_of_lt_succ hi) with h'|rfl
 ·exact h i h'
 ·exact h2
end
end Go.Proofs.YtdeobhdbmehpgaaGreat
