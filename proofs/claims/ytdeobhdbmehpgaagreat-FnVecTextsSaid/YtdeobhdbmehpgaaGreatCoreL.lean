/- CoreL: lemmas. No conditions. -/
import Derived.Test.YtdeobhdbmehpgaaGreatCore9
namespace Go.Proofs.YtdeobhdbmehpgaaGreat
noncomputable section
open Go.ChangeShapes Go.WideShapes Go.ChangeAt Go.RowKit Go.Deep
set_option linter.unusedVariables false
set_option linter.unusedSimpArgs false
end
end Go.Proofs.YtdeobhdbmehpgaaGreat
