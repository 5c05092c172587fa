/- DrawR: lemmas. No conditions. -/
import Derived.Test.YtdeobhdbmehpgaaGreatDraw2
namespace Go.Proofs.YtdeobhdbmehpgaaGreat
open Go.ChangeShapes Go.WideShapes Go.ChangeAt Go.RowKit Go.Deep
set_option linter.unusedVariables false
set_option linter.unusedSimpArgs false
end Go.Proofs.YtdeobhdbmehpgaaGreat
