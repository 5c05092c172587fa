/- Read7: lemmas. No conditions. -/
import Derived.Test.YtdeobhdbmehpgaaGreatRead6
namespace Go.Proofs.YtdeobhdbmehpgaaGreat
open Go.ChangeShapes Go.WideShapes Go.ChangeAt Go.RowKit Go.Deep
set_option linter.unusedVariables false
set_option linter.unusedSimpArgs false
def bEE:aM:=bG aB
end Go.Proofs.YtdeobhdbmehpgaaGreat
