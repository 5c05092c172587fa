/- Core8: lemmas. No conditions. -/
import Derived.Test.YtdeobhdbmehpgaaGreatCoreF
import Derived.Test.YtdeobhdbmehpgaaGreatCoreR
import Derived.Test.YtdeobhdbmehpgaaGreatCoreB
namespace Go.Proofs.YtdeobhdbmehpgaaGreat
noncomputable section
open Go.ChangeShapes Go.WideShapes Go.ChangeAt Go.RowKit Go.Deep
set_option linter.unusedVariables false
set_option linter.unusedSimpArgs false
def bBU (x:aM) (v:List Int):aM:=(x.1,x.2.1,x.2.2.1,x.2.2.2.1,x.2.2.2.2.1,x.2.2.2.2.2.1,x.2.2.2.2.2.2.1,x.2.2.2.2.2.2.2.1,x.2.2.2.2.2.2.2.2.1,v,x.2.2.2.2.2.2.2.2.2.2)
end
end Go.Proofs.YtdeobhdbmehpgaaGreat
