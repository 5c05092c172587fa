/- CoreT: lemmas. No conditions. -/
import Derived.Test.YtmfpkkbhnmkfdaaGreatCoreP
import Derived.Test.YtmfpkkbhnmkfdaaGreatCoreL
namespace Go.Proofs.YtmfpkkbhnmkfdaaGreat
noncomputable section
open Go.ChangeShapes Go.WideShapes Go.ChangeAt Go.RowKit Go.Deep
set_option linter.unusedVariables false
set_option linter.unusedSimpArgs false
end
end Go.Proofs.YtmfpkkbhnmkfdaaGreat
