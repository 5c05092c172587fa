/- CoreL: trees, and what they say. -/
import Derived.Test.YtmfpkkbhnmkfdaaGreatCore9
namespace Go.Proofs.YtmfpkkbhnmkfdaaGreat
open Go.ChangeShapes Go.WideShapes Go.ChangeAt Go.RowKit Go.Deep
set_option linter.unusedVariables false
set_option linter.unusedSimpArgs false
end Go.Proofs.YtmfpkkbhnmkfdaaGreat
