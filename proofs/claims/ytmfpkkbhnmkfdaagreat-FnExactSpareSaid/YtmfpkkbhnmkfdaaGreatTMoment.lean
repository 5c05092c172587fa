/- TMoment: lemmas. No conditions. -/
import Derived.Test.YtmfpkkbhnmkfdaaGreatCe
namespace Go.Proofs.YtmfpkkbhnmkfdaaGreat
open Go.ChangeShapes Go.WideShapes Go.ChangeAt Go.RowKit
set_option linter.unusedVariables false
set_option linter.unusedSimpArgs false
end Go.Proofs.YtmfpkkbhnmkfdaaGreat
