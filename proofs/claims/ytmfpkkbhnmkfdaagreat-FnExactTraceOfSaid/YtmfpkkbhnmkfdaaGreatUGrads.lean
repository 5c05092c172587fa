/- Marks over rows that are met once: Grads. -/
import Derived.Test.YtmfpkkbhnmkfdaaGreatTGrads
import Derived.Test.YtmfpkkbhnmkfdaaGreatUPath
import Derived.Test.YtmfpkkbhnmkfdaaGreatURow
namespace Go.Proofs.YtmfpkkbhnmkfdaaGreat
open Go.ChangeShapes Go.WideShapes Go.ChangeAt Go.RowKit
set_option linter.unusedVariables false
set_option linter.unusedSimpArgs false
end Go.Proofs.YtmfpkkbhnmkfdaaGreat
