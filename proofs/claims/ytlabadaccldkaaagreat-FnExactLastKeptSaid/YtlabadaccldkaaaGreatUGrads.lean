/- UGrads: lemmas. No conditions. -/
import Derived.Test.YtlabadaccldkaaaGreatTGrads
import Derived.Test.YtlabadaccldkaaaGreatUPath
import Derived.Test.YtlabadaccldkaaaGreatURow
namespace Go.Proofs.YtlabadaccldkaaaGreat
open Go.ChangeShapes Go.WideShapes Go.ChangeAt Go.RowKit
set_option linter.unusedVariables false
set_option linter.unusedSimpArgs false
end Go.Proofs.YtlabadaccldkaaaGreat
