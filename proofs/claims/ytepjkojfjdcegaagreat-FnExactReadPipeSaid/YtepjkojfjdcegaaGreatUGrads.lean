/- Marks over rows that are met once: Grads. -/
import Derived.Test.YtepjkojfjdcegaaGreatTGrads
import Derived.Test.YtepjkojfjdcegaaGreatUPath
import Derived.Test.YtepjkojfjdcegaaGreatURow
namespace Go.Proofs.YtepjkojfjdcegaaGreat
open Go.ChangeShapes Go.WideShapes Go.ChangeAt Go.RowKit
set_option linter.unusedVariables false
set_option linter.unusedSimpArgs false
end Go.Proofs.YtepjkojfjdcegaaGreat
