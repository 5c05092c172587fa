/- The laws' own helpers over Row: copy, compare, count, mark, look at the marks. -/
import Derived.Test.YtiihghfoeinbbaaGreatCe
namespace Go.Proofs.YtiihghfoeinbbaaGreat
open Go.ChangeShapes Go.WideShapes Go.ChangeAt Go.RowKit
set_option linter.unusedVariables false
set_option linter.unusedSimpArgs false
end Go.Proofs.YtiihghfoeinbbaaGreat
