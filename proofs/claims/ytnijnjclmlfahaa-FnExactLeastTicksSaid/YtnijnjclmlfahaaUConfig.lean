/- Marks over rows that are met once: Config. -/
import Derived.Test.YtnijnjclmlfahaaTConfig
import Derived.Test.YtnijnjclmlfahaaCe
import Derived.Test.YtnijnjclmlfahaaUBools
import Derived.Test.YtnijnjclmlfahaaUModel
namespace Go.Proofs.Ytnijnjclmlfahaa
open Go.ChangeShapes Go.WideShapes Go.ChangeAt Go.RowKit
set_option linter.unusedVariables false
set_option linter.unusedSimpArgs false


end Go.Proofs.Ytnijnjclmlfahaa
