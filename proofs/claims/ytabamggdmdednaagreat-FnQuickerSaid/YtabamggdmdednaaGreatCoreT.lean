/- CoreT: lemmas. No conditions. -/
import Derived.Test.YtabamggdmdednaaGreatCoreP
import Derived.Test.YtabamggdmdednaaGreatCoreL
namespace Go.Proofs.YtabamggdmdednaaGreat
open Go.ChangeShapes Go.WideShapes Go.ChangeAt Go.RowKit Go.Deep
set_option linter.unusedVariables false
set_option linter.unusedSimpArgs false
end Go.Proofs.YtabamggdmdednaaGreat
