/- RunS0: lemmas. No conditions. -/
import Derived.Test.YtiihghfoeinbbaaGreatCoreM
import Derived.Test.YtiihghfoeinbbaaGreatCe
import Derived.Test.YtiihghfoeinbbaaGreatTConfig
import Derived.Test.YtiihghfoeinbbaaGreatTPair
import Derived.Test.YtiihghfoeinbbaaGreatTSim
namespace Go.Proofs.YtiihghfoeinbbaaGreat
open Go.ChangeShapes Go.WideShapes Go.ChangeAt Go.RowKit Go.Deep
set_option linter.unusedVariables false
theorem aYN (d:bN) (l:List bW) (hz0:((bD aC d:Nat):Int)≤1048576) (hz1:((bD aN l:Nat):Int)≤1048576 - (bD aC d:Nat)):(bD aC d≤2000000∧bD aN l≤2000000)∧(bD aC d≤2000000∧bD aN l≤2000000):=⟨⟨by omega,by omega⟩,by omega,by omega⟩
end Go.Proofs.YtiihghfoeinbbaaGreat
