/- Pipes as text: what is asked ahead. -/
import Derived.Test.YtbbbpbioehnblaaGreatShow4
import Derived.Test.YtbbbpbioehnblaaGreatCe
import Derived.Test.YtbbbpbioehnblaaGreatTPipe
namespace Go.Proofs.YtbbbpbioehnblaaGreat
set_option linter.unusedVariables false
theorem p_ShowPipe (d0 : Ty.D tPipe) (hz : ((szT tPipe d0 : Nat) : Int) ≤ 1048576) : True ∧ True := ⟨trivial, trivial⟩
end Go.Proofs.YtbbbpbioehnblaaGreat
