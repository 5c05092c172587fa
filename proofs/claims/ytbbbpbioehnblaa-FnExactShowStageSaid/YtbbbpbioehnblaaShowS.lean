/- Stages as text: what is asked ahead. -/
import Derived.Test.YtbbbpbioehnblaaShow3
import Derived.Test.YtbbbpbioehnblaaCe
import Derived.Test.YtbbbpbioehnblaaTStage
namespace Go.Proofs.Ytbbbpbioehnblaa
set_option linter.unusedVariables false
theorem p_ShowStage (d0 : Ty.D tStage) (hz : ((szT tStage d0 : Nat) : Int) ≤ 1048576) : True ∧ True := ⟨trivial, trivial⟩
end Go.Proofs.Ytbbbpbioehnblaa
