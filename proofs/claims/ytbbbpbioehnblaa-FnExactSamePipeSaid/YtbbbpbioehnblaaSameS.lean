/- Sameness: what is asked ahead. -/
import Derived.Test.YtbbbpbioehnblaaSame3
import Derived.Test.YtbbbpbioehnblaaCe
import Derived.Test.YtbbbpbioehnblaaTPipe
namespace Go.Proofs.Ytbbbpbioehnblaa
set_option linter.unusedVariables false
theorem p_SamePipe (a b : Ty.D tPipe) (hz : ((szT tPipe a : Nat) : Int) ≤ 1048576) (hz1 : ((szT tPipe b : Nat) : Int) ≤ 1048576 - (szT tPipe a : Nat)) : True ∧ True := ⟨trivial, trivial⟩
end Go.Proofs.Ytbbbpbioehnblaa
