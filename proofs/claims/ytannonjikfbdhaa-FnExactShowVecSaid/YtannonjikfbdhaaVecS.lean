/- Rows as text: what is asked ahead. -/
import Derived.Test.YtannonjikfbdhaaVec2
import Derived.Test.YtannonjikfbdhaaCe
namespace Go.Proofs.Ytannonjikfbdhaa
set_option linter.unusedVariables false
theorem p_ShowVec {e : TypeId} (l : List (Ty.D tInt)) (hz : ((szT (.slice e tInt) l : Nat) : Int) ≤ 1048576) : True ∧ True := ⟨trivial, trivial⟩
end Go.Proofs.Ytannonjikfbdhaa
