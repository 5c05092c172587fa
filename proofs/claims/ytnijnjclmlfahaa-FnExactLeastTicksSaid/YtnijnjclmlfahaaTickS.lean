/- Sizes: plans of a configuration. -/
import Derived.Test.YtnijnjclmlfahaaTicks2
import Derived.Test.YtnijnjclmlfahaaCe
import Derived.Test.YtnijnjclmlfahaaTConfig
namespace Go.Proofs.Ytnijnjclmlfahaa
open Go.ChangeShapes Go.WideShapes Go.ChangeAt Go.RowKit Go.Deep
set_option linter.unusedVariables false
set_option linter.unusedSimpArgs false

theorem confP_of {c : tConfig.D} (h : szT tConfig c ≤ 1048576) : ConfP c :=
  have b : LenB tConfig c := lenB_of h
  ⟨⟨b.1.1, fun o ho => (b.1.2 o ho).2.2.2.1⟩, b.2.1.1, b.2.2.2.1.1, b.2.2.2.2.1.1, b.2.2.2.2.2.1⟩
theorem p_LeastTicks (c : Ty.D tConfig) (x : Int) (hz : ((szT tConfig c : Nat) : Int) ≤ 1048576) : ConfP c ∧ ConfP c := ⟨confP_of (by omega), confP_of (by omega)⟩
end Go.Proofs.Ytnijnjclmlfahaa
