/- What the cells of a value of the Go type Model are. No program in sight. -/
import Derived.Test.YtiihghfoeinbbaaGreatCe
import Derived.Test.YtiihghfoeinbbaaGreatTModel
namespace Go.Proofs.YtiihghfoeinbbaaGreat
open Go.ChangeShapes Go.WideShapes Go.ChangeAt Go.RowKit Go.Deep
set_option linter.unusedVariables false
set_option linter.unusedSimpArgs false
theorem Model_rd {w : World} {cs : Array Value} {d : Ty.D tModel} (h : rd tModel w cs.toList d) :
    ∃ p0 c0, cs = #[.slice p0 (List.length (d)) c0] ∧ SlRd (Ty.n tOp) (rd tOp w) w p0 (List.length (d)) c0 (d) := by
  obtain ⟨p0, n0, q0, hcs, s0⟩ := h
  obtain rfl := s0.lens
  exact ⟨_, _, arr_of hcs, s0⟩
end Go.Proofs.YtiihghfoeinbbaaGreat
