/- What the cells of a value of the Go type Grads are. No program in sight. -/
import Derived.Test.YtiihghfoeinbbaaGreatCe
import Derived.Test.YtiihghfoeinbbaaGreatTGrads
namespace Go.Proofs.YtiihghfoeinbbaaGreat
open Go.ChangeShapes Go.WideShapes Go.ChangeAt Go.RowKit Go.Deep
set_option linter.unusedVariables false
set_option linter.unusedSimpArgs false
theorem Grads_rd {w : World} {cs : Array Value} {d : Ty.D tGrads} (h : rd tGrads w cs.toList d) :
    ∃ p0 c0, cs = #[.slice p0 (List.length (d.1)) c0, .int .i64 (d.2.1), .bool (d.2.2)] ∧ SlRd (Ty.n tRow) (rd tRow w) w p0 (List.length (d.1)) c0 (d.1) ∧ (Lit.int .i64 (d.2.1)).wf = true := by
  obtain ⟨_, _, hcs, ⟨p0, n0, q0, rfl, s0⟩, ⟨_, _, rfl, ⟨rfl, w1⟩, rfl⟩⟩ := h
  obtain rfl := s0.lens
  exact ⟨_, _, arr_of hcs, s0, w1⟩
end Go.Proofs.YtiihghfoeinbbaaGreat
