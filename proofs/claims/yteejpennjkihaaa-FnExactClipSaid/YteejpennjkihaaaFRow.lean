/- What the cells of a value of the Go type Row are. No program in sight. -/
import Derived.Test.YteejpennjkihaaaKit
import Derived.Test.YteejpennjkihaaaTRow
namespace Go.Proofs.Yteejpennjkihaaa
open Go.ChangeShapes Go.WideShapes Go.ChangeAt Go.RowKit Go.Deep
set_option linter.unusedVariables false
set_option linter.unusedSimpArgs false
theorem Row_rd {w : World} {cs : Array Value} {d : Ty.D tRow} (h : rd tRow w cs.toList d) :
    ∃ p0 c0, cs = #[.slice p0 (List.length (d)) c0] ∧ SlRd (Ty.n tInt) (rd tInt w) w p0 (List.length (d)) c0 (d) := by
  obtain ⟨p0, n0, q0, hcs, s0⟩ := h
  obtain rfl := s0.lens
  exact ⟨_, _, arr_of hcs, s0⟩
theorem Row_rep {w : World} {cs : Array Value} {d : Ty.D tRow} {bl : List Nat} (h : rep tRow w cs.toList d bl) :
    ∃ p0 c0 b0, cs = #[.slice p0 (List.length (d)) c0] ∧ bl = b0 ∧ rep tInts w [.slice p0 (List.length (d)) c0] (d) b0 := by
  have r0 := h
  obtain ⟨p0, n0, q0, f0⟩ := rep_form r0
  rw [f0] at r0
  obtain ⟨rfl, -⟩ := rep_len r0
  have hcs := f0
  exact ⟨_, _, _, arr_of hcs, by simp, r0⟩
theorem Row_mk {w : World} {v0 : Value} {x0 : Ty.D tInts} {b0 : List Nat} (r0 : rep tInts w [v0] x0 b0) : rep tRow w [v0] (x0 : Ty.D tRow) (b0) := by
  have h : rep tRow w [v0] (x0 : Ty.D tRow) b0 := r0
  exact h
end Go.Proofs.Yteejpennjkihaaa
