/- What the cells of a value of the Go type Grads are. No program in sight. -/
import Derived.Test.YteejpennjkihaaaKit
import Derived.Test.YteejpennjkihaaaTGrads
namespace Go.Proofs.Yteejpennjkihaaa
open Go.ChangeShapes Go.WideShapes Go.ChangeAt Go.RowKit Go.Deep
set_option linter.unusedVariables false
set_option linter.unusedSimpArgs false
theorem Grads_rd {w : World} {cs : Array Value} {d : Ty.D tGrads} (h : rd tGrads w cs.toList d) :
    ∃ p0 c0, cs = #[.slice p0 (List.length (d.1)) c0, .int .i64 (d.2.1), .bool (d.2.2)] ∧ SlRd (Ty.n tRow) (rd tRow w) w p0 (List.length (d.1)) c0 (d.1) ∧ (Lit.int .i64 (d.2.1)).wf = true := by
  obtain ⟨_, _, hcs, ⟨p0, n0, q0, rfl, s0⟩, ⟨_, _, rfl, ⟨rfl, w1⟩, rfl⟩⟩ := h
  obtain rfl := s0.lens
  exact ⟨_, _, arr_of hcs, s0, w1⟩
theorem Grads_rep {w : World} {cs : Array Value} {d : Ty.D tGrads} {bl : List Nat} (h : rep tGrads w cs.toList d bl) :
    ∃ p0 c0 b0, cs = #[.slice p0 (List.length (d.1)) c0, .int .i64 (d.2.1), .bool (d.2.2)] ∧ bl = b0 ∧ rep (.slice 136 tRow) w [.slice p0 (List.length (d.1)) c0] (d.1) b0 ∧ (Lit.int .i64 (d.2.1)).wf = true := by
  obtain ⟨_, _, _, _, hcs, rfl, r0, ⟨_, _, _, _, rfl, rfl, ⟨rfl, w1, rfl⟩, ⟨rfl, rfl⟩⟩⟩ := h
  obtain ⟨p0, n0, q0, f0⟩ := rep_form r0
  subst f0
  obtain ⟨rfl, -⟩ := rep_len r0
  exact ⟨_, _, _, arr_of hcs, by simp, r0, w1⟩
theorem Grads_mk {w : World} {v0 : Value} {x0 : Ty.D (.slice 136 tRow)} {b0 : List Nat} (r0 : rep (.slice 136 tRow) w [v0] x0 b0) {x1 : Int} (w1 : (Lit.int .i64 x1).wf = true) {x2 : Bool} : rep tGrads w [v0, .int .i64 x1, .bool x2] ((x0, (x1, x2)) : Ty.D tGrads) (b0) := by
  have h : rep tGrads w [v0, .int .i64 x1, .bool x2] ((x0, (x1, x2)) : Ty.D tGrads) (b0 ++ ([] ++ [])) := ⟨[_], [_, _], b0, ([] ++ []), rfl, rfl, r0, ⟨[_], [_], [], [], rfl, rfl, ⟨rfl, w1, rfl⟩, ⟨rfl, rfl⟩⟩⟩
  simpa using h
end Go.Proofs.Yteejpennjkihaaa
