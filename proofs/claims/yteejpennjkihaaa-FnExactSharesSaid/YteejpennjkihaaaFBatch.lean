/- What the cells of a value of the Go type Batch are. No program in sight. -/
import Derived.Test.YteejpennjkihaaaKit
import Derived.Test.YteejpennjkihaaaTBatch
namespace Go.Proofs.Yteejpennjkihaaa
open Go.ChangeShapes Go.WideShapes Go.ChangeAt Go.RowKit Go.Deep
set_option linter.unusedVariables false
set_option linter.unusedSimpArgs false
theorem Batch_rd {w : World} {cs : Array Value} {d : Ty.D tBatch} (h : rd tBatch w cs.toList d) :
    ∃ p0 c0, cs = #[.slice p0 (List.length (d)) c0] ∧ SlRd (Ty.n tPair) (rd tPair w) w p0 (List.length (d)) c0 (d) := by
  obtain ⟨p0, n0, q0, hcs, s0⟩ := h
  obtain rfl := s0.lens
  exact ⟨_, _, arr_of hcs, s0⟩
theorem Batch_rep {w : World} {cs : Array Value} {d : Ty.D tBatch} {bl : List Nat} (h : rep tBatch w cs.toList d bl) :
    ∃ p0 c0 b0, cs = #[.slice p0 (List.length (d)) c0] ∧ bl = b0 ∧ rep (.slice 91 tPair) w [.slice p0 (List.length (d)) c0] (d) b0 := by
  have r0 := h
  obtain ⟨p0, n0, q0, f0⟩ := rep_form r0
  rw [f0] at r0
  obtain ⟨rfl, -⟩ := rep_len r0
  have hcs := f0
  exact ⟨_, _, _, arr_of hcs, by simp, r0⟩
theorem Batch_mk {w : World} {v0 : Value} {x0 : Ty.D (.slice 91 tPair)} {b0 : List Nat} (r0 : rep (.slice 91 tPair) w [v0] x0 b0) : rep tBatch w [v0] (x0 : Ty.D tBatch) (b0) := by
  have h : rep tBatch w [v0] (x0 : Ty.D tBatch) b0 := r0
  exact h
theorem Batch_at {w : World} {p : Option Addr} {len cap : Nat} {l : List (Ty.D tBatch)} (h : SlRd (Ty.n tBatch) (rd tBatch w) w p len cap l) (k : Nat) (hk : k < List.length l) (x : Ty.D tBatch) (hx : l[k] = x) :
    ∃ b off p0 c0, p = some ⟨b, off, none⟩ ∧ b < w.heap.size ∧ w.cell? ⟨b, off + k, none⟩ = some (.slice p0 (List.length (x)) c0) ∧ SlRd (Ty.n tPair) (rd tPair w) w p0 (List.length (x)) c0 (x) := by
  subst hx
  obtain ⟨b, off, hp, hb, cs, hl, hc, hr⟩ := h.2.2.2.2 k hk
  obtain ⟨p0, c0, hcs, s0⟩ := Batch_rd (cs := cs.toArray) (by simpa using hr)
  obtain rfl := congrArg Array.toList hcs
  exact ⟨b, off, _, _, hp, hb, by simpa [Ty.n] using hc 0 (by simp), s0⟩
end Go.Proofs.Yteejpennjkihaaa
