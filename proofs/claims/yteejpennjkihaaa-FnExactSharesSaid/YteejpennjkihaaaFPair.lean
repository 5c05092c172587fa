/- What the cells of a value of the Go type Pair are. No program in sight. -/
import Derived.Test.YteejpennjkihaaaKit
import Derived.Test.YteejpennjkihaaaTPair
namespace Go.Proofs.Yteejpennjkihaaa
open Go.ChangeShapes Go.WideShapes Go.ChangeAt Go.RowKit Go.Deep
set_option linter.unusedVariables false
set_option linter.unusedSimpArgs false
theorem Pair_rd {w : World} {cs : Array Value} {d : Ty.D tPair} (h : rd tPair w cs.toList d) :
    ∃ p0 c0 p1 c1, cs = #[.slice p0 (List.length (d.1)) c0, .slice p1 (List.length (d.2)) c1] ∧ SlRd (Ty.n tInt) (rd tInt w) w p0 (List.length (d.1)) c0 (d.1) ∧ SlRd (Ty.n tInt) (rd tInt w) w p1 (List.length (d.2)) c1 (d.2) := by
  obtain ⟨_, _, hcs, ⟨p0, n0, q0, rfl, s0⟩, ⟨p1, n1, q1, rfl, s1⟩⟩ := h
  obtain rfl := s0.lens
  obtain rfl := s1.lens
  exact ⟨_, _, _, _, arr_of hcs, s0, s1⟩
theorem Pair_rep {w : World} {cs : Array Value} {d : Ty.D tPair} {bl : List Nat} (h : rep tPair w cs.toList d bl) :
    ∃ p0 c0 b0 p1 c1 b1, cs = #[.slice p0 (List.length (d.1)) c0, .slice p1 (List.length (d.2)) c1] ∧ bl = b0 ++ (b1) ∧ rep tInts w [.slice p0 (List.length (d.1)) c0] (d.1) b0 ∧ rep tInts w [.slice p1 (List.length (d.2)) c1] (d.2) b1 := by
  obtain ⟨_, _, _, _, hcs, rfl, r0, r1⟩ := h
  obtain ⟨p0, n0, q0, f0⟩ := rep_form r0
  subst f0
  obtain ⟨rfl, -⟩ := rep_len r0
  obtain ⟨p1, n1, q1, f1⟩ := rep_form r1
  subst f1
  obtain ⟨rfl, -⟩ := rep_len r1
  exact ⟨_, _, _, _, _, _, arr_of hcs, by simp, r0, r1⟩
theorem Pair_mk {w : World} {v0 : Value} {x0 : Ty.D tInts} {b0 : List Nat} (r0 : rep tInts w [v0] x0 b0) {v1 : Value} {x1 : Ty.D tInts} {b1 : List Nat} (r1 : rep tInts w [v1] x1 b1) : rep tPair w [v0, v1] ((x0, x1) : Ty.D tPair) (b0 ++ (b1)) := by
  have h : rep tPair w [v0, v1] ((x0, x1) : Ty.D tPair) (b0 ++ b1) := ⟨[_], [_], b0, b1, rfl, rfl, r0, r1⟩
  simpa using h
theorem Pair_at {w : World} {p : Option Addr} {len cap : Nat} {l : List (Ty.D tPair)} (h : SlRd (Ty.n tPair) (rd tPair w) w p len cap l) (k : Nat) (hk : k < List.length l) (x : Ty.D tPair) (hx : l[k] = x) :
    ∃ b off p0 c0 p1 c1, p = some ⟨b, off, none⟩ ∧ b < w.heap.size ∧ w.cell? ⟨b, off + k * 2, none⟩ = some (.slice p0 (List.length (x.1)) c0) ∧ w.cell? ⟨b, off + k * 2 + 1, none⟩ = some (.slice p1 (List.length (x.2)) c1) ∧ SlRd (Ty.n tInt) (rd tInt w) w p0 (List.length (x.1)) c0 (x.1) ∧ SlRd (Ty.n tInt) (rd tInt w) w p1 (List.length (x.2)) c1 (x.2) := by
  subst hx
  obtain ⟨b, off, hp, hb, cs, hl, hc, hr⟩ := h.2.2.2.2 k hk
  obtain ⟨p0, c0, p1, c1, hcs, s0, s1⟩ := Pair_rd (cs := cs.toArray) (by simpa using hr)
  obtain rfl := congrArg Array.toList hcs
  exact ⟨b, off, _, _, _, _, hp, hb, by simpa [Ty.n] using hc 0 (by simp), by simpa [Ty.n] using hc 1 (by simp), s0, s1⟩
end Go.Proofs.Yteejpennjkihaaa
