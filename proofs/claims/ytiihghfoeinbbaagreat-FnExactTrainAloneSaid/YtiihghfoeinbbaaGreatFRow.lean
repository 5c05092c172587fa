/- What the cells of a value of the Go type Row are. No program in sight. -/
import Derived.Test.YtiihghfoeinbbaaGreatCe
import Derived.Test.YtiihghfoeinbbaaGreatTRow
namespace Go.Proofs.YtiihghfoeinbbaaGreat
open Go.ChangeShapes Go.WideShapes Go.ChangeAt Go.RowKit Go.Deep
set_option linter.unusedVariables false
set_option linter.unusedSimpArgs false
theorem Row_rd {w : World} {cs : Array Value} {d : Ty.D tRow} (h : rd tRow w cs.toList d) :
    ∃ p0 c0, cs = #[.slice p0 (List.length (d)) c0] ∧ SlRd (Ty.n tInt) (rd tInt w) w p0 (List.length (d)) c0 (d) := by
  obtain ⟨p0, n0, q0, hcs, s0⟩ := h
  obtain rfl := s0.lens
  exact ⟨_, _, arr_of hcs, s0⟩
theorem Row_at {w : World} {p : Option Addr} {len cap : Nat} {l : List (Ty.D tRow)} (h : SlRd (Ty.n tRow) (rd tRow w) w p len cap l) (k : Nat) (hk : k < List.length l) (x : Ty.D tRow) (hx : l[k] = x) :
    ∃ b off p0 c0, p = some ⟨b, off, none⟩ ∧ b < w.heap.size ∧ w.cell? ⟨b, off + k, none⟩ = some (.slice p0 (List.length (x)) c0) ∧ SlRd (Ty.n tInt) (rd tInt w) w p0 (List.length (x)) c0 (x) := by
  subst hx
  obtain ⟨b, off, hp, hb, cs, hl, hc, hr⟩ := h.2.2.2.2 k hk
  obtain ⟨p0, c0, hcs, s0⟩ := Row_rd (cs := cs.toArray) (by simpa using hr)
  obtain rfl := congrArg Array.toList hcs
  exact ⟨b, off, _, _, hp, hb, by simpa [Ty.n] using hc 0 (by simp), s0⟩
end Go.Proofs.YtiihghfoeinbbaaGreat
