/- The walk of FnExactOpWord: the program's OpWord and the reference's return the same text, for every kind. -/
import Derived.Test.YteejpennjkihaaaBase
namespace Go.Proofs.Yteejpennjkihaaa
open Go.ChangeShapes Go.WideShapes Go.ChangeAt Go.RowKit
set_option linter.unusedVariables false

theorem i64_of {a0 : Int} (w0 : (Lit.int .i64 a0).wf = true) : -9223372036854775808 ≤ a0 ∧ a0 ≤ 9223372036854775807 := by
  simpa [Lit.wf, IntKind.min, IntKind.max, IntKind.signed, IntKind.bits] using w0

theorem fnExactOpWord_walk (w : World) (a0 : Int) (w0 : (Lit.int .i64 a0).wf = true) :
    Calls Try.prog 3 #[.int .i64 a0] w fun e w' => e = .returned (.bool true) ∧ Below w.heap.size w w' := by
  have hx := i64_of w0
  clear w0
  by_cases h : 1 ≤ a0 ∧ a0 ≤ 5
  · obtain ⟨h1, h5⟩ := h
    obtain rfl | rfl | rfl | rfl | rfl : a0 = 1 ∨ a0 = 2 ∨ a0 = 3 ∨ a0 = 4 ∨ a0 = 5 := by omega
    all_goals
      go_enter Try.func3, Try.ntmps3
      go_wp2
      go_ret
      exact ⟨rfl, (Below.refl _ _).alloc (Nat.le_refl _) _⟩
  · have e1 : (a0 == 1) = false := by simp; omega
    have e2 : (a0 == 2) = false := by simp; omega
    have e3 : (a0 == 3) = false := by simp; omega
    have e4 : (a0 == 4) = false := by simp; omega
    have e5 : (a0 == 5) = false := by simp; omega
    by_cases h1 : 1 ≤ a0
    · have h5 : 5 < a0 := by omega
      have h5' : decide (a0 ≤ 5) = false := by simp; omega
      clear h
      go_enter Try.func3, Try.ntmps3
      go_wp2
      go_ret
      exact ⟨rfl, Below.refl _ _⟩
    · have h1' : a0 < 1 := by omega
      have h5' : decide (1 ≤ a0) = false := by simp; omega
      clear h
      go_enter Try.func3, Try.ntmps3
      go_wp2
      go_ret
      exact ⟨rfl, Below.refl _ _⟩
end Go.Proofs.Yteejpennjkihaaa
