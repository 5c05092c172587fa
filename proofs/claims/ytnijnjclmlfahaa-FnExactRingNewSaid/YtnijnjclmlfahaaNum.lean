/- Is a number between two others? -/
import Derived.Test.YtnijnjclmlfahaaInts
import Derived.Test.YtnijnjclmlfahaaFix
namespace Go.Proofs.Ytnijnjclmlfahaa
open Go.ChangeShapes Go.WideShapes Go.ChangeAt Go.RowKit Go.Deep
set_option linter.unusedVariables false
set_option linter.unusedSimpArgs false

theorem l1In_yes (x a b : Int) (w : World) (h1 : a ≤ x) (h2 : x ≤ b) : Calls Try.prog 86 #[.int .i64 x, .int .i64 a, .int .i64 b] w (RetW (.bool true) w) := by
  go_enter Try.func86, Try.ntmps86
  go_wp2
  go_ret
  exact ⟨rfl, rfl⟩
theorem l1In_no (x a b : Int) (w : World) (h : x < a ∨ b < x) : Calls Try.prog 86 #[.int .i64 x, .int .i64 a, .int .i64 b] w (RetW (.bool false) w) := by
  by_cases h1 : a ≤ x
  · have h2 : ¬ x ≤ b := by omega
    have hd : decide (x ≤ b) = false := by simpa using h2
    go_enter Try.func86, Try.ntmps86
    go_wp2
    go_ret
    exact ⟨rfl, rfl⟩
  · have hd : decide (a ≤ x) = false := by simpa using h1
    go_enter Try.func86, Try.ntmps86
    go_wp2
    go_ret
    exact ⟨rfl, rfl⟩
end Go.Proofs.Ytnijnjclmlfahaa
