/- Numbers with a point: what the program's and the reference's small functions tell. -/
import Derived.Test.YtnijnjclmlfahaaInts
namespace Go.Proofs.Ytnijnjclmlfahaa
open Go.ChangeShapes Go.WideShapes Go.ChangeAt Go.RowKit
set_option linter.unusedVariables false
set_option linter.unusedSimpArgs false

/-- A number taken into the range. -/
def cl (x : Int) : Int := if x < -2147483647 then -2147483647 else if 2147483647 < x then 2147483647 else x
/-- Is it out of the range? -/
def ou (x : Int) : Bool := decide (x < -2147483647) || decide (2147483647 < x)

theorem cl_bounds (x : Int) : -2147483647 ≤ cl x ∧ cl x ≤ 2147483647 := by unfold cl; split <;> (try split) <;> omega
theorem cl_lo {x : Int} (h : x < -2147483647) : cl x = -2147483647 := by unfold cl; rw [if_pos h]
theorem cl_hi {x : Int} (h : 2147483647 < x) : cl x = 2147483647 := by unfold cl; rw [if_neg (by omega), if_pos h]
theorem cl_in {x : Int} (h1 : ¬ x < -2147483647) (h2 : ¬ 2147483647 < x) : cl x = x := by unfold cl; rw [if_neg h1, if_neg h2]
theorem ou_lo {x : Int} (h : x < -2147483647) : ou x = true := by unfold ou; simp [h]
theorem ou_hi {x : Int} (h : 2147483647 < x) : ou x = true := by unfold ou; simp [h]
theorem ou_in {x : Int} (h1 : ¬ x < -2147483647) (h2 : ¬ 2147483647 < x) : ou x = false := by unfold ou; simp [h1, h2]

/-- Ends of a call that leaves the world alone. -/
def RetW (v : Value) (w : World) (r : Ending) (w' : World) : Prop := r = .returned v ∧ w = w'

theorem clamp_any (x : Int) (w : World) : Calls Try.prog 108 #[.int .i64 x] w (RetW (.int .i64 (cl x)) w) := by
  by_cases h1 : x < -2147483647
  · have h3 : ¬ (2147483647 : Int) < -2147483647 := by decide
    go_enter Try.func108, Try.ntmps108
    go_wp2
    go_ret
    exact ⟨ret_int (by rw [cl_lo (by omega)]; try rfl), rfl⟩
  · by_cases h2 : 2147483647 < x
    · go_enter Try.func108, Try.ntmps108
      go_wp2
      all_goals go_ret
      all_goals exact ⟨ret_int (by rw [cl_hi (by omega)]; try (first | rfl | omega)), rfl⟩
    · go_enter Try.func108, Try.ntmps108
      go_wp2
      all_goals go_ret
      all_goals exact ⟨ret_int (by rw [cl_in (by omega) (by omega)]; try (first | rfl | omega)), rfl⟩

theorem l2Sat_any (x : Int) (w : World) : Calls Try.prog 141 #[.int .i64 x] w (RetW (.tuple #[.int .i64 (cl x), .bool (ou x)]) w) := by
  by_cases h1 : x < -2147483647
  · have h2 : ¬ 2147483647 < x := by omega
    go_enter Try.func141, Try.ntmps141
    go_wp2
    go_ret2
    exact ⟨by rw [cl_lo (by omega), ou_lo (by omega)]; rfl, rfl⟩
  · by_cases h2 : 2147483647 < x
    · go_enter Try.func141, Try.ntmps141
      go_wp2
      go_ret2
      exact ⟨by rw [cl_hi (by omega), ou_hi (by omega)]; rfl, rfl⟩
    · go_enter Try.func141, Try.ntmps141
      go_wp2
      go_ret2
      exact ⟨by rw [cl_in (by omega) (by omega), ou_in (by omega) (by omega)]; rfl, rfl⟩

theorem l2In_any (x : Int) (w : World) : Calls Try.prog 109 #[.int .i64 x] w (RetW (.int .i64 (cl x)) w) := by
  go_enter Try.func109, Try.ntmps109
  go_wp2_with fail
  refine (l2Sat_any x _).mono ?_
  rintro e w' ⟨rfl, rfl⟩
  go_wp2
  go_ret
  exact ⟨rfl, rfl⟩

theorem specFixNeg_any (x : Int) (w : World) : Calls Try.prog 110 #[.int .i64 x] w (RetW (.int .i64 (-(cl x))) w) := by
  have hb := cl_bounds x
  obtain ⟨hb1, hb2⟩ := hb
  go_enter Try.func110, Try.ntmps110
  go_wp2_with fail
  refine (l2In_any x _).mono ?_
  rintro e w' ⟨rfl, rfl⟩
  go_wp2
  go_ret
  exact ⟨rfl, rfl⟩
end Go.Proofs.Ytnijnjclmlfahaa
