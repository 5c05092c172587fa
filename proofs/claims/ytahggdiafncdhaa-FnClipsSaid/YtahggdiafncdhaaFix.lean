/- Numbers with a point: what the program's and the reference's small functions tell. -/
import Derived.Test.YtahggdiafncdhaaCe
namespace Go.Proofs.Ytahggdiafncdhaa
open Go.ChangeShapes Go.WideShapes Go.ChangeAt Go.RowKit
set_option linter.unusedVariables false
set_option linter.unusedSimpArgs false

/-- A number taken into the range. -/
def cl (x : Int) : Int := if x < -2147483647 then -2147483647 else if 2147483647 < x then 2147483647 else x
/-- Is it out of the range? -/
def ou (x : Int) : Bool := decide (x < -2147483647) || decide (2147483647 < x)

theorem cl_bounds (x : Int) : -2147483647 ≤ cl x ∧ cl x ≤ 2147483647 := by unfold cl; split <;> (try split) <;> omega
theorem cl_lo {x : Int} (h : x < -2147483647) : cl x = -2147483647 := by unfold cl; rw [if_pos h]
theorem cl_hi {x : Int} (h : 2147483647 < x) : cl x = 2147483647 := by unfold cl; rw [if_neg (by omega), if_pos h]
theorem cl_in {x : Int} (h1 : ¬ x < -2147483647) (h2 : ¬ 2147483647 < x) : cl x = x := by unfold cl; rw [if_neg h1, if_neg h2]
theorem ou_lo {x : Int} (h : x < -2147483647) : ou x = true := by unfold ou; simp [h]
theorem ou_hi {x : Int} (h : 2147483647 < x) : ou x = true := by unfold ou; simp [h]
theorem ou_in {x : Int} (h1 : ¬ x < -2147483647) (h2 : ¬ 2147483647 < x) : ou x = false := by unfold ou; simp [h1, h2]

/-- Ends of a call that leaves the world alone. -/
def RetW (v : Value) (w : World) (r : Ending) (w' : World) : Prop := r = .returned v ∧ w = w'

theorem clamp_any (x : Int) (w : World) : Calls Try.prog 64 #[.int .i64 x] w (RetW (.int .i64 (cl x)) w) := by
  by_cases h1 : x < -2147483647
  · have h3 : ¬ (2147483647 : Int) < -2147483647 := by decide
    go_enter Try.func64, Try.ntmps64
    go_wp2
    go_ret
    exact ⟨ret_int (by rw [cl_lo (by omega)]; try rfl), rfl⟩
  · by_cases h2 : 2147483647 < x
    · go_enter Try.func64, Try.ntmps64
      go_wp2
      all_goals go_ret
      all_goals exact ⟨ret_int (by rw [cl_hi (by omega)]; try (first | rfl | omega)), rfl⟩
    · go_enter Try.func64, Try.ntmps64
      go_wp2
      all_goals go_ret
      all_goals exact ⟨ret_int (by rw [cl_in (by omega) (by omega)]; try (first | rfl | omega)), rfl⟩

theorem l2Sat_any (x : Int) (w : World) : Calls Try.prog 121 #[.int .i64 x] w (RetW (.tuple #[.int .i64 (cl x), .bool (ou x)]) w) := by
  by_cases h1 : x < -2147483647
  · have h2 : ¬ 2147483647 < x := by omega
    go_enter Try.func121, Try.ntmps121
    go_wp2
    go_ret2
    exact ⟨by rw [cl_lo (by omega), ou_lo (by omega)]; rfl, rfl⟩
  · by_cases h2 : 2147483647 < x
    · go_enter Try.func121, Try.ntmps121
      go_wp2
      go_ret2
      exact ⟨by rw [cl_hi (by omega), ou_hi (by omega)]; rfl, rfl⟩
    · go_enter Try.func121, Try.ntmps121
      go_wp2
      go_ret2
      exact ⟨by rw [cl_in (by omega) (by omega), ou_in (by omega) (by omega)]; rfl, rfl⟩

theorem l2In_any (x : Int) (w : World) : Calls Try.prog 65 #[.int .i64 x] w (RetW (.int .i64 (cl x)) w) := by
  go_enter Try.func65, Try.ntmps65
  go_wp2_with fail
  refine (l2Sat_any x _).mono ?_
  rintro e w' ⟨rfl, rfl⟩
  go_wp2
  go_ret
  exact ⟨rfl, rfl⟩

theorem specFixNeg_any (x : Int) (w : World) : Calls Try.prog 66 #[.int .i64 x] w (RetW (.int .i64 (-(cl x))) w) := by
  have hb := cl_bounds x
  obtain ⟨hb1, hb2⟩ := hb
  go_enter Try.func66, Try.ntmps66
  go_wp2_with fail
  refine (l2In_any x _).mono ?_
  rintro e w' ⟨rfl, rfl⟩
  go_wp2
  go_ret
  exact ⟨rfl, rfl⟩

theorem implFixOk_any (x : Int) (w : World) : Calls Try.prog 74 #[.int .i64 x] w (RetW (.bool (!ou x)) w) := by
  by_cases h1 : x < -2147483647
  · have hd : decide (-2147483647 ≤ x) = false := by simp; omega
    go_enter Try.func74, Try.ntmps74
    go_wp2
    go_ret
    exact ⟨by rw [ou_lo (by omega)]; rfl, rfl⟩
  · by_cases h2 : 2147483647 < x
    · have hd : decide (x ≤ 2147483647) = false := by simp; omega
      go_enter Try.func74, Try.ntmps74
      go_wp2
      go_ret
      exact ⟨by rw [ou_hi (by omega)]; rfl, rfl⟩
    · go_enter Try.func74, Try.ntmps74
      go_wp2
      go_ret
      exact ⟨by rw [ou_in (by omega) (by omega)]; rfl, rfl⟩

theorem settle_any (x : Int) (w : World) : Calls Try.prog 129 #[.int .i64 x] w (RetW (.tuple #[.int .i64 (cl x), .bool (ou x)]) w) := by
  go_enter Try.func129, Try.ntmps129
  go_wp2_with fail
  refine (clamp_any x _).mono ?_
  rintro e w' ⟨rfl, rfl⟩
  go_wp2_with fail
  refine (implFixOk_any x _).mono ?_
  rintro e w' ⟨rfl, rfl⟩
  go_wp2
  go_ret2
  exact ⟨by simp, rfl⟩

def fadd (a b : Int) : Int := cl (cl a + cl b)
def oadd (a b : Int) : Bool := ou (cl a + cl b)
def fsub (a b : Int) : Int := cl (cl a - cl b)
def osub (a b : Int) : Bool := ou (cl a - cl b)
def fmul (a b : Int) : Int := cl (cl a * cl b / 65536)
def omul (a b : Int) : Bool := ou (cl a * cl b / 65536)

theorem implFixAdd_any (a b : Int) (w : World) : Calls Try.prog 91 #[.int .i64 a, .int .i64 b] w (RetW (.tuple #[.int .i64 (fadd a b), .bool (oadd a b)]) w) := by
  have h1 := cl_bounds a
  have h2 := cl_bounds b
  obtain ⟨h11, h12⟩ := h1
  obtain ⟨h21, h22⟩ := h2
  go_enter Try.func91, Try.ntmps91
  go_wp2_with fail
  refine (clamp_any a _).mono ?_
  rintro e w' ⟨rfl, rfl⟩
  go_wp2_with fail
  refine (clamp_any b _).mono ?_
  rintro e w' ⟨rfl, rfl⟩
  go_wp2_with fail
  refine (settle_any (cl a + cl b) _).mono ?_
  rintro e w' ⟨rfl, rfl⟩
  go_wp2
  go_ret2
  exact ⟨rfl, rfl⟩
theorem specFixAdd_any (a b : Int) (w : World) : Calls Try.prog 87 #[.int .i64 a, .int .i64 b] w (RetW (.tuple #[.int .i64 (fadd a b), .bool (oadd a b)]) w) := by
  have h1 := cl_bounds a
  have h2 := cl_bounds b
  obtain ⟨h11, h12⟩ := h1
  obtain ⟨h21, h22⟩ := h2
  go_enter Try.func87, Try.ntmps87
  go_wp2_with fail
  refine (l2In_any a _).mono ?_
  rintro e w' ⟨rfl, rfl⟩
  go_wp2_with fail
  refine (l2In_any b _).mono ?_
  rintro e w' ⟨rfl, rfl⟩
  go_wp2_with fail
  refine (l2Sat_any (cl a + cl b) _).mono ?_
  rintro e w' ⟨rfl, rfl⟩
  go_wp2
  go_ret2
  exact ⟨rfl, rfl⟩
theorem implFixSub_any (a b : Int) (w : World) : Calls Try.prog 77 #[.int .i64 a, .int .i64 b] w (RetW (.tuple #[.int .i64 (fsub a b), .bool (osub a b)]) w) := by
  have h1 := cl_bounds a
  have h2 := cl_bounds b
  obtain ⟨h11, h12⟩ := h1
  obtain ⟨h21, h22⟩ := h2
  go_enter Try.func77, Try.ntmps77
  go_wp2_with fail
  refine (clamp_any a _).mono ?_
  rintro e w' ⟨rfl, rfl⟩
  go_wp2_with fail
  refine (clamp_any b _).mono ?_
  rintro e w' ⟨rfl, rfl⟩
  go_wp2_with fail
  refine (settle_any (cl a - cl b) _).mono ?_
  rintro e w' ⟨rfl, rfl⟩
  go_wp2
  go_ret2
  exact ⟨rfl, rfl⟩
theorem specFixSub_any (a b : Int) (w : World) : Calls Try.prog 134 #[.int .i64 a, .int .i64 b] w (RetW (.tuple #[.int .i64 (fsub a b), .bool (osub a b)]) w) := by
  have h1 := cl_bounds a
  have h2 := cl_bounds b
  obtain ⟨h11, h12⟩ := h1
  obtain ⟨h21, h22⟩ := h2
  go_enter Try.func134, Try.ntmps134
  go_wp2_with fail
  refine (l2In_any a _).mono ?_
  rintro e w' ⟨rfl, rfl⟩
  go_wp2_with fail
  refine (l2In_any b _).mono ?_
  rintro e w' ⟨rfl, rfl⟩
  go_wp2_with fail
  refine (l2Sat_any (cl a - cl b) _).mono ?_
  rintro e w' ⟨rfl, rfl⟩
  go_wp2
  go_ret2
  exact ⟨rfl, rfl⟩

theorem mul_bounds {a b : Int} (h1 : -2147483647 ≤ a) (h2 : a ≤ 2147483647) (h3 : -2147483647 ≤ b) (h4 : b ≤ 2147483647) : -4611686014132420609 ≤ a * b ∧ a * b ≤ 4611686014132420609 := by
  have h : (a * b).natAbs ≤ 2147483647 * 2147483647 := by
    rw [Int.natAbs_mul]
    exact Nat.mul_le_mul (by omega) (by omega)
  omega

theorem implFixMul_any (a b : Int) (w : World) : Calls Try.prog 76 #[.int .i64 a, .int .i64 b] w (RetW (.tuple #[.int .i64 (fmul a b), .bool (omul a b)]) w) := by
  have h1 := cl_bounds a
  have h2 := cl_bounds b
  obtain ⟨m1, m2⟩ := mul_bounds h1.1 h1.2 h2.1 h2.2
  go_enter Try.func76, Try.ntmps76
  go_wp2_with fail
  refine (clamp_any a _).mono ?_
  rintro e w' ⟨rfl, rfl⟩
  go_wp2_with fail
  refine (clamp_any b _).mono ?_
  rintro e w' ⟨rfl, rfl⟩
  go_wp2_with fail
  refine (settle_any (cl a * cl b / 65536) _).mono ?_
  rintro e w' ⟨rfl, rfl⟩
  go_wp2
  go_ret2
  exact ⟨rfl, rfl⟩

theorem neg_div {a : Int} (h : a < 0) : a.tdiv 65536 = -((-a) / 65536) ∧ a.tmod 65536 = -((-a) % 65536) := by
  have e : a = -(-a) := by omega
  constructor
  · conv => lhs; rw [e, Int.neg_tdiv, Int.tdiv_eq_ediv_of_nonneg (by omega)]
  · conv => lhs; rw [e, Int.neg_tmod, Int.tmod_eq_emod_of_nonneg (by omega)]

theorem l2Floor_any (x : Int) (w : World) (h1 : -4611686014132420609 ≤ x) (h2 : x ≤ 4611686014132420609) : Calls Try.prog 135 #[.int .i64 x, .int .i64 65536] w (RetW (.int .i64 (x / 65536)) w) := by
  by_cases hn : x < 0
  · obtain ⟨e1, e2⟩ := neg_div hn
    by_cases hz : (-x) % 65536 = 0
    · have hd : (x.tmod 65536 != 0) = false := by rw [e2, hz]; rfl
      have HF : Hid (x.tdiv 65536 = x / 65536) := by show _ = _; rw [e1]; omega
      clear e1 e2 hz
      go_enter Try.func135, Try.ntmps135
      go_wp2
      go_ret
      exact ⟨ret_int (by rw [HF.out]), rfl⟩
    · have hd : (x.tmod 65536 != 0) = true := by rw [e2]; simp; omega
      have HF : Hid (x.tdiv 65536 - 1 = x / 65536) := by show _ = _; rw [e1]; omega
      have hb : -4611686014132420609 ≤ x.tdiv 65536 ∧ x.tdiv 65536 ≤ 0 := by rw [e1]; omega
      obtain ⟨hb1, hb2⟩ := hb
      clear e1 e2 hz
      go_enter Try.func135, Try.ntmps135
      go_wp2
      go_ret
      exact ⟨ret_int (by rw [HF.out]), rfl⟩
  · by_cases hz : x % 65536 = 0
    · have hd : (x % 65536 != 0) = false := by simpa using hz
      clear hz
      go_enter Try.func135, Try.ntmps135
      go_wp2
      go_ret
      exact ⟨rfl, rfl⟩
    · have hd : (x % 65536 != 0) = true := by simpa using hz
      clear hz
      go_enter Try.func135, Try.ntmps135
      go_wp2
      go_ret
      exact ⟨rfl, rfl⟩

theorem specFixMul_any (a b : Int) (w : World) : Calls Try.prog 86 #[.int .i64 a, .int .i64 b] w (RetW (.tuple #[.int .i64 (fmul a b), .bool (omul a b)]) w) := by
  have h1 := cl_bounds a
  have h2 := cl_bounds b
  obtain ⟨m1, m2⟩ := mul_bounds h1.1 h1.2 h2.1 h2.2
  go_enter Try.func86, Try.ntmps86
  go_wp2_with fail
  refine (l2In_any a _).mono ?_
  rintro e w' ⟨rfl, rfl⟩
  go_wp2_with fail
  refine (l2In_any b _).mono ?_
  rintro e w' ⟨rfl, rfl⟩
  go_wp2_with fail
  refine (l2Floor_any (cl a * cl b) _ m1 m2).mono ?_
  rintro e w' ⟨rfl, rfl⟩
  go_wp2_with fail
  refine (l2Sat_any (cl a * cl b / 65536) _).mono ?_
  rintro e w' ⟨rfl, rfl⟩
  go_wp2
  go_ret2
  exact ⟨rfl, rfl⟩
end Go.Proofs.Ytahggdiafncdhaa
