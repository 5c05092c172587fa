/- The walk of FnExactLearn. -/
import Derived.Test.YtiihghfoeinbbaaBLearn
import Derived.Test.YtiihghfoeinbbaaTModel
import Derived.Test.YtiihghfoeinbbaaTGrads
import Derived.Test.YtiihghfoeinbbaaUModel
import Derived.Test.YtiihghfoeinbbaaUGrads
import Derived.Deep.RegionHeld3
import Derived.Deep.DeepCutAuto
import Derived.Test.YtiihghfoeinbbaaCutKit
namespace Go.Proofs.Ytiihghfoeinbbaa
open Go.ChangeShapes Go.WideShapes Go.ChangeAt Go.RowKit
set_option linter.unusedVariables false
set_option linter.unusedSimpArgs false
set_option maxRecDepth 100000 in
set_option maxHeartbeats 4000000 in
theorem fnExactLearn_walk (w : World) (cs0 : Array Value) (d0 : Ty.D tModel) (h0 : rd tModel w cs0.toList d0) (cs1 : Array Value) (d1 : Ty.D tGrads) (h1 : rd tGrads w cs1.toList d1) (x2 : Int) (h2 : (Lit.int .i64 x2).wf = true) :
    Calls Try.prog 4 #[.agg cs0, .agg cs1, .int .i64 x2] w fun e w' => e = .returned (.bool true) ∧ Below w.heap.size w w' := by
  obtain ⟨ap0_0, an0_0, aq0_0, rfl⟩ : ∃ ap0_0 an0_0 aq0_0, cs0 = #[.slice ap0_0 an0_0 aq0_0] := by
    obtain ⟨kp0, kn0, kq0, khcs, ks0⟩ := h0
    exact ⟨kp0, kn0, kq0, arr_of khcs⟩
  have H0 := Lib.hid h0; clear h0
  obtain ⟨ap1_0, an1_0, aq1_0, ax1_1, ax1_2, rfl⟩ : ∃ ap1_0 an1_0 aq1_0 ax1_1 ax1_2, cs1 = #[.slice ap1_0 an1_0 aq1_0, .int .i64 ax1_1, .bool ax1_2] := by
    obtain ⟨_, _, khcs, ⟨kp0, kn0, kq0, rfl, ks0⟩, ⟨_, _, rfl, ⟨rfl, kw1⟩, rfl⟩⟩ := h1
    exact ⟨kp0, kn0, kq0, d1.2.1, d1.2.2, arr_of khcs⟩
  have H1 := Lib.hid h1; clear h1
  by_cases hz0 : ((szT tModel d0 : Nat) : Int) ≤ (1048576 : Int)
  rotate_left
  · skip
    go_enter Try.func4, Try.ntmps4
    go_wp2_with fail
    refine (szModel_no _ d0 _ _ (by exact rd_below H0.out belx) (by omega) (by omega) (by omega)).mono ?_
    rintro e w1 ⟨rfl, b1⟩
    have B1 : Below w.heap.size w w1 := Below.trans belx (b1.mono fcx)
    have z1 : w.heap.size + 2 ≤ w1.heap.size := by have := b1.size; (try simp only [World.size_alloc, World.size_drew] at this ⊢) <;> omega
    have qa00_1 : w1.cell? ⟨w.heap.size, 0, none⟩ = some (.slice ap0_0 an0_0 aq0_0) := (b1.cell (p := ⟨w.heap.size, 0, none⟩) fcx).trans (by simp)
    have zba0_1 : w.heap.size < w1.heap.size := fcx
    have qa10_1 : w1.cell? ⟨w.heap.size + 1, 0, none⟩ = some (.slice ap1_0 an1_0 aq1_0) := (b1.cell (p := ⟨w.heap.size + 1, 0, none⟩) fcx).trans (by simp)
    have qa11_1 : w1.cell? ⟨w.heap.size + 1, 1, none⟩ = some (.int .i64 ax1_1) := (b1.cell (p := ⟨w.heap.size + 1, 1, none⟩) fcx).trans (by simp)
    have qa12_1 : w1.cell? ⟨w.heap.size + 1, 2, none⟩ = some (.bool ax1_2) := (b1.cell (p := ⟨w.heap.size + 1, 2, none⟩) fcx).trans (by simp)
    have zba1_1 : w.heap.size + 1 < w1.heap.size := fcx
    go_wp2
    go_ret
    exact ⟨rfl, B1⟩
  by_cases hz1 : ((szT tGrads d1 : Nat) : Int) ≤ (1048576 : Int) - (szT tModel d0 : Nat)
  rotate_left
  · skip
    go_enter Try.func4, Try.ntmps4
    go_wp2_with fail
    refine (szModel_ok _ d0 _ _ (by exact rd_below H0.out belx) (by omega) (by omega) (by omega)).mono ?_
    rintro e w1 ⟨rfl, b1⟩
    have B1 : Below w.heap.size w w1 := Below.trans belx (b1.mono fcx)
    have z1 : w.heap.size + 2 ≤ w1.heap.size := by have := b1.size; (try simp only [World.size_alloc, World.size_drew] at this ⊢) <;> omega
    have qa00_1 : w1.cell? ⟨w.heap.size, 0, none⟩ = some (.slice ap0_0 an0_0 aq0_0) := (b1.cell (p := ⟨w.heap.size, 0, none⟩) fcx).trans (by simp)
    have zba0_1 : w.heap.size < w1.heap.size := fcx
    have qa10_1 : w1.cell? ⟨w.heap.size + 1, 0, none⟩ = some (.slice ap1_0 an1_0 aq1_0) := (b1.cell (p := ⟨w.heap.size + 1, 0, none⟩) fcx).trans (by simp)
    have qa11_1 : w1.cell? ⟨w.heap.size + 1, 1, none⟩ = some (.int .i64 ax1_1) := (b1.cell (p := ⟨w.heap.size + 1, 1, none⟩) fcx).trans (by simp)
    have qa12_1 : w1.cell? ⟨w.heap.size + 1, 2, none⟩ = some (.bool ax1_2) := (b1.cell (p := ⟨w.heap.size + 1, 2, none⟩) fcx).trans (by simp)
    have zba1_1 : w.heap.size + 1 < w1.heap.size := fcx
    obtain ⟨lf0, hlf0⟩ : ∃ z : Int, z = (1048576 : Int) - (szT tModel d0 : Nat) := ⟨_, rfl⟩
    rw [← hlf0]
    have hnl0 : ¬ (lf0 < 0) := by omega
    have hnm0 : lf0 ≤ 1048576 := by omega
    have HLF0 := Lib.hid hlf0; have hle0 := Int.le_of_eq hlf0; have hge0 := Int.le_of_eq hlf0.symm; clear hlf0
    go_wp2_with fail
    refine (szGrads_no _ d1 _ _ (by exact rd_below H1.out B1) (by omega) (by omega) (by omega)).mono ?_
    rintro e w2 ⟨rfl, b2⟩
    have B2 : Below w.heap.size w w2 := Below.trans B1 (b2.mono fcx)
    have z2 : w1.heap.size + 0 ≤ w2.heap.size := by have := b2.size; (try simp only [World.size_alloc, World.size_drew] at this ⊢) <;> omega
    have qa00_2 : w2.cell? ⟨w.heap.size, 0, none⟩ = some (.slice ap0_0 an0_0 aq0_0) := (b2.cell (p := ⟨w.heap.size, 0, none⟩) fcx).trans qa00_1
    have zba0_2 : w.heap.size < w2.heap.size := fcx
    clear qa00_1
    have qa10_2 : w2.cell? ⟨w.heap.size + 1, 0, none⟩ = some (.slice ap1_0 an1_0 aq1_0) := (b2.cell (p := ⟨w.heap.size + 1, 0, none⟩) fcx).trans qa10_1
    have qa11_2 : w2.cell? ⟨w.heap.size + 1, 1, none⟩ = some (.int .i64 ax1_1) := (b2.cell (p := ⟨w.heap.size + 1, 1, none⟩) fcx).trans qa11_1
    have qa12_2 : w2.cell? ⟨w.heap.size + 1, 2, none⟩ = some (.bool ax1_2) := (b2.cell (p := ⟨w.heap.size + 1, 2, none⟩) fcx).trans qa12_1
    have zba1_2 : w.heap.size + 1 < w2.heap.size := fcx
    clear qa10_1 qa11_1 qa12_1
    go_wp2
    go_ret
    exact ⟨rfl, B2⟩
  obtain ⟨R0, R1, hS, hI, hcr⟩ := learn_both d0 d1 x2 h2 (by omega) (by omega)
  have HS := Lib.hid hS; have HI := Lib.hid hI; clear hS hI
  clear h2
  have hcb0 := cntt_le tModel d0 (by decide)
  have hcb1 := cntt_le tGrads d1 (by decide)
  go_enter Try.func4, Try.ntmps4
  go_wp2_with fail
  refine (szModel_ok _ d0 _ _ (by exact rd_below H0.out belx) (by omega) (by omega) (by omega)).mono ?_
  rintro e w1 ⟨rfl, b1⟩
  have B1 : Below w.heap.size w w1 := Below.trans belx (b1.mono fcx)
  have z1 : w.heap.size + 2 ≤ w1.heap.size := by have := b1.size; (try simp only [World.size_alloc, World.size_drew] at this ⊢) <;> omega
  have qa00_1 : w1.cell? ⟨w.heap.size, 0, none⟩ = some (.slice ap0_0 an0_0 aq0_0) := (b1.cell (p := ⟨w.heap.size, 0, none⟩) fcx).trans (by simp)
  have zba0_1 : w.heap.size < w1.heap.size := fcx
  have qa10_1 : w1.cell? ⟨w.heap.size + 1, 0, none⟩ = some (.slice ap1_0 an1_0 aq1_0) := (b1.cell (p := ⟨w.heap.size + 1, 0, none⟩) fcx).trans (by simp)
  have qa11_1 : w1.cell? ⟨w.heap.size + 1, 1, none⟩ = some (.int .i64 ax1_1) := (b1.cell (p := ⟨w.heap.size + 1, 1, none⟩) fcx).trans (by simp)
  have qa12_1 : w1.cell? ⟨w.heap.size + 1, 2, none⟩ = some (.bool ax1_2) := (b1.cell (p := ⟨w.heap.size + 1, 2, none⟩) fcx).trans (by simp)
  have zba1_1 : w.heap.size + 1 < w1.heap.size := fcx
  obtain ⟨lf0, hlf0⟩ : ∃ z : Int, z = (1048576 : Int) - (szT tModel d0 : Nat) := ⟨_, rfl⟩
  rw [← hlf0]
  have hnl0 : ¬ (lf0 < 0) := by omega
  have hnm0 : lf0 ≤ 1048576 := by omega
  have HLF0 := Lib.hid hlf0; have hle0 := Int.le_of_eq hlf0; have hge0 := Int.le_of_eq hlf0.symm; clear hlf0
  go_wp2_with fail
  refine (szGrads_ok _ d1 _ _ (by exact rd_below H1.out B1) (by omega) (by omega) (by omega)).mono ?_
  rintro e w2 ⟨rfl, b2⟩
  have B2 : Below w.heap.size w w2 := Below.trans B1 (b2.mono fcx)
  have z2 : w1.heap.size + 0 ≤ w2.heap.size := by have := b2.size; (try simp only [World.size_alloc, World.size_drew] at this ⊢) <;> omega
  have qa00_2 : w2.cell? ⟨w.heap.size, 0, none⟩ = some (.slice ap0_0 an0_0 aq0_0) := (b2.cell (p := ⟨w.heap.size, 0, none⟩) fcx).trans qa00_1
  have zba0_2 : w.heap.size < w2.heap.size := fcx
  clear qa00_1
  have qa10_2 : w2.cell? ⟨w.heap.size + 1, 0, none⟩ = some (.slice ap1_0 an1_0 aq1_0) := (b2.cell (p := ⟨w.heap.size + 1, 0, none⟩) fcx).trans qa10_1
  have qa11_2 : w2.cell? ⟨w.heap.size + 1, 1, none⟩ = some (.int .i64 ax1_1) := (b2.cell (p := ⟨w.heap.size + 1, 1, none⟩) fcx).trans qa11_1
  have qa12_2 : w2.cell? ⟨w.heap.size + 1, 2, none⟩ = some (.bool ax1_2) := (b2.cell (p := ⟨w.heap.size + 1, 2, none⟩) fcx).trans qa12_1
  have zba1_2 : w.heap.size + 1 < w2.heap.size := fcx
  clear qa10_1 qa11_1 qa12_1
  obtain ⟨lf1, hlf1⟩ : ∃ z : Int, z = lf0 - (szT tGrads d1 : Nat) := ⟨_, rfl⟩
  rw [← hlf1]
  have hnl1 : ¬ (lf1 < 0) := by omega
  have hnm1 : lf1 ≤ 1048576 := by omega
  have HLF1 := Lib.hid hlf1; have hle1 := Int.le_of_eq hlf1; have hge1 := Int.le_of_eq hlf1.symm; clear hlf1
  go_wp2_with fail
  go_cut [8, 9] (fun s8 s9 wx => ∃ (w0rg0 : Nat) (w0r0dp0 : Option Addr) (w0r0dn0 : Nat) (w0r0dq0 : Nat), s8 = .pointer (some ⟨w0rg0, 0, none⟩) ∧ s9 = .bool R1 ∧ wx.cell? ⟨w0rg0, 0, none⟩ = some (.slice w0r0dp0 w0r0dn0 w0r0dq0) ∧ Below w2.heap.size w2 wx ∧ w2.heap.size ≤ w0rg0 ∧ w0rg0 < wx.heap.size ∧ FrR tModel w2.heap.size wx.heap.size wx [.slice w0r0dp0 w0r0dn0 w0r0dq0] R0)
  case first =>
    go_region_held3 (fun w' => w'.cell? ⟨w.heap.size, 0, none⟩ = some (.slice ap0_0 an0_0 aq0_0) ∧ w'.cell? ⟨w.heap.size + 1, 0, none⟩ = some (.slice ap1_0 an1_0 aq1_0) ∧ w'.cell? ⟨w.heap.size + 1, 1, none⟩ = some (.int .i64 ax1_1) ∧ w'.cell? ⟨w.heap.size + 1, 2, none⟩ = some (.bool ax1_2)) (exact ⟨(Below.cell (w := w2) (B := w2.heap.size) belx fcx).trans qa00_2, (Below.cell (w := w2) (B := w2.heap.size) belx fcx).trans qa10_2, (Below.cell (w := w2) (B := w2.heap.size) belx fcx).trans qa11_2, (Below.cell (w := w2) (B := w2.heap.size) belx fcx).trans qa12_2⟩) ((first | (go_at_call 13; refine (toModel_any _ d0 _ (by exact rd_below H0.out belx) (by omega)).mono ?_; rintro e w3 ⟨tcs0, rfl, tf0, b3⟩; have B3 : Below w.heap.size w w3 := Below.trans belx (b3.mono fcx); have C3 : Below w2.heap.size w2 w3 := Below.trans belx (b3.mono fcx); have z3 : w2.heap.size ≤ w3.heap.size := (by have := b3.size; (try simp only [World.size_alloc, World.size_drew] at this ⊢) <;> omega); (try have y3 : w2.heap.size < w3.heap.size := (by have := b3.size; first | omega | (simp only [World.size_alloc, World.size_drew] at this; omega))); (try have kb2_3_0 : w3.cell? ⟨w2.heap.size, 0, none⟩ = some (.slice none 0 0) := (b3.cell (p := ⟨w2.heap.size, 0, none⟩) fcx).trans (by first | assumption | exact new_cell rfl rfl)); (try have kf2_3_0 : w3.frozen? ⟨w2.heap.size, 0, none⟩ = false := (b3.frozen (p := ⟨w2.heap.size, 0, none⟩) fcx).trans (by first | assumption | exact new_frozen rfl))) | (go_at_call 14; refine (toGrads_any _ d1 _ (by exact rd_below H1.out belx) (by omega)).mono ?_; rintro e w4 ⟨tcs1, rfl, tf1, b4⟩; have B4 : Below w.heap.size w w4 := Below.trans belx (b4.mono fcx); have C4 : Below w2.heap.size w2 w4 := Below.trans belx (b4.mono fcx); have z4 : w3.heap.size ≤ w4.heap.size := (by have := b4.size; (try simp only [World.size_alloc, World.size_drew] at this ⊢) <;> omega); (try have y4 : w3.heap.size < w4.heap.size := (by have := b4.size; first | omega | (simp only [World.size_alloc, World.size_drew] at this; omega))); (try have kb2_4_0 : w4.cell? ⟨w2.heap.size, 0, none⟩ = some (.slice none 0 0) := (b4.cell (p := ⟨w2.heap.size, 0, none⟩) fcx).trans (by first | assumption | exact new_cell rfl rfl)); (try have kf2_4_0 : w4.frozen? ⟨w2.heap.size, 0, none⟩ = false := (b4.frozen (p := ⟨w2.heap.size, 0, none⟩) fcx).trans (by first | assumption | exact new_frozen rfl)); (try have kb3_4_0 : w4.cell? ⟨w3.heap.size, 0, none⟩ = some (.slice none 0 0) := (b4.cell (p := ⟨w3.heap.size, 0, none⟩) fcx).trans (by first | assumption | exact new_cell rfl rfl)); (try have kf3_4_0 : w4.frozen? ⟨w3.heap.size, 0, none⟩ = false := (b4.frozen (p := ⟨w3.heap.size, 0, none⟩) fcx).trans (by first | assumption | exact new_frozen rfl)); (first | replace tf0 := FrIn.below tf0 b4 fcx | replace tf0 := FrIn.below (FrIn.alloc tf0 _) b4 fcx)) | (go_at_call 12; refine (HS.out _ _ _ (by first | exact tf0.rd | exact (tf0.alloc _).rd) (by first | exact tf1.rd | exact (tf1.alloc _).rd)).mono ?_; rintro e w5 ⟨w0rcs0, rfl, w0rf0, b5⟩; have B5 : Below w.heap.size w w5 := Below.trans belx (b5.mono fcx); have C5 : Below w2.heap.size w2 w5 := Below.trans belx (b5.mono fcx); have z5 : w4.heap.size ≤ w5.heap.size := (by have := b5.size; (try simp only [World.size_alloc, World.size_drew] at this ⊢) <;> omega); (try have y5 : w4.heap.size < w5.heap.size := (by have := b5.size; first | omega | (simp only [World.size_alloc, World.size_drew] at this; omega))); (try have kb2_5_0 : w5.cell? ⟨w2.heap.size, 0, none⟩ = some (.slice none 0 0) := (b5.cell (p := ⟨w2.heap.size, 0, none⟩) fcx).trans (by first | assumption | exact new_cell rfl rfl)); (try have kf2_5_0 : w5.frozen? ⟨w2.heap.size, 0, none⟩ = false := (b5.frozen (p := ⟨w2.heap.size, 0, none⟩) fcx).trans (by first | assumption | exact new_frozen rfl)); (try have kb3_5_0 : w5.cell? ⟨w3.heap.size, 0, none⟩ = some (.slice none 0 0) := (b5.cell (p := ⟨w3.heap.size, 0, none⟩) fcx).trans (by first | assumption | exact new_cell rfl rfl)); (try have kf3_5_0 : w5.frozen? ⟨w3.heap.size, 0, none⟩ = false := (b5.frozen (p := ⟨w3.heap.size, 0, none⟩) fcx).trans (by first | assumption | exact new_frozen rfl)); (try have kb4_5_0 : w5.cell? ⟨w4.heap.size, 0, none⟩ = some (.slice none 0 0) := (b5.cell (p := ⟨w4.heap.size, 0, none⟩) fcx).trans (by first | assumption | exact new_cell rfl rfl)); (try have kf4_5_0 : w5.frozen? ⟨w4.heap.size, 0, none⟩ = false := (b5.frozen (p := ⟨w4.heap.size, 0, none⟩) fcx).trans (by first | assumption | exact new_frozen rfl)); (have rrw0r0d := w0rf0.rd); (obtain ⟨w0r0dp0, w0r0dn0, w0r0dq0, w0r0dhcs, w0r0ds0⟩ := rrw0r0d); (obtain rfl : w0rcs0 = #[.slice w0r0dp0 w0r0dn0 w0r0dq0] := arr_of w0r0dhcs); (clear w0r0dhcs)) | fail))
    all_goals (go_wp2_with fail; go_meet; refine ⟨_, w0r0dp0, w0r0dn0, w0r0dq0, rfl, rfl, (by first | exact new_cell rfl rfl | exact (World.cell?_setCell_same _ _ _ (by assumption))), belx, ?lo, ?hi, ?fr⟩; (case lo => exact fcx); (case hi => exact fcx); (case fr => first | exact FrR.mono (FrR.alloc w0rf0 _) fcx fcx (Nat.le_refl _) | exact FrR.mono (FrR.set1 (w0rf0) (Or.inl fcx) _) fcx fcx (Nat.le_refl _)))
  obtain ⟨w0rg0, w0r0dp0, w0r0dn0, w0r0dq0, rfl, rfl, qw0r00_3, bcut, w0rg0lo, w0rg0hi, w0rf0⟩ := hcut
  obtain ⟨w3, rfl⟩ : ∃ z, z = wc := ⟨_, rfl⟩
  have B3 : Below w.heap.size w w3 := Below.trans B2 (bcut.mono fcx)
  have z3 : w2.heap.size + 0 ≤ w3.heap.size := by have := bcut.size; (try simp only [World.size_alloc, World.size_drew] at this ⊢) <;> omega
  have qa00_3 : w3.cell? ⟨w.heap.size, 0, none⟩ = some (.slice ap0_0 an0_0 aq0_0) := (bcut.cell (p := ⟨w.heap.size, 0, none⟩) fcx).trans qa00_2
  have zba0_3 : w.heap.size < w3.heap.size := fcx
  clear qa00_2
  have qa10_3 : w3.cell? ⟨w.heap.size + 1, 0, none⟩ = some (.slice ap1_0 an1_0 aq1_0) := (bcut.cell (p := ⟨w.heap.size + 1, 0, none⟩) fcx).trans qa10_2
  have qa11_3 : w3.cell? ⟨w.heap.size + 1, 1, none⟩ = some (.int .i64 ax1_1) := (bcut.cell (p := ⟨w.heap.size + 1, 1, none⟩) fcx).trans qa11_2
  have qa12_3 : w3.cell? ⟨w.heap.size + 1, 2, none⟩ = some (.bool ax1_2) := (bcut.cell (p := ⟨w.heap.size + 1, 2, none⟩) fcx).trans qa12_2
  have zba1_3 : w.heap.size + 1 < w3.heap.size := fcx
  clear qa10_2 qa11_2 qa12_2
  have zbw0r0_3 : w0rg0 < w3.heap.size := w0rg0hi
  have Fw0r0_3 := Lib.hid w0rf0; clear w0rf0
  go_wp2_with fail
  refine (toModel_any _ d0 _ (by exact rd_below H0.out B3) (by omega)).mono ?_
  rintro e w4 ⟨xcs0, rfl, xf0, b4⟩
  have B4 : Below w.heap.size w w4 := Below.trans B3 (b4.mono fcx)
  have z4 : w3.heap.size + 0 ≤ w4.heap.size := by have := b4.size; (try simp only [World.size_alloc, World.size_drew] at this ⊢) <;> omega
  have qa00_4 : w4.cell? ⟨w.heap.size, 0, none⟩ = some (.slice ap0_0 an0_0 aq0_0) := (b4.cell (p := ⟨w.heap.size, 0, none⟩) fcx).trans qa00_3
  have zba0_4 : w.heap.size < w4.heap.size := fcx
  clear qa00_3
  have qa10_4 : w4.cell? ⟨w.heap.size + 1, 0, none⟩ = some (.slice ap1_0 an1_0 aq1_0) := (b4.cell (p := ⟨w.heap.size + 1, 0, none⟩) fcx).trans qa10_3
  have qa11_4 : w4.cell? ⟨w.heap.size + 1, 1, none⟩ = some (.int .i64 ax1_1) := (b4.cell (p := ⟨w.heap.size + 1, 1, none⟩) fcx).trans qa11_3
  have qa12_4 : w4.cell? ⟨w.heap.size + 1, 2, none⟩ = some (.bool ax1_2) := (b4.cell (p := ⟨w.heap.size + 1, 2, none⟩) fcx).trans qa12_3
  have zba1_4 : w.heap.size + 1 < w4.heap.size := fcx
  clear qa10_3 qa11_3 qa12_3
  have qw0r00_4 : w4.cell? ⟨w0rg0, 0, none⟩ = some (.slice w0r0dp0 w0r0dn0 w0r0dq0) := (b4.cell (p := ⟨w0rg0, 0, none⟩) fcx).trans qw0r00_3
  have zbw0r0_4 : w0rg0 < w4.heap.size := fcx
  clear qw0r00_3
  have Fw0r0_4 := Lib.hid (Fw0r0_3.out.below b4 fcx)
  clear Fw0r0_3
  have rrx0d := xf0.rd
  obtain ⟨x0dp0, x0dn0, x0dq0, x0dhcs, x0ds0⟩ := rrx0d
  obtain rfl : xcs0 = #[.slice x0dp0 x0dn0 x0dq0] := arr_of x0dhcs
  clear x0dhcs
  have Fx0_4 := Lib.hid xf0; clear xf0
  go_wp2_with fail
  refine (toGrads_any _ d1 _ (by exact rd_below H1.out belx) (by omega)).mono ?_
  rintro e w5 ⟨xcs1, rfl, xf1, b5⟩
  have B5 : Below w.heap.size w w5 := Below.trans belx (b5.mono fcx)
  have z5 : w4.heap.size + 1 ≤ w5.heap.size := by have := b5.size; (try simp only [World.size_alloc, World.size_drew] at this ⊢) <;> omega
  have qa00_5 : w5.cell? ⟨w.heap.size, 0, none⟩ = some (.slice ap0_0 an0_0 aq0_0) := (b5.cell (p := ⟨w.heap.size, 0, none⟩) fcx).trans ((alloc_cell (a := ⟨w.heap.size, 0, none⟩) fcx).trans qa00_4)
  have zba0_5 : w.heap.size < w5.heap.size := fcx
  clear qa00_4
  have qa10_5 : w5.cell? ⟨w.heap.size + 1, 0, none⟩ = some (.slice ap1_0 an1_0 aq1_0) := (b5.cell (p := ⟨w.heap.size + 1, 0, none⟩) fcx).trans ((alloc_cell (a := ⟨w.heap.size + 1, 0, none⟩) fcx).trans qa10_4)
  have qa11_5 : w5.cell? ⟨w.heap.size + 1, 1, none⟩ = some (.int .i64 ax1_1) := (b5.cell (p := ⟨w.heap.size + 1, 1, none⟩) fcx).trans ((alloc_cell (a := ⟨w.heap.size + 1, 1, none⟩) fcx).trans qa11_4)
  have qa12_5 : w5.cell? ⟨w.heap.size + 1, 2, none⟩ = some (.bool ax1_2) := (b5.cell (p := ⟨w.heap.size + 1, 2, none⟩) fcx).trans ((alloc_cell (a := ⟨w.heap.size + 1, 2, none⟩) fcx).trans qa12_4)
  have zba1_5 : w.heap.size + 1 < w5.heap.size := fcx
  clear qa10_4 qa11_4 qa12_4
  have qw0r00_5 : w5.cell? ⟨w0rg0, 0, none⟩ = some (.slice w0r0dp0 w0r0dn0 w0r0dq0) := (b5.cell (p := ⟨w0rg0, 0, none⟩) fcx).trans ((alloc_cell (a := ⟨w0rg0, 0, none⟩) fcx).trans qw0r00_4)
  have zbw0r0_5 : w0rg0 < w5.heap.size := fcx
  clear qw0r00_4
  have qx00_5 : w5.cell? ⟨w4.heap.size, 0, none⟩ = some (.slice x0dp0 x0dn0 x0dq0) := (b5.cell (p := ⟨w4.heap.size, 0, none⟩) fcx).trans (by simp)
  have zbx0_5 : w4.heap.size < w5.heap.size := fcx
  have Fw0r0_5 := Lib.hid ((Fw0r0_4.out.alloc _).below b5 fcx)
  clear Fw0r0_4
  have Fx0_5 := Lib.hid ((Fx0_4.out.alloc _).below b5 fcx)
  clear Fx0_4
  have rrx1d := xf1.rd
  obtain ⟨_, _, x1dhcs, ⟨x1dp0, x1dn0, x1dq0, rfl, x1ds0⟩, ⟨_, _, rfl, ⟨rfl, x1dw1⟩, rfl⟩⟩ := rrx1d
  obtain rfl : xcs1 = #[.slice x1dp0 x1dn0 x1dq0, .int .i64 d1.2.1, .bool d1.2.2] := arr_of x1dhcs
  clear x1dhcs
  have Fx1_5 := Lib.hid xf1; clear xf1
  go_wp2_with fail
  refine (HI.out _ _ _ (by exact ((Fx0_5.out.alloc _)).rd) (by exact ((Fx1_5.out.alloc _)).rd)).mono ?_
  rintro e w6 ⟨g0rcs0, rfl, g0rf0, b6⟩
  have B6 : Below w.heap.size w w6 := Below.trans belx (b6.mono fcx)
  have z6 : w5.heap.size + 1 ≤ w6.heap.size := by have := b6.size; (try simp only [World.size_alloc, World.size_drew] at this ⊢) <;> omega
  have qa00_6 : w6.cell? ⟨w.heap.size, 0, none⟩ = some (.slice ap0_0 an0_0 aq0_0) := (b6.cell (p := ⟨w.heap.size, 0, none⟩) fcx).trans ((alloc_cell (a := ⟨w.heap.size, 0, none⟩) fcx).trans qa00_5)
  have zba0_6 : w.heap.size < w6.heap.size := fcx
  clear qa00_5
  have qa10_6 : w6.cell? ⟨w.heap.size + 1, 0, none⟩ = some (.slice ap1_0 an1_0 aq1_0) := (b6.cell (p := ⟨w.heap.size + 1, 0, none⟩) fcx).trans ((alloc_cell (a := ⟨w.heap.size + 1, 0, none⟩) fcx).trans qa10_5)
  have qa11_6 : w6.cell? ⟨w.heap.size + 1, 1, none⟩ = some (.int .i64 ax1_1) := (b6.cell (p := ⟨w.heap.size + 1, 1, none⟩) fcx).trans ((alloc_cell (a := ⟨w.heap.size + 1, 1, none⟩) fcx).trans qa11_5)
  have qa12_6 : w6.cell? ⟨w.heap.size + 1, 2, none⟩ = some (.bool ax1_2) := (b6.cell (p := ⟨w.heap.size + 1, 2, none⟩) fcx).trans ((alloc_cell (a := ⟨w.heap.size + 1, 2, none⟩) fcx).trans qa12_5)
  have zba1_6 : w.heap.size + 1 < w6.heap.size := fcx
  clear qa10_5 qa11_5 qa12_5
  have qw0r00_6 : w6.cell? ⟨w0rg0, 0, none⟩ = some (.slice w0r0dp0 w0r0dn0 w0r0dq0) := (b6.cell (p := ⟨w0rg0, 0, none⟩) fcx).trans ((alloc_cell (a := ⟨w0rg0, 0, none⟩) fcx).trans qw0r00_5)
  have zbw0r0_6 : w0rg0 < w6.heap.size := fcx
  clear qw0r00_5
  have qx00_6 : w6.cell? ⟨w4.heap.size, 0, none⟩ = some (.slice x0dp0 x0dn0 x0dq0) := (b6.cell (p := ⟨w4.heap.size, 0, none⟩) fcx).trans ((alloc_cell (a := ⟨w4.heap.size, 0, none⟩) fcx).trans qx00_5)
  have zbx0_6 : w4.heap.size < w6.heap.size := fcx
  clear qx00_5
  have qx10_6 : w6.cell? ⟨w5.heap.size, 0, none⟩ = some (.slice x1dp0 x1dn0 x1dq0) := (b6.cell (p := ⟨w5.heap.size, 0, none⟩) fcx).trans (by simp)
  have qx11_6 : w6.cell? ⟨w5.heap.size, 1, none⟩ = some (.int .i64 d1.2.1) := (b6.cell (p := ⟨w5.heap.size, 1, none⟩) fcx).trans (by simp)
  have qx12_6 : w6.cell? ⟨w5.heap.size, 2, none⟩ = some (.bool d1.2.2) := (b6.cell (p := ⟨w5.heap.size, 2, none⟩) fcx).trans (by simp)
  have zbx1_6 : w5.heap.size < w6.heap.size := fcx
  have Fw0r0_6 := Lib.hid ((Fw0r0_5.out.alloc _).below b6 fcx)
  clear Fw0r0_5
  have Fx0_6 := Lib.hid ((Fx0_5.out.alloc _).below b6 fcx)
  clear Fx0_5
  have Fx1_6 := Lib.hid ((Fx1_5.out.alloc _).below b6 fcx)
  clear Fx1_5
  have rrg0r0d := g0rf0.rd
  obtain ⟨g0r0dp0, g0r0dn0, g0r0dq0, g0r0dhcs, g0r0ds0⟩ := rrg0r0d
  obtain rfl : g0rcs0 = #[.slice g0r0dp0 g0r0dn0 g0r0dq0] := arr_of g0r0dhcs
  clear g0r0dhcs
  have Fg0r0_6 := Lib.hid g0rf0; clear g0rf0
  go_wp2_with fail
  refine (eqModel_any _ _ R0 _ (by exact ((Fg0r0_6.out.alloc _)).rd) (by exact ((Fw0r0_6.out.alloc _)).rd)).mono ?_
  rintro e w7 ⟨rfl, b7⟩
  have B7 : Below w.heap.size w w7 := Below.trans belx (b7.mono fcx)
  have z7 : w6.heap.size + 1 ≤ w7.heap.size := by have := b7.size; (try simp only [World.size_alloc, World.size_drew] at this ⊢) <;> omega
  have qa00_7 : w7.cell? ⟨w.heap.size, 0, none⟩ = some (.slice ap0_0 an0_0 aq0_0) := (b7.cell (p := ⟨w.heap.size, 0, none⟩) fcx).trans ((alloc_cell (a := ⟨w.heap.size, 0, none⟩) fcx).trans qa00_6)
  have zba0_7 : w.heap.size < w7.heap.size := fcx
  clear qa00_6
  have qa10_7 : w7.cell? ⟨w.heap.size + 1, 0, none⟩ = some (.slice ap1_0 an1_0 aq1_0) := (b7.cell (p := ⟨w.heap.size + 1, 0, none⟩) fcx).trans ((alloc_cell (a := ⟨w.heap.size + 1, 0, none⟩) fcx).trans qa10_6)
  have qa11_7 : w7.cell? ⟨w.heap.size + 1, 1, none⟩ = some (.int .i64 ax1_1) := (b7.cell (p := ⟨w.heap.size + 1, 1, none⟩) fcx).trans ((alloc_cell (a := ⟨w.heap.size + 1, 1, none⟩) fcx).trans qa11_6)
  have qa12_7 : w7.cell? ⟨w.heap.size + 1, 2, none⟩ = some (.bool ax1_2) := (b7.cell (p := ⟨w.heap.size + 1, 2, none⟩) fcx).trans ((alloc_cell (a := ⟨w.heap.size + 1, 2, none⟩) fcx).trans qa12_6)
  have zba1_7 : w.heap.size + 1 < w7.heap.size := fcx
  clear qa10_6 qa11_6 qa12_6
  have qw0r00_7 : w7.cell? ⟨w0rg0, 0, none⟩ = some (.slice w0r0dp0 w0r0dn0 w0r0dq0) := (b7.cell (p := ⟨w0rg0, 0, none⟩) fcx).trans ((alloc_cell (a := ⟨w0rg0, 0, none⟩) fcx).trans qw0r00_6)
  have zbw0r0_7 : w0rg0 < w7.heap.size := fcx
  clear qw0r00_6
  have qx00_7 : w7.cell? ⟨w4.heap.size, 0, none⟩ = some (.slice x0dp0 x0dn0 x0dq0) := (b7.cell (p := ⟨w4.heap.size, 0, none⟩) fcx).trans ((alloc_cell (a := ⟨w4.heap.size, 0, none⟩) fcx).trans qx00_6)
  have zbx0_7 : w4.heap.size < w7.heap.size := fcx
  clear qx00_6
  have qx10_7 : w7.cell? ⟨w5.heap.size, 0, none⟩ = some (.slice x1dp0 x1dn0 x1dq0) := (b7.cell (p := ⟨w5.heap.size, 0, none⟩) fcx).trans ((alloc_cell (a := ⟨w5.heap.size, 0, none⟩) fcx).trans qx10_6)
  have qx11_7 : w7.cell? ⟨w5.heap.size, 1, none⟩ = some (.int .i64 d1.2.1) := (b7.cell (p := ⟨w5.heap.size, 1, none⟩) fcx).trans ((alloc_cell (a := ⟨w5.heap.size, 1, none⟩) fcx).trans qx11_6)
  have qx12_7 : w7.cell? ⟨w5.heap.size, 2, none⟩ = some (.bool d1.2.2) := (b7.cell (p := ⟨w5.heap.size, 2, none⟩) fcx).trans ((alloc_cell (a := ⟨w5.heap.size, 2, none⟩) fcx).trans qx12_6)
  have zbx1_7 : w5.heap.size < w7.heap.size := fcx
  clear qx10_6 qx11_6 qx12_6
  have qg0r00_7 : w7.cell? ⟨w6.heap.size, 0, none⟩ = some (.slice g0r0dp0 g0r0dn0 g0r0dq0) := (b7.cell (p := ⟨w6.heap.size, 0, none⟩) fcx).trans (by simp)
  have zbg0r0_7 : w6.heap.size < w7.heap.size := fcx
  have Fw0r0_7 := Lib.hid ((Fw0r0_6.out.alloc _).below b7 fcx)
  clear Fw0r0_6
  have Fx0_7 := Lib.hid ((Fx0_6.out.alloc _).below b7 fcx)
  clear Fx0_6
  have Fx1_7 := Lib.hid ((Fx1_6.out.alloc _).below b7 fcx)
  clear Fx1_6
  have Fg0r0_7 := Lib.hid ((Fg0r0_6.out.alloc _).below b7 fcx)
  clear Fg0r0_6
  go_wp2_with fail
  go_region_held3 (fun w' => w'.cell? ⟨w.heap.size, 0, none⟩ = some (.slice ap0_0 an0_0 aq0_0) ∧ w'.cell? ⟨w.heap.size + 1, 0, none⟩ = some (.slice ap1_0 an1_0 aq1_0) ∧ w'.cell? ⟨w.heap.size + 1, 1, none⟩ = some (.int .i64 ax1_1) ∧ w'.cell? ⟨w.heap.size + 1, 2, none⟩ = some (.bool ax1_2) ∧ w'.cell? ⟨w0rg0, 0, none⟩ = some (.slice w0r0dp0 w0r0dn0 w0r0dq0) ∧ w'.cell? ⟨w4.heap.size, 0, none⟩ = some (.slice x0dp0 x0dn0 x0dq0) ∧ w'.cell? ⟨w5.heap.size, 0, none⟩ = some (.slice x1dp0 x1dn0 x1dq0) ∧ w'.cell? ⟨w5.heap.size, 1, none⟩ = some (.int .i64 d1.2.1) ∧ w'.cell? ⟨w5.heap.size, 2, none⟩ = some (.bool d1.2.2) ∧ w'.cell? ⟨w6.heap.size, 0, none⟩ = some (.slice g0r0dp0 g0r0dn0 g0r0dq0)) (first | go_keep | ((try dsimp only); (repeat' apply And.intro) <;> (first | go_keep | (refine ((Below.cell b9 ?_).trans ((Below.cell b8 ?_).trans ?_)) <;> first | assumption | omega | (simp; omega) | (simp; assumption)) | (refine ((Below.cell b8 ?_).trans ?_) <;> first | assumption | omega | (simp; omega) | (simp; assumption))))) ((first | (go_at_call 13; refine (toModel_any _ d0 _ (by exact rd_below H0.out belx) (by omega)).mono ?_; rintro e w8 ⟨ycs0, rfl, yf0, b8⟩; have B8 : Below w.heap.size w w8 := Below.trans belx (b8.mono fcx); have z8 : w7.heap.size ≤ w8.heap.size := by have := b8.size; (try simp only [World.size_alloc, World.size_drew] at this ⊢) <;> omega) | (go_at_call 16; refine (eqModel_any _ _ d0 _ (by exact ((Fx0_7.out.keep (w' := w7.drew) (fun _ _ _ => rfl) (Nat.le_refl _)).below b8 fcx).rd) (by exact yf0.rd)).mono ?_; rintro e w9 ⟨rfl, b9⟩; have B9 : Below w.heap.size w w9 := B8.trans (b9.mono fcx); have z9 := b9.size)))
  have hS := ‹_ ∧ _›
  obtain ⟨qa00_9, qa10_9, qa11_9, qa12_9, qw0r00_9, qx00_9, qx10_9, qx11_9, qx12_9, qg0r00_9⟩ := hS
  have zba0_9 : w.heap.size < w9.heap.size := fcx
  have zba1_9 : w.heap.size + 1 < w9.heap.size := fcx
  have zbw0r0_9 : w0rg0 < w9.heap.size := fcx
  have zbx0_9 : w4.heap.size < w9.heap.size := fcx
  have zbx1_9 : w5.heap.size < w9.heap.size := fcx
  have zbg0r0_9 : w6.heap.size < w9.heap.size := fcx
  have Fw0r0_9 := Lib.hid (((Fw0r0_7.out.keep (w' := w7.drew) (fun _ _ _ => rfl) (Nat.le_refl _)).below b8 fcx).below b9 fcx)
  clear Fw0r0_7
  have Fx0_9 := Lib.hid (((Fx0_7.out.keep (w' := w7.drew) (fun _ _ _ => rfl) (Nat.le_refl _)).below b8 fcx).below b9 fcx)
  clear Fx0_7
  have Fx1_9 := Lib.hid (((Fx1_7.out.keep (w' := w7.drew) (fun _ _ _ => rfl) (Nat.le_refl _)).below b8 fcx).below b9 fcx)
  clear Fx1_7
  have Fg0r0_9 := Lib.hid (((Fg0r0_7.out.keep (w' := w7.drew) (fun _ _ _ => rfl) (Nat.le_refl _)).below b8 fcx).below b9 fcx)
  clear Fg0r0_7
  go_wp2_with fail
  go_region_held3 (fun w' => w'.cell? ⟨w.heap.size, 0, none⟩ = some (.slice ap0_0 an0_0 aq0_0) ∧ w'.cell? ⟨w.heap.size + 1, 0, none⟩ = some (.slice ap1_0 an1_0 aq1_0) ∧ w'.cell? ⟨w.heap.size + 1, 1, none⟩ = some (.int .i64 ax1_1) ∧ w'.cell? ⟨w.heap.size + 1, 2, none⟩ = some (.bool ax1_2) ∧ w'.cell? ⟨w0rg0, 0, none⟩ = some (.slice w0r0dp0 w0r0dn0 w0r0dq0) ∧ w'.cell? ⟨w4.heap.size, 0, none⟩ = some (.slice x0dp0 x0dn0 x0dq0) ∧ w'.cell? ⟨w5.heap.size, 0, none⟩ = some (.slice x1dp0 x1dn0 x1dq0) ∧ w'.cell? ⟨w5.heap.size, 1, none⟩ = some (.int .i64 d1.2.1) ∧ w'.cell? ⟨w5.heap.size, 2, none⟩ = some (.bool d1.2.2) ∧ w'.cell? ⟨w6.heap.size, 0, none⟩ = some (.slice g0r0dp0 g0r0dn0 g0r0dq0)) (first | go_keep | ((try dsimp only); (repeat' apply And.intro) <;> (first | go_keep | (refine ((Below.cell b11 ?_).trans ((Below.cell b10 ?_).trans ?_)) <;> first | assumption | omega | (simp; omega) | (simp; assumption)) | (refine ((Below.cell b10 ?_).trans ?_) <;> first | assumption | omega | (simp; omega) | (simp; assumption))))) ((first | (go_at_call 14; refine (toGrads_any _ d1 _ (by exact rd_below H1.out belx) (by omega)).mono ?_; rintro e w10 ⟨ycs1, rfl, yf1, b10⟩; have B10 : Below w.heap.size w w10 := Below.trans belx (b10.mono fcx); have z10 : w9.heap.size ≤ w10.heap.size := by have := b10.size; (try simp only [World.size_alloc, World.size_drew] at this ⊢) <;> omega) | (go_at_call 17; refine (eqGrads_any _ _ d1 _ (by exact ((Fx1_9.out.keep (w' := w9.drew) (fun _ _ _ => rfl) (Nat.le_refl _)).below b10 fcx).rd) (by exact yf1.rd)).mono ?_; rintro e w11 ⟨rfl, b11⟩; have B11 : Below w.heap.size w w11 := B10.trans (b11.mono fcx); have z11 := b11.size)))
  have hS := ‹_ ∧ _›
  obtain ⟨qa00_11, qa10_11, qa11_11, qa12_11, qw0r00_11, qx00_11, qx10_11, qx11_11, qx12_11, qg0r00_11⟩ := hS
  have zba0_11 : w.heap.size < w11.heap.size := fcx
  have zba1_11 : w.heap.size + 1 < w11.heap.size := fcx
  have zbw0r0_11 : w0rg0 < w11.heap.size := fcx
  have zbx0_11 : w4.heap.size < w11.heap.size := fcx
  have zbx1_11 : w5.heap.size < w11.heap.size := fcx
  have zbg0r0_11 : w6.heap.size < w11.heap.size := fcx
  have Fw0r0_11 := Lib.hid (((Fw0r0_9.out.keep (w' := w9.drew) (fun _ _ _ => rfl) (Nat.le_refl _)).below b10 fcx).below b11 fcx)
  clear Fw0r0_9
  have Fx0_11 := Lib.hid (((Fx0_9.out.keep (w' := w9.drew) (fun _ _ _ => rfl) (Nat.le_refl _)).below b10 fcx).below b11 fcx)
  clear Fx0_9
  have Fx1_11 := Lib.hid (((Fx1_9.out.keep (w' := w9.drew) (fun _ _ _ => rfl) (Nat.le_refl _)).below b10 fcx).below b11 fcx)
  clear Fx1_9
  have Fg0r0_11 := Lib.hid (((Fg0r0_9.out.keep (w' := w9.drew) (fun _ _ _ => rfl) (Nat.le_refl _)).below b10 fcx).below b11 fcx)
  clear Fg0r0_9
  go_wp2_with fail
  obtain ⟨bl12, rep12, nd12, in12⟩ := (Fx0_11.out).un
  clear Fx0_11
  refine (markModel_un _ _ d0 _ _ (by exact rep12) nd12 (by omega) (by omega)).mono ?_
  rintro e w12 ⟨rfl, rp12, on12⟩
  have B12 : Below w.heap.size w w12 := Below.trans B11 (on12.below (fun b hb => by have := in12 b hb; (try simp only [World.size_alloc, World.size_drew] at this ⊢) <;> omega) fcx)
  have z12 : w11.heap.size + 0 ≤ w12.heap.size := by have := on12.size; (try simp only [World.size_alloc, World.size_drew] at this ⊢) <;> omega
  have qa00_12 : w12.cell? ⟨w.heap.size, 0, none⟩ = some (.slice ap0_0 an0_0 aq0_0) := (on12.cell (a := ⟨w.heap.size, 0, none⟩) (fun hm => by have := in12 _ hm; (try simp only [World.size_alloc, World.size_drew] at this ⊢) <;> omega) fcx).trans qa00_11
  have zba0_12 : w.heap.size < w12.heap.size := fcx
  clear qa00_11
  have qa10_12 : w12.cell? ⟨w.heap.size + 1, 0, none⟩ = some (.slice ap1_0 an1_0 aq1_0) := (on12.cell (a := ⟨w.heap.size + 1, 0, none⟩) (fun hm => by have := in12 _ hm; (try simp only [World.size_alloc, World.size_drew] at this ⊢) <;> omega) fcx).trans qa10_11
  have qa11_12 : w12.cell? ⟨w.heap.size + 1, 1, none⟩ = some (.int .i64 ax1_1) := (on12.cell (a := ⟨w.heap.size + 1, 1, none⟩) (fun hm => by have := in12 _ hm; (try simp only [World.size_alloc, World.size_drew] at this ⊢) <;> omega) fcx).trans qa11_11
  have qa12_12 : w12.cell? ⟨w.heap.size + 1, 2, none⟩ = some (.bool ax1_2) := (on12.cell (a := ⟨w.heap.size + 1, 2, none⟩) (fun hm => by have := in12 _ hm; (try simp only [World.size_alloc, World.size_drew] at this ⊢) <;> omega) fcx).trans qa12_11
  have zba1_12 : w.heap.size + 1 < w12.heap.size := fcx
  clear qa10_11 qa11_11 qa12_11
  have qw0r00_12 : w12.cell? ⟨w0rg0, 0, none⟩ = some (.slice w0r0dp0 w0r0dn0 w0r0dq0) := (on12.cell (a := ⟨w0rg0, 0, none⟩) (fun hm => by have := in12 _ hm; (try simp only [World.size_alloc, World.size_drew] at this ⊢) <;> omega) fcx).trans qw0r00_11
  have zbw0r0_12 : w0rg0 < w12.heap.size := fcx
  clear qw0r00_11
  have qx00_12 : w12.cell? ⟨w4.heap.size, 0, none⟩ = some (.slice x0dp0 x0dn0 x0dq0) := (on12.cell (a := ⟨w4.heap.size, 0, none⟩) (fun hm => by have := in12 _ hm; (try simp only [World.size_alloc, World.size_drew] at this ⊢) <;> omega) fcx).trans qx00_11
  have zbx0_12 : w4.heap.size < w12.heap.size := fcx
  clear qx00_11
  have qx10_12 : w12.cell? ⟨w5.heap.size, 0, none⟩ = some (.slice x1dp0 x1dn0 x1dq0) := (on12.cell (a := ⟨w5.heap.size, 0, none⟩) (fun hm => by have := in12 _ hm; (try simp only [World.size_alloc, World.size_drew] at this ⊢) <;> omega) fcx).trans qx10_11
  have qx11_12 : w12.cell? ⟨w5.heap.size, 1, none⟩ = some (.int .i64 d1.2.1) := (on12.cell (a := ⟨w5.heap.size, 1, none⟩) (fun hm => by have := in12 _ hm; (try simp only [World.size_alloc, World.size_drew] at this ⊢) <;> omega) fcx).trans qx11_11
  have qx12_12 : w12.cell? ⟨w5.heap.size, 2, none⟩ = some (.bool d1.2.2) := (on12.cell (a := ⟨w5.heap.size, 2, none⟩) (fun hm => by have := in12 _ hm; (try simp only [World.size_alloc, World.size_drew] at this ⊢) <;> omega) fcx).trans qx12_11
  have zbx1_12 : w5.heap.size < w12.heap.size := fcx
  clear qx10_11 qx11_11 qx12_11
  have qg0r00_12 : w12.cell? ⟨w6.heap.size, 0, none⟩ = some (.slice g0r0dp0 g0r0dn0 g0r0dq0) := (on12.cell (a := ⟨w6.heap.size, 0, none⟩) (fun hm => by have := in12 _ hm; (try simp only [World.size_alloc, World.size_drew] at this ⊢) <;> omega) fcx).trans qg0r00_11
  have zbg0r0_12 : w6.heap.size < w12.heap.size := fcx
  clear qg0r00_11
  have Fw0r0_12 := Lib.hid (Fw0r0_11.out.only on12 (fun b hb => by have := in12 b hb; (try simp only [World.size_alloc, World.size_drew] at this ⊢) <;> omega))
  clear Fw0r0_11
  have Fx1_12 := Lib.hid (Fx1_11.out.only on12 (fun b hb => by have := in12 b hb; (try simp only [World.size_alloc, World.size_drew] at this ⊢) <;> omega))
  clear Fx1_11
  have Fg0r0_12 := Lib.hid (Fg0r0_11.out.only on12 (fun b hb => by have := in12 b hb; (try simp only [World.size_alloc, World.size_drew] at this ⊢) <;> omega))
  clear Fg0r0_11
  have G12 := FrA.of_un rp12 nd12 in12 fcx
  clear rep12 rp12
  have Fx0_12 := Lib.hid G12; clear G12
  clear Fx0_12
  go_wp2_with fail
  obtain ⟨bl13, rep13, nd13, in13⟩ := (Fx1_12.out).un
  clear Fx1_12
  refine (markGrads_un _ _ d1 _ _ (by exact rep13) nd13 (by omega) (by omega)).mono ?_
  rintro e w13 ⟨rfl, rp13, on13⟩
  have B13 : Below w.heap.size w w13 := Below.trans B12 (on13.below (fun b hb => by have := in13 b hb; (try simp only [World.size_alloc, World.size_drew] at this ⊢) <;> omega) fcx)
  have z13 : w12.heap.size + 0 ≤ w13.heap.size := by have := on13.size; (try simp only [World.size_alloc, World.size_drew] at this ⊢) <;> omega
  have qa00_13 : w13.cell? ⟨w.heap.size, 0, none⟩ = some (.slice ap0_0 an0_0 aq0_0) := (on13.cell (a := ⟨w.heap.size, 0, none⟩) (fun hm => by have := in13 _ hm; (try simp only [World.size_alloc, World.size_drew] at this ⊢) <;> omega) fcx).trans qa00_12
  have zba0_13 : w.heap.size < w13.heap.size := fcx
  clear qa00_12
  have qa10_13 : w13.cell? ⟨w.heap.size + 1, 0, none⟩ = some (.slice ap1_0 an1_0 aq1_0) := (on13.cell (a := ⟨w.heap.size + 1, 0, none⟩) (fun hm => by have := in13 _ hm; (try simp only [World.size_alloc, World.size_drew] at this ⊢) <;> omega) fcx).trans qa10_12
  have qa11_13 : w13.cell? ⟨w.heap.size + 1, 1, none⟩ = some (.int .i64 ax1_1) := (on13.cell (a := ⟨w.heap.size + 1, 1, none⟩) (fun hm => by have := in13 _ hm; (try simp only [World.size_alloc, World.size_drew] at this ⊢) <;> omega) fcx).trans qa11_12
  have qa12_13 : w13.cell? ⟨w.heap.size + 1, 2, none⟩ = some (.bool ax1_2) := (on13.cell (a := ⟨w.heap.size + 1, 2, none⟩) (fun hm => by have := in13 _ hm; (try simp only [World.size_alloc, World.size_drew] at this ⊢) <;> omega) fcx).trans qa12_12
  have zba1_13 : w.heap.size + 1 < w13.heap.size := fcx
  clear qa10_12 qa11_12 qa12_12
  have qw0r00_13 : w13.cell? ⟨w0rg0, 0, none⟩ = some (.slice w0r0dp0 w0r0dn0 w0r0dq0) := (on13.cell (a := ⟨w0rg0, 0, none⟩) (fun hm => by have := in13 _ hm; (try simp only [World.size_alloc, World.size_drew] at this ⊢) <;> omega) fcx).trans qw0r00_12
  have zbw0r0_13 : w0rg0 < w13.heap.size := fcx
  clear qw0r00_12
  have qx00_13 : w13.cell? ⟨w4.heap.size, 0, none⟩ = some (.slice x0dp0 x0dn0 x0dq0) := (on13.cell (a := ⟨w4.heap.size, 0, none⟩) (fun hm => by have := in13 _ hm; (try simp only [World.size_alloc, World.size_drew] at this ⊢) <;> omega) fcx).trans qx00_12
  have zbx0_13 : w4.heap.size < w13.heap.size := fcx
  clear qx00_12
  have qx10_13 : w13.cell? ⟨w5.heap.size, 0, none⟩ = some (.slice x1dp0 x1dn0 x1dq0) := (on13.cell (a := ⟨w5.heap.size, 0, none⟩) (fun hm => by have := in13 _ hm; (try simp only [World.size_alloc, World.size_drew] at this ⊢) <;> omega) fcx).trans qx10_12
  have qx11_13 : w13.cell? ⟨w5.heap.size, 1, none⟩ = some (.int .i64 d1.2.1) := (on13.cell (a := ⟨w5.heap.size, 1, none⟩) (fun hm => by have := in13 _ hm; (try simp only [World.size_alloc, World.size_drew] at this ⊢) <;> omega) fcx).trans qx11_12
  have qx12_13 : w13.cell? ⟨w5.heap.size, 2, none⟩ = some (.bool d1.2.2) := (on13.cell (a := ⟨w5.heap.size, 2, none⟩) (fun hm => by have := in13 _ hm; (try simp only [World.size_alloc, World.size_drew] at this ⊢) <;> omega) fcx).trans qx12_12
  have zbx1_13 : w5.heap.size < w13.heap.size := fcx
  clear qx10_12 qx11_12 qx12_12
  have qg0r00_13 : w13.cell? ⟨w6.heap.size, 0, none⟩ = some (.slice g0r0dp0 g0r0dn0 g0r0dq0) := (on13.cell (a := ⟨w6.heap.size, 0, none⟩) (fun hm => by have := in13 _ hm; (try simp only [World.size_alloc, World.size_drew] at this ⊢) <;> omega) fcx).trans qg0r00_12
  have zbg0r0_13 : w6.heap.size < w13.heap.size := fcx
  clear qg0r00_12
  have Fw0r0_13 := Lib.hid (Fw0r0_12.out.only on13 (fun b hb => by have := in13 b hb; (try simp only [World.size_alloc, World.size_drew] at this ⊢) <;> omega))
  clear Fw0r0_12
  have Fg0r0_13 := Lib.hid (Fg0r0_12.out.only on13 (fun b hb => by have := in13 b hb; (try simp only [World.size_alloc, World.size_drew] at this ⊢) <;> omega))
  clear Fg0r0_12
  have G13 := FrA.of_un rp13 nd13 in13 fcx
  clear rep13 rp13
  have Fx1_13 := Lib.hid G13; clear G13
  clear Fx1_13
  go_wp2_with fail
  refine (eqModel_any _ _ R0 _ (by exact (Fg0r0_13.out).rd) (by exact (Fw0r0_13.out).rd)).mono ?_
  rintro e w14 ⟨rfl, b14⟩
  have B14 : Below w.heap.size w w14 := Below.trans B13 (b14.mono fcx)
  have z14 : w13.heap.size + 0 ≤ w14.heap.size := by have := b14.size; (try simp only [World.size_alloc, World.size_drew] at this ⊢) <;> omega
  have qa00_14 : w14.cell? ⟨w.heap.size, 0, none⟩ = some (.slice ap0_0 an0_0 aq0_0) := (b14.cell (p := ⟨w.heap.size, 0, none⟩) fcx).trans qa00_13
  have zba0_14 : w.heap.size < w14.heap.size := fcx
  clear qa00_13
  have qa10_14 : w14.cell? ⟨w.heap.size + 1, 0, none⟩ = some (.slice ap1_0 an1_0 aq1_0) := (b14.cell (p := ⟨w.heap.size + 1, 0, none⟩) fcx).trans qa10_13
  have qa11_14 : w14.cell? ⟨w.heap.size + 1, 1, none⟩ = some (.int .i64 ax1_1) := (b14.cell (p := ⟨w.heap.size + 1, 1, none⟩) fcx).trans qa11_13
  have qa12_14 : w14.cell? ⟨w.heap.size + 1, 2, none⟩ = some (.bool ax1_2) := (b14.cell (p := ⟨w.heap.size + 1, 2, none⟩) fcx).trans qa12_13
  have zba1_14 : w.heap.size + 1 < w14.heap.size := fcx
  clear qa10_13 qa11_13 qa12_13
  have qw0r00_14 : w14.cell? ⟨w0rg0, 0, none⟩ = some (.slice w0r0dp0 w0r0dn0 w0r0dq0) := (b14.cell (p := ⟨w0rg0, 0, none⟩) fcx).trans qw0r00_13
  have zbw0r0_14 : w0rg0 < w14.heap.size := fcx
  clear qw0r00_13
  have qx00_14 : w14.cell? ⟨w4.heap.size, 0, none⟩ = some (.slice x0dp0 x0dn0 x0dq0) := (b14.cell (p := ⟨w4.heap.size, 0, none⟩) fcx).trans qx00_13
  have zbx0_14 : w4.heap.size < w14.heap.size := fcx
  clear qx00_13
  have qx10_14 : w14.cell? ⟨w5.heap.size, 0, none⟩ = some (.slice x1dp0 x1dn0 x1dq0) := (b14.cell (p := ⟨w5.heap.size, 0, none⟩) fcx).trans qx10_13
  have qx11_14 : w14.cell? ⟨w5.heap.size, 1, none⟩ = some (.int .i64 d1.2.1) := (b14.cell (p := ⟨w5.heap.size, 1, none⟩) fcx).trans qx11_13
  have qx12_14 : w14.cell? ⟨w5.heap.size, 2, none⟩ = some (.bool d1.2.2) := (b14.cell (p := ⟨w5.heap.size, 2, none⟩) fcx).trans qx12_13
  have zbx1_14 : w5.heap.size < w14.heap.size := fcx
  clear qx10_13 qx11_13 qx12_13
  have qg0r00_14 : w14.cell? ⟨w6.heap.size, 0, none⟩ = some (.slice g0r0dp0 g0r0dn0 g0r0dq0) := (b14.cell (p := ⟨w6.heap.size, 0, none⟩) fcx).trans qg0r00_13
  have zbg0r0_14 : w6.heap.size < w14.heap.size := fcx
  clear qg0r00_13
  have Fw0r0_14 := Lib.hid (Fw0r0_13.out.below b14 fcx)
  clear Fw0r0_13
  have Fg0r0_14 := Lib.hid (Fg0r0_13.out.below b14 fcx)
  clear Fg0r0_13
  go_wp2_with fail
  obtain ⟨bl15, rep15, nd15, in15⟩ := (Fg0r0_14.out).un
  clear Fg0r0_14
  refine (markModel_un _ _ R0 _ _ (by exact rep15) nd15 (by omega) (by omega)).mono ?_
  rintro e w15 ⟨rfl, rp15, on15⟩
  have B15 : Below w.heap.size w w15 := Below.trans B14 (on15.below (fun b hb => by have := in15 b hb; (try simp only [World.size_alloc, World.size_drew] at this ⊢) <;> omega) fcx)
  have z15 : w14.heap.size + 0 ≤ w15.heap.size := by have := on15.size; (try simp only [World.size_alloc, World.size_drew] at this ⊢) <;> omega
  have qa00_15 : w15.cell? ⟨w.heap.size, 0, none⟩ = some (.slice ap0_0 an0_0 aq0_0) := (on15.cell (a := ⟨w.heap.size, 0, none⟩) (fun hm => by have := in15 _ hm; (try simp only [World.size_alloc, World.size_drew] at this ⊢) <;> omega) fcx).trans qa00_14
  have zba0_15 : w.heap.size < w15.heap.size := fcx
  clear qa00_14
  have qa10_15 : w15.cell? ⟨w.heap.size + 1, 0, none⟩ = some (.slice ap1_0 an1_0 aq1_0) := (on15.cell (a := ⟨w.heap.size + 1, 0, none⟩) (fun hm => by have := in15 _ hm; (try simp only [World.size_alloc, World.size_drew] at this ⊢) <;> omega) fcx).trans qa10_14
  have qa11_15 : w15.cell? ⟨w.heap.size + 1, 1, none⟩ = some (.int .i64 ax1_1) := (on15.cell (a := ⟨w.heap.size + 1, 1, none⟩) (fun hm => by have := in15 _ hm; (try simp only [World.size_alloc, World.size_drew] at this ⊢) <;> omega) fcx).trans qa11_14
  have qa12_15 : w15.cell? ⟨w.heap.size + 1, 2, none⟩ = some (.bool ax1_2) := (on15.cell (a := ⟨w.heap.size + 1, 2, none⟩) (fun hm => by have := in15 _ hm; (try simp only [World.size_alloc, World.size_drew] at this ⊢) <;> omega) fcx).trans qa12_14
  have zba1_15 : w.heap.size + 1 < w15.heap.size := fcx
  clear qa10_14 qa11_14 qa12_14
  have qw0r00_15 : w15.cell? ⟨w0rg0, 0, none⟩ = some (.slice w0r0dp0 w0r0dn0 w0r0dq0) := (on15.cell (a := ⟨w0rg0, 0, none⟩) (fun hm => by have := in15 _ hm; (try simp only [World.size_alloc, World.size_drew] at this ⊢) <;> omega) fcx).trans qw0r00_14
  have zbw0r0_15 : w0rg0 < w15.heap.size := fcx
  clear qw0r00_14
  have qx00_15 : w15.cell? ⟨w4.heap.size, 0, none⟩ = some (.slice x0dp0 x0dn0 x0dq0) := (on15.cell (a := ⟨w4.heap.size, 0, none⟩) (fun hm => by have := in15 _ hm; (try simp only [World.size_alloc, World.size_drew] at this ⊢) <;> omega) fcx).trans qx00_14
  have zbx0_15 : w4.heap.size < w15.heap.size := fcx
  clear qx00_14
  have qx10_15 : w15.cell? ⟨w5.heap.size, 0, none⟩ = some (.slice x1dp0 x1dn0 x1dq0) := (on15.cell (a := ⟨w5.heap.size, 0, none⟩) (fun hm => by have := in15 _ hm; (try simp only [World.size_alloc, World.size_drew] at this ⊢) <;> omega) fcx).trans qx10_14
  have qx11_15 : w15.cell? ⟨w5.heap.size, 1, none⟩ = some (.int .i64 d1.2.1) := (on15.cell (a := ⟨w5.heap.size, 1, none⟩) (fun hm => by have := in15 _ hm; (try simp only [World.size_alloc, World.size_drew] at this ⊢) <;> omega) fcx).trans qx11_14
  have qx12_15 : w15.cell? ⟨w5.heap.size, 2, none⟩ = some (.bool d1.2.2) := (on15.cell (a := ⟨w5.heap.size, 2, none⟩) (fun hm => by have := in15 _ hm; (try simp only [World.size_alloc, World.size_drew] at this ⊢) <;> omega) fcx).trans qx12_14
  have zbx1_15 : w5.heap.size < w15.heap.size := fcx
  clear qx10_14 qx11_14 qx12_14
  have qg0r00_15 : w15.cell? ⟨w6.heap.size, 0, none⟩ = some (.slice g0r0dp0 g0r0dn0 g0r0dq0) := (on15.cell (a := ⟨w6.heap.size, 0, none⟩) (fun hm => by have := in15 _ hm; (try simp only [World.size_alloc, World.size_drew] at this ⊢) <;> omega) fcx).trans qg0r00_14
  have zbg0r0_15 : w6.heap.size < w15.heap.size := fcx
  clear qg0r00_14
  have Fw0r0_15 := Lib.hid (Fw0r0_14.out.only on15 (fun b hb => by have := in15 b hb; (try simp only [World.size_alloc, World.size_drew] at this ⊢) <;> omega))
  clear Fw0r0_14
  have G15 := FrA.of_un rp15 nd15 in15 fcx
  clear rep15 rp15
  have Fg0r0_15 := Lib.hid G15; clear G15
  go_wp2_with fail
  refine (heldModel_any _ _ R0 _ (by exact (Fg0r0_15.out).rd) (by omega) (by omega)).mono ?_
  rintro e w16 ⟨rfl, b16⟩
  have B16 : Below w.heap.size w w16 := Below.trans B15 (b16.mono fcx)
  have z16 : w15.heap.size + 0 ≤ w16.heap.size := by have := b16.size; (try simp only [World.size_alloc, World.size_drew] at this ⊢) <;> omega
  have qa00_16 : w16.cell? ⟨w.heap.size, 0, none⟩ = some (.slice ap0_0 an0_0 aq0_0) := (b16.cell (p := ⟨w.heap.size, 0, none⟩) fcx).trans qa00_15
  have zba0_16 : w.heap.size < w16.heap.size := fcx
  clear qa00_15
  have qa10_16 : w16.cell? ⟨w.heap.size + 1, 0, none⟩ = some (.slice ap1_0 an1_0 aq1_0) := (b16.cell (p := ⟨w.heap.size + 1, 0, none⟩) fcx).trans qa10_15
  have qa11_16 : w16.cell? ⟨w.heap.size + 1, 1, none⟩ = some (.int .i64 ax1_1) := (b16.cell (p := ⟨w.heap.size + 1, 1, none⟩) fcx).trans qa11_15
  have qa12_16 : w16.cell? ⟨w.heap.size + 1, 2, none⟩ = some (.bool ax1_2) := (b16.cell (p := ⟨w.heap.size + 1, 2, none⟩) fcx).trans qa12_15
  have zba1_16 : w.heap.size + 1 < w16.heap.size := fcx
  clear qa10_15 qa11_15 qa12_15
  have qw0r00_16 : w16.cell? ⟨w0rg0, 0, none⟩ = some (.slice w0r0dp0 w0r0dn0 w0r0dq0) := (b16.cell (p := ⟨w0rg0, 0, none⟩) fcx).trans qw0r00_15
  have zbw0r0_16 : w0rg0 < w16.heap.size := fcx
  clear qw0r00_15
  have qx00_16 : w16.cell? ⟨w4.heap.size, 0, none⟩ = some (.slice x0dp0 x0dn0 x0dq0) := (b16.cell (p := ⟨w4.heap.size, 0, none⟩) fcx).trans qx00_15
  have zbx0_16 : w4.heap.size < w16.heap.size := fcx
  clear qx00_15
  have qx10_16 : w16.cell? ⟨w5.heap.size, 0, none⟩ = some (.slice x1dp0 x1dn0 x1dq0) := (b16.cell (p := ⟨w5.heap.size, 0, none⟩) fcx).trans qx10_15
  have qx11_16 : w16.cell? ⟨w5.heap.size, 1, none⟩ = some (.int .i64 d1.2.1) := (b16.cell (p := ⟨w5.heap.size, 1, none⟩) fcx).trans qx11_15
  have qx12_16 : w16.cell? ⟨w5.heap.size, 2, none⟩ = some (.bool d1.2.2) := (b16.cell (p := ⟨w5.heap.size, 2, none⟩) fcx).trans qx12_15
  have zbx1_16 : w5.heap.size < w16.heap.size := fcx
  clear qx10_15 qx11_15 qx12_15
  have qg0r00_16 : w16.cell? ⟨w6.heap.size, 0, none⟩ = some (.slice g0r0dp0 g0r0dn0 g0r0dq0) := (b16.cell (p := ⟨w6.heap.size, 0, none⟩) fcx).trans qg0r00_15
  have zbg0r0_16 : w6.heap.size < w16.heap.size := fcx
  clear qg0r00_15
  have Fw0r0_16 := Lib.hid (Fw0r0_15.out.below b16 fcx)
  clear Fw0r0_15
  have Fg0r0_16 := Lib.hid (Fg0r0_15.out.below b16 fcx)
  clear Fg0r0_15
  go_wp2_with fail
  go_cut [17, 18] (fun s17 s18 wx => ∃ (h0rg0 : Nat) (h0r0dp0 : Option Addr) (h0r0dn0 : Nat) (h0r0dq0 : Nat), s17 = .pointer (some ⟨h0rg0, 0, none⟩) ∧ s18 = .bool R1 ∧ wx.cell? ⟨h0rg0, 0, none⟩ = some (.slice h0r0dp0 h0r0dn0 h0r0dq0) ∧ Below w16.heap.size w16 wx ∧ w16.heap.size ≤ h0rg0 ∧ h0rg0 < wx.heap.size ∧ FrA tModel w16.heap.size wx.heap.size wx [.slice h0r0dp0 h0r0dn0 h0r0dq0] R0)
  case first =>
    go_region_held3 (fun w' => w'.cell? ⟨w.heap.size, 0, none⟩ = some (.slice ap0_0 an0_0 aq0_0) ∧ w'.cell? ⟨w.heap.size + 1, 0, none⟩ = some (.slice ap1_0 an1_0 aq1_0) ∧ w'.cell? ⟨w.heap.size + 1, 1, none⟩ = some (.int .i64 ax1_1) ∧ w'.cell? ⟨w.heap.size + 1, 2, none⟩ = some (.bool ax1_2) ∧ w'.cell? ⟨w0rg0, 0, none⟩ = some (.slice w0r0dp0 w0r0dn0 w0r0dq0) ∧ w'.cell? ⟨w4.heap.size, 0, none⟩ = some (.slice x0dp0 x0dn0 x0dq0) ∧ w'.cell? ⟨w5.heap.size, 0, none⟩ = some (.slice x1dp0 x1dn0 x1dq0) ∧ w'.cell? ⟨w5.heap.size, 1, none⟩ = some (.int .i64 d1.2.1) ∧ w'.cell? ⟨w5.heap.size, 2, none⟩ = some (.bool d1.2.2) ∧ w'.cell? ⟨w6.heap.size, 0, none⟩ = some (.slice g0r0dp0 g0r0dn0 g0r0dq0)) (exact ⟨(Below.cell (w := w16) (B := w16.heap.size) belx fcx).trans qa00_16, (Below.cell (w := w16) (B := w16.heap.size) belx fcx).trans qa10_16, (Below.cell (w := w16) (B := w16.heap.size) belx fcx).trans qa11_16, (Below.cell (w := w16) (B := w16.heap.size) belx fcx).trans qa12_16, (Below.cell (w := w16) (B := w16.heap.size) belx fcx).trans qw0r00_16, (Below.cell (w := w16) (B := w16.heap.size) belx fcx).trans qx00_16, (Below.cell (w := w16) (B := w16.heap.size) belx fcx).trans qx10_16, (Below.cell (w := w16) (B := w16.heap.size) belx fcx).trans qx11_16, (Below.cell (w := w16) (B := w16.heap.size) belx fcx).trans qx12_16, (Below.cell (w := w16) (B := w16.heap.size) belx fcx).trans qg0r00_16⟩) ((first | (go_at_call 13; refine (toModel_any _ d0 _ (by exact rd_below H0.out belx) (by omega)).mono ?_; rintro e w17 ⟨ucs0, rfl, uf0, b17⟩; have B17 : Below w.heap.size w w17 := Below.trans belx (b17.mono fcx); have C17 : Below w16.heap.size w16 w17 := Below.trans belx (b17.mono fcx); have z17 : w16.heap.size ≤ w17.heap.size := (by have := b17.size; (try simp only [World.size_alloc, World.size_drew] at this ⊢) <;> omega); (try have y17 : w16.heap.size < w17.heap.size := (by have := b17.size; first | omega | (simp only [World.size_alloc, World.size_drew] at this; omega))); (try have kb16_17_0 : w17.cell? ⟨w16.heap.size, 0, none⟩ = some (.slice none 0 0) := (b17.cell (p := ⟨w16.heap.size, 0, none⟩) fcx).trans (by first | assumption | exact new_cell rfl rfl)); (try have kf16_17_0 : w17.frozen? ⟨w16.heap.size, 0, none⟩ = false := (b17.frozen (p := ⟨w16.heap.size, 0, none⟩) fcx).trans (by first | assumption | exact new_frozen rfl))) | (go_at_call 14; refine (toGrads_any _ d1 _ (by exact rd_below H1.out belx) (by omega)).mono ?_; rintro e w18 ⟨ucs1, rfl, uf1, b18⟩; have B18 : Below w.heap.size w w18 := Below.trans belx (b18.mono fcx); have C18 : Below w16.heap.size w16 w18 := Below.trans belx (b18.mono fcx); have z18 : w17.heap.size ≤ w18.heap.size := (by have := b18.size; (try simp only [World.size_alloc, World.size_drew] at this ⊢) <;> omega); (try have y18 : w17.heap.size < w18.heap.size := (by have := b18.size; first | omega | (simp only [World.size_alloc, World.size_drew] at this; omega))); (try have kb16_18_0 : w18.cell? ⟨w16.heap.size, 0, none⟩ = some (.slice none 0 0) := (b18.cell (p := ⟨w16.heap.size, 0, none⟩) fcx).trans (by first | assumption | exact new_cell rfl rfl)); (try have kf16_18_0 : w18.frozen? ⟨w16.heap.size, 0, none⟩ = false := (b18.frozen (p := ⟨w16.heap.size, 0, none⟩) fcx).trans (by first | assumption | exact new_frozen rfl)); (try have kb17_18_0 : w18.cell? ⟨w17.heap.size, 0, none⟩ = some (.slice none 0 0) := (b18.cell (p := ⟨w17.heap.size, 0, none⟩) fcx).trans (by first | assumption | exact new_cell rfl rfl)); (try have kf17_18_0 : w18.frozen? ⟨w17.heap.size, 0, none⟩ = false := (b18.frozen (p := ⟨w17.heap.size, 0, none⟩) fcx).trans (by first | assumption | exact new_frozen rfl)); (first | replace uf0 := FrIn.below uf0 b18 fcx | replace uf0 := FrIn.below (FrIn.alloc uf0 _) b18 fcx)) | (go_at_call 15; refine (HI.out _ _ _ (by first | exact uf0.rd | exact (uf0.alloc _).rd) (by first | exact uf1.rd | exact (uf1.alloc _).rd)).mono ?_; rintro e w19 ⟨h0rcs0, rfl, h0rf0, b19⟩; have B19 : Below w.heap.size w w19 := Below.trans belx (b19.mono fcx); have C19 : Below w16.heap.size w16 w19 := Below.trans belx (b19.mono fcx); have z19 : w18.heap.size ≤ w19.heap.size := (by have := b19.size; (try simp only [World.size_alloc, World.size_drew] at this ⊢) <;> omega); (try have y19 : w18.heap.size < w19.heap.size := (by have := b19.size; first | omega | (simp only [World.size_alloc, World.size_drew] at this; omega))); (try have kb16_19_0 : w19.cell? ⟨w16.heap.size, 0, none⟩ = some (.slice none 0 0) := (b19.cell (p := ⟨w16.heap.size, 0, none⟩) fcx).trans (by first | assumption | exact new_cell rfl rfl)); (try have kf16_19_0 : w19.frozen? ⟨w16.heap.size, 0, none⟩ = false := (b19.frozen (p := ⟨w16.heap.size, 0, none⟩) fcx).trans (by first | assumption | exact new_frozen rfl)); (try have kb17_19_0 : w19.cell? ⟨w17.heap.size, 0, none⟩ = some (.slice none 0 0) := (b19.cell (p := ⟨w17.heap.size, 0, none⟩) fcx).trans (by first | assumption | exact new_cell rfl rfl)); (try have kf17_19_0 : w19.frozen? ⟨w17.heap.size, 0, none⟩ = false := (b19.frozen (p := ⟨w17.heap.size, 0, none⟩) fcx).trans (by first | assumption | exact new_frozen rfl)); (try have kb18_19_0 : w19.cell? ⟨w18.heap.size, 0, none⟩ = some (.slice none 0 0) := (b19.cell (p := ⟨w18.heap.size, 0, none⟩) fcx).trans (by first | assumption | exact new_cell rfl rfl)); (try have kf18_19_0 : w19.frozen? ⟨w18.heap.size, 0, none⟩ = false := (b19.frozen (p := ⟨w18.heap.size, 0, none⟩) fcx).trans (by first | assumption | exact new_frozen rfl)); (have rrh0r0d := h0rf0.rd); (obtain ⟨h0r0dp0, h0r0dn0, h0r0dq0, h0r0dhcs, h0r0ds0⟩ := rrh0r0d); (obtain rfl : h0rcs0 = #[.slice h0r0dp0 h0r0dn0 h0r0dq0] := arr_of h0r0dhcs); (clear h0r0dhcs)) | fail))
    all_goals (go_wp2_with fail; go_meet; refine ⟨_, h0r0dp0, h0r0dn0, h0r0dq0, rfl, rfl, (by first | exact new_cell rfl rfl | exact (World.cell?_setCell_same _ _ _ (by assumption))), belx, ?lo, ?hi, ?fr⟩; (case lo => exact fcx); (case hi => exact fcx); (case fr => first | exact FrA.mono (FrA.alloc h0rf0 _) fcx fcx (Nat.le_refl _) | exact FrA.mono (FrA.set1 (h0rf0) (Or.inl fcx) _) fcx fcx (Nat.le_refl _)))
  obtain ⟨h0rg0, h0r0dp0, h0r0dn0, h0r0dq0, rfl, rfl, qh0r00_17, bcut, h0rg0lo, h0rg0hi, h0rf0⟩ := hcut
  obtain ⟨w17, rfl⟩ : ∃ z, z = wc := ⟨_, rfl⟩
  have B17 : Below w.heap.size w w17 := Below.trans B16 (bcut.mono fcx)
  have z17 : w16.heap.size + 0 ≤ w17.heap.size := by have := bcut.size; (try simp only [World.size_alloc, World.size_drew] at this ⊢) <;> omega
  have qa00_17 : w17.cell? ⟨w.heap.size, 0, none⟩ = some (.slice ap0_0 an0_0 aq0_0) := (bcut.cell (p := ⟨w.heap.size, 0, none⟩) fcx).trans qa00_16
  have zba0_17 : w.heap.size < w17.heap.size := fcx
  clear qa00_16
  have qa10_17 : w17.cell? ⟨w.heap.size + 1, 0, none⟩ = some (.slice ap1_0 an1_0 aq1_0) := (bcut.cell (p := ⟨w.heap.size + 1, 0, none⟩) fcx).trans qa10_16
  have qa11_17 : w17.cell? ⟨w.heap.size + 1, 1, none⟩ = some (.int .i64 ax1_1) := (bcut.cell (p := ⟨w.heap.size + 1, 1, none⟩) fcx).trans qa11_16
  have qa12_17 : w17.cell? ⟨w.heap.size + 1, 2, none⟩ = some (.bool ax1_2) := (bcut.cell (p := ⟨w.heap.size + 1, 2, none⟩) fcx).trans qa12_16
  have zba1_17 : w.heap.size + 1 < w17.heap.size := fcx
  clear qa10_16 qa11_16 qa12_16
  have qw0r00_17 : w17.cell? ⟨w0rg0, 0, none⟩ = some (.slice w0r0dp0 w0r0dn0 w0r0dq0) := (bcut.cell (p := ⟨w0rg0, 0, none⟩) fcx).trans qw0r00_16
  have zbw0r0_17 : w0rg0 < w17.heap.size := fcx
  clear qw0r00_16
  have qx00_17 : w17.cell? ⟨w4.heap.size, 0, none⟩ = some (.slice x0dp0 x0dn0 x0dq0) := (bcut.cell (p := ⟨w4.heap.size, 0, none⟩) fcx).trans qx00_16
  have zbx0_17 : w4.heap.size < w17.heap.size := fcx
  clear qx00_16
  have qx10_17 : w17.cell? ⟨w5.heap.size, 0, none⟩ = some (.slice x1dp0 x1dn0 x1dq0) := (bcut.cell (p := ⟨w5.heap.size, 0, none⟩) fcx).trans qx10_16
  have qx11_17 : w17.cell? ⟨w5.heap.size, 1, none⟩ = some (.int .i64 d1.2.1) := (bcut.cell (p := ⟨w5.heap.size, 1, none⟩) fcx).trans qx11_16
  have qx12_17 : w17.cell? ⟨w5.heap.size, 2, none⟩ = some (.bool d1.2.2) := (bcut.cell (p := ⟨w5.heap.size, 2, none⟩) fcx).trans qx12_16
  have zbx1_17 : w5.heap.size < w17.heap.size := fcx
  clear qx10_16 qx11_16 qx12_16
  have qg0r00_17 : w17.cell? ⟨w6.heap.size, 0, none⟩ = some (.slice g0r0dp0 g0r0dn0 g0r0dq0) := (bcut.cell (p := ⟨w6.heap.size, 0, none⟩) fcx).trans qg0r00_16
  have zbg0r0_17 : w6.heap.size < w17.heap.size := fcx
  clear qg0r00_16
  have Fw0r0_17 := Lib.hid (Fw0r0_16.out.below bcut fcx)
  clear Fw0r0_16
  have Fg0r0_17 := Lib.hid (Fg0r0_16.out.below bcut fcx)
  clear Fg0r0_16
  have zbh0r0_17 : h0rg0 < w17.heap.size := h0rg0hi
  have Fh0r0_17 := Lib.hid h0rf0; clear h0rf0
  go_wp2_with fail
  refine (eqModel_any _ _ R0 _ (by exact (Fh0r0_17.out).rd) (by exact (Fw0r0_17.out).rd)).mono ?_
  rintro e w18 ⟨rfl, b18⟩
  have B18 : Below w.heap.size w w18 := Below.trans B17 (b18.mono fcx)
  have z18 : w17.heap.size + 0 ≤ w18.heap.size := by have := b18.size; (try simp only [World.size_alloc, World.size_drew] at this ⊢) <;> omega
  have qa00_18 : w18.cell? ⟨w.heap.size, 0, none⟩ = some (.slice ap0_0 an0_0 aq0_0) := (b18.cell (p := ⟨w.heap.size, 0, none⟩) fcx).trans qa00_17
  have zba0_18 : w.heap.size < w18.heap.size := fcx
  clear qa00_17
  have qa10_18 : w18.cell? ⟨w.heap.size + 1, 0, none⟩ = some (.slice ap1_0 an1_0 aq1_0) := (b18.cell (p := ⟨w.heap.size + 1, 0, none⟩) fcx).trans qa10_17
  have qa11_18 : w18.cell? ⟨w.heap.size + 1, 1, none⟩ = some (.int .i64 ax1_1) := (b18.cell (p := ⟨w.heap.size + 1, 1, none⟩) fcx).trans qa11_17
  have qa12_18 : w18.cell? ⟨w.heap.size + 1, 2, none⟩ = some (.bool ax1_2) := (b18.cell (p := ⟨w.heap.size + 1, 2, none⟩) fcx).trans qa12_17
  have zba1_18 : w.heap.size + 1 < w18.heap.size := fcx
  clear qa10_17 qa11_17 qa12_17
  have qw0r00_18 : w18.cell? ⟨w0rg0, 0, none⟩ = some (.slice w0r0dp0 w0r0dn0 w0r0dq0) := (b18.cell (p := ⟨w0rg0, 0, none⟩) fcx).trans qw0r00_17
  have zbw0r0_18 : w0rg0 < w18.heap.size := fcx
  clear qw0r00_17
  have qx00_18 : w18.cell? ⟨w4.heap.size, 0, none⟩ = some (.slice x0dp0 x0dn0 x0dq0) := (b18.cell (p := ⟨w4.heap.size, 0, none⟩) fcx).trans qx00_17
  have zbx0_18 : w4.heap.size < w18.heap.size := fcx
  clear qx00_17
  have qx10_18 : w18.cell? ⟨w5.heap.size, 0, none⟩ = some (.slice x1dp0 x1dn0 x1dq0) := (b18.cell (p := ⟨w5.heap.size, 0, none⟩) fcx).trans qx10_17
  have qx11_18 : w18.cell? ⟨w5.heap.size, 1, none⟩ = some (.int .i64 d1.2.1) := (b18.cell (p := ⟨w5.heap.size, 1, none⟩) fcx).trans qx11_17
  have qx12_18 : w18.cell? ⟨w5.heap.size, 2, none⟩ = some (.bool d1.2.2) := (b18.cell (p := ⟨w5.heap.size, 2, none⟩) fcx).trans qx12_17
  have zbx1_18 : w5.heap.size < w18.heap.size := fcx
  clear qx10_17 qx11_17 qx12_17
  have qg0r00_18 : w18.cell? ⟨w6.heap.size, 0, none⟩ = some (.slice g0r0dp0 g0r0dn0 g0r0dq0) := (b18.cell (p := ⟨w6.heap.size, 0, none⟩) fcx).trans qg0r00_17
  have zbg0r0_18 : w6.heap.size < w18.heap.size := fcx
  clear qg0r00_17
  have qh0r00_18 : w18.cell? ⟨h0rg0, 0, none⟩ = some (.slice h0r0dp0 h0r0dn0 h0r0dq0) := (b18.cell (p := ⟨h0rg0, 0, none⟩) fcx).trans qh0r00_17
  have zbh0r0_18 : h0rg0 < w18.heap.size := fcx
  clear qh0r00_17
  have Fw0r0_18 := Lib.hid (Fw0r0_17.out.below b18 fcx)
  clear Fw0r0_17
  have Fg0r0_18 := Lib.hid (Fg0r0_17.out.below b18 fcx)
  clear Fg0r0_17
  have Fh0r0_18 := Lib.hid (Fh0r0_17.out.below b18 fcx)
  clear Fh0r0_17
  go_wp2_with fail
  refine (heldModel_any _ _ R0 _ (by exact (Fg0r0_18.out).rd) (by omega) (by omega)).mono ?_
  rintro e w19 ⟨rfl, b19⟩
  have B19 : Below w.heap.size w w19 := Below.trans B18 (b19.mono fcx)
  have z19 : w18.heap.size + 0 ≤ w19.heap.size := by have := b19.size; (try simp only [World.size_alloc, World.size_drew] at this ⊢) <;> omega
  have qa00_19 : w19.cell? ⟨w.heap.size, 0, none⟩ = some (.slice ap0_0 an0_0 aq0_0) := (b19.cell (p := ⟨w.heap.size, 0, none⟩) fcx).trans qa00_18
  have zba0_19 : w.heap.size < w19.heap.size := fcx
  clear qa00_18
  have qa10_19 : w19.cell? ⟨w.heap.size + 1, 0, none⟩ = some (.slice ap1_0 an1_0 aq1_0) := (b19.cell (p := ⟨w.heap.size + 1, 0, none⟩) fcx).trans qa10_18
  have qa11_19 : w19.cell? ⟨w.heap.size + 1, 1, none⟩ = some (.int .i64 ax1_1) := (b19.cell (p := ⟨w.heap.size + 1, 1, none⟩) fcx).trans qa11_18
  have qa12_19 : w19.cell? ⟨w.heap.size + 1, 2, none⟩ = some (.bool ax1_2) := (b19.cell (p := ⟨w.heap.size + 1, 2, none⟩) fcx).trans qa12_18
  have zba1_19 : w.heap.size + 1 < w19.heap.size := fcx
  clear qa10_18 qa11_18 qa12_18
  have qw0r00_19 : w19.cell? ⟨w0rg0, 0, none⟩ = some (.slice w0r0dp0 w0r0dn0 w0r0dq0) := (b19.cell (p := ⟨w0rg0, 0, none⟩) fcx).trans qw0r00_18
  have zbw0r0_19 : w0rg0 < w19.heap.size := fcx
  clear qw0r00_18
  have qx00_19 : w19.cell? ⟨w4.heap.size, 0, none⟩ = some (.slice x0dp0 x0dn0 x0dq0) := (b19.cell (p := ⟨w4.heap.size, 0, none⟩) fcx).trans qx00_18
  have zbx0_19 : w4.heap.size < w19.heap.size := fcx
  clear qx00_18
  have qx10_19 : w19.cell? ⟨w5.heap.size, 0, none⟩ = some (.slice x1dp0 x1dn0 x1dq0) := (b19.cell (p := ⟨w5.heap.size, 0, none⟩) fcx).trans qx10_18
  have qx11_19 : w19.cell? ⟨w5.heap.size, 1, none⟩ = some (.int .i64 d1.2.1) := (b19.cell (p := ⟨w5.heap.size, 1, none⟩) fcx).trans qx11_18
  have qx12_19 : w19.cell? ⟨w5.heap.size, 2, none⟩ = some (.bool d1.2.2) := (b19.cell (p := ⟨w5.heap.size, 2, none⟩) fcx).trans qx12_18
  have zbx1_19 : w5.heap.size < w19.heap.size := fcx
  clear qx10_18 qx11_18 qx12_18
  have qg0r00_19 : w19.cell? ⟨w6.heap.size, 0, none⟩ = some (.slice g0r0dp0 g0r0dn0 g0r0dq0) := (b19.cell (p := ⟨w6.heap.size, 0, none⟩) fcx).trans qg0r00_18
  have zbg0r0_19 : w6.heap.size < w19.heap.size := fcx
  clear qg0r00_18
  have qh0r00_19 : w19.cell? ⟨h0rg0, 0, none⟩ = some (.slice h0r0dp0 h0r0dn0 h0r0dq0) := (b19.cell (p := ⟨h0rg0, 0, none⟩) fcx).trans qh0r00_18
  have zbh0r0_19 : h0rg0 < w19.heap.size := fcx
  clear qh0r00_18
  have Fw0r0_19 := Lib.hid (Fw0r0_18.out.below b19 fcx)
  clear Fw0r0_18
  have Fg0r0_19 := Lib.hid (Fg0r0_18.out.below b19 fcx)
  clear Fg0r0_18
  have Fh0r0_19 := Lib.hid (Fh0r0_18.out.below b19 fcx)
  clear Fh0r0_18
  go_wp2
  go_ret
  exact ⟨rfl, B19⟩
end Go.Proofs.Ytiihghfoeinbbaa
