/- The walk of FnExactShowStage. -/
import Derived.Test.YtbbbpbioehnblaaBShowStage
import Derived.Test.YtbbbpbioehnblaaTStage
import Derived.Deep.RegionHeld3
namespace Go.Proofs.Ytbbbpbioehnblaa
open Go.ChangeShapes Go.WideShapes Go.ChangeAt Go.RowKit
set_option linter.unusedVariables false
set_option linter.unusedSimpArgs false
set_option maxRecDepth 100000 in
set_option maxHeartbeats 4000000 in
theorem fnExactShowStage_walk (w : World) (cs0 : Array Value) (d0 : Ty.D tStage) (h0 : rd tStage w cs0.toList d0) :
    Calls Try.prog 4 #[.agg cs0] w fun e w' => e = .returned (.bool true) ∧ Below w.heap.size w w' := by
  obtain ⟨ax0_0, ap0_1, an0_1, aq0_1, ap0_2, an0_2, aq0_2, ax0_3, ax0_4, ap0_5, an0_5, aq0_5, ap0_6, an0_6, aq0_6, ap0_7, an0_7, aq0_7, ap0_8, an0_8, aq0_8, ap0_9, an0_9, aq0_9, ap0_10, an0_10, aq0_10, ap0_11, an0_11, aq0_11, ax0_12, ax0_13, rfl⟩ : ∃ ax0_0 ap0_1 an0_1 aq0_1 ap0_2 an0_2 aq0_2 ax0_3 ax0_4 ap0_5 an0_5 aq0_5 ap0_6 an0_6 aq0_6 ap0_7 an0_7 aq0_7 ap0_8 an0_8 aq0_8 ap0_9 an0_9 aq0_9 ap0_10 an0_10 aq0_10 ap0_11 an0_11 aq0_11 ax0_12 ax0_13, cs0 = #[.int .i64 ax0_0, .slice ap0_1 an0_1 aq0_1, .slice ap0_2 an0_2 aq0_2, .bool ax0_3, .bool ax0_4, .slice ap0_5 an0_5 aq0_5, .slice ap0_6 an0_6 aq0_6, .slice ap0_7 an0_7 aq0_7, .slice ap0_8 an0_8 aq0_8, .slice ap0_9 an0_9 aq0_9, .slice ap0_10 an0_10 aq0_10, .slice ap0_11 an0_11 aq0_11, .int .i64 ax0_12, .bool ax0_13] := by
    obtain ⟨_, _, khcs, ⟨rfl, kw0⟩, ⟨_, _, rfl, ⟨kp1, kn1, kq1, rfl, ks1⟩, ⟨_, _, rfl, ⟨kp2, kn2, kq2, rfl, ks2⟩, ⟨_, _, rfl, rfl, ⟨_, _, rfl, rfl, ⟨_, _, rfl, ⟨kp5, kn5, kq5, rfl, ks5⟩, ⟨_, _, rfl, ⟨kp6, kn6, kq6, rfl, ks6⟩, ⟨_, _, rfl, ⟨kp7, kn7, kq7, rfl, ks7⟩, ⟨_, _, rfl, ⟨kp8, kn8, kq8, rfl, ks8⟩, ⟨_, _, rfl, ⟨kp9, kn9, kq9, rfl, ks9⟩, ⟨_, _, rfl, ⟨kp10, kn10, kq10, rfl, ks10⟩, ⟨_, _, rfl, ⟨kp11, kn11, kq11, rfl, ks11⟩, ⟨_, _, rfl, ⟨rfl, kw12⟩, rfl⟩⟩⟩⟩⟩⟩⟩⟩⟩⟩⟩⟩⟩ := h0
    exact ⟨d0.1, kp1, kn1, kq1, kp2, kn2, kq2, d0.2.2.2.1, d0.2.2.2.2.1, kp5, kn5, kq5, kp6, kn6, kq6, kp7, kn7, kq7, kp8, kn8, kq8, kp9, kn9, kq9, kp10, kn10, kq10, kp11, kn11, kq11, d0.2.2.2.2.2.2.2.2.2.2.2.2.1, d0.2.2.2.2.2.2.2.2.2.2.2.2.2, arr_of khcs⟩
  have H0 := Lib.hid h0; clear h0
  by_cases hz0 : ((szT tStage d0 : Nat) : Int) ≤ (1048576 : Int)
  rotate_left
  · skip
    go_enter Try.func4, Try.ntmps4
    go_wp2_with fail
    refine (szStage_no _ d0 _ _ (by exact rd_below H0.out belx) (by omega) (by omega) (by omega)).mono ?_
    rintro e w1 ⟨rfl, b1⟩
    have B1 : Below w.heap.size w w1 := Below.trans belx (b1.mono fcx)
    have z1 : w.heap.size + 1 ≤ w1.heap.size := by have := b1.size; (try simp only [World.size_alloc, World.size_drew] at this ⊢) <;> omega
    have qa00_1 : w1.cell? ⟨w.heap.size, 0, none⟩ = some (.int .i64 ax0_0) := (b1.cell (p := ⟨w.heap.size, 0, none⟩) fcx).trans (by simp)
    have qa01_1 : w1.cell? ⟨w.heap.size, 1, none⟩ = some (.slice ap0_1 an0_1 aq0_1) := (b1.cell (p := ⟨w.heap.size, 1, none⟩) fcx).trans (by simp)
    have qa02_1 : w1.cell? ⟨w.heap.size, 2, none⟩ = some (.slice ap0_2 an0_2 aq0_2) := (b1.cell (p := ⟨w.heap.size, 2, none⟩) fcx).trans (by simp)
    have qa03_1 : w1.cell? ⟨w.heap.size, 3, none⟩ = some (.bool ax0_3) := (b1.cell (p := ⟨w.heap.size, 3, none⟩) fcx).trans (by simp)
    have qa04_1 : w1.cell? ⟨w.heap.size, 4, none⟩ = some (.bool ax0_4) := (b1.cell (p := ⟨w.heap.size, 4, none⟩) fcx).trans (by simp)
    have qa05_1 : w1.cell? ⟨w.heap.size, 5, none⟩ = some (.slice ap0_5 an0_5 aq0_5) := (b1.cell (p := ⟨w.heap.size, 5, none⟩) fcx).trans (by simp)
    have qa06_1 : w1.cell? ⟨w.heap.size, 6, none⟩ = some (.slice ap0_6 an0_6 aq0_6) := (b1.cell (p := ⟨w.heap.size, 6, none⟩) fcx).trans (by simp)
    have qa07_1 : w1.cell? ⟨w.heap.size, 7, none⟩ = some (.slice ap0_7 an0_7 aq0_7) := (b1.cell (p := ⟨w.heap.size, 7, none⟩) fcx).trans (by simp)
    have qa08_1 : w1.cell? ⟨w.heap.size, 8, none⟩ = some (.slice ap0_8 an0_8 aq0_8) := (b1.cell (p := ⟨w.heap.size, 8, none⟩) fcx).trans (by simp)
    have qa09_1 : w1.cell? ⟨w.heap.size, 9, none⟩ = some (.slice ap0_9 an0_9 aq0_9) := (b1.cell (p := ⟨w.heap.size, 9, none⟩) fcx).trans (by simp)
    have qa010_1 : w1.cell? ⟨w.heap.size, 10, none⟩ = some (.slice ap0_10 an0_10 aq0_10) := (b1.cell (p := ⟨w.heap.size, 10, none⟩) fcx).trans (by simp)
    have qa011_1 : w1.cell? ⟨w.heap.size, 11, none⟩ = some (.slice ap0_11 an0_11 aq0_11) := (b1.cell (p := ⟨w.heap.size, 11, none⟩) fcx).trans (by simp)
    have qa012_1 : w1.cell? ⟨w.heap.size, 12, none⟩ = some (.int .i64 ax0_12) := (b1.cell (p := ⟨w.heap.size, 12, none⟩) fcx).trans (by simp)
    have qa013_1 : w1.cell? ⟨w.heap.size, 13, none⟩ = some (.bool ax0_13) := (b1.cell (p := ⟨w.heap.size, 13, none⟩) fcx).trans (by simp)
    have zba0_1 : w.heap.size < w1.heap.size := fcx
    go_wp2
    go_ret
    exact ⟨rfl, B1⟩
  obtain ⟨R0, hS, hI⟩ := showStage_both d0 (by omega)
  have HS := Lib.hid hS; have HI := Lib.hid hI; clear hS hI
  go_enter Try.func4, Try.ntmps4
  go_wp2_with fail
  refine (szStage_ok _ d0 _ _ (by exact rd_below H0.out belx) (by omega) (by omega) (by omega)).mono ?_
  rintro e w1 ⟨rfl, b1⟩
  have B1 : Below w.heap.size w w1 := Below.trans belx (b1.mono fcx)
  have z1 : w.heap.size + 1 ≤ w1.heap.size := by have := b1.size; (try simp only [World.size_alloc, World.size_drew] at this ⊢) <;> omega
  have qa00_1 : w1.cell? ⟨w.heap.size, 0, none⟩ = some (.int .i64 ax0_0) := (b1.cell (p := ⟨w.heap.size, 0, none⟩) fcx).trans (by simp)
  have qa01_1 : w1.cell? ⟨w.heap.size, 1, none⟩ = some (.slice ap0_1 an0_1 aq0_1) := (b1.cell (p := ⟨w.heap.size, 1, none⟩) fcx).trans (by simp)
  have qa02_1 : w1.cell? ⟨w.heap.size, 2, none⟩ = some (.slice ap0_2 an0_2 aq0_2) := (b1.cell (p := ⟨w.heap.size, 2, none⟩) fcx).trans (by simp)
  have qa03_1 : w1.cell? ⟨w.heap.size, 3, none⟩ = some (.bool ax0_3) := (b1.cell (p := ⟨w.heap.size, 3, none⟩) fcx).trans (by simp)
  have qa04_1 : w1.cell? ⟨w.heap.size, 4, none⟩ = some (.bool ax0_4) := (b1.cell (p := ⟨w.heap.size, 4, none⟩) fcx).trans (by simp)
  have qa05_1 : w1.cell? ⟨w.heap.size, 5, none⟩ = some (.slice ap0_5 an0_5 aq0_5) := (b1.cell (p := ⟨w.heap.size, 5, none⟩) fcx).trans (by simp)
  have qa06_1 : w1.cell? ⟨w.heap.size, 6, none⟩ = some (.slice ap0_6 an0_6 aq0_6) := (b1.cell (p := ⟨w.heap.size, 6, none⟩) fcx).trans (by simp)
  have qa07_1 : w1.cell? ⟨w.heap.size, 7, none⟩ = some (.slice ap0_7 an0_7 aq0_7) := (b1.cell (p := ⟨w.heap.size, 7, none⟩) fcx).trans (by simp)
  have qa08_1 : w1.cell? ⟨w.heap.size, 8, none⟩ = some (.slice ap0_8 an0_8 aq0_8) := (b1.cell (p := ⟨w.heap.size, 8, none⟩) fcx).trans (by simp)
  have qa09_1 : w1.cell? ⟨w.heap.size, 9, none⟩ = some (.slice ap0_9 an0_9 aq0_9) := (b1.cell (p := ⟨w.heap.size, 9, none⟩) fcx).trans (by simp)
  have qa010_1 : w1.cell? ⟨w.heap.size, 10, none⟩ = some (.slice ap0_10 an0_10 aq0_10) := (b1.cell (p := ⟨w.heap.size, 10, none⟩) fcx).trans (by simp)
  have qa011_1 : w1.cell? ⟨w.heap.size, 11, none⟩ = some (.slice ap0_11 an0_11 aq0_11) := (b1.cell (p := ⟨w.heap.size, 11, none⟩) fcx).trans (by simp)
  have qa012_1 : w1.cell? ⟨w.heap.size, 12, none⟩ = some (.int .i64 ax0_12) := (b1.cell (p := ⟨w.heap.size, 12, none⟩) fcx).trans (by simp)
  have qa013_1 : w1.cell? ⟨w.heap.size, 13, none⟩ = some (.bool ax0_13) := (b1.cell (p := ⟨w.heap.size, 13, none⟩) fcx).trans (by simp)
  have zba0_1 : w.heap.size < w1.heap.size := fcx
  obtain ⟨lf0, hlf0⟩ : ∃ z : Int, z = (1048576 : Int) - (szT tStage d0 : Nat) := ⟨_, rfl⟩
  rw [← hlf0]
  have hnl0 : ¬ (lf0 < 0) := by omega
  have hnm0 : lf0 ≤ 1048576 := by omega
  have HLF0 := Lib.hid hlf0; have hle0 := Int.le_of_eq hlf0; have hge0 := Int.le_of_eq hlf0.symm; clear hlf0
  go_wp2_with fail
  refine (toStage_any _ d0 _ (by exact rd_below H0.out B1) (by omega)).mono ?_
  rintro e w2 ⟨tcs0, rfl, tf0, b2⟩
  have B2 : Below w.heap.size w w2 := Below.trans B1 (b2.mono fcx)
  have z2 : w1.heap.size + 0 ≤ w2.heap.size := by have := b2.size; (try simp only [World.size_alloc, World.size_drew] at this ⊢) <;> omega
  have qa00_2 : w2.cell? ⟨w.heap.size, 0, none⟩ = some (.int .i64 ax0_0) := (b2.cell (p := ⟨w.heap.size, 0, none⟩) fcx).trans qa00_1
  have qa01_2 : w2.cell? ⟨w.heap.size, 1, none⟩ = some (.slice ap0_1 an0_1 aq0_1) := (b2.cell (p := ⟨w.heap.size, 1, none⟩) fcx).trans qa01_1
  have qa02_2 : w2.cell? ⟨w.heap.size, 2, none⟩ = some (.slice ap0_2 an0_2 aq0_2) := (b2.cell (p := ⟨w.heap.size, 2, none⟩) fcx).trans qa02_1
  have qa03_2 : w2.cell? ⟨w.heap.size, 3, none⟩ = some (.bool ax0_3) := (b2.cell (p := ⟨w.heap.size, 3, none⟩) fcx).trans qa03_1
  have qa04_2 : w2.cell? ⟨w.heap.size, 4, none⟩ = some (.bool ax0_4) := (b2.cell (p := ⟨w.heap.size, 4, none⟩) fcx).trans qa04_1
  have qa05_2 : w2.cell? ⟨w.heap.size, 5, none⟩ = some (.slice ap0_5 an0_5 aq0_5) := (b2.cell (p := ⟨w.heap.size, 5, none⟩) fcx).trans qa05_1
  have qa06_2 : w2.cell? ⟨w.heap.size, 6, none⟩ = some (.slice ap0_6 an0_6 aq0_6) := (b2.cell (p := ⟨w.heap.size, 6, none⟩) fcx).trans qa06_1
  have qa07_2 : w2.cell? ⟨w.heap.size, 7, none⟩ = some (.slice ap0_7 an0_7 aq0_7) := (b2.cell (p := ⟨w.heap.size, 7, none⟩) fcx).trans qa07_1
  have qa08_2 : w2.cell? ⟨w.heap.size, 8, none⟩ = some (.slice ap0_8 an0_8 aq0_8) := (b2.cell (p := ⟨w.heap.size, 8, none⟩) fcx).trans qa08_1
  have qa09_2 : w2.cell? ⟨w.heap.size, 9, none⟩ = some (.slice ap0_9 an0_9 aq0_9) := (b2.cell (p := ⟨w.heap.size, 9, none⟩) fcx).trans qa09_1
  have qa010_2 : w2.cell? ⟨w.heap.size, 10, none⟩ = some (.slice ap0_10 an0_10 aq0_10) := (b2.cell (p := ⟨w.heap.size, 10, none⟩) fcx).trans qa010_1
  have qa011_2 : w2.cell? ⟨w.heap.size, 11, none⟩ = some (.slice ap0_11 an0_11 aq0_11) := (b2.cell (p := ⟨w.heap.size, 11, none⟩) fcx).trans qa011_1
  have qa012_2 : w2.cell? ⟨w.heap.size, 12, none⟩ = some (.int .i64 ax0_12) := (b2.cell (p := ⟨w.heap.size, 12, none⟩) fcx).trans qa012_1
  have qa013_2 : w2.cell? ⟨w.heap.size, 13, none⟩ = some (.bool ax0_13) := (b2.cell (p := ⟨w.heap.size, 13, none⟩) fcx).trans qa013_1
  have zba0_2 : w.heap.size < w2.heap.size := fcx
  clear qa00_1 qa01_1 qa02_1 qa03_1 qa04_1 qa05_1 qa06_1 qa07_1 qa08_1 qa09_1 qa010_1 qa011_1 qa012_1 qa013_1
  have Ft0_2 := Lib.hid tf0; clear tf0
  go_wp2_with fail
  refine (HS.out _ _ (by exact (Ft0_2.out).rd)).mono ?_
  rintro e w3 ⟨rfl, b3⟩
  have B3 : Below w.heap.size w w3 := Below.trans B2 (b3.mono fcx)
  have z3 : w2.heap.size + 0 ≤ w3.heap.size := by have := b3.size; (try simp only [World.size_alloc, World.size_drew] at this ⊢) <;> omega
  have qa00_3 : w3.cell? ⟨w.heap.size, 0, none⟩ = some (.int .i64 ax0_0) := (b3.cell (p := ⟨w.heap.size, 0, none⟩) fcx).trans qa00_2
  have qa01_3 : w3.cell? ⟨w.heap.size, 1, none⟩ = some (.slice ap0_1 an0_1 aq0_1) := (b3.cell (p := ⟨w.heap.size, 1, none⟩) fcx).trans qa01_2
  have qa02_3 : w3.cell? ⟨w.heap.size, 2, none⟩ = some (.slice ap0_2 an0_2 aq0_2) := (b3.cell (p := ⟨w.heap.size, 2, none⟩) fcx).trans qa02_2
  have qa03_3 : w3.cell? ⟨w.heap.size, 3, none⟩ = some (.bool ax0_3) := (b3.cell (p := ⟨w.heap.size, 3, none⟩) fcx).trans qa03_2
  have qa04_3 : w3.cell? ⟨w.heap.size, 4, none⟩ = some (.bool ax0_4) := (b3.cell (p := ⟨w.heap.size, 4, none⟩) fcx).trans qa04_2
  have qa05_3 : w3.cell? ⟨w.heap.size, 5, none⟩ = some (.slice ap0_5 an0_5 aq0_5) := (b3.cell (p := ⟨w.heap.size, 5, none⟩) fcx).trans qa05_2
  have qa06_3 : w3.cell? ⟨w.heap.size, 6, none⟩ = some (.slice ap0_6 an0_6 aq0_6) := (b3.cell (p := ⟨w.heap.size, 6, none⟩) fcx).trans qa06_2
  have qa07_3 : w3.cell? ⟨w.heap.size, 7, none⟩ = some (.slice ap0_7 an0_7 aq0_7) := (b3.cell (p := ⟨w.heap.size, 7, none⟩) fcx).trans qa07_2
  have qa08_3 : w3.cell? ⟨w.heap.size, 8, none⟩ = some (.slice ap0_8 an0_8 aq0_8) := (b3.cell (p := ⟨w.heap.size, 8, none⟩) fcx).trans qa08_2
  have qa09_3 : w3.cell? ⟨w.heap.size, 9, none⟩ = some (.slice ap0_9 an0_9 aq0_9) := (b3.cell (p := ⟨w.heap.size, 9, none⟩) fcx).trans qa09_2
  have qa010_3 : w3.cell? ⟨w.heap.size, 10, none⟩ = some (.slice ap0_10 an0_10 aq0_10) := (b3.cell (p := ⟨w.heap.size, 10, none⟩) fcx).trans qa010_2
  have qa011_3 : w3.cell? ⟨w.heap.size, 11, none⟩ = some (.slice ap0_11 an0_11 aq0_11) := (b3.cell (p := ⟨w.heap.size, 11, none⟩) fcx).trans qa011_2
  have qa012_3 : w3.cell? ⟨w.heap.size, 12, none⟩ = some (.int .i64 ax0_12) := (b3.cell (p := ⟨w.heap.size, 12, none⟩) fcx).trans qa012_2
  have qa013_3 : w3.cell? ⟨w.heap.size, 13, none⟩ = some (.bool ax0_13) := (b3.cell (p := ⟨w.heap.size, 13, none⟩) fcx).trans qa013_2
  have zba0_3 : w.heap.size < w3.heap.size := fcx
  clear qa00_2 qa01_2 qa02_2 qa03_2 qa04_2 qa05_2 qa06_2 qa07_2 qa08_2 qa09_2 qa010_2 qa011_2 qa012_2 qa013_2
  have Ft0_3 := Lib.hid (Ft0_2.out.below b3 fcx)
  clear Ft0_2
  clear Ft0_3
  go_wp2_with fail
  refine (toStage_any _ d0 _ (by exact rd_below H0.out B3) (by omega)).mono ?_
  rintro e w4 ⟨xcs0, rfl, xf0, b4⟩
  have B4 : Below w.heap.size w w4 := Below.trans B3 (b4.mono fcx)
  have z4 : w3.heap.size + 0 ≤ w4.heap.size := by have := b4.size; (try simp only [World.size_alloc, World.size_drew] at this ⊢) <;> omega
  have qa00_4 : w4.cell? ⟨w.heap.size, 0, none⟩ = some (.int .i64 ax0_0) := (b4.cell (p := ⟨w.heap.size, 0, none⟩) fcx).trans qa00_3
  have qa01_4 : w4.cell? ⟨w.heap.size, 1, none⟩ = some (.slice ap0_1 an0_1 aq0_1) := (b4.cell (p := ⟨w.heap.size, 1, none⟩) fcx).trans qa01_3
  have qa02_4 : w4.cell? ⟨w.heap.size, 2, none⟩ = some (.slice ap0_2 an0_2 aq0_2) := (b4.cell (p := ⟨w.heap.size, 2, none⟩) fcx).trans qa02_3
  have qa03_4 : w4.cell? ⟨w.heap.size, 3, none⟩ = some (.bool ax0_3) := (b4.cell (p := ⟨w.heap.size, 3, none⟩) fcx).trans qa03_3
  have qa04_4 : w4.cell? ⟨w.heap.size, 4, none⟩ = some (.bool ax0_4) := (b4.cell (p := ⟨w.heap.size, 4, none⟩) fcx).trans qa04_3
  have qa05_4 : w4.cell? ⟨w.heap.size, 5, none⟩ = some (.slice ap0_5 an0_5 aq0_5) := (b4.cell (p := ⟨w.heap.size, 5, none⟩) fcx).trans qa05_3
  have qa06_4 : w4.cell? ⟨w.heap.size, 6, none⟩ = some (.slice ap0_6 an0_6 aq0_6) := (b4.cell (p := ⟨w.heap.size, 6, none⟩) fcx).trans qa06_3
  have qa07_4 : w4.cell? ⟨w.heap.size, 7, none⟩ = some (.slice ap0_7 an0_7 aq0_7) := (b4.cell (p := ⟨w.heap.size, 7, none⟩) fcx).trans qa07_3
  have qa08_4 : w4.cell? ⟨w.heap.size, 8, none⟩ = some (.slice ap0_8 an0_8 aq0_8) := (b4.cell (p := ⟨w.heap.size, 8, none⟩) fcx).trans qa08_3
  have qa09_4 : w4.cell? ⟨w.heap.size, 9, none⟩ = some (.slice ap0_9 an0_9 aq0_9) := (b4.cell (p := ⟨w.heap.size, 9, none⟩) fcx).trans qa09_3
  have qa010_4 : w4.cell? ⟨w.heap.size, 10, none⟩ = some (.slice ap0_10 an0_10 aq0_10) := (b4.cell (p := ⟨w.heap.size, 10, none⟩) fcx).trans qa010_3
  have qa011_4 : w4.cell? ⟨w.heap.size, 11, none⟩ = some (.slice ap0_11 an0_11 aq0_11) := (b4.cell (p := ⟨w.heap.size, 11, none⟩) fcx).trans qa011_3
  have qa012_4 : w4.cell? ⟨w.heap.size, 12, none⟩ = some (.int .i64 ax0_12) := (b4.cell (p := ⟨w.heap.size, 12, none⟩) fcx).trans qa012_3
  have qa013_4 : w4.cell? ⟨w.heap.size, 13, none⟩ = some (.bool ax0_13) := (b4.cell (p := ⟨w.heap.size, 13, none⟩) fcx).trans qa013_3
  have zba0_4 : w.heap.size < w4.heap.size := fcx
  clear qa00_3 qa01_3 qa02_3 qa03_3 qa04_3 qa05_3 qa06_3 qa07_3 qa08_3 qa09_3 qa010_3 qa011_3 qa012_3 qa013_3
  have rrx0d := xf0.rd
  obtain ⟨_, _, x0dhcs, ⟨rfl, x0dw0⟩, ⟨_, _, rfl, ⟨x0dp1, x0dn1, x0dq1, rfl, x0ds1⟩, ⟨_, _, rfl, ⟨x0dp2, x0dn2, x0dq2, rfl, x0ds2⟩, ⟨_, _, rfl, rfl, ⟨_, _, rfl, rfl, ⟨_, _, rfl, ⟨x0dp5, x0dn5, x0dq5, rfl, x0ds5⟩, ⟨_, _, rfl, ⟨x0dp6, x0dn6, x0dq6, rfl, x0ds6⟩, ⟨_, _, rfl, ⟨x0dp7, x0dn7, x0dq7, rfl, x0ds7⟩, ⟨_, _, rfl, ⟨x0dp8, x0dn8, x0dq8, rfl, x0ds8⟩, ⟨_, _, rfl, ⟨x0dp9, x0dn9, x0dq9, rfl, x0ds9⟩, ⟨_, _, rfl, ⟨x0dp10, x0dn10, x0dq10, rfl, x0ds10⟩, ⟨_, _, rfl, ⟨x0dp11, x0dn11, x0dq11, rfl, x0ds11⟩, ⟨_, _, rfl, ⟨rfl, x0dw12⟩, rfl⟩⟩⟩⟩⟩⟩⟩⟩⟩⟩⟩⟩⟩ := rrx0d
  obtain rfl : xcs0 = #[.int .i64 d0.1, .slice x0dp1 x0dn1 x0dq1, .slice x0dp2 x0dn2 x0dq2, .bool d0.2.2.2.1, .bool d0.2.2.2.2.1, .slice x0dp5 x0dn5 x0dq5, .slice x0dp6 x0dn6 x0dq6, .slice x0dp7 x0dn7 x0dq7, .slice x0dp8 x0dn8 x0dq8, .slice x0dp9 x0dn9 x0dq9, .slice x0dp10 x0dn10 x0dq10, .slice x0dp11 x0dn11 x0dq11, .int .i64 d0.2.2.2.2.2.2.2.2.2.2.2.2.1, .bool d0.2.2.2.2.2.2.2.2.2.2.2.2.2] := arr_of x0dhcs
  clear x0dhcs
  have Fx0_4 := Lib.hid xf0; clear xf0
  go_wp2_with fail
  refine (HI.out _ _ (by exact ((Fx0_4.out.alloc _)).rd)).mono ?_
  rintro e w5 ⟨rfl, b5⟩
  have B5 : Below w.heap.size w w5 := Below.trans belx (b5.mono fcx)
  have z5 : w4.heap.size + 1 ≤ w5.heap.size := by have := b5.size; (try simp only [World.size_alloc, World.size_drew] at this ⊢) <;> omega
  have qa00_5 : w5.cell? ⟨w.heap.size, 0, none⟩ = some (.int .i64 ax0_0) := (b5.cell (p := ⟨w.heap.size, 0, none⟩) fcx).trans ((alloc_cell (a := ⟨w.heap.size, 0, none⟩) fcx).trans qa00_4)
  have qa01_5 : w5.cell? ⟨w.heap.size, 1, none⟩ = some (.slice ap0_1 an0_1 aq0_1) := (b5.cell (p := ⟨w.heap.size, 1, none⟩) fcx).trans ((alloc_cell (a := ⟨w.heap.size, 1, none⟩) fcx).trans qa01_4)
  have qa02_5 : w5.cell? ⟨w.heap.size, 2, none⟩ = some (.slice ap0_2 an0_2 aq0_2) := (b5.cell (p := ⟨w.heap.size, 2, none⟩) fcx).trans ((alloc_cell (a := ⟨w.heap.size, 2, none⟩) fcx).trans qa02_4)
  have qa03_5 : w5.cell? ⟨w.heap.size, 3, none⟩ = some (.bool ax0_3) := (b5.cell (p := ⟨w.heap.size, 3, none⟩) fcx).trans ((alloc_cell (a := ⟨w.heap.size, 3, none⟩) fcx).trans qa03_4)
  have qa04_5 : w5.cell? ⟨w.heap.size, 4, none⟩ = some (.bool ax0_4) := (b5.cell (p := ⟨w.heap.size, 4, none⟩) fcx).trans ((alloc_cell (a := ⟨w.heap.size, 4, none⟩) fcx).trans qa04_4)
  have qa05_5 : w5.cell? ⟨w.heap.size, 5, none⟩ = some (.slice ap0_5 an0_5 aq0_5) := (b5.cell (p := ⟨w.heap.size, 5, none⟩) fcx).trans ((alloc_cell (a := ⟨w.heap.size, 5, none⟩) fcx).trans qa05_4)
  have qa06_5 : w5.cell? ⟨w.heap.size, 6, none⟩ = some (.slice ap0_6 an0_6 aq0_6) := (b5.cell (p := ⟨w.heap.size, 6, none⟩) fcx).trans ((alloc_cell (a := ⟨w.heap.size, 6, none⟩) fcx).trans qa06_4)
  have qa07_5 : w5.cell? ⟨w.heap.size, 7, none⟩ = some (.slice ap0_7 an0_7 aq0_7) := (b5.cell (p := ⟨w.heap.size, 7, none⟩) fcx).trans ((alloc_cell (a := ⟨w.heap.size, 7, none⟩) fcx).trans qa07_4)
  have qa08_5 : w5.cell? ⟨w.heap.size, 8, none⟩ = some (.slice ap0_8 an0_8 aq0_8) := (b5.cell (p := ⟨w.heap.size, 8, none⟩) fcx).trans ((alloc_cell (a := ⟨w.heap.size, 8, none⟩) fcx).trans qa08_4)
  have qa09_5 : w5.cell? ⟨w.heap.size, 9, none⟩ = some (.slice ap0_9 an0_9 aq0_9) := (b5.cell (p := ⟨w.heap.size, 9, none⟩) fcx).trans ((alloc_cell (a := ⟨w.heap.size, 9, none⟩) fcx).trans qa09_4)
  have qa010_5 : w5.cell? ⟨w.heap.size, 10, none⟩ = some (.slice ap0_10 an0_10 aq0_10) := (b5.cell (p := ⟨w.heap.size, 10, none⟩) fcx).trans ((alloc_cell (a := ⟨w.heap.size, 10, none⟩) fcx).trans qa010_4)
  have qa011_5 : w5.cell? ⟨w.heap.size, 11, none⟩ = some (.slice ap0_11 an0_11 aq0_11) := (b5.cell (p := ⟨w.heap.size, 11, none⟩) fcx).trans ((alloc_cell (a := ⟨w.heap.size, 11, none⟩) fcx).trans qa011_4)
  have qa012_5 : w5.cell? ⟨w.heap.size, 12, none⟩ = some (.int .i64 ax0_12) := (b5.cell (p := ⟨w.heap.size, 12, none⟩) fcx).trans ((alloc_cell (a := ⟨w.heap.size, 12, none⟩) fcx).trans qa012_4)
  have qa013_5 : w5.cell? ⟨w.heap.size, 13, none⟩ = some (.bool ax0_13) := (b5.cell (p := ⟨w.heap.size, 13, none⟩) fcx).trans ((alloc_cell (a := ⟨w.heap.size, 13, none⟩) fcx).trans qa013_4)
  have zba0_5 : w.heap.size < w5.heap.size := fcx
  clear qa00_4 qa01_4 qa02_4 qa03_4 qa04_4 qa05_4 qa06_4 qa07_4 qa08_4 qa09_4 qa010_4 qa011_4 qa012_4 qa013_4
  have qx00_5 : w5.cell? ⟨w4.heap.size, 0, none⟩ = some (.int .i64 d0.1) := (b5.cell (p := ⟨w4.heap.size, 0, none⟩) fcx).trans (by simp)
  have qx01_5 : w5.cell? ⟨w4.heap.size, 1, none⟩ = some (.slice x0dp1 x0dn1 x0dq1) := (b5.cell (p := ⟨w4.heap.size, 1, none⟩) fcx).trans (by simp)
  have qx02_5 : w5.cell? ⟨w4.heap.size, 2, none⟩ = some (.slice x0dp2 x0dn2 x0dq2) := (b5.cell (p := ⟨w4.heap.size, 2, none⟩) fcx).trans (by simp)
  have qx03_5 : w5.cell? ⟨w4.heap.size, 3, none⟩ = some (.bool d0.2.2.2.1) := (b5.cell (p := ⟨w4.heap.size, 3, none⟩) fcx).trans (by simp)
  have qx04_5 : w5.cell? ⟨w4.heap.size, 4, none⟩ = some (.bool d0.2.2.2.2.1) := (b5.cell (p := ⟨w4.heap.size, 4, none⟩) fcx).trans (by simp)
  have qx05_5 : w5.cell? ⟨w4.heap.size, 5, none⟩ = some (.slice x0dp5 x0dn5 x0dq5) := (b5.cell (p := ⟨w4.heap.size, 5, none⟩) fcx).trans (by simp)
  have qx06_5 : w5.cell? ⟨w4.heap.size, 6, none⟩ = some (.slice x0dp6 x0dn6 x0dq6) := (b5.cell (p := ⟨w4.heap.size, 6, none⟩) fcx).trans (by simp)
  have qx07_5 : w5.cell? ⟨w4.heap.size, 7, none⟩ = some (.slice x0dp7 x0dn7 x0dq7) := (b5.cell (p := ⟨w4.heap.size, 7, none⟩) fcx).trans (by simp)
  have qx08_5 : w5.cell? ⟨w4.heap.size, 8, none⟩ = some (.slice x0dp8 x0dn8 x0dq8) := (b5.cell (p := ⟨w4.heap.size, 8, none⟩) fcx).trans (by simp)
  have qx09_5 : w5.cell? ⟨w4.heap.size, 9, none⟩ = some (.slice x0dp9 x0dn9 x0dq9) := (b5.cell (p := ⟨w4.heap.size, 9, none⟩) fcx).trans (by simp)
  have qx010_5 : w5.cell? ⟨w4.heap.size, 10, none⟩ = some (.slice x0dp10 x0dn10 x0dq10) := (b5.cell (p := ⟨w4.heap.size, 10, none⟩) fcx).trans (by simp)
  have qx011_5 : w5.cell? ⟨w4.heap.size, 11, none⟩ = some (.slice x0dp11 x0dn11 x0dq11) := (b5.cell (p := ⟨w4.heap.size, 11, none⟩) fcx).trans (by simp)
  have qx012_5 : w5.cell? ⟨w4.heap.size, 12, none⟩ = some (.int .i64 d0.2.2.2.2.2.2.2.2.2.2.2.2.1) := (b5.cell (p := ⟨w4.heap.size, 12, none⟩) fcx).trans (by simp)
  have qx013_5 : w5.cell? ⟨w4.heap.size, 13, none⟩ = some (.bool d0.2.2.2.2.2.2.2.2.2.2.2.2.2) := (b5.cell (p := ⟨w4.heap.size, 13, none⟩) fcx).trans (by simp)
  have zbx0_5 : w4.heap.size < w5.heap.size := fcx
  have Fx0_5 := Lib.hid ((Fx0_4.out.alloc _).below b5 fcx)
  clear Fx0_4
  go_wp2_with fail
  go_region_held3 (fun w' => w'.cell? ⟨w.heap.size, 0, none⟩ = some (.int .i64 ax0_0) ∧ w'.cell? ⟨w.heap.size, 1, none⟩ = some (.slice ap0_1 an0_1 aq0_1) ∧ w'.cell? ⟨w.heap.size, 2, none⟩ = some (.slice ap0_2 an0_2 aq0_2) ∧ w'.cell? ⟨w.heap.size, 3, none⟩ = some (.bool ax0_3) ∧ w'.cell? ⟨w.heap.size, 4, none⟩ = some (.bool ax0_4) ∧ w'.cell? ⟨w.heap.size, 5, none⟩ = some (.slice ap0_5 an0_5 aq0_5) ∧ w'.cell? ⟨w.heap.size, 6, none⟩ = some (.slice ap0_6 an0_6 aq0_6) ∧ w'.cell? ⟨w.heap.size, 7, none⟩ = some (.slice ap0_7 an0_7 aq0_7) ∧ w'.cell? ⟨w.heap.size, 8, none⟩ = some (.slice ap0_8 an0_8 aq0_8) ∧ w'.cell? ⟨w.heap.size, 9, none⟩ = some (.slice ap0_9 an0_9 aq0_9) ∧ w'.cell? ⟨w.heap.size, 10, none⟩ = some (.slice ap0_10 an0_10 aq0_10) ∧ w'.cell? ⟨w.heap.size, 11, none⟩ = some (.slice ap0_11 an0_11 aq0_11) ∧ w'.cell? ⟨w.heap.size, 12, none⟩ = some (.int .i64 ax0_12) ∧ w'.cell? ⟨w.heap.size, 13, none⟩ = some (.bool ax0_13) ∧ w'.cell? ⟨w4.heap.size, 0, none⟩ = some (.int .i64 d0.1) ∧ w'.cell? ⟨w4.heap.size, 1, none⟩ = some (.slice x0dp1 x0dn1 x0dq1) ∧ w'.cell? ⟨w4.heap.size, 2, none⟩ = some (.slice x0dp2 x0dn2 x0dq2) ∧ w'.cell? ⟨w4.heap.size, 3, none⟩ = some (.bool d0.2.2.2.1) ∧ w'.cell? ⟨w4.heap.size, 4, none⟩ = some (.bool d0.2.2.2.2.1) ∧ w'.cell? ⟨w4.heap.size, 5, none⟩ = some (.slice x0dp5 x0dn5 x0dq5) ∧ w'.cell? ⟨w4.heap.size, 6, none⟩ = some (.slice x0dp6 x0dn6 x0dq6) ∧ w'.cell? ⟨w4.heap.size, 7, none⟩ = some (.slice x0dp7 x0dn7 x0dq7) ∧ w'.cell? ⟨w4.heap.size, 8, none⟩ = some (.slice x0dp8 x0dn8 x0dq8) ∧ w'.cell? ⟨w4.heap.size, 9, none⟩ = some (.slice x0dp9 x0dn9 x0dq9) ∧ w'.cell? ⟨w4.heap.size, 10, none⟩ = some (.slice x0dp10 x0dn10 x0dq10) ∧ w'.cell? ⟨w4.heap.size, 11, none⟩ = some (.slice x0dp11 x0dn11 x0dq11) ∧ w'.cell? ⟨w4.heap.size, 12, none⟩ = some (.int .i64 d0.2.2.2.2.2.2.2.2.2.2.2.2.1) ∧ w'.cell? ⟨w4.heap.size, 13, none⟩ = some (.bool d0.2.2.2.2.2.2.2.2.2.2.2.2.2)) (first | go_keep | ((try dsimp only); (repeat' apply And.intro) <;> (first | go_keep | (refine ((Below.cell b7 ?_).trans ((Below.cell b6 ?_).trans ?_)) <;> first | assumption | omega | (simp; omega) | (simp; assumption)) | (refine ((Below.cell b6 ?_).trans ?_) <;> first | assumption | omega | (simp; omega) | (simp; assumption))))) ((first | (go_at_call 13; refine (toStage_any _ d0 _ (by exact rd_below H0.out belx) (by omega)).mono ?_; rintro e w6 ⟨ycs0, rfl, yf0, b6⟩; have B6 : Below w.heap.size w w6 := Below.trans belx (b6.mono fcx); have z6 : w5.heap.size ≤ w6.heap.size := by have := b6.size; (try simp only [World.size_alloc, World.size_drew] at this ⊢) <;> omega) | (go_at_call 15; refine (eqStage_any _ _ d0 _ (by exact ((Fx0_5.out.keep (w' := w5.drew) (fun _ _ _ => rfl) (Nat.le_refl _)).below b6 fcx).rd) (by exact yf0.rd)).mono ?_; rintro e w7 ⟨rfl, b7⟩; have B7 : Below w.heap.size w w7 := B6.trans (b7.mono fcx); have z7 := b7.size)))
  have hS := ‹_ ∧ _›
  obtain ⟨qa00_7, qa01_7, qa02_7, qa03_7, qa04_7, qa05_7, qa06_7, qa07_7, qa08_7, qa09_7, qa010_7, qa011_7, qa012_7, qa013_7, qx00_7, qx01_7, qx02_7, qx03_7, qx04_7, qx05_7, qx06_7, qx07_7, qx08_7, qx09_7, qx010_7, qx011_7, qx012_7, qx013_7⟩ := hS
  have zba0_7 : w.heap.size < w7.heap.size := fcx
  have zbx0_7 : w4.heap.size < w7.heap.size := fcx
  have Fx0_7 := Lib.hid (((Fx0_5.out.keep (w' := w5.drew) (fun _ _ _ => rfl) (Nat.le_refl _)).below b6 fcx).below b7 fcx)
  clear Fx0_5
  go_wp2
  go_ret
  exact ⟨rfl, B7⟩
end Go.Proofs.Ytbbbpbioehnblaa
