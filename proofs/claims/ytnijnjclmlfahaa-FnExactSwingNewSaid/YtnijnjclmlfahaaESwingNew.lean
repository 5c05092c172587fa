/- The walk of FnExactSwingNew. -/
import Derived.Test.YtnijnjclmlfahaaBSwingNew
import Derived.Test.YtnijnjclmlfahaaTModel
import Derived.Test.YtnijnjclmlfahaaTSwing
import Derived.Test.YtnijnjclmlfahaaUModel
import Derived.Test.YtnijnjclmlfahaaUSwing
import Derived.Deep.RegionHeld3
namespace Go.Proofs.Ytnijnjclmlfahaa
open Go.ChangeShapes Go.WideShapes Go.ChangeAt Go.RowKit
set_option linter.unusedVariables false
set_option linter.unusedSimpArgs false
set_option maxRecDepth 100000 in
set_option maxHeartbeats 4000000 in
theorem fnExactSwingNew_walk (w : World) (cs0 : Array Value) (d0 : Ty.D tModel) (h0 : rd tModel w cs0.toList d0) :
    Calls Try.prog 5 #[.agg cs0] w fun e w' => e = .returned (.bool true) ∧ Below w.heap.size w w' := by
  obtain ⟨ap0_0, an0_0, aq0_0, rfl⟩ : ∃ ap0_0 an0_0 aq0_0, cs0 = #[.slice ap0_0 an0_0 aq0_0] := by
    obtain ⟨kp0, kn0, kq0, khcs, ks0⟩ := h0
    exact ⟨kp0, kn0, kq0, arr_of khcs⟩
  have H0 := Lib.hid h0; clear h0
  by_cases hz0 : ((szT tModel d0 : Nat) : Int) ≤ (1048576 : Int)
  rotate_left
  · skip
    go_enter Try.func5, Try.ntmps5
    go_wp2_with fail
    refine (szModel_no _ d0 _ _ (by exact rd_below H0.out (by (repeat' first | (with_reducible exact Below.refl _ _) | (with_reducible refine Below.drew ?_) | (with_reducible refine Below.setCell ?_ ?_ _) | (with_reducible refine Below.alloc ?_ ?_ _) | (with_reducible refine Below.mono (by assumption) ?_) | (with_reducible refine Below.trans ?_ (Below.mono (by assumption) ?_))) <;> (first | (with_reducible assumption) | ((try simp only [World.size_alloc, World.size_setCell, World.size_drew]) <;> omega) | (simp [World.setCell]; done) | (simp [World.setCell]; omega)))) (by omega) (by omega) (by omega)).mono ?_
    rintro e w1 ⟨rfl, b1⟩
    have B1 : Below w.heap.size w w1 := Below.trans (by (repeat' first | (with_reducible exact Below.refl _ _) | (with_reducible refine Below.drew ?_) | (with_reducible refine Below.setCell ?_ ?_ _) | (with_reducible refine Below.alloc ?_ ?_ _) | (with_reducible refine Below.mono (by assumption) ?_) | (with_reducible refine Below.trans ?_ (Below.mono (by assumption) ?_))) <;> (first | (with_reducible assumption) | ((try simp only [World.size_alloc, World.size_setCell, World.size_drew]) <;> omega) | (simp [World.setCell]; done) | (simp [World.setCell]; omega))) (b1.mono (by first | (with_reducible assumption) | ((try simp only [World.size_alloc, World.size_setCell, World.size_drew]) <;> omega) | (simp [World.setCell]; done) | (simp [World.setCell]; omega)))
    have z1 : w.heap.size + 1 ≤ w1.heap.size := by have := b1.size; (try simp only [World.size_alloc, World.size_drew] at this ⊢) <;> omega
    have qa00_1 : w1.cell? ⟨w.heap.size, 0, none⟩ = some (.slice ap0_0 an0_0 aq0_0) := (b1.cell (p := ⟨w.heap.size, 0, none⟩) (by first | (with_reducible assumption) | ((try simp only [World.size_alloc, World.size_setCell, World.size_drew]) <;> omega) | (simp [World.setCell]; done) | (simp [World.setCell]; omega))).trans (by simp)
    have zba0_1 : w.heap.size < w1.heap.size := (by first | (with_reducible assumption) | ((try simp only [World.size_alloc, World.size_setCell, World.size_drew]) <;> omega) | (simp [World.setCell]; done) | (simp [World.setCell]; omega))
    go_wp2
    go_ret
    exact ⟨rfl, B1⟩
  obtain ⟨R0, hS, hI, hcr⟩ := swingNew_both d0 (by omega)
  have HS := Lib.hid hS; have HI := Lib.hid hI; clear hS hI
  have hcb0 := cntt_le tModel d0 (by decide)
  go_enter Try.func5, Try.ntmps5
  go_wp2_with fail
  refine (szModel_ok _ d0 _ _ (by exact rd_below H0.out (by (repeat' first | (with_reducible exact Below.refl _ _) | (with_reducible refine Below.drew ?_) | (with_reducible refine Below.setCell ?_ ?_ _) | (with_reducible refine Below.alloc ?_ ?_ _) | (with_reducible refine Below.mono (by assumption) ?_) | (with_reducible refine Below.trans ?_ (Below.mono (by assumption) ?_))) <;> (first | (with_reducible assumption) | ((try simp only [World.size_alloc, World.size_setCell, World.size_drew]) <;> omega) | (simp [World.setCell]; done) | (simp [World.setCell]; omega)))) (by omega) (by omega) (by omega)).mono ?_
  rintro e w1 ⟨rfl, b1⟩
  have B1 : Below w.heap.size w w1 := Below.trans (by (repeat' first | (with_reducible exact Below.refl _ _) | (with_reducible refine Below.drew ?_) | (with_reducible refine Below.setCell ?_ ?_ _) | (with_reducible refine Below.alloc ?_ ?_ _) | (with_reducible refine Below.mono (by assumption) ?_) | (with_reducible refine Below.trans ?_ (Below.mono (by assumption) ?_))) <;> (first | (with_reducible assumption) | ((try simp only [World.size_alloc, World.size_setCell, World.size_drew]) <;> omega) | (simp [World.setCell]; done) | (simp [World.setCell]; omega))) (b1.mono (by first | (with_reducible assumption) | ((try simp only [World.size_alloc, World.size_setCell, World.size_drew]) <;> omega) | (simp [World.setCell]; done) | (simp [World.setCell]; omega)))
  have z1 : w.heap.size + 1 ≤ w1.heap.size := by have := b1.size; (try simp only [World.size_alloc, World.size_drew] at this ⊢) <;> omega
  have qa00_1 : w1.cell? ⟨w.heap.size, 0, none⟩ = some (.slice ap0_0 an0_0 aq0_0) := (b1.cell (p := ⟨w.heap.size, 0, none⟩) (by first | (with_reducible assumption) | ((try simp only [World.size_alloc, World.size_setCell, World.size_drew]) <;> omega) | (simp [World.setCell]; done) | (simp [World.setCell]; omega))).trans (by simp)
  have zba0_1 : w.heap.size < w1.heap.size := (by first | (with_reducible assumption) | ((try simp only [World.size_alloc, World.size_setCell, World.size_drew]) <;> omega) | (simp [World.setCell]; done) | (simp [World.setCell]; omega))
  obtain ⟨lf0, hlf0⟩ : ∃ z : Int, z = (1048576 : Int) - (szT tModel d0 : Nat) := ⟨_, rfl⟩
  rw [← hlf0]
  have hnl0 : ¬ (lf0 < 0) := by omega
  have hnm0 : lf0 ≤ 1048576 := by omega
  have HLF0 := Lib.hid hlf0; have hle0 := Int.le_of_eq hlf0; have hge0 := Int.le_of_eq hlf0.symm; clear hlf0
  go_wp2_with fail
  refine (toModel_any _ d0 _ (by exact rd_below H0.out B1) (by omega)).mono ?_
  rintro e w2 ⟨tcs0, rfl, tf0, b2⟩
  have B2 : Below w.heap.size w w2 := Below.trans B1 (b2.mono (by first | (with_reducible assumption) | ((try simp only [World.size_alloc, World.size_setCell, World.size_drew]) <;> omega) | (simp [World.setCell]; done) | (simp [World.setCell]; omega)))
  have z2 : w1.heap.size + 0 ≤ w2.heap.size := by have := b2.size; (try simp only [World.size_alloc, World.size_drew] at this ⊢) <;> omega
  have qa00_2 : w2.cell? ⟨w.heap.size, 0, none⟩ = some (.slice ap0_0 an0_0 aq0_0) := (b2.cell (p := ⟨w.heap.size, 0, none⟩) (by first | (with_reducible assumption) | ((try simp only [World.size_alloc, World.size_setCell, World.size_drew]) <;> omega) | (simp [World.setCell]; done) | (simp [World.setCell]; omega))).trans qa00_1
  have zba0_2 : w.heap.size < w2.heap.size := (by first | (with_reducible assumption) | ((try simp only [World.size_alloc, World.size_setCell, World.size_drew]) <;> omega) | (simp [World.setCell]; done) | (simp [World.setCell]; omega))
  clear qa00_1
  have Ft0_2 := Lib.hid tf0; clear tf0
  go_wp2_with fail
  refine (HS.out _ _ (by exact (Ft0_2.out).rd)).mono ?_
  rintro e w3 ⟨w0rcs0, rfl, w0rf0, b3⟩
  have B3 : Below w.heap.size w w3 := Below.trans B2 (b3.mono (by first | (with_reducible assumption) | ((try simp only [World.size_alloc, World.size_setCell, World.size_drew]) <;> omega) | (simp [World.setCell]; done) | (simp [World.setCell]; omega)))
  have z3 : w2.heap.size + 0 ≤ w3.heap.size := by have := b3.size; (try simp only [World.size_alloc, World.size_drew] at this ⊢) <;> omega
  have qa00_3 : w3.cell? ⟨w.heap.size, 0, none⟩ = some (.slice ap0_0 an0_0 aq0_0) := (b3.cell (p := ⟨w.heap.size, 0, none⟩) (by first | (with_reducible assumption) | ((try simp only [World.size_alloc, World.size_setCell, World.size_drew]) <;> omega) | (simp [World.setCell]; done) | (simp [World.setCell]; omega))).trans qa00_2
  have zba0_3 : w.heap.size < w3.heap.size := (by first | (with_reducible assumption) | ((try simp only [World.size_alloc, World.size_setCell, World.size_drew]) <;> omega) | (simp [World.setCell]; done) | (simp [World.setCell]; omega))
  clear qa00_2
  have Ft0_3 := Lib.hid (Ft0_2.out.below b3 (by first | (with_reducible assumption) | ((try simp only [World.size_alloc, World.size_setCell, World.size_drew]) <;> omega) | (simp [World.setCell]; done) | (simp [World.setCell]; omega)))
  clear Ft0_2
  clear Ft0_3
  have rrw0r0d := w0rf0.rd
  obtain ⟨_, _, w0r0dhcs, ⟨w0r0dp0, w0r0dn0, w0r0dq0, rfl, w0r0ds0⟩, ⟨rfl, w0r0dw1⟩⟩ := rrw0r0d
  obtain rfl : w0rcs0 = #[.slice w0r0dp0 w0r0dn0 w0r0dq0, .int .i64 R0.2] := arr_of w0r0dhcs
  clear w0r0dhcs
  have Fw0r0_3 := Lib.hid w0rf0; clear w0rf0
  go_wp2_with fail
  refine (toModel_any _ d0 _ (by exact rd_below H0.out (by (repeat' first | (with_reducible exact Below.refl _ _) | (with_reducible refine Below.drew ?_) | (with_reducible refine Below.setCell ?_ ?_ _) | (with_reducible refine Below.alloc ?_ ?_ _) | (with_reducible refine Below.mono (by assumption) ?_) | (with_reducible refine Below.trans ?_ (Below.mono (by assumption) ?_))) <;> (first | (with_reducible assumption) | ((try simp only [World.size_alloc, World.size_setCell, World.size_drew]) <;> omega) | (simp [World.setCell]; done) | (simp [World.setCell]; omega)))) (by omega)).mono ?_
  rintro e w4 ⟨xcs0, rfl, xf0, b4⟩
  have B4 : Below w.heap.size w w4 := Below.trans (by (repeat' first | (with_reducible exact Below.refl _ _) | (with_reducible refine Below.drew ?_) | (with_reducible refine Below.setCell ?_ ?_ _) | (with_reducible refine Below.alloc ?_ ?_ _) | (with_reducible refine Below.mono (by assumption) ?_) | (with_reducible refine Below.trans ?_ (Below.mono (by assumption) ?_))) <;> (first | (with_reducible assumption) | ((try simp only [World.size_alloc, World.size_setCell, World.size_drew]) <;> omega) | (simp [World.setCell]; done) | (simp [World.setCell]; omega))) (b4.mono (by first | (with_reducible assumption) | ((try simp only [World.size_alloc, World.size_setCell, World.size_drew]) <;> omega) | (simp [World.setCell]; done) | (simp [World.setCell]; omega)))
  have z4 : w3.heap.size + 1 ≤ w4.heap.size := by have := b4.size; (try simp only [World.size_alloc, World.size_drew] at this ⊢) <;> omega
  have qa00_4 : w4.cell? ⟨w.heap.size, 0, none⟩ = some (.slice ap0_0 an0_0 aq0_0) := (b4.cell (p := ⟨w.heap.size, 0, none⟩) (by first | (with_reducible assumption) | ((try simp only [World.size_alloc, World.size_setCell, World.size_drew]) <;> omega) | (simp [World.setCell]; done) | (simp [World.setCell]; omega))).trans ((alloc_cell (a := ⟨w.heap.size, 0, none⟩) (by first | (with_reducible assumption) | ((try simp only [World.size_alloc, World.size_setCell, World.size_drew]) <;> omega) | (simp [World.setCell]; done) | (simp [World.setCell]; omega))).trans qa00_3)
  have zba0_4 : w.heap.size < w4.heap.size := (by first | (with_reducible assumption) | ((try simp only [World.size_alloc, World.size_setCell, World.size_drew]) <;> omega) | (simp [World.setCell]; done) | (simp [World.setCell]; omega))
  clear qa00_3
  have qw0r00_4 : w4.cell? ⟨w3.heap.size, 0, none⟩ = some (.slice w0r0dp0 w0r0dn0 w0r0dq0) := (b4.cell (p := ⟨w3.heap.size, 0, none⟩) (by first | (with_reducible assumption) | ((try simp only [World.size_alloc, World.size_setCell, World.size_drew]) <;> omega) | (simp [World.setCell]; done) | (simp [World.setCell]; omega))).trans (by simp)
  have qw0r01_4 : w4.cell? ⟨w3.heap.size, 1, none⟩ = some (.int .i64 R0.2) := (b4.cell (p := ⟨w3.heap.size, 1, none⟩) (by first | (with_reducible assumption) | ((try simp only [World.size_alloc, World.size_setCell, World.size_drew]) <;> omega) | (simp [World.setCell]; done) | (simp [World.setCell]; omega))).trans (by simp)
  have zbw0r0_4 : w3.heap.size < w4.heap.size := (by first | (with_reducible assumption) | ((try simp only [World.size_alloc, World.size_setCell, World.size_drew]) <;> omega) | (simp [World.setCell]; done) | (simp [World.setCell]; omega))
  have Fw0r0_4 := Lib.hid ((Fw0r0_3.out.alloc _).below b4 (by first | (with_reducible assumption) | ((try simp only [World.size_alloc, World.size_setCell, World.size_drew]) <;> omega) | (simp [World.setCell]; done) | (simp [World.setCell]; omega)))
  clear Fw0r0_3
  have rrx0d := xf0.rd
  obtain ⟨x0dp0, x0dn0, x0dq0, x0dhcs, x0ds0⟩ := rrx0d
  obtain rfl : xcs0 = #[.slice x0dp0 x0dn0 x0dq0] := arr_of x0dhcs
  clear x0dhcs
  have Fx0_4 := Lib.hid xf0; clear xf0
  go_wp2_with fail
  refine (HI.out _ _ (by exact ((Fx0_4.out.alloc _)).rd)).mono ?_
  rintro e w5 ⟨g0rcs0, rfl, g0rf0, b5⟩
  have B5 : Below w.heap.size w w5 := Below.trans (by (repeat' first | (with_reducible exact Below.refl _ _) | (with_reducible refine Below.drew ?_) | (with_reducible refine Below.setCell ?_ ?_ _) | (with_reducible refine Below.alloc ?_ ?_ _) | (with_reducible refine Below.mono (by assumption) ?_) | (with_reducible refine Below.trans ?_ (Below.mono (by assumption) ?_))) <;> (first | (with_reducible assumption) | ((try simp only [World.size_alloc, World.size_setCell, World.size_drew]) <;> omega) | (simp [World.setCell]; done) | (simp [World.setCell]; omega))) (b5.mono (by first | (with_reducible assumption) | ((try simp only [World.size_alloc, World.size_setCell, World.size_drew]) <;> omega) | (simp [World.setCell]; done) | (simp [World.setCell]; omega)))
  have z5 : w4.heap.size + 1 ≤ w5.heap.size := by have := b5.size; (try simp only [World.size_alloc, World.size_drew] at this ⊢) <;> omega
  have qa00_5 : w5.cell? ⟨w.heap.size, 0, none⟩ = some (.slice ap0_0 an0_0 aq0_0) := (b5.cell (p := ⟨w.heap.size, 0, none⟩) (by first | (with_reducible assumption) | ((try simp only [World.size_alloc, World.size_setCell, World.size_drew]) <;> omega) | (simp [World.setCell]; done) | (simp [World.setCell]; omega))).trans ((alloc_cell (a := ⟨w.heap.size, 0, none⟩) (by first | (with_reducible assumption) | ((try simp only [World.size_alloc, World.size_setCell, World.size_drew]) <;> omega) | (simp [World.setCell]; done) | (simp [World.setCell]; omega))).trans qa00_4)
  have zba0_5 : w.heap.size < w5.heap.size := (by first | (with_reducible assumption) | ((try simp only [World.size_alloc, World.size_setCell, World.size_drew]) <;> omega) | (simp [World.setCell]; done) | (simp [World.setCell]; omega))
  clear qa00_4
  have qw0r00_5 : w5.cell? ⟨w3.heap.size, 0, none⟩ = some (.slice w0r0dp0 w0r0dn0 w0r0dq0) := (b5.cell (p := ⟨w3.heap.size, 0, none⟩) (by first | (with_reducible assumption) | ((try simp only [World.size_alloc, World.size_setCell, World.size_drew]) <;> omega) | (simp [World.setCell]; done) | (simp [World.setCell]; omega))).trans ((alloc_cell (a := ⟨w3.heap.size, 0, none⟩) (by first | (with_reducible assumption) | ((try simp only [World.size_alloc, World.size_setCell, World.size_drew]) <;> omega) | (simp [World.setCell]; done) | (simp [World.setCell]; omega))).trans qw0r00_4)
  have qw0r01_5 : w5.cell? ⟨w3.heap.size, 1, none⟩ = some (.int .i64 R0.2) := (b5.cell (p := ⟨w3.heap.size, 1, none⟩) (by first | (with_reducible assumption) | ((try simp only [World.size_alloc, World.size_setCell, World.size_drew]) <;> omega) | (simp [World.setCell]; done) | (simp [World.setCell]; omega))).trans ((alloc_cell (a := ⟨w3.heap.size, 1, none⟩) (by first | (with_reducible assumption) | ((try simp only [World.size_alloc, World.size_setCell, World.size_drew]) <;> omega) | (simp [World.setCell]; done) | (simp [World.setCell]; omega))).trans qw0r01_4)
  have zbw0r0_5 : w3.heap.size < w5.heap.size := (by first | (with_reducible assumption) | ((try simp only [World.size_alloc, World.size_setCell, World.size_drew]) <;> omega) | (simp [World.setCell]; done) | (simp [World.setCell]; omega))
  clear qw0r00_4 qw0r01_4
  have qx00_5 : w5.cell? ⟨w4.heap.size, 0, none⟩ = some (.slice x0dp0 x0dn0 x0dq0) := (b5.cell (p := ⟨w4.heap.size, 0, none⟩) (by first | (with_reducible assumption) | ((try simp only [World.size_alloc, World.size_setCell, World.size_drew]) <;> omega) | (simp [World.setCell]; done) | (simp [World.setCell]; omega))).trans (by simp)
  have zbx0_5 : w4.heap.size < w5.heap.size := (by first | (with_reducible assumption) | ((try simp only [World.size_alloc, World.size_setCell, World.size_drew]) <;> omega) | (simp [World.setCell]; done) | (simp [World.setCell]; omega))
  have Fw0r0_5 := Lib.hid ((Fw0r0_4.out.alloc _).below b5 (by first | (with_reducible assumption) | ((try simp only [World.size_alloc, World.size_setCell, World.size_drew]) <;> omega) | (simp [World.setCell]; done) | (simp [World.setCell]; omega)))
  clear Fw0r0_4
  have Fx0_5 := Lib.hid ((Fx0_4.out.alloc _).below b5 (by first | (with_reducible assumption) | ((try simp only [World.size_alloc, World.size_setCell, World.size_drew]) <;> omega) | (simp [World.setCell]; done) | (simp [World.setCell]; omega)))
  clear Fx0_4
  have rrg0r0d := g0rf0.rd
  obtain ⟨_, _, g0r0dhcs, ⟨g0r0dp0, g0r0dn0, g0r0dq0, rfl, g0r0ds0⟩, ⟨rfl, g0r0dw1⟩⟩ := rrg0r0d
  obtain rfl : g0rcs0 = #[.slice g0r0dp0 g0r0dn0 g0r0dq0, .int .i64 R0.2] := arr_of g0r0dhcs
  clear g0r0dhcs
  have Fg0r0_5 := Lib.hid g0rf0; clear g0rf0
  go_wp2_with fail
  refine (eqSwing_any _ _ R0 _ (by exact ((Fg0r0_5.out.alloc _)).rd) (by exact ((Fw0r0_5.out.alloc _)).rd)).mono ?_
  rintro e w6 ⟨rfl, b6⟩
  have B6 : Below w.heap.size w w6 := Below.trans (by (repeat' first | (with_reducible exact Below.refl _ _) | (with_reducible refine Below.drew ?_) | (with_reducible refine Below.setCell ?_ ?_ _) | (with_reducible refine Below.alloc ?_ ?_ _) | (with_reducible refine Below.mono (by assumption) ?_) | (with_reducible refine Below.trans ?_ (Below.mono (by assumption) ?_))) <;> (first | (with_reducible assumption) | ((try simp only [World.size_alloc, World.size_setCell, World.size_drew]) <;> omega) | (simp [World.setCell]; done) | (simp [World.setCell]; omega))) (b6.mono (by first | (with_reducible assumption) | ((try simp only [World.size_alloc, World.size_setCell, World.size_drew]) <;> omega) | (simp [World.setCell]; done) | (simp [World.setCell]; omega)))
  have z6 : w5.heap.size + 1 ≤ w6.heap.size := by have := b6.size; (try simp only [World.size_alloc, World.size_drew] at this ⊢) <;> omega
  have qa00_6 : w6.cell? ⟨w.heap.size, 0, none⟩ = some (.slice ap0_0 an0_0 aq0_0) := (b6.cell (p := ⟨w.heap.size, 0, none⟩) (by first | (with_reducible assumption) | ((try simp only [World.size_alloc, World.size_setCell, World.size_drew]) <;> omega) | (simp [World.setCell]; done) | (simp [World.setCell]; omega))).trans ((alloc_cell (a := ⟨w.heap.size, 0, none⟩) (by first | (with_reducible assumption) | ((try simp only [World.size_alloc, World.size_setCell, World.size_drew]) <;> omega) | (simp [World.setCell]; done) | (simp [World.setCell]; omega))).trans qa00_5)
  have zba0_6 : w.heap.size < w6.heap.size := (by first | (with_reducible assumption) | ((try simp only [World.size_alloc, World.size_setCell, World.size_drew]) <;> omega) | (simp [World.setCell]; done) | (simp [World.setCell]; omega))
  clear qa00_5
  have qw0r00_6 : w6.cell? ⟨w3.heap.size, 0, none⟩ = some (.slice w0r0dp0 w0r0dn0 w0r0dq0) := (b6.cell (p := ⟨w3.heap.size, 0, none⟩) (by first | (with_reducible assumption) | ((try simp only [World.size_alloc, World.size_setCell, World.size_drew]) <;> omega) | (simp [World.setCell]; done) | (simp [World.setCell]; omega))).trans ((alloc_cell (a := ⟨w3.heap.size, 0, none⟩) (by first | (with_reducible assumption) | ((try simp only [World.size_alloc, World.size_setCell, World.size_drew]) <;> omega) | (simp [World.setCell]; done) | (simp [World.setCell]; omega))).trans qw0r00_5)
  have qw0r01_6 : w6.cell? ⟨w3.heap.size, 1, none⟩ = some (.int .i64 R0.2) := (b6.cell (p := ⟨w3.heap.size, 1, none⟩) (by first | (with_reducible assumption) | ((try simp only [World.size_alloc, World.size_setCell, World.size_drew]) <;> omega) | (simp [World.setCell]; done) | (simp [World.setCell]; omega))).trans ((alloc_cell (a := ⟨w3.heap.size, 1, none⟩) (by first | (with_reducible assumption) | ((try simp only [World.size_alloc, World.size_setCell, World.size_drew]) <;> omega) | (simp [World.setCell]; done) | (simp [World.setCell]; omega))).trans qw0r01_5)
  have zbw0r0_6 : w3.heap.size < w6.heap.size := (by first | (with_reducible assumption) | ((try simp only [World.size_alloc, World.size_setCell, World.size_drew]) <;> omega) | (simp [World.setCell]; done) | (simp [World.setCell]; omega))
  clear qw0r00_5 qw0r01_5
  have qx00_6 : w6.cell? ⟨w4.heap.size, 0, none⟩ = some (.slice x0dp0 x0dn0 x0dq0) := (b6.cell (p := ⟨w4.heap.size, 0, none⟩) (by first | (with_reducible assumption) | ((try simp only [World.size_alloc, World.size_setCell, World.size_drew]) <;> omega) | (simp [World.setCell]; done) | (simp [World.setCell]; omega))).trans ((alloc_cell (a := ⟨w4.heap.size, 0, none⟩) (by first | (with_reducible assumption) | ((try simp only [World.size_alloc, World.size_setCell, World.size_drew]) <;> omega) | (simp [World.setCell]; done) | (simp [World.setCell]; omega))).trans qx00_5)
  have zbx0_6 : w4.heap.size < w6.heap.size := (by first | (with_reducible assumption) | ((try simp only [World.size_alloc, World.size_setCell, World.size_drew]) <;> omega) | (simp [World.setCell]; done) | (simp [World.setCell]; omega))
  clear qx00_5
  have qg0r00_6 : w6.cell? ⟨w5.heap.size, 0, none⟩ = some (.slice g0r0dp0 g0r0dn0 g0r0dq0) := (b6.cell (p := ⟨w5.heap.size, 0, none⟩) (by first | (with_reducible assumption) | ((try simp only [World.size_alloc, World.size_setCell, World.size_drew]) <;> omega) | (simp [World.setCell]; done) | (simp [World.setCell]; omega))).trans (by simp)
  have qg0r01_6 : w6.cell? ⟨w5.heap.size, 1, none⟩ = some (.int .i64 R0.2) := (b6.cell (p := ⟨w5.heap.size, 1, none⟩) (by first | (with_reducible assumption) | ((try simp only [World.size_alloc, World.size_setCell, World.size_drew]) <;> omega) | (simp [World.setCell]; done) | (simp [World.setCell]; omega))).trans (by simp)
  have zbg0r0_6 : w5.heap.size < w6.heap.size := (by first | (with_reducible assumption) | ((try simp only [World.size_alloc, World.size_setCell, World.size_drew]) <;> omega) | (simp [World.setCell]; done) | (simp [World.setCell]; omega))
  have Fw0r0_6 := Lib.hid ((Fw0r0_5.out.alloc _).below b6 (by first | (with_reducible assumption) | ((try simp only [World.size_alloc, World.size_setCell, World.size_drew]) <;> omega) | (simp [World.setCell]; done) | (simp [World.setCell]; omega)))
  clear Fw0r0_5
  have Fx0_6 := Lib.hid ((Fx0_5.out.alloc _).below b6 (by first | (with_reducible assumption) | ((try simp only [World.size_alloc, World.size_setCell, World.size_drew]) <;> omega) | (simp [World.setCell]; done) | (simp [World.setCell]; omega)))
  clear Fx0_5
  have Fg0r0_6 := Lib.hid ((Fg0r0_5.out.alloc _).below b6 (by first | (with_reducible assumption) | ((try simp only [World.size_alloc, World.size_setCell, World.size_drew]) <;> omega) | (simp [World.setCell]; done) | (simp [World.setCell]; omega)))
  clear Fg0r0_5
  go_wp2_with fail
  go_region_held3 (fun w' => w'.cell? ⟨w.heap.size, 0, none⟩ = some (.slice ap0_0 an0_0 aq0_0) ∧ w'.cell? ⟨w3.heap.size, 0, none⟩ = some (.slice w0r0dp0 w0r0dn0 w0r0dq0) ∧ w'.cell? ⟨w3.heap.size, 1, none⟩ = some (.int .i64 R0.2) ∧ w'.cell? ⟨w4.heap.size, 0, none⟩ = some (.slice x0dp0 x0dn0 x0dq0) ∧ w'.cell? ⟨w5.heap.size, 0, none⟩ = some (.slice g0r0dp0 g0r0dn0 g0r0dq0) ∧ w'.cell? ⟨w5.heap.size, 1, none⟩ = some (.int .i64 R0.2)) (first | go_keep | ((try dsimp only); (repeat' apply And.intro) <;> (first | go_keep | (refine ((Below.cell b8 ?_).trans ((Below.cell b7 ?_).trans ?_)) <;> first | assumption | omega | (simp; omega) | (simp; assumption)) | (refine ((Below.cell b7 ?_).trans ?_) <;> first | assumption | omega | (simp; omega) | (simp; assumption))))) ((first | (go_at_call 29; refine (toModel_any _ d0 _ (by exact rd_below H0.out (by (repeat' first | (with_reducible exact Below.refl _ _) | (with_reducible refine Below.drew ?_) | (with_reducible refine Below.setCell ?_ ?_ _) | (with_reducible refine Below.alloc ?_ ?_ _) | (with_reducible refine Below.mono (by assumption) ?_) | (with_reducible refine Below.trans ?_ (Below.mono (by assumption) ?_))) <;> (first | (with_reducible assumption) | ((try simp only [World.size_alloc, World.size_setCell, World.size_drew]) <;> omega) | (simp [World.setCell]; done) | (simp [World.setCell]; omega)))) (by omega)).mono ?_; rintro e w7 ⟨ycs0, rfl, yf0, b7⟩; have B7 : Below w.heap.size w w7 := Below.trans (by (repeat' first | (with_reducible exact Below.refl _ _) | (with_reducible refine Below.drew ?_) | (with_reducible refine Below.setCell ?_ ?_ _) | (with_reducible refine Below.alloc ?_ ?_ _) | (with_reducible refine Below.mono (by assumption) ?_) | (with_reducible refine Below.trans ?_ (Below.mono (by assumption) ?_))) <;> (first | (with_reducible assumption) | ((try simp only [World.size_alloc, World.size_setCell, World.size_drew]) <;> omega) | (simp [World.setCell]; done) | (simp [World.setCell]; omega))) (b7.mono (by first | (with_reducible assumption) | ((try simp only [World.size_alloc, World.size_setCell, World.size_drew]) <;> omega) | (simp [World.setCell]; done) | (simp [World.setCell]; omega))); have z7 : w6.heap.size ≤ w7.heap.size := by have := b7.size; (try simp only [World.size_alloc, World.size_drew] at this ⊢) <;> omega) | (go_at_call 32; refine (eqModel_any _ _ d0 _ (by exact ((Fx0_6.out.keep (w' := w6.drew) (fun _ _ _ => rfl) (Nat.le_refl _)).below b7 (by first | (with_reducible assumption) | ((try simp only [World.size_alloc, World.size_setCell, World.size_drew]) <;> omega) | (simp [World.setCell]; done) | (simp [World.setCell]; omega))).rd) (by exact yf0.rd)).mono ?_; rintro e w8 ⟨rfl, b8⟩; have B8 : Below w.heap.size w w8 := B7.trans (b8.mono (by first | (with_reducible assumption) | ((try simp only [World.size_alloc, World.size_setCell, World.size_drew]) <;> omega) | (simp [World.setCell]; done) | (simp [World.setCell]; omega))); have z8 := b8.size)))
  have hS := ‹_ ∧ _›
  obtain ⟨qa00_8, qw0r00_8, qw0r01_8, qx00_8, qg0r00_8, qg0r01_8⟩ := hS
  have zba0_8 : w.heap.size < w8.heap.size := (by first | (with_reducible assumption) | ((try simp only [World.size_alloc, World.size_setCell, World.size_drew]) <;> omega) | (simp [World.setCell]; done) | (simp [World.setCell]; omega))
  have zbw0r0_8 : w3.heap.size < w8.heap.size := (by first | (with_reducible assumption) | ((try simp only [World.size_alloc, World.size_setCell, World.size_drew]) <;> omega) | (simp [World.setCell]; done) | (simp [World.setCell]; omega))
  have zbx0_8 : w4.heap.size < w8.heap.size := (by first | (with_reducible assumption) | ((try simp only [World.size_alloc, World.size_setCell, World.size_drew]) <;> omega) | (simp [World.setCell]; done) | (simp [World.setCell]; omega))
  have zbg0r0_8 : w5.heap.size < w8.heap.size := (by first | (with_reducible assumption) | ((try simp only [World.size_alloc, World.size_setCell, World.size_drew]) <;> omega) | (simp [World.setCell]; done) | (simp [World.setCell]; omega))
  have Fw0r0_8 := Lib.hid (((Fw0r0_6.out.keep (w' := w6.drew) (fun _ _ _ => rfl) (Nat.le_refl _)).below b7 (by first | (with_reducible assumption) | ((try simp only [World.size_alloc, World.size_setCell, World.size_drew]) <;> omega) | (simp [World.setCell]; done) | (simp [World.setCell]; omega))).below b8 (by first | (with_reducible assumption) | ((try simp only [World.size_alloc, World.size_setCell, World.size_drew]) <;> omega) | (simp [World.setCell]; done) | (simp [World.setCell]; omega)))
  clear Fw0r0_6
  have Fx0_8 := Lib.hid (((Fx0_6.out.keep (w' := w6.drew) (fun _ _ _ => rfl) (Nat.le_refl _)).below b7 (by first | (with_reducible assumption) | ((try simp only [World.size_alloc, World.size_setCell, World.size_drew]) <;> omega) | (simp [World.setCell]; done) | (simp [World.setCell]; omega))).below b8 (by first | (with_reducible assumption) | ((try simp only [World.size_alloc, World.size_setCell, World.size_drew]) <;> omega) | (simp [World.setCell]; done) | (simp [World.setCell]; omega)))
  clear Fx0_6
  have Fg0r0_8 := Lib.hid (((Fg0r0_6.out.keep (w' := w6.drew) (fun _ _ _ => rfl) (Nat.le_refl _)).below b7 (by first | (with_reducible assumption) | ((try simp only [World.size_alloc, World.size_setCell, World.size_drew]) <;> omega) | (simp [World.setCell]; done) | (simp [World.setCell]; omega))).below b8 (by first | (with_reducible assumption) | ((try simp only [World.size_alloc, World.size_setCell, World.size_drew]) <;> omega) | (simp [World.setCell]; done) | (simp [World.setCell]; omega)))
  clear Fg0r0_6
  go_wp2_with fail
  obtain ⟨bl9, rep9, nd9, in9⟩ := (Fx0_8.out).un
  clear Fx0_8
  refine (markModel_un _ _ d0 _ _ (by exact rep9) nd9 (by omega) (by omega)).mono ?_
  rintro e w9 ⟨rfl, rp9, on9⟩
  have B9 : Below w.heap.size w w9 := Below.trans B8 (on9.below (fun b hb => by have := in9 b hb; (try simp only [World.size_alloc, World.size_drew] at this ⊢) <;> omega) (by first | (with_reducible assumption) | ((try simp only [World.size_alloc, World.size_setCell, World.size_drew]) <;> omega) | (simp [World.setCell]; done) | (simp [World.setCell]; omega)))
  have z9 : w8.heap.size + 0 ≤ w9.heap.size := by have := on9.size; (try simp only [World.size_alloc, World.size_drew] at this ⊢) <;> omega
  have qa00_9 : w9.cell? ⟨w.heap.size, 0, none⟩ = some (.slice ap0_0 an0_0 aq0_0) := (on9.cell (a := ⟨w.heap.size, 0, none⟩) (fun hm => by have := in9 _ hm; (try simp only [World.size_alloc, World.size_drew] at this ⊢) <;> omega) (by first | (with_reducible assumption) | ((try simp only [World.size_alloc, World.size_setCell, World.size_drew]) <;> omega) | (simp [World.setCell]; done) | (simp [World.setCell]; omega))).trans qa00_8
  have zba0_9 : w.heap.size < w9.heap.size := (by first | (with_reducible assumption) | ((try simp only [World.size_alloc, World.size_setCell, World.size_drew]) <;> omega) | (simp [World.setCell]; done) | (simp [World.setCell]; omega))
  clear qa00_8
  have qw0r00_9 : w9.cell? ⟨w3.heap.size, 0, none⟩ = some (.slice w0r0dp0 w0r0dn0 w0r0dq0) := (on9.cell (a := ⟨w3.heap.size, 0, none⟩) (fun hm => by have := in9 _ hm; (try simp only [World.size_alloc, World.size_drew] at this ⊢) <;> omega) (by first | (with_reducible assumption) | ((try simp only [World.size_alloc, World.size_setCell, World.size_drew]) <;> omega) | (simp [World.setCell]; done) | (simp [World.setCell]; omega))).trans qw0r00_8
  have qw0r01_9 : w9.cell? ⟨w3.heap.size, 1, none⟩ = some (.int .i64 R0.2) := (on9.cell (a := ⟨w3.heap.size, 1, none⟩) (fun hm => by have := in9 _ hm; (try simp only [World.size_alloc, World.size_drew] at this ⊢) <;> omega) (by first | (with_reducible assumption) | ((try simp only [World.size_alloc, World.size_setCell, World.size_drew]) <;> omega) | (simp [World.setCell]; done) | (simp [World.setCell]; omega))).trans qw0r01_8
  have zbw0r0_9 : w3.heap.size < w9.heap.size := (by first | (with_reducible assumption) | ((try simp only [World.size_alloc, World.size_setCell, World.size_drew]) <;> omega) | (simp [World.setCell]; done) | (simp [World.setCell]; omega))
  clear qw0r00_8 qw0r01_8
  have qx00_9 : w9.cell? ⟨w4.heap.size, 0, none⟩ = some (.slice x0dp0 x0dn0 x0dq0) := (on9.cell (a := ⟨w4.heap.size, 0, none⟩) (fun hm => by have := in9 _ hm; (try simp only [World.size_alloc, World.size_drew] at this ⊢) <;> omega) (by first | (with_reducible assumption) | ((try simp only [World.size_alloc, World.size_setCell, World.size_drew]) <;> omega) | (simp [World.setCell]; done) | (simp [World.setCell]; omega))).trans qx00_8
  have zbx0_9 : w4.heap.size < w9.heap.size := (by first | (with_reducible assumption) | ((try simp only [World.size_alloc, World.size_setCell, World.size_drew]) <;> omega) | (simp [World.setCell]; done) | (simp [World.setCell]; omega))
  clear qx00_8
  have qg0r00_9 : w9.cell? ⟨w5.heap.size, 0, none⟩ = some (.slice g0r0dp0 g0r0dn0 g0r0dq0) := (on9.cell (a := ⟨w5.heap.size, 0, none⟩) (fun hm => by have := in9 _ hm; (try simp only [World.size_alloc, World.size_drew] at this ⊢) <;> omega) (by first | (with_reducible assumption) | ((try simp only [World.size_alloc, World.size_setCell, World.size_drew]) <;> omega) | (simp [World.setCell]; done) | (simp [World.setCell]; omega))).trans qg0r00_8
  have qg0r01_9 : w9.cell? ⟨w5.heap.size, 1, none⟩ = some (.int .i64 R0.2) := (on9.cell (a := ⟨w5.heap.size, 1, none⟩) (fun hm => by have := in9 _ hm; (try simp only [World.size_alloc, World.size_drew] at this ⊢) <;> omega) (by first | (with_reducible assumption) | ((try simp only [World.size_alloc, World.size_setCell, World.size_drew]) <;> omega) | (simp [World.setCell]; done) | (simp [World.setCell]; omega))).trans qg0r01_8
  have zbg0r0_9 : w5.heap.size < w9.heap.size := (by first | (with_reducible assumption) | ((try simp only [World.size_alloc, World.size_setCell, World.size_drew]) <;> omega) | (simp [World.setCell]; done) | (simp [World.setCell]; omega))
  clear qg0r00_8 qg0r01_8
  have Fw0r0_9 := Lib.hid (Fw0r0_8.out.only on9 (fun b hb => by have := in9 b hb; (try simp only [World.size_alloc, World.size_drew] at this ⊢) <;> omega))
  clear Fw0r0_8
  have Fg0r0_9 := Lib.hid (Fg0r0_8.out.only on9 (fun b hb => by have := in9 b hb; (try simp only [World.size_alloc, World.size_drew] at this ⊢) <;> omega))
  clear Fg0r0_8
  have G9 := FrA.of_un rp9 nd9 in9 (by first | (with_reducible assumption) | ((try simp only [World.size_alloc, World.size_setCell, World.size_drew]) <;> omega) | (simp [World.setCell]; done) | (simp [World.setCell]; omega))
  clear rep9 rp9
  have Fx0_9 := Lib.hid G9; clear G9
  clear Fx0_9
  go_wp2_with fail
  refine (eqSwing_any _ _ R0 _ (by exact (Fg0r0_9.out).rd) (by exact (Fw0r0_9.out).rd)).mono ?_
  rintro e w10 ⟨rfl, b10⟩
  have B10 : Below w.heap.size w w10 := Below.trans B9 (b10.mono (by first | (with_reducible assumption) | ((try simp only [World.size_alloc, World.size_setCell, World.size_drew]) <;> omega) | (simp [World.setCell]; done) | (simp [World.setCell]; omega)))
  have z10 : w9.heap.size + 0 ≤ w10.heap.size := by have := b10.size; (try simp only [World.size_alloc, World.size_drew] at this ⊢) <;> omega
  have qa00_10 : w10.cell? ⟨w.heap.size, 0, none⟩ = some (.slice ap0_0 an0_0 aq0_0) := (b10.cell (p := ⟨w.heap.size, 0, none⟩) (by first | (with_reducible assumption) | ((try simp only [World.size_alloc, World.size_setCell, World.size_drew]) <;> omega) | (simp [World.setCell]; done) | (simp [World.setCell]; omega))).trans qa00_9
  have zba0_10 : w.heap.size < w10.heap.size := (by first | (with_reducible assumption) | ((try simp only [World.size_alloc, World.size_setCell, World.size_drew]) <;> omega) | (simp [World.setCell]; done) | (simp [World.setCell]; omega))
  clear qa00_9
  have qw0r00_10 : w10.cell? ⟨w3.heap.size, 0, none⟩ = some (.slice w0r0dp0 w0r0dn0 w0r0dq0) := (b10.cell (p := ⟨w3.heap.size, 0, none⟩) (by first | (with_reducible assumption) | ((try simp only [World.size_alloc, World.size_setCell, World.size_drew]) <;> omega) | (simp [World.setCell]; done) | (simp [World.setCell]; omega))).trans qw0r00_9
  have qw0r01_10 : w10.cell? ⟨w3.heap.size, 1, none⟩ = some (.int .i64 R0.2) := (b10.cell (p := ⟨w3.heap.size, 1, none⟩) (by first | (with_reducible assumption) | ((try simp only [World.size_alloc, World.size_setCell, World.size_drew]) <;> omega) | (simp [World.setCell]; done) | (simp [World.setCell]; omega))).trans qw0r01_9
  have zbw0r0_10 : w3.heap.size < w10.heap.size := (by first | (with_reducible assumption) | ((try simp only [World.size_alloc, World.size_setCell, World.size_drew]) <;> omega) | (simp [World.setCell]; done) | (simp [World.setCell]; omega))
  clear qw0r00_9 qw0r01_9
  have qx00_10 : w10.cell? ⟨w4.heap.size, 0, none⟩ = some (.slice x0dp0 x0dn0 x0dq0) := (b10.cell (p := ⟨w4.heap.size, 0, none⟩) (by first | (with_reducible assumption) | ((try simp only [World.size_alloc, World.size_setCell, World.size_drew]) <;> omega) | (simp [World.setCell]; done) | (simp [World.setCell]; omega))).trans qx00_9
  have zbx0_10 : w4.heap.size < w10.heap.size := (by first | (with_reducible assumption) | ((try simp only [World.size_alloc, World.size_setCell, World.size_drew]) <;> omega) | (simp [World.setCell]; done) | (simp [World.setCell]; omega))
  clear qx00_9
  have qg0r00_10 : w10.cell? ⟨w5.heap.size, 0, none⟩ = some (.slice g0r0dp0 g0r0dn0 g0r0dq0) := (b10.cell (p := ⟨w5.heap.size, 0, none⟩) (by first | (with_reducible assumption) | ((try simp only [World.size_alloc, World.size_setCell, World.size_drew]) <;> omega) | (simp [World.setCell]; done) | (simp [World.setCell]; omega))).trans qg0r00_9
  have qg0r01_10 : w10.cell? ⟨w5.heap.size, 1, none⟩ = some (.int .i64 R0.2) := (b10.cell (p := ⟨w5.heap.size, 1, none⟩) (by first | (with_reducible assumption) | ((try simp only [World.size_alloc, World.size_setCell, World.size_drew]) <;> omega) | (simp [World.setCell]; done) | (simp [World.setCell]; omega))).trans qg0r01_9
  have zbg0r0_10 : w5.heap.size < w10.heap.size := (by first | (with_reducible assumption) | ((try simp only [World.size_alloc, World.size_setCell, World.size_drew]) <;> omega) | (simp [World.setCell]; done) | (simp [World.setCell]; omega))
  clear qg0r00_9 qg0r01_9
  have Fw0r0_10 := Lib.hid (Fw0r0_9.out.below b10 (by first | (with_reducible assumption) | ((try simp only [World.size_alloc, World.size_setCell, World.size_drew]) <;> omega) | (simp [World.setCell]; done) | (simp [World.setCell]; omega)))
  clear Fw0r0_9
  have Fg0r0_10 := Lib.hid (Fg0r0_9.out.below b10 (by first | (with_reducible assumption) | ((try simp only [World.size_alloc, World.size_setCell, World.size_drew]) <;> omega) | (simp [World.setCell]; done) | (simp [World.setCell]; omega)))
  clear Fg0r0_9
  go_wp2_with fail
  obtain ⟨bl11, rep11, nd11, in11⟩ := (Fg0r0_10.out).un
  clear Fg0r0_10
  refine (markSwing_un _ _ R0 _ _ (by exact rep11) nd11 (by omega) (by omega)).mono ?_
  rintro e w11 ⟨rfl, rp11, on11⟩
  have B11 : Below w.heap.size w w11 := Below.trans B10 (on11.below (fun b hb => by have := in11 b hb; (try simp only [World.size_alloc, World.size_drew] at this ⊢) <;> omega) (by first | (with_reducible assumption) | ((try simp only [World.size_alloc, World.size_setCell, World.size_drew]) <;> omega) | (simp [World.setCell]; done) | (simp [World.setCell]; omega)))
  have z11 : w10.heap.size + 0 ≤ w11.heap.size := by have := on11.size; (try simp only [World.size_alloc, World.size_drew] at this ⊢) <;> omega
  have qa00_11 : w11.cell? ⟨w.heap.size, 0, none⟩ = some (.slice ap0_0 an0_0 aq0_0) := (on11.cell (a := ⟨w.heap.size, 0, none⟩) (fun hm => by have := in11 _ hm; (try simp only [World.size_alloc, World.size_drew] at this ⊢) <;> omega) (by first | (with_reducible assumption) | ((try simp only [World.size_alloc, World.size_setCell, World.size_drew]) <;> omega) | (simp [World.setCell]; done) | (simp [World.setCell]; omega))).trans qa00_10
  have zba0_11 : w.heap.size < w11.heap.size := (by first | (with_reducible assumption) | ((try simp only [World.size_alloc, World.size_setCell, World.size_drew]) <;> omega) | (simp [World.setCell]; done) | (simp [World.setCell]; omega))
  clear qa00_10
  have qw0r00_11 : w11.cell? ⟨w3.heap.size, 0, none⟩ = some (.slice w0r0dp0 w0r0dn0 w0r0dq0) := (on11.cell (a := ⟨w3.heap.size, 0, none⟩) (fun hm => by have := in11 _ hm; (try simp only [World.size_alloc, World.size_drew] at this ⊢) <;> omega) (by first | (with_reducible assumption) | ((try simp only [World.size_alloc, World.size_setCell, World.size_drew]) <;> omega) | (simp [World.setCell]; done) | (simp [World.setCell]; omega))).trans qw0r00_10
  have qw0r01_11 : w11.cell? ⟨w3.heap.size, 1, none⟩ = some (.int .i64 R0.2) := (on11.cell (a := ⟨w3.heap.size, 1, none⟩) (fun hm => by have := in11 _ hm; (try simp only [World.size_alloc, World.size_drew] at this ⊢) <;> omega) (by first | (with_reducible assumption) | ((try simp only [World.size_alloc, World.size_setCell, World.size_drew]) <;> omega) | (simp [World.setCell]; done) | (simp [World.setCell]; omega))).trans qw0r01_10
  have zbw0r0_11 : w3.heap.size < w11.heap.size := (by first | (with_reducible assumption) | ((try simp only [World.size_alloc, World.size_setCell, World.size_drew]) <;> omega) | (simp [World.setCell]; done) | (simp [World.setCell]; omega))
  clear qw0r00_10 qw0r01_10
  have qx00_11 : w11.cell? ⟨w4.heap.size, 0, none⟩ = some (.slice x0dp0 x0dn0 x0dq0) := (on11.cell (a := ⟨w4.heap.size, 0, none⟩) (fun hm => by have := in11 _ hm; (try simp only [World.size_alloc, World.size_drew] at this ⊢) <;> omega) (by first | (with_reducible assumption) | ((try simp only [World.size_alloc, World.size_setCell, World.size_drew]) <;> omega) | (simp [World.setCell]; done) | (simp [World.setCell]; omega))).trans qx00_10
  have zbx0_11 : w4.heap.size < w11.heap.size := (by first | (with_reducible assumption) | ((try simp only [World.size_alloc, World.size_setCell, World.size_drew]) <;> omega) | (simp [World.setCell]; done) | (simp [World.setCell]; omega))
  clear qx00_10
  have qg0r00_11 : w11.cell? ⟨w5.heap.size, 0, none⟩ = some (.slice g0r0dp0 g0r0dn0 g0r0dq0) := (on11.cell (a := ⟨w5.heap.size, 0, none⟩) (fun hm => by have := in11 _ hm; (try simp only [World.size_alloc, World.size_drew] at this ⊢) <;> omega) (by first | (with_reducible assumption) | ((try simp only [World.size_alloc, World.size_setCell, World.size_drew]) <;> omega) | (simp [World.setCell]; done) | (simp [World.setCell]; omega))).trans qg0r00_10
  have qg0r01_11 : w11.cell? ⟨w5.heap.size, 1, none⟩ = some (.int .i64 R0.2) := (on11.cell (a := ⟨w5.heap.size, 1, none⟩) (fun hm => by have := in11 _ hm; (try simp only [World.size_alloc, World.size_drew] at this ⊢) <;> omega) (by first | (with_reducible assumption) | ((try simp only [World.size_alloc, World.size_setCell, World.size_drew]) <;> omega) | (simp [World.setCell]; done) | (simp [World.setCell]; omega))).trans qg0r01_10
  have zbg0r0_11 : w5.heap.size < w11.heap.size := (by first | (with_reducible assumption) | ((try simp only [World.size_alloc, World.size_setCell, World.size_drew]) <;> omega) | (simp [World.setCell]; done) | (simp [World.setCell]; omega))
  clear qg0r00_10 qg0r01_10
  have Fw0r0_11 := Lib.hid (Fw0r0_10.out.only on11 (fun b hb => by have := in11 b hb; (try simp only [World.size_alloc, World.size_drew] at this ⊢) <;> omega))
  clear Fw0r0_10
  have G11 := FrA.of_un rp11 nd11 in11 (by first | (with_reducible assumption) | ((try simp only [World.size_alloc, World.size_setCell, World.size_drew]) <;> omega) | (simp [World.setCell]; done) | (simp [World.setCell]; omega))
  clear rep11 rp11
  have Fg0r0_11 := Lib.hid G11; clear G11
  go_wp2_with fail
  refine (heldSwing_any _ _ R0 _ (by exact (Fg0r0_11.out).rd) (by omega) (by omega)).mono ?_
  rintro e w12 ⟨rfl, b12⟩
  have B12 : Below w.heap.size w w12 := Below.trans B11 (b12.mono (by first | (with_reducible assumption) | ((try simp only [World.size_alloc, World.size_setCell, World.size_drew]) <;> omega) | (simp [World.setCell]; done) | (simp [World.setCell]; omega)))
  have z12 : w11.heap.size + 0 ≤ w12.heap.size := by have := b12.size; (try simp only [World.size_alloc, World.size_drew] at this ⊢) <;> omega
  have qa00_12 : w12.cell? ⟨w.heap.size, 0, none⟩ = some (.slice ap0_0 an0_0 aq0_0) := (b12.cell (p := ⟨w.heap.size, 0, none⟩) (by first | (with_reducible assumption) | ((try simp only [World.size_alloc, World.size_setCell, World.size_drew]) <;> omega) | (simp [World.setCell]; done) | (simp [World.setCell]; omega))).trans qa00_11
  have zba0_12 : w.heap.size < w12.heap.size := (by first | (with_reducible assumption) | ((try simp only [World.size_alloc, World.size_setCell, World.size_drew]) <;> omega) | (simp [World.setCell]; done) | (simp [World.setCell]; omega))
  clear qa00_11
  have qw0r00_12 : w12.cell? ⟨w3.heap.size, 0, none⟩ = some (.slice w0r0dp0 w0r0dn0 w0r0dq0) := (b12.cell (p := ⟨w3.heap.size, 0, none⟩) (by first | (with_reducible assumption) | ((try simp only [World.size_alloc, World.size_setCell, World.size_drew]) <;> omega) | (simp [World.setCell]; done) | (simp [World.setCell]; omega))).trans qw0r00_11
  have qw0r01_12 : w12.cell? ⟨w3.heap.size, 1, none⟩ = some (.int .i64 R0.2) := (b12.cell (p := ⟨w3.heap.size, 1, none⟩) (by first | (with_reducible assumption) | ((try simp only [World.size_alloc, World.size_setCell, World.size_drew]) <;> omega) | (simp [World.setCell]; done) | (simp [World.setCell]; omega))).trans qw0r01_11
  have zbw0r0_12 : w3.heap.size < w12.heap.size := (by first | (with_reducible assumption) | ((try simp only [World.size_alloc, World.size_setCell, World.size_drew]) <;> omega) | (simp [World.setCell]; done) | (simp [World.setCell]; omega))
  clear qw0r00_11 qw0r01_11
  have qx00_12 : w12.cell? ⟨w4.heap.size, 0, none⟩ = some (.slice x0dp0 x0dn0 x0dq0) := (b12.cell (p := ⟨w4.heap.size, 0, none⟩) (by first | (with_reducible assumption) | ((try simp only [World.size_alloc, World.size_setCell, World.size_drew]) <;> omega) | (simp [World.setCell]; done) | (simp [World.setCell]; omega))).trans qx00_11
  have zbx0_12 : w4.heap.size < w12.heap.size := (by first | (with_reducible assumption) | ((try simp only [World.size_alloc, World.size_setCell, World.size_drew]) <;> omega) | (simp [World.setCell]; done) | (simp [World.setCell]; omega))
  clear qx00_11
  have qg0r00_12 : w12.cell? ⟨w5.heap.size, 0, none⟩ = some (.slice g0r0dp0 g0r0dn0 g0r0dq0) := (b12.cell (p := ⟨w5.heap.size, 0, none⟩) (by first | (with_reducible assumption) | ((try simp only [World.size_alloc, World.size_setCell, World.size_drew]) <;> omega) | (simp [World.setCell]; done) | (simp [World.setCell]; omega))).trans qg0r00_11
  have qg0r01_12 : w12.cell? ⟨w5.heap.size, 1, none⟩ = some (.int .i64 R0.2) := (b12.cell (p := ⟨w5.heap.size, 1, none⟩) (by first | (with_reducible assumption) | ((try simp only [World.size_alloc, World.size_setCell, World.size_drew]) <;> omega) | (simp [World.setCell]; done) | (simp [World.setCell]; omega))).trans qg0r01_11
  have zbg0r0_12 : w5.heap.size < w12.heap.size := (by first | (with_reducible assumption) | ((try simp only [World.size_alloc, World.size_setCell, World.size_drew]) <;> omega) | (simp [World.setCell]; done) | (simp [World.setCell]; omega))
  clear qg0r00_11 qg0r01_11
  have Fw0r0_12 := Lib.hid (Fw0r0_11.out.below b12 (by first | (with_reducible assumption) | ((try simp only [World.size_alloc, World.size_setCell, World.size_drew]) <;> omega) | (simp [World.setCell]; done) | (simp [World.setCell]; omega)))
  clear Fw0r0_11
  have Fg0r0_12 := Lib.hid (Fg0r0_11.out.below b12 (by first | (with_reducible assumption) | ((try simp only [World.size_alloc, World.size_setCell, World.size_drew]) <;> omega) | (simp [World.setCell]; done) | (simp [World.setCell]; omega)))
  clear Fg0r0_11
  go_wp2_with fail
  refine (toModel_any _ d0 _ (by exact rd_below H0.out B12) (by omega)).mono ?_
  rintro e w13 ⟨ucs0, rfl, uf0, b13⟩
  have B13 : Below w.heap.size w w13 := Below.trans B12 (b13.mono (by first | (with_reducible assumption) | ((try simp only [World.size_alloc, World.size_setCell, World.size_drew]) <;> omega) | (simp [World.setCell]; done) | (simp [World.setCell]; omega)))
  have z13 : w12.heap.size + 0 ≤ w13.heap.size := by have := b13.size; (try simp only [World.size_alloc, World.size_drew] at this ⊢) <;> omega
  have qa00_13 : w13.cell? ⟨w.heap.size, 0, none⟩ = some (.slice ap0_0 an0_0 aq0_0) := (b13.cell (p := ⟨w.heap.size, 0, none⟩) (by first | (with_reducible assumption) | ((try simp only [World.size_alloc, World.size_setCell, World.size_drew]) <;> omega) | (simp [World.setCell]; done) | (simp [World.setCell]; omega))).trans qa00_12
  have zba0_13 : w.heap.size < w13.heap.size := (by first | (with_reducible assumption) | ((try simp only [World.size_alloc, World.size_setCell, World.size_drew]) <;> omega) | (simp [World.setCell]; done) | (simp [World.setCell]; omega))
  clear qa00_12
  have qw0r00_13 : w13.cell? ⟨w3.heap.size, 0, none⟩ = some (.slice w0r0dp0 w0r0dn0 w0r0dq0) := (b13.cell (p := ⟨w3.heap.size, 0, none⟩) (by first | (with_reducible assumption) | ((try simp only [World.size_alloc, World.size_setCell, World.size_drew]) <;> omega) | (simp [World.setCell]; done) | (simp [World.setCell]; omega))).trans qw0r00_12
  have qw0r01_13 : w13.cell? ⟨w3.heap.size, 1, none⟩ = some (.int .i64 R0.2) := (b13.cell (p := ⟨w3.heap.size, 1, none⟩) (by first | (with_reducible assumption) | ((try simp only [World.size_alloc, World.size_setCell, World.size_drew]) <;> omega) | (simp [World.setCell]; done) | (simp [World.setCell]; omega))).trans qw0r01_12
  have zbw0r0_13 : w3.heap.size < w13.heap.size := (by first | (with_reducible assumption) | ((try simp only [World.size_alloc, World.size_setCell, World.size_drew]) <;> omega) | (simp [World.setCell]; done) | (simp [World.setCell]; omega))
  clear qw0r00_12 qw0r01_12
  have qx00_13 : w13.cell? ⟨w4.heap.size, 0, none⟩ = some (.slice x0dp0 x0dn0 x0dq0) := (b13.cell (p := ⟨w4.heap.size, 0, none⟩) (by first | (with_reducible assumption) | ((try simp only [World.size_alloc, World.size_setCell, World.size_drew]) <;> omega) | (simp [World.setCell]; done) | (simp [World.setCell]; omega))).trans qx00_12
  have zbx0_13 : w4.heap.size < w13.heap.size := (by first | (with_reducible assumption) | ((try simp only [World.size_alloc, World.size_setCell, World.size_drew]) <;> omega) | (simp [World.setCell]; done) | (simp [World.setCell]; omega))
  clear qx00_12
  have qg0r00_13 : w13.cell? ⟨w5.heap.size, 0, none⟩ = some (.slice g0r0dp0 g0r0dn0 g0r0dq0) := (b13.cell (p := ⟨w5.heap.size, 0, none⟩) (by first | (with_reducible assumption) | ((try simp only [World.size_alloc, World.size_setCell, World.size_drew]) <;> omega) | (simp [World.setCell]; done) | (simp [World.setCell]; omega))).trans qg0r00_12
  have qg0r01_13 : w13.cell? ⟨w5.heap.size, 1, none⟩ = some (.int .i64 R0.2) := (b13.cell (p := ⟨w5.heap.size, 1, none⟩) (by first | (with_reducible assumption) | ((try simp only [World.size_alloc, World.size_setCell, World.size_drew]) <;> omega) | (simp [World.setCell]; done) | (simp [World.setCell]; omega))).trans qg0r01_12
  have zbg0r0_13 : w5.heap.size < w13.heap.size := (by first | (with_reducible assumption) | ((try simp only [World.size_alloc, World.size_setCell, World.size_drew]) <;> omega) | (simp [World.setCell]; done) | (simp [World.setCell]; omega))
  clear qg0r00_12 qg0r01_12
  have Fw0r0_13 := Lib.hid (Fw0r0_12.out.below b13 (by first | (with_reducible assumption) | ((try simp only [World.size_alloc, World.size_setCell, World.size_drew]) <;> omega) | (simp [World.setCell]; done) | (simp [World.setCell]; omega)))
  clear Fw0r0_12
  have Fg0r0_13 := Lib.hid (Fg0r0_12.out.below b13 (by first | (with_reducible assumption) | ((try simp only [World.size_alloc, World.size_setCell, World.size_drew]) <;> omega) | (simp [World.setCell]; done) | (simp [World.setCell]; omega)))
  clear Fg0r0_12
  have Fu0_13 := Lib.hid uf0; clear uf0
  go_wp2_with fail
  refine (HI.out _ _ (by exact (Fu0_13.out).rd)).mono ?_
  rintro e w14 ⟨h0rcs0, rfl, h0rf0, b14⟩
  have B14 : Below w.heap.size w w14 := Below.trans B13 (b14.mono (by first | (with_reducible assumption) | ((try simp only [World.size_alloc, World.size_setCell, World.size_drew]) <;> omega) | (simp [World.setCell]; done) | (simp [World.setCell]; omega)))
  have z14 : w13.heap.size + 0 ≤ w14.heap.size := by have := b14.size; (try simp only [World.size_alloc, World.size_drew] at this ⊢) <;> omega
  have qa00_14 : w14.cell? ⟨w.heap.size, 0, none⟩ = some (.slice ap0_0 an0_0 aq0_0) := (b14.cell (p := ⟨w.heap.size, 0, none⟩) (by first | (with_reducible assumption) | ((try simp only [World.size_alloc, World.size_setCell, World.size_drew]) <;> omega) | (simp [World.setCell]; done) | (simp [World.setCell]; omega))).trans qa00_13
  have zba0_14 : w.heap.size < w14.heap.size := (by first | (with_reducible assumption) | ((try simp only [World.size_alloc, World.size_setCell, World.size_drew]) <;> omega) | (simp [World.setCell]; done) | (simp [World.setCell]; omega))
  clear qa00_13
  have qw0r00_14 : w14.cell? ⟨w3.heap.size, 0, none⟩ = some (.slice w0r0dp0 w0r0dn0 w0r0dq0) := (b14.cell (p := ⟨w3.heap.size, 0, none⟩) (by first | (with_reducible assumption) | ((try simp only [World.size_alloc, World.size_setCell, World.size_drew]) <;> omega) | (simp [World.setCell]; done) | (simp [World.setCell]; omega))).trans qw0r00_13
  have qw0r01_14 : w14.cell? ⟨w3.heap.size, 1, none⟩ = some (.int .i64 R0.2) := (b14.cell (p := ⟨w3.heap.size, 1, none⟩) (by first | (with_reducible assumption) | ((try simp only [World.size_alloc, World.size_setCell, World.size_drew]) <;> omega) | (simp [World.setCell]; done) | (simp [World.setCell]; omega))).trans qw0r01_13
  have zbw0r0_14 : w3.heap.size < w14.heap.size := (by first | (with_reducible assumption) | ((try simp only [World.size_alloc, World.size_setCell, World.size_drew]) <;> omega) | (simp [World.setCell]; done) | (simp [World.setCell]; omega))
  clear qw0r00_13 qw0r01_13
  have qx00_14 : w14.cell? ⟨w4.heap.size, 0, none⟩ = some (.slice x0dp0 x0dn0 x0dq0) := (b14.cell (p := ⟨w4.heap.size, 0, none⟩) (by first | (with_reducible assumption) | ((try simp only [World.size_alloc, World.size_setCell, World.size_drew]) <;> omega) | (simp [World.setCell]; done) | (simp [World.setCell]; omega))).trans qx00_13
  have zbx0_14 : w4.heap.size < w14.heap.size := (by first | (with_reducible assumption) | ((try simp only [World.size_alloc, World.size_setCell, World.size_drew]) <;> omega) | (simp [World.setCell]; done) | (simp [World.setCell]; omega))
  clear qx00_13
  have qg0r00_14 : w14.cell? ⟨w5.heap.size, 0, none⟩ = some (.slice g0r0dp0 g0r0dn0 g0r0dq0) := (b14.cell (p := ⟨w5.heap.size, 0, none⟩) (by first | (with_reducible assumption) | ((try simp only [World.size_alloc, World.size_setCell, World.size_drew]) <;> omega) | (simp [World.setCell]; done) | (simp [World.setCell]; omega))).trans qg0r00_13
  have qg0r01_14 : w14.cell? ⟨w5.heap.size, 1, none⟩ = some (.int .i64 R0.2) := (b14.cell (p := ⟨w5.heap.size, 1, none⟩) (by first | (with_reducible assumption) | ((try simp only [World.size_alloc, World.size_setCell, World.size_drew]) <;> omega) | (simp [World.setCell]; done) | (simp [World.setCell]; omega))).trans qg0r01_13
  have zbg0r0_14 : w5.heap.size < w14.heap.size := (by first | (with_reducible assumption) | ((try simp only [World.size_alloc, World.size_setCell, World.size_drew]) <;> omega) | (simp [World.setCell]; done) | (simp [World.setCell]; omega))
  clear qg0r00_13 qg0r01_13
  have Fw0r0_14 := Lib.hid (Fw0r0_13.out.below b14 (by first | (with_reducible assumption) | ((try simp only [World.size_alloc, World.size_setCell, World.size_drew]) <;> omega) | (simp [World.setCell]; done) | (simp [World.setCell]; omega)))
  clear Fw0r0_13
  have Fg0r0_14 := Lib.hid (Fg0r0_13.out.below b14 (by first | (with_reducible assumption) | ((try simp only [World.size_alloc, World.size_setCell, World.size_drew]) <;> omega) | (simp [World.setCell]; done) | (simp [World.setCell]; omega)))
  clear Fg0r0_13
  have Fu0_14 := Lib.hid (Fu0_13.out.below b14 (by first | (with_reducible assumption) | ((try simp only [World.size_alloc, World.size_setCell, World.size_drew]) <;> omega) | (simp [World.setCell]; done) | (simp [World.setCell]; omega)))
  clear Fu0_13
  clear Fu0_14
  have rrh0r0d := h0rf0.rd
  obtain ⟨_, _, h0r0dhcs, ⟨h0r0dp0, h0r0dn0, h0r0dq0, rfl, h0r0ds0⟩, ⟨rfl, h0r0dw1⟩⟩ := rrh0r0d
  obtain rfl : h0rcs0 = #[.slice h0r0dp0 h0r0dn0 h0r0dq0, .int .i64 R0.2] := arr_of h0r0dhcs
  clear h0r0dhcs
  have Fh0r0_14 := Lib.hid h0rf0; clear h0rf0
  go_wp2_with fail
  refine (eqSwing_any _ _ R0 _ (by exact ((Fh0r0_14.out.alloc _)).rd) (by exact ((Fw0r0_14.out.alloc _)).rd)).mono ?_
  rintro e w15 ⟨rfl, b15⟩
  have B15 : Below w.heap.size w w15 := Below.trans (by (repeat' first | (with_reducible exact Below.refl _ _) | (with_reducible refine Below.drew ?_) | (with_reducible refine Below.setCell ?_ ?_ _) | (with_reducible refine Below.alloc ?_ ?_ _) | (with_reducible refine Below.mono (by assumption) ?_) | (with_reducible refine Below.trans ?_ (Below.mono (by assumption) ?_))) <;> (first | (with_reducible assumption) | ((try simp only [World.size_alloc, World.size_setCell, World.size_drew]) <;> omega) | (simp [World.setCell]; done) | (simp [World.setCell]; omega))) (b15.mono (by first | (with_reducible assumption) | ((try simp only [World.size_alloc, World.size_setCell, World.size_drew]) <;> omega) | (simp [World.setCell]; done) | (simp [World.setCell]; omega)))
  have z15 : w14.heap.size + 1 ≤ w15.heap.size := by have := b15.size; (try simp only [World.size_alloc, World.size_drew] at this ⊢) <;> omega
  have qa00_15 : w15.cell? ⟨w.heap.size, 0, none⟩ = some (.slice ap0_0 an0_0 aq0_0) := (b15.cell (p := ⟨w.heap.size, 0, none⟩) (by first | (with_reducible assumption) | ((try simp only [World.size_alloc, World.size_setCell, World.size_drew]) <;> omega) | (simp [World.setCell]; done) | (simp [World.setCell]; omega))).trans ((alloc_cell (a := ⟨w.heap.size, 0, none⟩) (by first | (with_reducible assumption) | ((try simp only [World.size_alloc, World.size_setCell, World.size_drew]) <;> omega) | (simp [World.setCell]; done) | (simp [World.setCell]; omega))).trans qa00_14)
  have zba0_15 : w.heap.size < w15.heap.size := (by first | (with_reducible assumption) | ((try simp only [World.size_alloc, World.size_setCell, World.size_drew]) <;> omega) | (simp [World.setCell]; done) | (simp [World.setCell]; omega))
  clear qa00_14
  have qw0r00_15 : w15.cell? ⟨w3.heap.size, 0, none⟩ = some (.slice w0r0dp0 w0r0dn0 w0r0dq0) := (b15.cell (p := ⟨w3.heap.size, 0, none⟩) (by first | (with_reducible assumption) | ((try simp only [World.size_alloc, World.size_setCell, World.size_drew]) <;> omega) | (simp [World.setCell]; done) | (simp [World.setCell]; omega))).trans ((alloc_cell (a := ⟨w3.heap.size, 0, none⟩) (by first | (with_reducible assumption) | ((try simp only [World.size_alloc, World.size_setCell, World.size_drew]) <;> omega) | (simp [World.setCell]; done) | (simp [World.setCell]; omega))).trans qw0r00_14)
  have qw0r01_15 : w15.cell? ⟨w3.heap.size, 1, none⟩ = some (.int .i64 R0.2) := (b15.cell (p := ⟨w3.heap.size, 1, none⟩) (by first | (with_reducible assumption) | ((try simp only [World.size_alloc, World.size_setCell, World.size_drew]) <;> omega) | (simp [World.setCell]; done) | (simp [World.setCell]; omega))).trans ((alloc_cell (a := ⟨w3.heap.size, 1, none⟩) (by first | (with_reducible assumption) | ((try simp only [World.size_alloc, World.size_setCell, World.size_drew]) <;> omega) | (simp [World.setCell]; done) | (simp [World.setCell]; omega))).trans qw0r01_14)
  have zbw0r0_15 : w3.heap.size < w15.heap.size := (by first | (with_reducible assumption) | ((try simp only [World.size_alloc, World.size_setCell, World.size_drew]) <;> omega) | (simp [World.setCell]; done) | (simp [World.setCell]; omega))
  clear qw0r00_14 qw0r01_14
  have qx00_15 : w15.cell? ⟨w4.heap.size, 0, none⟩ = some (.slice x0dp0 x0dn0 x0dq0) := (b15.cell (p := ⟨w4.heap.size, 0, none⟩) (by first | (with_reducible assumption) | ((try simp only [World.size_alloc, World.size_setCell, World.size_drew]) <;> omega) | (simp [World.setCell]; done) | (simp [World.setCell]; omega))).trans ((alloc_cell (a := ⟨w4.heap.size, 0, none⟩) (by first | (with_reducible assumption) | ((try simp only [World.size_alloc, World.size_setCell, World.size_drew]) <;> omega) | (simp [World.setCell]; done) | (simp [World.setCell]; omega))).trans qx00_14)
  have zbx0_15 : w4.heap.size < w15.heap.size := (by first | (with_reducible assumption) | ((try simp only [World.size_alloc, World.size_setCell, World.size_drew]) <;> omega) | (simp [World.setCell]; done) | (simp [World.setCell]; omega))
  clear qx00_14
  have qg0r00_15 : w15.cell? ⟨w5.heap.size, 0, none⟩ = some (.slice g0r0dp0 g0r0dn0 g0r0dq0) := (b15.cell (p := ⟨w5.heap.size, 0, none⟩) (by first | (with_reducible assumption) | ((try simp only [World.size_alloc, World.size_setCell, World.size_drew]) <;> omega) | (simp [World.setCell]; done) | (simp [World.setCell]; omega))).trans ((alloc_cell (a := ⟨w5.heap.size, 0, none⟩) (by first | (with_reducible assumption) | ((try simp only [World.size_alloc, World.size_setCell, World.size_drew]) <;> omega) | (simp [World.setCell]; done) | (simp [World.setCell]; omega))).trans qg0r00_14)
  have qg0r01_15 : w15.cell? ⟨w5.heap.size, 1, none⟩ = some (.int .i64 R0.2) := (b15.cell (p := ⟨w5.heap.size, 1, none⟩) (by first | (with_reducible assumption) | ((try simp only [World.size_alloc, World.size_setCell, World.size_drew]) <;> omega) | (simp [World.setCell]; done) | (simp [World.setCell]; omega))).trans ((alloc_cell (a := ⟨w5.heap.size, 1, none⟩) (by first | (with_reducible assumption) | ((try simp only [World.size_alloc, World.size_setCell, World.size_drew]) <;> omega) | (simp [World.setCell]; done) | (simp [World.setCell]; omega))).trans qg0r01_14)
  have zbg0r0_15 : w5.heap.size < w15.heap.size := (by first | (with_reducible assumption) | ((try simp only [World.size_alloc, World.size_setCell, World.size_drew]) <;> omega) | (simp [World.setCell]; done) | (simp [World.setCell]; omega))
  clear qg0r00_14 qg0r01_14
  have qh0r00_15 : w15.cell? ⟨w14.heap.size, 0, none⟩ = some (.slice h0r0dp0 h0r0dn0 h0r0dq0) := (b15.cell (p := ⟨w14.heap.size, 0, none⟩) (by first | (with_reducible assumption) | ((try simp only [World.size_alloc, World.size_setCell, World.size_drew]) <;> omega) | (simp [World.setCell]; done) | (simp [World.setCell]; omega))).trans (by simp)
  have qh0r01_15 : w15.cell? ⟨w14.heap.size, 1, none⟩ = some (.int .i64 R0.2) := (b15.cell (p := ⟨w14.heap.size, 1, none⟩) (by first | (with_reducible assumption) | ((try simp only [World.size_alloc, World.size_setCell, World.size_drew]) <;> omega) | (simp [World.setCell]; done) | (simp [World.setCell]; omega))).trans (by simp)
  have zbh0r0_15 : w14.heap.size < w15.heap.size := (by first | (with_reducible assumption) | ((try simp only [World.size_alloc, World.size_setCell, World.size_drew]) <;> omega) | (simp [World.setCell]; done) | (simp [World.setCell]; omega))
  have Fw0r0_15 := Lib.hid ((Fw0r0_14.out.alloc _).below b15 (by first | (with_reducible assumption) | ((try simp only [World.size_alloc, World.size_setCell, World.size_drew]) <;> omega) | (simp [World.setCell]; done) | (simp [World.setCell]; omega)))
  clear Fw0r0_14
  have Fg0r0_15 := Lib.hid ((Fg0r0_14.out.alloc _).below b15 (by first | (with_reducible assumption) | ((try simp only [World.size_alloc, World.size_setCell, World.size_drew]) <;> omega) | (simp [World.setCell]; done) | (simp [World.setCell]; omega)))
  clear Fg0r0_14
  have Fh0r0_15 := Lib.hid ((Fh0r0_14.out.alloc _).below b15 (by first | (with_reducible assumption) | ((try simp only [World.size_alloc, World.size_setCell, World.size_drew]) <;> omega) | (simp [World.setCell]; done) | (simp [World.setCell]; omega)))
  clear Fh0r0_14
  go_wp2_with fail
  refine (heldSwing_any _ _ R0 _ (by exact (Fg0r0_15.out).rd) (by omega) (by omega)).mono ?_
  rintro e w16 ⟨rfl, b16⟩
  have B16 : Below w.heap.size w w16 := Below.trans B15 (b16.mono (by first | (with_reducible assumption) | ((try simp only [World.size_alloc, World.size_setCell, World.size_drew]) <;> omega) | (simp [World.setCell]; done) | (simp [World.setCell]; omega)))
  have z16 : w15.heap.size + 0 ≤ w16.heap.size := by have := b16.size; (try simp only [World.size_alloc, World.size_drew] at this ⊢) <;> omega
  have qa00_16 : w16.cell? ⟨w.heap.size, 0, none⟩ = some (.slice ap0_0 an0_0 aq0_0) := (b16.cell (p := ⟨w.heap.size, 0, none⟩) (by first | (with_reducible assumption) | ((try simp only [World.size_alloc, World.size_setCell, World.size_drew]) <;> omega) | (simp [World.setCell]; done) | (simp [World.setCell]; omega))).trans qa00_15
  have zba0_16 : w.heap.size < w16.heap.size := (by first | (with_reducible assumption) | ((try simp only [World.size_alloc, World.size_setCell, World.size_drew]) <;> omega) | (simp [World.setCell]; done) | (simp [World.setCell]; omega))
  clear qa00_15
  have qw0r00_16 : w16.cell? ⟨w3.heap.size, 0, none⟩ = some (.slice w0r0dp0 w0r0dn0 w0r0dq0) := (b16.cell (p := ⟨w3.heap.size, 0, none⟩) (by first | (with_reducible assumption) | ((try simp only [World.size_alloc, World.size_setCell, World.size_drew]) <;> omega) | (simp [World.setCell]; done) | (simp [World.setCell]; omega))).trans qw0r00_15
  have qw0r01_16 : w16.cell? ⟨w3.heap.size, 1, none⟩ = some (.int .i64 R0.2) := (b16.cell (p := ⟨w3.heap.size, 1, none⟩) (by first | (with_reducible assumption) | ((try simp only [World.size_alloc, World.size_setCell, World.size_drew]) <;> omega) | (simp [World.setCell]; done) | (simp [World.setCell]; omega))).trans qw0r01_15
  have zbw0r0_16 : w3.heap.size < w16.heap.size := (by first | (with_reducible assumption) | ((try simp only [World.size_alloc, World.size_setCell, World.size_drew]) <;> omega) | (simp [World.setCell]; done) | (simp [World.setCell]; omega))
  clear qw0r00_15 qw0r01_15
  have qx00_16 : w16.cell? ⟨w4.heap.size, 0, none⟩ = some (.slice x0dp0 x0dn0 x0dq0) := (b16.cell (p := ⟨w4.heap.size, 0, none⟩) (by first | (with_reducible assumption) | ((try simp only [World.size_alloc, World.size_setCell, World.size_drew]) <;> omega) | (simp [World.setCell]; done) | (simp [World.setCell]; omega))).trans qx00_15
  have zbx0_16 : w4.heap.size < w16.heap.size := (by first | (with_reducible assumption) | ((try simp only [World.size_alloc, World.size_setCell, World.size_drew]) <;> omega) | (simp [World.setCell]; done) | (simp [World.setCell]; omega))
  clear qx00_15
  have qg0r00_16 : w16.cell? ⟨w5.heap.size, 0, none⟩ = some (.slice g0r0dp0 g0r0dn0 g0r0dq0) := (b16.cell (p := ⟨w5.heap.size, 0, none⟩) (by first | (with_reducible assumption) | ((try simp only [World.size_alloc, World.size_setCell, World.size_drew]) <;> omega) | (simp [World.setCell]; done) | (simp [World.setCell]; omega))).trans qg0r00_15
  have qg0r01_16 : w16.cell? ⟨w5.heap.size, 1, none⟩ = some (.int .i64 R0.2) := (b16.cell (p := ⟨w5.heap.size, 1, none⟩) (by first | (with_reducible assumption) | ((try simp only [World.size_alloc, World.size_setCell, World.size_drew]) <;> omega) | (simp [World.setCell]; done) | (simp [World.setCell]; omega))).trans qg0r01_15
  have zbg0r0_16 : w5.heap.size < w16.heap.size := (by first | (with_reducible assumption) | ((try simp only [World.size_alloc, World.size_setCell, World.size_drew]) <;> omega) | (simp [World.setCell]; done) | (simp [World.setCell]; omega))
  clear qg0r00_15 qg0r01_15
  have qh0r00_16 : w16.cell? ⟨w14.heap.size, 0, none⟩ = some (.slice h0r0dp0 h0r0dn0 h0r0dq0) := (b16.cell (p := ⟨w14.heap.size, 0, none⟩) (by first | (with_reducible assumption) | ((try simp only [World.size_alloc, World.size_setCell, World.size_drew]) <;> omega) | (simp [World.setCell]; done) | (simp [World.setCell]; omega))).trans qh0r00_15
  have qh0r01_16 : w16.cell? ⟨w14.heap.size, 1, none⟩ = some (.int .i64 R0.2) := (b16.cell (p := ⟨w14.heap.size, 1, none⟩) (by first | (with_reducible assumption) | ((try simp only [World.size_alloc, World.size_setCell, World.size_drew]) <;> omega) | (simp [World.setCell]; done) | (simp [World.setCell]; omega))).trans qh0r01_15
  have zbh0r0_16 : w14.heap.size < w16.heap.size := (by first | (with_reducible assumption) | ((try simp only [World.size_alloc, World.size_setCell, World.size_drew]) <;> omega) | (simp [World.setCell]; done) | (simp [World.setCell]; omega))
  clear qh0r00_15 qh0r01_15
  have Fw0r0_16 := Lib.hid (Fw0r0_15.out.below b16 (by first | (with_reducible assumption) | ((try simp only [World.size_alloc, World.size_setCell, World.size_drew]) <;> omega) | (simp [World.setCell]; done) | (simp [World.setCell]; omega)))
  clear Fw0r0_15
  have Fg0r0_16 := Lib.hid (Fg0r0_15.out.below b16 (by first | (with_reducible assumption) | ((try simp only [World.size_alloc, World.size_setCell, World.size_drew]) <;> omega) | (simp [World.setCell]; done) | (simp [World.setCell]; omega)))
  clear Fg0r0_15
  have Fh0r0_16 := Lib.hid (Fh0r0_15.out.below b16 (by first | (with_reducible assumption) | ((try simp only [World.size_alloc, World.size_setCell, World.size_drew]) <;> omega) | (simp [World.setCell]; done) | (simp [World.setCell]; omega)))
  clear Fh0r0_15
  go_wp2
  go_ret
  exact ⟨rfl, B16⟩
end Go.Proofs.Ytnijnjclmlfahaa
