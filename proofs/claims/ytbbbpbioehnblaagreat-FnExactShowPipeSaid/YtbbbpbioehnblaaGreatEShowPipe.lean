/- The walk of FnExactShowPipe. -/
import Derived.Test.YtbbbpbioehnblaaGreatBShowPipe
import Derived.Test.YtbbbpbioehnblaaGreatTPipe
import Derived.Deep.RegionHeld3
namespace Go.Proofs.YtbbbpbioehnblaaGreat
open Go.ChangeShapes Go.WideShapes Go.ChangeAt Go.RowKit
set_option linter.unusedVariables false
set_option linter.unusedSimpArgs false
set_option maxRecDepth 100000 in
set_option maxHeartbeats 4000000 in
theorem fnExactShowPipe_walk (w : World) (cs0 : Array Value) (d0 : Ty.D tPipe) (h0 : rd tPipe w cs0.toList d0) :
    Calls Tryz.prog 3 #[.agg cs0] w fun e w' => e = .returned (.bool true) ∧ Below w.heap.size w w' := by
  obtain ⟨ap0_0, an0_0, aq0_0, ap0_1, an0_1, aq0_1, ap0_2, an0_2, aq0_2, ap0_3, an0_3, aq0_3, rfl⟩ : ∃ ap0_0 an0_0 aq0_0 ap0_1 an0_1 aq0_1 ap0_2 an0_2 aq0_2 ap0_3 an0_3 aq0_3, cs0 = #[.slice ap0_0 an0_0 aq0_0, .slice ap0_1 an0_1 aq0_1, .slice ap0_2 an0_2 aq0_2, .slice ap0_3 an0_3 aq0_3] := by
    obtain ⟨_, _, khcs, ⟨kp0, kn0, kq0, rfl, ks0⟩, ⟨_, _, rfl, ⟨kp1, kn1, kq1, rfl, ks1⟩, ⟨_, _, rfl, ⟨kp2, kn2, kq2, rfl, ks2⟩, ⟨kp3, kn3, kq3, rfl, ks3⟩⟩⟩⟩ := h0
    exact ⟨kp0, kn0, kq0, kp1, kn1, kq1, kp2, kn2, kq2, kp3, kn3, kq3, arr_of khcs⟩
  have H0 := Lib.hid h0; clear h0
  by_cases hz0 : ((szT tPipe d0 : Nat) : Int) ≤ (1048576 : Int)
  rotate_left
  · skip
    go_enter Tryz.func3, Tryz.ntmps3
    go_wp2_with fail
    refine (szPipe_no _ d0 _ _ (by exact rd_below H0.out belx) (by omega) (by omega) (by omega)).mono ?_
    rintro e w1 ⟨rfl, b1⟩
    have B1 : Below w.heap.size w w1 := Below.trans belx (b1.mono fcx)
    have z1 : w.heap.size + 1 ≤ w1.heap.size := by have := b1.size; (try simp only [World.size_alloc, World.size_drew] at this ⊢) <;> omega
    have qa00_1 : w1.cell? ⟨w.heap.size, 0, none⟩ = some (.slice ap0_0 an0_0 aq0_0) := (b1.cell (p := ⟨w.heap.size, 0, none⟩) fcx).trans (by simp)
    have qa01_1 : w1.cell? ⟨w.heap.size, 1, none⟩ = some (.slice ap0_1 an0_1 aq0_1) := (b1.cell (p := ⟨w.heap.size, 1, none⟩) fcx).trans (by simp)
    have qa02_1 : w1.cell? ⟨w.heap.size, 2, none⟩ = some (.slice ap0_2 an0_2 aq0_2) := (b1.cell (p := ⟨w.heap.size, 2, none⟩) fcx).trans (by simp)
    have qa03_1 : w1.cell? ⟨w.heap.size, 3, none⟩ = some (.slice ap0_3 an0_3 aq0_3) := (b1.cell (p := ⟨w.heap.size, 3, none⟩) fcx).trans (by simp)
    have zba0_1 : w.heap.size < w1.heap.size := fcx
    go_wp2
    go_ret
    exact ⟨rfl, B1⟩
  obtain ⟨R0, hS, hI⟩ := showPipe_both d0 (by omega)
  have HS := Lib.hid hS; have HI := Lib.hid hI; clear hS hI
  go_enter Tryz.func3, Tryz.ntmps3
  go_wp2_with fail
  refine (szPipe_ok _ d0 _ _ (by exact rd_below H0.out belx) (by omega) (by omega) (by omega)).mono ?_
  rintro e w1 ⟨rfl, b1⟩
  have B1 : Below w.heap.size w w1 := Below.trans belx (b1.mono fcx)
  have z1 : w.heap.size + 1 ≤ w1.heap.size := by have := b1.size; (try simp only [World.size_alloc, World.size_drew] at this ⊢) <;> omega
  have qa00_1 : w1.cell? ⟨w.heap.size, 0, none⟩ = some (.slice ap0_0 an0_0 aq0_0) := (b1.cell (p := ⟨w.heap.size, 0, none⟩) fcx).trans (by simp)
  have qa01_1 : w1.cell? ⟨w.heap.size, 1, none⟩ = some (.slice ap0_1 an0_1 aq0_1) := (b1.cell (p := ⟨w.heap.size, 1, none⟩) fcx).trans (by simp)
  have qa02_1 : w1.cell? ⟨w.heap.size, 2, none⟩ = some (.slice ap0_2 an0_2 aq0_2) := (b1.cell (p := ⟨w.heap.size, 2, none⟩) fcx).trans (by simp)
  have qa03_1 : w1.cell? ⟨w.heap.size, 3, none⟩ = some (.slice ap0_3 an0_3 aq0_3) := (b1.cell (p := ⟨w.heap.size, 3, none⟩) fcx).trans (by simp)
  have zba0_1 : w.heap.size < w1.heap.size := fcx
  obtain ⟨lf0, hlf0⟩ : ∃ z : Int, z = (1048576 : Int) - (szT tPipe d0 : Nat) := ⟨_, rfl⟩
  rw [← hlf0]
  have hnl0 : ¬ (lf0 < 0) := by omega
  have hnm0 : lf0 ≤ 1048576 := by omega
  have HLF0 := Lib.hid hlf0; have hle0 := Int.le_of_eq hlf0; have hge0 := Int.le_of_eq hlf0.symm; clear hlf0
  go_wp2_with fail
  refine (toPipe_any _ d0 _ (by exact rd_below H0.out B1) (by omega)).mono ?_
  rintro e w2 ⟨tcs0, rfl, tf0, b2⟩
  have B2 : Below w.heap.size w w2 := Below.trans B1 (b2.mono fcx)
  have z2 : w1.heap.size + 0 ≤ w2.heap.size := by have := b2.size; (try simp only [World.size_alloc, World.size_drew] at this ⊢) <;> omega
  have qa00_2 : w2.cell? ⟨w.heap.size, 0, none⟩ = some (.slice ap0_0 an0_0 aq0_0) := (b2.cell (p := ⟨w.heap.size, 0, none⟩) fcx).trans qa00_1
  have qa01_2 : w2.cell? ⟨w.heap.size, 1, none⟩ = some (.slice ap0_1 an0_1 aq0_1) := (b2.cell (p := ⟨w.heap.size, 1, none⟩) fcx).trans qa01_1
  have qa02_2 : w2.cell? ⟨w.heap.size, 2, none⟩ = some (.slice ap0_2 an0_2 aq0_2) := (b2.cell (p := ⟨w.heap.size, 2, none⟩) fcx).trans qa02_1
  have qa03_2 : w2.cell? ⟨w.heap.size, 3, none⟩ = some (.slice ap0_3 an0_3 aq0_3) := (b2.cell (p := ⟨w.heap.size, 3, none⟩) fcx).trans qa03_1
  have zba0_2 : w.heap.size < w2.heap.size := fcx
  clear qa00_1 qa01_1 qa02_1 qa03_1
  have Ft0_2 := Lib.hid tf0; clear tf0
  go_wp2_with fail
  refine (HS.out _ _ (by exact (Ft0_2.out).rd)).mono ?_
  rintro e w3 ⟨rfl, b3⟩
  have B3 : Below w.heap.size w w3 := Below.trans B2 (b3.mono fcx)
  have z3 : w2.heap.size + 0 ≤ w3.heap.size := by have := b3.size; (try simp only [World.size_alloc, World.size_drew] at this ⊢) <;> omega
  have qa00_3 : w3.cell? ⟨w.heap.size, 0, none⟩ = some (.slice ap0_0 an0_0 aq0_0) := (b3.cell (p := ⟨w.heap.size, 0, none⟩) fcx).trans qa00_2
  have qa01_3 : w3.cell? ⟨w.heap.size, 1, none⟩ = some (.slice ap0_1 an0_1 aq0_1) := (b3.cell (p := ⟨w.heap.size, 1, none⟩) fcx).trans qa01_2
  have qa02_3 : w3.cell? ⟨w.heap.size, 2, none⟩ = some (.slice ap0_2 an0_2 aq0_2) := (b3.cell (p := ⟨w.heap.size, 2, none⟩) fcx).trans qa02_2
  have qa03_3 : w3.cell? ⟨w.heap.size, 3, none⟩ = some (.slice ap0_3 an0_3 aq0_3) := (b3.cell (p := ⟨w.heap.size, 3, none⟩) fcx).trans qa03_2
  have zba0_3 : w.heap.size < w3.heap.size := fcx
  clear qa00_2 qa01_2 qa02_2 qa03_2
  have Ft0_3 := Lib.hid (Ft0_2.out.below b3 fcx)
  clear Ft0_2
  clear Ft0_3
  go_wp2_with fail
  refine (toPipe_any _ d0 _ (by exact rd_below H0.out B3) (by omega)).mono ?_
  rintro e w4 ⟨xcs0, rfl, xf0, b4⟩
  have B4 : Below w.heap.size w w4 := Below.trans B3 (b4.mono fcx)
  have z4 : w3.heap.size + 0 ≤ w4.heap.size := by have := b4.size; (try simp only [World.size_alloc, World.size_drew] at this ⊢) <;> omega
  have qa00_4 : w4.cell? ⟨w.heap.size, 0, none⟩ = some (.slice ap0_0 an0_0 aq0_0) := (b4.cell (p := ⟨w.heap.size, 0, none⟩) fcx).trans qa00_3
  have qa01_4 : w4.cell? ⟨w.heap.size, 1, none⟩ = some (.slice ap0_1 an0_1 aq0_1) := (b4.cell (p := ⟨w.heap.size, 1, none⟩) fcx).trans qa01_3
  have qa02_4 : w4.cell? ⟨w.heap.size, 2, none⟩ = some (.slice ap0_2 an0_2 aq0_2) := (b4.cell (p := ⟨w.heap.size, 2, none⟩) fcx).trans qa02_3
  have qa03_4 : w4.cell? ⟨w.heap.size, 3, none⟩ = some (.slice ap0_3 an0_3 aq0_3) := (b4.cell (p := ⟨w.heap.size, 3, none⟩) fcx).trans qa03_3
  have zba0_4 : w.heap.size < w4.heap.size := fcx
  clear qa00_3 qa01_3 qa02_3 qa03_3
  have rrx0d := xf0.rd
  obtain ⟨_, _, x0dhcs, ⟨x0dp0, x0dn0, x0dq0, rfl, x0ds0⟩, ⟨_, _, rfl, ⟨x0dp1, x0dn1, x0dq1, rfl, x0ds1⟩, ⟨_, _, rfl, ⟨x0dp2, x0dn2, x0dq2, rfl, x0ds2⟩, ⟨x0dp3, x0dn3, x0dq3, rfl, x0ds3⟩⟩⟩⟩ := rrx0d
  obtain rfl : xcs0 = #[.slice x0dp0 x0dn0 x0dq0, .slice x0dp1 x0dn1 x0dq1, .slice x0dp2 x0dn2 x0dq2, .slice x0dp3 x0dn3 x0dq3] := arr_of x0dhcs
  clear x0dhcs
  have Fx0_4 := Lib.hid xf0; clear xf0
  go_wp2_with fail
  refine (HI.out _ _ (by exact ((Fx0_4.out.alloc _)).rd)).mono ?_
  rintro e w5 ⟨rfl, b5⟩
  have B5 : Below w.heap.size w w5 := Below.trans belx (b5.mono fcx)
  have z5 : w4.heap.size + 1 ≤ w5.heap.size := by have := b5.size; (try simp only [World.size_alloc, World.size_drew] at this ⊢) <;> omega
  have qa00_5 : w5.cell? ⟨w.heap.size, 0, none⟩ = some (.slice ap0_0 an0_0 aq0_0) := (b5.cell (p := ⟨w.heap.size, 0, none⟩) fcx).trans ((alloc_cell (a := ⟨w.heap.size, 0, none⟩) fcx).trans qa00_4)
  have qa01_5 : w5.cell? ⟨w.heap.size, 1, none⟩ = some (.slice ap0_1 an0_1 aq0_1) := (b5.cell (p := ⟨w.heap.size, 1, none⟩) fcx).trans ((alloc_cell (a := ⟨w.heap.size, 1, none⟩) fcx).trans qa01_4)
  have qa02_5 : w5.cell? ⟨w.heap.size, 2, none⟩ = some (.slice ap0_2 an0_2 aq0_2) := (b5.cell (p := ⟨w.heap.size, 2, none⟩) fcx).trans ((alloc_cell (a := ⟨w.heap.size, 2, none⟩) fcx).trans qa02_4)
  have qa03_5 : w5.cell? ⟨w.heap.size, 3, none⟩ = some (.slice ap0_3 an0_3 aq0_3) := (b5.cell (p := ⟨w.heap.size, 3, none⟩) fcx).trans ((alloc_cell (a := ⟨w.heap.size, 3, none⟩) fcx).trans qa03_4)
  have zba0_5 : w.heap.size < w5.heap.size := fcx
  clear qa00_4 qa01_4 qa02_4 qa03_4
  have qx00_5 : w5.cell? ⟨w4.heap.size, 0, none⟩ = some (.slice x0dp0 x0dn0 x0dq0) := (b5.cell (p := ⟨w4.heap.size, 0, none⟩) fcx).trans (by simp)
  have qx01_5 : w5.cell? ⟨w4.heap.size, 1, none⟩ = some (.slice x0dp1 x0dn1 x0dq1) := (b5.cell (p := ⟨w4.heap.size, 1, none⟩) fcx).trans (by simp)
  have qx02_5 : w5.cell? ⟨w4.heap.size, 2, none⟩ = some (.slice x0dp2 x0dn2 x0dq2) := (b5.cell (p := ⟨w4.heap.size, 2, none⟩) fcx).trans (by simp)
  have qx03_5 : w5.cell? ⟨w4.heap.size, 3, none⟩ = some (.slice x0dp3 x0dn3 x0dq3) := (b5.cell (p := ⟨w4.heap.size, 3, none⟩) fcx).trans (by simp)
  have zbx0_5 : w4.heap.size < w5.heap.size := fcx
  have Fx0_5 := Lib.hid ((Fx0_4.out.alloc _).below b5 fcx)
  clear Fx0_4
  go_wp2_with fail
  go_region_held3 (fun w' => w'.cell? ⟨w.heap.size, 0, none⟩ = some (.slice ap0_0 an0_0 aq0_0) ∧ w'.cell? ⟨w.heap.size, 1, none⟩ = some (.slice ap0_1 an0_1 aq0_1) ∧ w'.cell? ⟨w.heap.size, 2, none⟩ = some (.slice ap0_2 an0_2 aq0_2) ∧ w'.cell? ⟨w.heap.size, 3, none⟩ = some (.slice ap0_3 an0_3 aq0_3) ∧ w'.cell? ⟨w4.heap.size, 0, none⟩ = some (.slice x0dp0 x0dn0 x0dq0) ∧ w'.cell? ⟨w4.heap.size, 1, none⟩ = some (.slice x0dp1 x0dn1 x0dq1) ∧ w'.cell? ⟨w4.heap.size, 2, none⟩ = some (.slice x0dp2 x0dn2 x0dq2) ∧ w'.cell? ⟨w4.heap.size, 3, none⟩ = some (.slice x0dp3 x0dn3 x0dq3)) (first | go_keep | ((try dsimp only); (repeat' apply And.intro) <;> (first | go_keep | (refine ((Below.cell b7 ?_).trans ((Below.cell b6 ?_).trans ?_)) <;> first | assumption | omega | (simp; omega) | (simp; assumption)) | (refine ((Below.cell b6 ?_).trans ?_) <;> first | assumption | omega | (simp; omega) | (simp; assumption))))) ((first | (go_at_call 8; refine (toPipe_any _ d0 _ (by exact rd_below H0.out belx) (by omega)).mono ?_; rintro e w6 ⟨ycs0, rfl, yf0, b6⟩; have B6 : Below w.heap.size w w6 := Below.trans belx (b6.mono fcx); have z6 : w5.heap.size ≤ w6.heap.size := by have := b6.size; (try simp only [World.size_alloc, World.size_drew] at this ⊢) <;> omega) | (go_at_call 10; refine (eqPipe_any _ _ d0 _ (by exact ((Fx0_5.out.keep (w' := w5.drew) (fun _ _ _ => rfl) (Nat.le_refl _)).below b6 fcx).rd) (by exact yf0.rd)).mono ?_; rintro e w7 ⟨rfl, b7⟩; have B7 : Below w.heap.size w w7 := B6.trans (b7.mono fcx); have z7 := b7.size)))
  have hS := ‹_ ∧ _›
  obtain ⟨qa00_7, qa01_7, qa02_7, qa03_7, qx00_7, qx01_7, qx02_7, qx03_7⟩ := hS
  have zba0_7 : w.heap.size < w7.heap.size := fcx
  have zbx0_7 : w4.heap.size < w7.heap.size := fcx
  have Fx0_7 := Lib.hid (((Fx0_5.out.keep (w' := w5.drew) (fun _ _ _ => rfl) (Nat.le_refl _)).below b6 fcx).below b7 fcx)
  clear Fx0_5
  go_wp2
  go_ret
  exact ⟨rfl, B7⟩
end Go.Proofs.YtbbbpbioehnblaaGreat
