/- The walk of FnExactTrainAlone. -/
import Derived.Test.YtiihghfoeinbbaaGreatBTrainAlone
import Derived.Test.YtiihghfoeinbbaaGreatTModel
import Derived.Test.YtiihghfoeinbbaaGreatTBatch
import Derived.Test.YtiihghfoeinbbaaGreatUModel
import Derived.Test.YtiihghfoeinbbaaGreatUBatch
import Derived.Deep.RegionHeld3
namespace Go.Proofs.YtiihghfoeinbbaaGreat
open Go.ChangeShapes Go.WideShapes Go.ChangeAt Go.RowKit
set_option linter.unusedVariables false
set_option linter.unusedSimpArgs false
set_option maxRecDepth 100000 in
set_option maxHeartbeats 4000000 in
theorem fnExactTrainAlone_walk (w : World) (cs0 : Array Value) (d0 : Ty.D tModel) (h0 : rd tModel w cs0.toList d0) (p1 : Option Addr) (len1 cap1 : Nat) (l1 : List (Ty.D tBatch)) (h1 : SlRd (Ty.n tBatch) (rd tBatch w) w p1 len1 cap1 l1) (x2 : Int) (h2 : (Lit.int .i64 x2).wf = true) :
    Calls Tryz.prog 3 #[.agg cs0, .slice p1 len1 cap1, .int .i64 x2] w fun e w' => e = .returned (.bool true) ∧ Below w.heap.size w w' := by
  obtain ⟨ap0_0, an0_0, aq0_0, rfl⟩ : ∃ ap0_0 an0_0 aq0_0, cs0 = #[.slice ap0_0 an0_0 aq0_0] := by
    obtain ⟨kp0, kn0, kq0, khcs, ks0⟩ := h0
    exact ⟨kp0, kn0, kq0, arr_of khcs⟩
  have H0 := Lib.hid h0; clear h0
  by_cases hz0 : ((szT tModel d0 : Nat) : Int) ≤ (1048576 : Int)
  rotate_left
  · skip
    go_enter Tryz.func3, Tryz.ntmps3
    go_wp2_with fail
    refine (szModel_no _ d0 _ _ (by exact rd_below H0.out belx) (by omega) (by omega) (by omega)).mono ?_
    rintro e w1 ⟨rfl, b1⟩
    have B1 : Below w.heap.size w w1 := Below.trans belx (b1.mono fcx)
    have z1 : w.heap.size + 1 ≤ w1.heap.size := by have := b1.size; (try simp only [World.size_alloc, World.size_drew] at this ⊢) <;> omega
    have qa00_1 : w1.cell? ⟨w.heap.size, 0, none⟩ = some (.slice ap0_0 an0_0 aq0_0) := (b1.cell (p := ⟨w.heap.size, 0, none⟩) fcx).trans (by simp)
    have zba0_1 : w.heap.size < w1.heap.size := fcx
    go_wp2
    go_ret
    exact ⟨rfl, B1⟩
  by_cases hz1 : ((szT (.slice 96 tBatch) l1 : Nat) : Int) ≤ (1048576 : Int) - (szT tModel d0 : Nat)
  rotate_left
  · skip
    go_enter Tryz.func3, Tryz.ntmps3
    go_wp2_with fail
    refine (szModel_ok _ d0 _ _ (by exact rd_below H0.out belx) (by omega) (by omega) (by omega)).mono ?_
    rintro e w1 ⟨rfl, b1⟩
    have B1 : Below w.heap.size w w1 := Below.trans belx (b1.mono fcx)
    have z1 : w.heap.size + 1 ≤ w1.heap.size := by have := b1.size; (try simp only [World.size_alloc, World.size_drew] at this ⊢) <;> omega
    have qa00_1 : w1.cell? ⟨w.heap.size, 0, none⟩ = some (.slice ap0_0 an0_0 aq0_0) := (b1.cell (p := ⟨w.heap.size, 0, none⟩) fcx).trans (by simp)
    have zba0_1 : w.heap.size < w1.heap.size := fcx
    obtain ⟨lf0, hlf0⟩ : ∃ z : Int, z = (1048576 : Int) - (szT tModel d0 : Nat) := ⟨_, rfl⟩
    rw [← hlf0]
    have hnl0 : ¬ (lf0 < 0) := by omega
    have hnm0 : lf0 ≤ 1048576 := by omega
    have HLF0 := Lib.hid hlf0; have hle0 := Int.le_of_eq hlf0; have hge0 := Int.le_of_eq hlf0.symm; clear hlf0
    go_wp2_with fail
    refine (szBatchS_no _ _ _ l1 _ _ (by exact h1.below B1) (by omega) (by omega) (by omega)).mono ?_
    rintro e w2 ⟨rfl, b2⟩
    have B2 : Below w.heap.size w w2 := Below.trans B1 (b2.mono fcx)
    have z2 : w1.heap.size + 0 ≤ w2.heap.size := by have := b2.size; (try simp only [World.size_alloc, World.size_drew] at this ⊢) <;> omega
    have qa00_2 : w2.cell? ⟨w.heap.size, 0, none⟩ = some (.slice ap0_0 an0_0 aq0_0) := (b2.cell (p := ⟨w.heap.size, 0, none⟩) fcx).trans qa00_1
    have zba0_2 : w.heap.size < w2.heap.size := fcx
    clear qa00_1
    go_wp2
    go_ret
    exact ⟨rfl, B2⟩
  obtain ⟨R0, R1, R2, hS, hI, hcr⟩ := trainAlone_both d0 l1 x2 h2 (by omega) (by omega)
  have HS := Lib.hid hS; have HI := Lib.hid hI; clear hS hI
  clear h2
  have hcb0 := cntt_le tModel d0 (by decide)
  have hcb1 := cnt_le _ _ l1 (show Ty.per (.slice 96 tBatch) ≤ 20 by decide)
  go_enter Tryz.func3, Tryz.ntmps3
  go_wp2_with fail
  refine (szModel_ok _ d0 _ _ (by exact rd_below H0.out belx) (by omega) (by omega) (by omega)).mono ?_
  rintro e w1 ⟨rfl, b1⟩
  have B1 : Below w.heap.size w w1 := Below.trans belx (b1.mono fcx)
  have z1 : w.heap.size + 1 ≤ w1.heap.size := by have := b1.size; (try simp only [World.size_alloc, World.size_drew] at this ⊢) <;> omega
  have qa00_1 : w1.cell? ⟨w.heap.size, 0, none⟩ = some (.slice ap0_0 an0_0 aq0_0) := (b1.cell (p := ⟨w.heap.size, 0, none⟩) fcx).trans (by simp)
  have zba0_1 : w.heap.size < w1.heap.size := fcx
  obtain ⟨lf0, hlf0⟩ : ∃ z : Int, z = (1048576 : Int) - (szT tModel d0 : Nat) := ⟨_, rfl⟩
  rw [← hlf0]
  have hnl0 : ¬ (lf0 < 0) := by omega
  have hnm0 : lf0 ≤ 1048576 := by omega
  have HLF0 := Lib.hid hlf0; have hle0 := Int.le_of_eq hlf0; have hge0 := Int.le_of_eq hlf0.symm; clear hlf0
  go_wp2_with fail
  refine (szBatchS_ok _ _ _ l1 _ _ (by exact h1.below B1) (by omega) (by omega) (by omega)).mono ?_
  rintro e w2 ⟨rfl, b2⟩
  have B2 : Below w.heap.size w w2 := Below.trans B1 (b2.mono fcx)
  have z2 : w1.heap.size + 0 ≤ w2.heap.size := by have := b2.size; (try simp only [World.size_alloc, World.size_drew] at this ⊢) <;> omega
  have qa00_2 : w2.cell? ⟨w.heap.size, 0, none⟩ = some (.slice ap0_0 an0_0 aq0_0) := (b2.cell (p := ⟨w.heap.size, 0, none⟩) fcx).trans qa00_1
  have zba0_2 : w.heap.size < w2.heap.size := fcx
  clear qa00_1
  obtain ⟨lf1, hlf1⟩ : ∃ z : Int, z = lf0 - (szT (.slice 96 tBatch) l1 : Nat) := ⟨_, rfl⟩
  rw [← hlf1]
  have hnl1 : ¬ (lf1 < 0) := by omega
  have hnm1 : lf1 ≤ 1048576 := by omega
  have HLF1 := Lib.hid hlf1; have hle1 := Int.le_of_eq hlf1; have hge1 := Int.le_of_eq hlf1.symm; clear hlf1
  go_wp2_with fail
  refine (toModel_any _ d0 _ (by exact rd_below H0.out B2) (by omega)).mono ?_
  rintro e w3 ⟨tcs0, rfl, tf0, b3⟩
  have B3 : Below w.heap.size w w3 := Below.trans B2 (b3.mono fcx)
  have z3 : w2.heap.size + 0 ≤ w3.heap.size := by have := b3.size; (try simp only [World.size_alloc, World.size_drew] at this ⊢) <;> omega
  have qa00_3 : w3.cell? ⟨w.heap.size, 0, none⟩ = some (.slice ap0_0 an0_0 aq0_0) := (b3.cell (p := ⟨w.heap.size, 0, none⟩) fcx).trans qa00_2
  have zba0_3 : w.heap.size < w3.heap.size := fcx
  clear qa00_2
  have Ft0_3 := Lib.hid tf0; clear tf0
  go_wp2_with fail
  refine (toBatchS_any _ _ _ l1 _ (by exact h1.below B3) (by omega)).mono ?_
  rintro e w4 ⟨tp1, tc1, rfl, tf1, b4⟩
  have B4 : Below w.heap.size w w4 := Below.trans B3 (b4.mono fcx)
  have z4 : w3.heap.size + 0 ≤ w4.heap.size := by have := b4.size; (try simp only [World.size_alloc, World.size_drew] at this ⊢) <;> omega
  have qa00_4 : w4.cell? ⟨w.heap.size, 0, none⟩ = some (.slice ap0_0 an0_0 aq0_0) := (b4.cell (p := ⟨w.heap.size, 0, none⟩) fcx).trans qa00_3
  have zba0_4 : w.heap.size < w4.heap.size := fcx
  clear qa00_3
  have Ft0_4 := Lib.hid (Ft0_3.out.below b4 fcx)
  clear Ft0_3
  have Ft1_4 := Lib.hid tf1; clear tf1
  go_wp2_with fail
  refine (HS.out _ _ _ _ (by exact (Ft0_4.out).rd) (by exact (Ft1_4.out).sl)).mono ?_
  rintro e w5 ⟨w0rcs0, w0rp1, w0rc1, rfl, w0rf0, w0rf1, b5⟩
  have B5 : Below w.heap.size w w5 := Below.trans B4 (b5.mono fcx)
  have z5 : w4.heap.size + 0 ≤ w5.heap.size := by have := b5.size; (try simp only [World.size_alloc, World.size_drew] at this ⊢) <;> omega
  have qa00_5 : w5.cell? ⟨w.heap.size, 0, none⟩ = some (.slice ap0_0 an0_0 aq0_0) := (b5.cell (p := ⟨w.heap.size, 0, none⟩) fcx).trans qa00_4
  have zba0_5 : w.heap.size < w5.heap.size := fcx
  clear qa00_4
  have Ft0_5 := Lib.hid (Ft0_4.out.below b5 fcx)
  clear Ft0_4
  have Ft1_5 := Lib.hid (Ft1_4.out.below b5 fcx)
  clear Ft1_4
  clear Ft0_5
  clear Ft1_5
  have rrw0r0d := w0rf0.rd
  obtain ⟨w0r0dp0, w0r0dn0, w0r0dq0, w0r0dhcs, w0r0ds0⟩ := rrw0r0d
  obtain rfl : w0rcs0 = #[.slice w0r0dp0 w0r0dn0 w0r0dq0] := arr_of w0r0dhcs
  clear w0r0dhcs
  have Fw0r0_5 := Lib.hid w0rf0; clear w0rf0
  have Fw0r1_5 := Lib.hid w0rf1; clear w0rf1
  go_wp2_with fail
  refine (toModel_any _ d0 _ (by exact rd_below H0.out belx) (by omega)).mono ?_
  rintro e w6 ⟨xcs0, rfl, xf0, b6⟩
  have B6 : Below w.heap.size w w6 := Below.trans belx (b6.mono fcx)
  have z6 : w5.heap.size + 1 ≤ w6.heap.size := by have := b6.size; (try simp only [World.size_alloc, World.size_drew] at this ⊢) <;> omega
  have qa00_6 : w6.cell? ⟨w.heap.size, 0, none⟩ = some (.slice ap0_0 an0_0 aq0_0) := (b6.cell (p := ⟨w.heap.size, 0, none⟩) fcx).trans ((alloc_cell (a := ⟨w.heap.size, 0, none⟩) fcx).trans qa00_5)
  have zba0_6 : w.heap.size < w6.heap.size := fcx
  clear qa00_5
  have qw0r00_6 : w6.cell? ⟨w5.heap.size, 0, none⟩ = some (.slice w0r0dp0 w0r0dn0 w0r0dq0) := (b6.cell (p := ⟨w5.heap.size, 0, none⟩) fcx).trans (by simp)
  have zbw0r0_6 : w5.heap.size < w6.heap.size := fcx
  have Fw0r0_6 := Lib.hid ((Fw0r0_5.out.alloc _).below b6 fcx)
  clear Fw0r0_5
  have Fw0r1_6 := Lib.hid ((Fw0r1_5.out.alloc _).below b6 fcx)
  clear Fw0r1_5
  have rrx0d := xf0.rd
  obtain ⟨x0dp0, x0dn0, x0dq0, x0dhcs, x0ds0⟩ := rrx0d
  obtain rfl : xcs0 = #[.slice x0dp0 x0dn0 x0dq0] := arr_of x0dhcs
  clear x0dhcs
  have Fx0_6 := Lib.hid xf0; clear xf0
  go_wp2_with fail
  refine (toBatchS_any _ _ _ l1 _ (by exact h1.below belx) (by omega)).mono ?_
  rintro e w7 ⟨xp1, xc1, rfl, xf1, b7⟩
  have B7 : Below w.heap.size w w7 := Below.trans belx (b7.mono fcx)
  have z7 : w6.heap.size + 1 ≤ w7.heap.size := by have := b7.size; (try simp only [World.size_alloc, World.size_drew] at this ⊢) <;> omega
  have qa00_7 : w7.cell? ⟨w.heap.size, 0, none⟩ = some (.slice ap0_0 an0_0 aq0_0) := (b7.cell (p := ⟨w.heap.size, 0, none⟩) fcx).trans ((alloc_cell (a := ⟨w.heap.size, 0, none⟩) fcx).trans qa00_6)
  have zba0_7 : w.heap.size < w7.heap.size := fcx
  clear qa00_6
  have qw0r00_7 : w7.cell? ⟨w5.heap.size, 0, none⟩ = some (.slice w0r0dp0 w0r0dn0 w0r0dq0) := (b7.cell (p := ⟨w5.heap.size, 0, none⟩) fcx).trans ((alloc_cell (a := ⟨w5.heap.size, 0, none⟩) fcx).trans qw0r00_6)
  have zbw0r0_7 : w5.heap.size < w7.heap.size := fcx
  clear qw0r00_6
  have qx00_7 : w7.cell? ⟨w6.heap.size, 0, none⟩ = some (.slice x0dp0 x0dn0 x0dq0) := (b7.cell (p := ⟨w6.heap.size, 0, none⟩) fcx).trans (by simp)
  have zbx0_7 : w6.heap.size < w7.heap.size := fcx
  have Fw0r0_7 := Lib.hid ((Fw0r0_6.out.alloc _).below b7 fcx)
  clear Fw0r0_6
  have Fw0r1_7 := Lib.hid ((Fw0r1_6.out.alloc _).below b7 fcx)
  clear Fw0r1_6
  have Fx0_7 := Lib.hid ((Fx0_6.out.alloc _).below b7 fcx)
  clear Fx0_6
  have Fx1_7 := Lib.hid xf1; clear xf1
  go_wp2_with fail
  refine (HI.out _ _ _ _ (by exact (Fx0_7.out).rd) (by exact (Fx1_7.out).sl)).mono ?_
  rintro e w8 ⟨g0rcs0, g0rp1, g0rc1, g0ry0, g0ry1, rfl, g0rf0, g0rf1, g0rdis, b8⟩
  have B8 : Below w.heap.size w w8 := Below.trans B7 (b8.mono fcx)
  have z8 : w7.heap.size + 0 ≤ w8.heap.size := by have := b8.size; (try simp only [World.size_alloc, World.size_drew] at this ⊢) <;> omega
  have qa00_8 : w8.cell? ⟨w.heap.size, 0, none⟩ = some (.slice ap0_0 an0_0 aq0_0) := (b8.cell (p := ⟨w.heap.size, 0, none⟩) fcx).trans qa00_7
  have zba0_8 : w.heap.size < w8.heap.size := fcx
  clear qa00_7
  have qw0r00_8 : w8.cell? ⟨w5.heap.size, 0, none⟩ = some (.slice w0r0dp0 w0r0dn0 w0r0dq0) := (b8.cell (p := ⟨w5.heap.size, 0, none⟩) fcx).trans qw0r00_7
  have zbw0r0_8 : w5.heap.size < w8.heap.size := fcx
  clear qw0r00_7
  have qx00_8 : w8.cell? ⟨w6.heap.size, 0, none⟩ = some (.slice x0dp0 x0dn0 x0dq0) := (b8.cell (p := ⟨w6.heap.size, 0, none⟩) fcx).trans qx00_7
  have zbx0_8 : w6.heap.size < w8.heap.size := fcx
  clear qx00_7
  have Fw0r0_8 := Lib.hid (Fw0r0_7.out.below b8 fcx)
  clear Fw0r0_7
  have Fw0r1_8 := Lib.hid (Fw0r1_7.out.below b8 fcx)
  clear Fw0r1_7
  have Fx0_8 := Lib.hid (Fx0_7.out.below b8 fcx)
  clear Fx0_7
  have Fx1_8 := Lib.hid (Fx1_7.out.below b8 fcx)
  clear Fx1_7
  have rrg0r0d := g0rf0.rd
  obtain ⟨g0r0dp0, g0r0dn0, g0r0dq0, g0r0dhcs, g0r0ds0⟩ := rrg0r0d
  obtain rfl : g0rcs0 = #[.slice g0r0dp0 g0r0dn0 g0r0dq0] := arr_of g0r0dhcs
  clear g0r0dhcs
  have Fg0r0_8 := Lib.hid g0rf0; clear g0rf0
  have Fg0r1_8 := Lib.hid g0rf1; clear g0rf1
  go_wp2_with fail
  refine (eqModel_any _ _ R0 _ (by exact ((Fg0r0_8.out.alloc _)).rd) (by exact ((Fw0r0_8.out.alloc _)).rd)).mono ?_
  rintro e w9 ⟨rfl, b9⟩
  have B9 : Below w.heap.size w w9 := Below.trans belx (b9.mono fcx)
  have z9 : w8.heap.size + 1 ≤ w9.heap.size := by have := b9.size; (try simp only [World.size_alloc, World.size_drew] at this ⊢) <;> omega
  have qa00_9 : w9.cell? ⟨w.heap.size, 0, none⟩ = some (.slice ap0_0 an0_0 aq0_0) := (b9.cell (p := ⟨w.heap.size, 0, none⟩) fcx).trans ((alloc_cell (a := ⟨w.heap.size, 0, none⟩) fcx).trans qa00_8)
  have zba0_9 : w.heap.size < w9.heap.size := fcx
  clear qa00_8
  have qw0r00_9 : w9.cell? ⟨w5.heap.size, 0, none⟩ = some (.slice w0r0dp0 w0r0dn0 w0r0dq0) := (b9.cell (p := ⟨w5.heap.size, 0, none⟩) fcx).trans ((alloc_cell (a := ⟨w5.heap.size, 0, none⟩) fcx).trans qw0r00_8)
  have zbw0r0_9 : w5.heap.size < w9.heap.size := fcx
  clear qw0r00_8
  have qx00_9 : w9.cell? ⟨w6.heap.size, 0, none⟩ = some (.slice x0dp0 x0dn0 x0dq0) := (b9.cell (p := ⟨w6.heap.size, 0, none⟩) fcx).trans ((alloc_cell (a := ⟨w6.heap.size, 0, none⟩) fcx).trans qx00_8)
  have zbx0_9 : w6.heap.size < w9.heap.size := fcx
  clear qx00_8
  have qg0r00_9 : w9.cell? ⟨w8.heap.size, 0, none⟩ = some (.slice g0r0dp0 g0r0dn0 g0r0dq0) := (b9.cell (p := ⟨w8.heap.size, 0, none⟩) fcx).trans (by simp)
  have zbg0r0_9 : w8.heap.size < w9.heap.size := fcx
  have Fw0r0_9 := Lib.hid ((Fw0r0_8.out.alloc _).below b9 fcx)
  clear Fw0r0_8
  have Fw0r1_9 := Lib.hid ((Fw0r1_8.out.alloc _).below b9 fcx)
  clear Fw0r1_8
  have Fx0_9 := Lib.hid ((Fx0_8.out.alloc _).below b9 fcx)
  clear Fx0_8
  have Fx1_9 := Lib.hid ((Fx1_8.out.alloc _).below b9 fcx)
  clear Fx1_8
  have Fg0r0_9 := Lib.hid ((Fg0r0_8.out.alloc _).below b9 fcx)
  clear Fg0r0_8
  have Fg0r1_9 := Lib.hid ((Fg0r1_8.out.alloc _).below b9 fcx)
  clear Fg0r1_8
  go_wp2_with fail
  refine (eqIntS_any _ _ _ _ _ _ R1 _ (by exact (Fg0r1_9.out).sl) (by exact (Fw0r1_9.out).sl)).mono ?_
  rintro e w10 ⟨rfl, b10⟩
  have B10 : Below w.heap.size w w10 := Below.trans B9 (b10.mono fcx)
  have z10 : w9.heap.size + 0 ≤ w10.heap.size := by have := b10.size; (try simp only [World.size_alloc, World.size_drew] at this ⊢) <;> omega
  have qa00_10 : w10.cell? ⟨w.heap.size, 0, none⟩ = some (.slice ap0_0 an0_0 aq0_0) := (b10.cell (p := ⟨w.heap.size, 0, none⟩) fcx).trans qa00_9
  have zba0_10 : w.heap.size < w10.heap.size := fcx
  clear qa00_9
  have qw0r00_10 : w10.cell? ⟨w5.heap.size, 0, none⟩ = some (.slice w0r0dp0 w0r0dn0 w0r0dq0) := (b10.cell (p := ⟨w5.heap.size, 0, none⟩) fcx).trans qw0r00_9
  have zbw0r0_10 : w5.heap.size < w10.heap.size := fcx
  clear qw0r00_9
  have qx00_10 : w10.cell? ⟨w6.heap.size, 0, none⟩ = some (.slice x0dp0 x0dn0 x0dq0) := (b10.cell (p := ⟨w6.heap.size, 0, none⟩) fcx).trans qx00_9
  have zbx0_10 : w6.heap.size < w10.heap.size := fcx
  clear qx00_9
  have qg0r00_10 : w10.cell? ⟨w8.heap.size, 0, none⟩ = some (.slice g0r0dp0 g0r0dn0 g0r0dq0) := (b10.cell (p := ⟨w8.heap.size, 0, none⟩) fcx).trans qg0r00_9
  have zbg0r0_10 : w8.heap.size < w10.heap.size := fcx
  clear qg0r00_9
  have Fw0r0_10 := Lib.hid (Fw0r0_9.out.below b10 fcx)
  clear Fw0r0_9
  have Fw0r1_10 := Lib.hid (Fw0r1_9.out.below b10 fcx)
  clear Fw0r1_9
  have Fx0_10 := Lib.hid (Fx0_9.out.below b10 fcx)
  clear Fx0_9
  have Fx1_10 := Lib.hid (Fx1_9.out.below b10 fcx)
  clear Fx1_9
  have Fg0r0_10 := Lib.hid (Fg0r0_9.out.below b10 fcx)
  clear Fg0r0_9
  have Fg0r1_10 := Lib.hid (Fg0r1_9.out.below b10 fcx)
  clear Fg0r1_9
  go_wp2_with fail
  go_region_held3 (fun w' => w'.cell? ⟨w.heap.size, 0, none⟩ = some (.slice ap0_0 an0_0 aq0_0) ∧ w'.cell? ⟨w5.heap.size, 0, none⟩ = some (.slice w0r0dp0 w0r0dn0 w0r0dq0) ∧ w'.cell? ⟨w6.heap.size, 0, none⟩ = some (.slice x0dp0 x0dn0 x0dq0) ∧ w'.cell? ⟨w8.heap.size, 0, none⟩ = some (.slice g0r0dp0 g0r0dn0 g0r0dq0)) (first | go_keep | ((try dsimp only); (repeat' apply And.intro) <;> (first | go_keep | (refine ((Below.cell b12 ?_).trans ((Below.cell b11 ?_).trans ?_)) <;> first | assumption | omega | (simp; omega) | (simp; assumption)) | (refine ((Below.cell b11 ?_).trans ?_) <;> first | assumption | omega | (simp; omega) | (simp; assumption))))) ((first | (go_at_call 11; refine (toModel_any _ d0 _ (by exact rd_below H0.out belx) (by omega)).mono ?_; rintro e w11 ⟨ycs0, rfl, yf0, b11⟩; have B11 : Below w.heap.size w w11 := Below.trans belx (b11.mono fcx); have z11 : w10.heap.size ≤ w11.heap.size := by have := b11.size; (try simp only [World.size_alloc, World.size_drew] at this ⊢) <;> omega) | (go_at_call 14; refine (eqModel_any _ _ d0 _ (by exact ((Fx0_10.out.keep (w' := w10.drew) (fun _ _ _ => rfl) (Nat.le_refl _)).below b11 fcx).rd) (by exact yf0.rd)).mono ?_; rintro e w12 ⟨rfl, b12⟩; have B12 : Below w.heap.size w w12 := B11.trans (b12.mono fcx); have z12 := b12.size)))
  have hS := ‹_ ∧ _›
  obtain ⟨qa00_12, qw0r00_12, qx00_12, qg0r00_12⟩ := hS
  have zba0_12 : w.heap.size < w12.heap.size := fcx
  have zbw0r0_12 : w5.heap.size < w12.heap.size := fcx
  have zbx0_12 : w6.heap.size < w12.heap.size := fcx
  have zbg0r0_12 : w8.heap.size < w12.heap.size := fcx
  have Fw0r0_12 := Lib.hid (((Fw0r0_10.out.keep (w' := w10.drew) (fun _ _ _ => rfl) (Nat.le_refl _)).below b11 fcx).below b12 fcx)
  clear Fw0r0_10
  have Fw0r1_12 := Lib.hid (((Fw0r1_10.out.keep (w' := w10.drew) (fun _ _ _ => rfl) (Nat.le_refl _)).below b11 fcx).below b12 fcx)
  clear Fw0r1_10
  have Fx0_12 := Lib.hid (((Fx0_10.out.keep (w' := w10.drew) (fun _ _ _ => rfl) (Nat.le_refl _)).below b11 fcx).below b12 fcx)
  clear Fx0_10
  have Fx1_12 := Lib.hid (((Fx1_10.out.keep (w' := w10.drew) (fun _ _ _ => rfl) (Nat.le_refl _)).below b11 fcx).below b12 fcx)
  clear Fx1_10
  have Fg0r0_12 := Lib.hid (((Fg0r0_10.out.keep (w' := w10.drew) (fun _ _ _ => rfl) (Nat.le_refl _)).below b11 fcx).below b12 fcx)
  clear Fg0r0_10
  have Fg0r1_12 := Lib.hid (((Fg0r1_10.out.keep (w' := w10.drew) (fun _ _ _ => rfl) (Nat.le_refl _)).below b11 fcx).below b12 fcx)
  clear Fg0r1_10
  go_wp2_with fail
  refine (toBatchS_any _ _ _ l1 _ (by exact h1.below B12) (by omega)).mono ?_
  rintro e w13 ⟨yp1, yc1, rfl, yf1, b13⟩
  have B13 : Below w.heap.size w w13 := Below.trans B12 (b13.mono fcx)
  have z13 : w12.heap.size + 0 ≤ w13.heap.size := by have := b13.size; (try simp only [World.size_alloc, World.size_drew] at this ⊢) <;> omega
  have qa00_13 : w13.cell? ⟨w.heap.size, 0, none⟩ = some (.slice ap0_0 an0_0 aq0_0) := (b13.cell (p := ⟨w.heap.size, 0, none⟩) fcx).trans qa00_12
  have zba0_13 : w.heap.size < w13.heap.size := fcx
  clear qa00_12
  have qw0r00_13 : w13.cell? ⟨w5.heap.size, 0, none⟩ = some (.slice w0r0dp0 w0r0dn0 w0r0dq0) := (b13.cell (p := ⟨w5.heap.size, 0, none⟩) fcx).trans qw0r00_12
  have zbw0r0_13 : w5.heap.size < w13.heap.size := fcx
  clear qw0r00_12
  have qx00_13 : w13.cell? ⟨w6.heap.size, 0, none⟩ = some (.slice x0dp0 x0dn0 x0dq0) := (b13.cell (p := ⟨w6.heap.size, 0, none⟩) fcx).trans qx00_12
  have zbx0_13 : w6.heap.size < w13.heap.size := fcx
  clear qx00_12
  have qg0r00_13 : w13.cell? ⟨w8.heap.size, 0, none⟩ = some (.slice g0r0dp0 g0r0dn0 g0r0dq0) := (b13.cell (p := ⟨w8.heap.size, 0, none⟩) fcx).trans qg0r00_12
  have zbg0r0_13 : w8.heap.size < w13.heap.size := fcx
  clear qg0r00_12
  have Fw0r0_13 := Lib.hid (Fw0r0_12.out.below b13 fcx)
  clear Fw0r0_12
  have Fw0r1_13 := Lib.hid (Fw0r1_12.out.below b13 fcx)
  clear Fw0r1_12
  have Fx0_13 := Lib.hid (Fx0_12.out.below b13 fcx)
  clear Fx0_12
  have Fx1_13 := Lib.hid (Fx1_12.out.below b13 fcx)
  clear Fx1_12
  have Fg0r0_13 := Lib.hid (Fg0r0_12.out.below b13 fcx)
  clear Fg0r0_12
  have Fg0r1_13 := Lib.hid (Fg0r1_12.out.below b13 fcx)
  clear Fg0r1_12
  have Fy1_13 := Lib.hid yf1; clear yf1
  go_wp2_with fail
  refine (eqBatchS_any _ _ _ _ _ _ l1 _ (by exact (Fx1_13.out).sl) (by exact (Fy1_13.out).sl)).mono ?_
  rintro e w14 ⟨rfl, b14⟩
  have B14 : Below w.heap.size w w14 := Below.trans B13 (b14.mono fcx)
  have z14 : w13.heap.size + 0 ≤ w14.heap.size := by have := b14.size; (try simp only [World.size_alloc, World.size_drew] at this ⊢) <;> omega
  have qa00_14 : w14.cell? ⟨w.heap.size, 0, none⟩ = some (.slice ap0_0 an0_0 aq0_0) := (b14.cell (p := ⟨w.heap.size, 0, none⟩) fcx).trans qa00_13
  have zba0_14 : w.heap.size < w14.heap.size := fcx
  clear qa00_13
  have qw0r00_14 : w14.cell? ⟨w5.heap.size, 0, none⟩ = some (.slice w0r0dp0 w0r0dn0 w0r0dq0) := (b14.cell (p := ⟨w5.heap.size, 0, none⟩) fcx).trans qw0r00_13
  have zbw0r0_14 : w5.heap.size < w14.heap.size := fcx
  clear qw0r00_13
  have qx00_14 : w14.cell? ⟨w6.heap.size, 0, none⟩ = some (.slice x0dp0 x0dn0 x0dq0) := (b14.cell (p := ⟨w6.heap.size, 0, none⟩) fcx).trans qx00_13
  have zbx0_14 : w6.heap.size < w14.heap.size := fcx
  clear qx00_13
  have qg0r00_14 : w14.cell? ⟨w8.heap.size, 0, none⟩ = some (.slice g0r0dp0 g0r0dn0 g0r0dq0) := (b14.cell (p := ⟨w8.heap.size, 0, none⟩) fcx).trans qg0r00_13
  have zbg0r0_14 : w8.heap.size < w14.heap.size := fcx
  clear qg0r00_13
  have Fw0r0_14 := Lib.hid (Fw0r0_13.out.below b14 fcx)
  clear Fw0r0_13
  have Fw0r1_14 := Lib.hid (Fw0r1_13.out.below b14 fcx)
  clear Fw0r1_13
  have Fx0_14 := Lib.hid (Fx0_13.out.below b14 fcx)
  clear Fx0_13
  have Fx1_14 := Lib.hid (Fx1_13.out.below b14 fcx)
  clear Fx1_13
  have Fg0r0_14 := Lib.hid (Fg0r0_13.out.below b14 fcx)
  clear Fg0r0_13
  have Fg0r1_14 := Lib.hid (Fg0r1_13.out.below b14 fcx)
  clear Fg0r1_13
  have Fy1_14 := Lib.hid (Fy1_13.out.below b14 fcx)
  clear Fy1_13
  clear Fy1_14
  go_wp2_with fail
  obtain ⟨bl15, rep15, nd15, in15⟩ := (Fx0_14.out).un
  clear Fx0_14
  refine (markModel_un _ _ d0 _ _ (by exact rep15) nd15 (by omega) (by omega)).mono ?_
  rintro e w15 ⟨rfl, rp15, on15⟩
  have B15 : Below w.heap.size w w15 := Below.trans B14 (on15.below (fun b hb => by have := in15 b hb; (try simp only [World.size_alloc, World.size_drew] at this ⊢) <;> omega) fcx)
  have z15 : w14.heap.size + 0 ≤ w15.heap.size := by have := on15.size; (try simp only [World.size_alloc, World.size_drew] at this ⊢) <;> omega
  have qa00_15 : w15.cell? ⟨w.heap.size, 0, none⟩ = some (.slice ap0_0 an0_0 aq0_0) := (on15.cell (a := ⟨w.heap.size, 0, none⟩) (fun hm => by have := in15 _ hm; (try simp only [World.size_alloc, World.size_drew] at this ⊢) <;> omega) fcx).trans qa00_14
  have zba0_15 : w.heap.size < w15.heap.size := fcx
  clear qa00_14
  have qw0r00_15 : w15.cell? ⟨w5.heap.size, 0, none⟩ = some (.slice w0r0dp0 w0r0dn0 w0r0dq0) := (on15.cell (a := ⟨w5.heap.size, 0, none⟩) (fun hm => by have := in15 _ hm; (try simp only [World.size_alloc, World.size_drew] at this ⊢) <;> omega) fcx).trans qw0r00_14
  have zbw0r0_15 : w5.heap.size < w15.heap.size := fcx
  clear qw0r00_14
  have qx00_15 : w15.cell? ⟨w6.heap.size, 0, none⟩ = some (.slice x0dp0 x0dn0 x0dq0) := (on15.cell (a := ⟨w6.heap.size, 0, none⟩) (fun hm => by have := in15 _ hm; (try simp only [World.size_alloc, World.size_drew] at this ⊢) <;> omega) fcx).trans qx00_14
  have zbx0_15 : w6.heap.size < w15.heap.size := fcx
  clear qx00_14
  have qg0r00_15 : w15.cell? ⟨w8.heap.size, 0, none⟩ = some (.slice g0r0dp0 g0r0dn0 g0r0dq0) := (on15.cell (a := ⟨w8.heap.size, 0, none⟩) (fun hm => by have := in15 _ hm; (try simp only [World.size_alloc, World.size_drew] at this ⊢) <;> omega) fcx).trans qg0r00_14
  have zbg0r0_15 : w8.heap.size < w15.heap.size := fcx
  clear qg0r00_14
  have Fw0r0_15 := Lib.hid (Fw0r0_14.out.only on15 (fun b hb => by have := in15 b hb; (try simp only [World.size_alloc, World.size_drew] at this ⊢) <;> omega))
  clear Fw0r0_14
  have Fw0r1_15 := Lib.hid (Fw0r1_14.out.only on15 (fun b hb => by have := in15 b hb; (try simp only [World.size_alloc, World.size_drew] at this ⊢) <;> omega))
  clear Fw0r1_14
  have Fx1_15 := Lib.hid (Fx1_14.out.only on15 (fun b hb => by have := in15 b hb; (try simp only [World.size_alloc, World.size_drew] at this ⊢) <;> omega))
  clear Fx1_14
  have Fg0r0_15 := Lib.hid (Fg0r0_14.out.only on15 (fun b hb => by have := in15 b hb; (try simp only [World.size_alloc, World.size_drew] at this ⊢) <;> omega))
  clear Fg0r0_14
  have Fg0r1_15 := Lib.hid (Fg0r1_14.out.only on15 (fun b hb => by have := in15 b hb; (try simp only [World.size_alloc, World.size_drew] at this ⊢) <;> omega))
  clear Fg0r1_14
  have G15 := FrA.of_un rp15 nd15 in15 fcx
  clear rep15 rp15
  have Fx0_15 := Lib.hid G15; clear G15
  clear Fx0_15
  go_wp2_with fail
  obtain ⟨bl16, rep16, nd16, in16⟩ := (Fx1_15.out).un
  clear Fx1_15
  refine (markBatchS_un _ _ _ _ l1 _ _ (by exact rep16) nd16 (by omega) (by omega)).mono ?_
  rintro e w16 ⟨rfl, rp16, on16⟩
  have B16 : Below w.heap.size w w16 := Below.trans B15 (on16.below (fun b hb => by have := in16 b hb; (try simp only [World.size_alloc, World.size_drew] at this ⊢) <;> omega) fcx)
  have z16 : w15.heap.size + 0 ≤ w16.heap.size := by have := on16.size; (try simp only [World.size_alloc, World.size_drew] at this ⊢) <;> omega
  have qa00_16 : w16.cell? ⟨w.heap.size, 0, none⟩ = some (.slice ap0_0 an0_0 aq0_0) := (on16.cell (a := ⟨w.heap.size, 0, none⟩) (fun hm => by have := in16 _ hm; (try simp only [World.size_alloc, World.size_drew] at this ⊢) <;> omega) fcx).trans qa00_15
  have zba0_16 : w.heap.size < w16.heap.size := fcx
  clear qa00_15
  have qw0r00_16 : w16.cell? ⟨w5.heap.size, 0, none⟩ = some (.slice w0r0dp0 w0r0dn0 w0r0dq0) := (on16.cell (a := ⟨w5.heap.size, 0, none⟩) (fun hm => by have := in16 _ hm; (try simp only [World.size_alloc, World.size_drew] at this ⊢) <;> omega) fcx).trans qw0r00_15
  have zbw0r0_16 : w5.heap.size < w16.heap.size := fcx
  clear qw0r00_15
  have qx00_16 : w16.cell? ⟨w6.heap.size, 0, none⟩ = some (.slice x0dp0 x0dn0 x0dq0) := (on16.cell (a := ⟨w6.heap.size, 0, none⟩) (fun hm => by have := in16 _ hm; (try simp only [World.size_alloc, World.size_drew] at this ⊢) <;> omega) fcx).trans qx00_15
  have zbx0_16 : w6.heap.size < w16.heap.size := fcx
  clear qx00_15
  have qg0r00_16 : w16.cell? ⟨w8.heap.size, 0, none⟩ = some (.slice g0r0dp0 g0r0dn0 g0r0dq0) := (on16.cell (a := ⟨w8.heap.size, 0, none⟩) (fun hm => by have := in16 _ hm; (try simp only [World.size_alloc, World.size_drew] at this ⊢) <;> omega) fcx).trans qg0r00_15
  have zbg0r0_16 : w8.heap.size < w16.heap.size := fcx
  clear qg0r00_15
  have Fw0r0_16 := Lib.hid (Fw0r0_15.out.only on16 (fun b hb => by have := in16 b hb; (try simp only [World.size_alloc, World.size_drew] at this ⊢) <;> omega))
  clear Fw0r0_15
  have Fw0r1_16 := Lib.hid (Fw0r1_15.out.only on16 (fun b hb => by have := in16 b hb; (try simp only [World.size_alloc, World.size_drew] at this ⊢) <;> omega))
  clear Fw0r1_15
  have Fg0r0_16 := Lib.hid (Fg0r0_15.out.only on16 (fun b hb => by have := in16 b hb; (try simp only [World.size_alloc, World.size_drew] at this ⊢) <;> omega))
  clear Fg0r0_15
  have Fg0r1_16 := Lib.hid (Fg0r1_15.out.only on16 (fun b hb => by have := in16 b hb; (try simp only [World.size_alloc, World.size_drew] at this ⊢) <;> omega))
  clear Fg0r1_15
  have G16 := FrA.of_un rp16 nd16 in16 fcx
  clear rep16 rp16
  have Fx1_16 := Lib.hid G16; clear G16
  clear Fx1_16
  go_wp2_with fail
  refine (eqModel_any _ _ R0 _ (by exact (Fg0r0_16.out).rd) (by exact (Fw0r0_16.out).rd)).mono ?_
  rintro e w17 ⟨rfl, b17⟩
  have B17 : Below w.heap.size w w17 := Below.trans B16 (b17.mono fcx)
  have z17 : w16.heap.size + 0 ≤ w17.heap.size := by have := b17.size; (try simp only [World.size_alloc, World.size_drew] at this ⊢) <;> omega
  have qa00_17 : w17.cell? ⟨w.heap.size, 0, none⟩ = some (.slice ap0_0 an0_0 aq0_0) := (b17.cell (p := ⟨w.heap.size, 0, none⟩) fcx).trans qa00_16
  have zba0_17 : w.heap.size < w17.heap.size := fcx
  clear qa00_16
  have qw0r00_17 : w17.cell? ⟨w5.heap.size, 0, none⟩ = some (.slice w0r0dp0 w0r0dn0 w0r0dq0) := (b17.cell (p := ⟨w5.heap.size, 0, none⟩) fcx).trans qw0r00_16
  have zbw0r0_17 : w5.heap.size < w17.heap.size := fcx
  clear qw0r00_16
  have qx00_17 : w17.cell? ⟨w6.heap.size, 0, none⟩ = some (.slice x0dp0 x0dn0 x0dq0) := (b17.cell (p := ⟨w6.heap.size, 0, none⟩) fcx).trans qx00_16
  have zbx0_17 : w6.heap.size < w17.heap.size := fcx
  clear qx00_16
  have qg0r00_17 : w17.cell? ⟨w8.heap.size, 0, none⟩ = some (.slice g0r0dp0 g0r0dn0 g0r0dq0) := (b17.cell (p := ⟨w8.heap.size, 0, none⟩) fcx).trans qg0r00_16
  have zbg0r0_17 : w8.heap.size < w17.heap.size := fcx
  clear qg0r00_16
  have Fw0r0_17 := Lib.hid (Fw0r0_16.out.below b17 fcx)
  clear Fw0r0_16
  have Fw0r1_17 := Lib.hid (Fw0r1_16.out.below b17 fcx)
  clear Fw0r1_16
  have Fg0r0_17 := Lib.hid (Fg0r0_16.out.below b17 fcx)
  clear Fg0r0_16
  have Fg0r1_17 := Lib.hid (Fg0r1_16.out.below b17 fcx)
  clear Fg0r1_16
  go_wp2_with fail
  refine (eqIntS_any _ _ _ _ _ _ R1 _ (by exact (Fg0r1_17.out).sl) (by exact (Fw0r1_17.out).sl)).mono ?_
  rintro e w18 ⟨rfl, b18⟩
  have B18 : Below w.heap.size w w18 := Below.trans B17 (b18.mono fcx)
  have z18 : w17.heap.size + 0 ≤ w18.heap.size := by have := b18.size; (try simp only [World.size_alloc, World.size_drew] at this ⊢) <;> omega
  have qa00_18 : w18.cell? ⟨w.heap.size, 0, none⟩ = some (.slice ap0_0 an0_0 aq0_0) := (b18.cell (p := ⟨w.heap.size, 0, none⟩) fcx).trans qa00_17
  have zba0_18 : w.heap.size < w18.heap.size := fcx
  clear qa00_17
  have qw0r00_18 : w18.cell? ⟨w5.heap.size, 0, none⟩ = some (.slice w0r0dp0 w0r0dn0 w0r0dq0) := (b18.cell (p := ⟨w5.heap.size, 0, none⟩) fcx).trans qw0r00_17
  have zbw0r0_18 : w5.heap.size < w18.heap.size := fcx
  clear qw0r00_17
  have qx00_18 : w18.cell? ⟨w6.heap.size, 0, none⟩ = some (.slice x0dp0 x0dn0 x0dq0) := (b18.cell (p := ⟨w6.heap.size, 0, none⟩) fcx).trans qx00_17
  have zbx0_18 : w6.heap.size < w18.heap.size := fcx
  clear qx00_17
  have qg0r00_18 : w18.cell? ⟨w8.heap.size, 0, none⟩ = some (.slice g0r0dp0 g0r0dn0 g0r0dq0) := (b18.cell (p := ⟨w8.heap.size, 0, none⟩) fcx).trans qg0r00_17
  have zbg0r0_18 : w8.heap.size < w18.heap.size := fcx
  clear qg0r00_17
  have Fw0r0_18 := Lib.hid (Fw0r0_17.out.below b18 fcx)
  clear Fw0r0_17
  have Fw0r1_18 := Lib.hid (Fw0r1_17.out.below b18 fcx)
  clear Fw0r1_17
  have Fg0r0_18 := Lib.hid (Fg0r0_17.out.below b18 fcx)
  clear Fg0r0_17
  have Fg0r1_18 := Lib.hid (Fg0r1_17.out.below b18 fcx)
  clear Fg0r1_17
  go_wp2_with fail
  obtain ⟨rep19, nd19, in19, -⟩ := Fg0r0_18.out
  clear Fg0r0_18
  refine (markModel_un _ _ R0 _ _ (by exact rep19) nd19 (by omega) (by omega)).mono ?_
  rintro e w19 ⟨rfl, rp19, on19⟩
  have B19 : Below w.heap.size w w19 := Below.trans B18 (on19.below (fun b hb => by have := in19 b hb; (try simp only [World.size_alloc, World.size_drew] at this ⊢) <;> omega) fcx)
  have z19 : w18.heap.size + 0 ≤ w19.heap.size := by have := on19.size; (try simp only [World.size_alloc, World.size_drew] at this ⊢) <;> omega
  have qa00_19 : w19.cell? ⟨w.heap.size, 0, none⟩ = some (.slice ap0_0 an0_0 aq0_0) := (on19.cell (a := ⟨w.heap.size, 0, none⟩) (fun hm => by have := in19 _ hm; (try simp only [World.size_alloc, World.size_drew] at this ⊢) <;> omega) fcx).trans qa00_18
  have zba0_19 : w.heap.size < w19.heap.size := fcx
  clear qa00_18
  have qw0r00_19 : w19.cell? ⟨w5.heap.size, 0, none⟩ = some (.slice w0r0dp0 w0r0dn0 w0r0dq0) := (on19.cell (a := ⟨w5.heap.size, 0, none⟩) (fun hm => by have := in19 _ hm; (try simp only [World.size_alloc, World.size_drew] at this ⊢) <;> omega) fcx).trans qw0r00_18
  have zbw0r0_19 : w5.heap.size < w19.heap.size := fcx
  clear qw0r00_18
  have qx00_19 : w19.cell? ⟨w6.heap.size, 0, none⟩ = some (.slice x0dp0 x0dn0 x0dq0) := (on19.cell (a := ⟨w6.heap.size, 0, none⟩) (fun hm => by have := in19 _ hm; (try simp only [World.size_alloc, World.size_drew] at this ⊢) <;> omega) fcx).trans qx00_18
  have zbx0_19 : w6.heap.size < w19.heap.size := fcx
  clear qx00_18
  have qg0r00_19 : w19.cell? ⟨w8.heap.size, 0, none⟩ = some (.slice g0r0dp0 g0r0dn0 g0r0dq0) := (on19.cell (a := ⟨w8.heap.size, 0, none⟩) (fun hm => by have := in19 _ hm; (try simp only [World.size_alloc, World.size_drew] at this ⊢) <;> omega) fcx).trans qg0r00_18
  have zbg0r0_19 : w8.heap.size < w19.heap.size := fcx
  clear qg0r00_18
  have Fw0r0_19 := Lib.hid (Fw0r0_18.out.only on19 (fun b hb => by have := in19 b hb; (try simp only [World.size_alloc, World.size_drew] at this ⊢) <;> omega))
  clear Fw0r0_18
  have Fw0r1_19 := Lib.hid (Fw0r1_18.out.only on19 (fun b hb => by have := in19 b hb; (try simp only [World.size_alloc, World.size_drew] at this ⊢) <;> omega))
  clear Fw0r1_18
  have Fg0r1_19 := Lib.hid (Fg0r1_18.out.onlyd on19 (fun b hb hm => g0rdis b hb hm))
  clear Fg0r1_18
  have G19 := FrU.of rp19 nd19 in19 fcx
  clear rep19 rp19
  have Fg0r0_19 := Lib.hid G19; clear G19
  go_wp2_with fail
  obtain ⟨rep20, nd20, in20, -⟩ := Fg0r1_19.out
  clear Fg0r1_19
  refine (markIntS_un _ _ _ _ R1 _ _ (by exact rep20) nd20 (by omega) (by have := cnt_ints R1; omega)).mono ?_
  rintro e w20 ⟨rfl, rp20, on20⟩
  have B20 : Below w.heap.size w w20 := Below.trans B19 (on20.below (fun b hb => by have := in20 b hb; (try simp only [World.size_alloc, World.size_drew] at this ⊢) <;> omega) fcx)
  have z20 : w19.heap.size + 0 ≤ w20.heap.size := by have := on20.size; (try simp only [World.size_alloc, World.size_drew] at this ⊢) <;> omega
  have qa00_20 : w20.cell? ⟨w.heap.size, 0, none⟩ = some (.slice ap0_0 an0_0 aq0_0) := (on20.cell (a := ⟨w.heap.size, 0, none⟩) (fun hm => by have := in20 _ hm; (try simp only [World.size_alloc, World.size_drew] at this ⊢) <;> omega) fcx).trans qa00_19
  have zba0_20 : w.heap.size < w20.heap.size := fcx
  clear qa00_19
  have qw0r00_20 : w20.cell? ⟨w5.heap.size, 0, none⟩ = some (.slice w0r0dp0 w0r0dn0 w0r0dq0) := (on20.cell (a := ⟨w5.heap.size, 0, none⟩) (fun hm => by have := in20 _ hm; (try simp only [World.size_alloc, World.size_drew] at this ⊢) <;> omega) fcx).trans qw0r00_19
  have zbw0r0_20 : w5.heap.size < w20.heap.size := fcx
  clear qw0r00_19
  have qx00_20 : w20.cell? ⟨w6.heap.size, 0, none⟩ = some (.slice x0dp0 x0dn0 x0dq0) := (on20.cell (a := ⟨w6.heap.size, 0, none⟩) (fun hm => by have := in20 _ hm; (try simp only [World.size_alloc, World.size_drew] at this ⊢) <;> omega) fcx).trans qx00_19
  have zbx0_20 : w6.heap.size < w20.heap.size := fcx
  clear qx00_19
  have qg0r00_20 : w20.cell? ⟨w8.heap.size, 0, none⟩ = some (.slice g0r0dp0 g0r0dn0 g0r0dq0) := (on20.cell (a := ⟨w8.heap.size, 0, none⟩) (fun hm => by have := in20 _ hm; (try simp only [World.size_alloc, World.size_drew] at this ⊢) <;> omega) fcx).trans qg0r00_19
  have zbg0r0_20 : w8.heap.size < w20.heap.size := fcx
  clear qg0r00_19
  have Fw0r0_20 := Lib.hid (Fw0r0_19.out.only on20 (fun b hb => by have := in20 b hb; (try simp only [World.size_alloc, World.size_drew] at this ⊢) <;> omega))
  clear Fw0r0_19
  have Fw0r1_20 := Lib.hid (Fw0r1_19.out.only on20 (fun b hb => by have := in20 b hb; (try simp only [World.size_alloc, World.size_drew] at this ⊢) <;> omega))
  clear Fw0r1_19
  have Fg0r0_20 := Lib.hid (Fg0r0_19.out.onlyd on20 (fun b hb hm => g0rdis b hm hb))
  clear Fg0r0_19
  have G20 := FrU.of rp20 nd20 in20 fcx
  clear rep20 rp20
  have Fg0r1_20 := Lib.hid G20; clear G20
  go_wp2_with fail
  refine (heldModel_any _ _ R0 _ (by exact (Fg0r0_20.out).rd) (by omega) (by omega)).mono ?_
  rintro e w21 ⟨rfl, b21⟩
  have B21 : Below w.heap.size w w21 := Below.trans B20 (b21.mono fcx)
  have z21 : w20.heap.size + 0 ≤ w21.heap.size := by have := b21.size; (try simp only [World.size_alloc, World.size_drew] at this ⊢) <;> omega
  have qa00_21 : w21.cell? ⟨w.heap.size, 0, none⟩ = some (.slice ap0_0 an0_0 aq0_0) := (b21.cell (p := ⟨w.heap.size, 0, none⟩) fcx).trans qa00_20
  have zba0_21 : w.heap.size < w21.heap.size := fcx
  clear qa00_20
  have qw0r00_21 : w21.cell? ⟨w5.heap.size, 0, none⟩ = some (.slice w0r0dp0 w0r0dn0 w0r0dq0) := (b21.cell (p := ⟨w5.heap.size, 0, none⟩) fcx).trans qw0r00_20
  have zbw0r0_21 : w5.heap.size < w21.heap.size := fcx
  clear qw0r00_20
  have qx00_21 : w21.cell? ⟨w6.heap.size, 0, none⟩ = some (.slice x0dp0 x0dn0 x0dq0) := (b21.cell (p := ⟨w6.heap.size, 0, none⟩) fcx).trans qx00_20
  have zbx0_21 : w6.heap.size < w21.heap.size := fcx
  clear qx00_20
  have qg0r00_21 : w21.cell? ⟨w8.heap.size, 0, none⟩ = some (.slice g0r0dp0 g0r0dn0 g0r0dq0) := (b21.cell (p := ⟨w8.heap.size, 0, none⟩) fcx).trans qg0r00_20
  have zbg0r0_21 : w8.heap.size < w21.heap.size := fcx
  clear qg0r00_20
  have Fw0r0_21 := Lib.hid (Fw0r0_20.out.below b21 fcx)
  clear Fw0r0_20
  have Fw0r1_21 := Lib.hid (Fw0r1_20.out.below b21 fcx)
  clear Fw0r1_20
  have Fg0r0_21 := Lib.hid (Fg0r0_20.out.below b21 fcx)
  clear Fg0r0_20
  have Fg0r1_21 := Lib.hid (Fg0r1_20.out.below b21 fcx)
  clear Fg0r1_20
  go_wp2_with fail
  refine (heldIntS_any _ _ _ _ R1 _ (by exact (Fg0r1_21.out).sl) (by omega) (by have := cnt_ints R1; omega)).mono ?_
  rintro e w22 ⟨rfl, b22⟩
  have B22 : Below w.heap.size w w22 := Below.trans B21 (b22.mono fcx)
  have z22 : w21.heap.size + 0 ≤ w22.heap.size := by have := b22.size; (try simp only [World.size_alloc, World.size_drew] at this ⊢) <;> omega
  have qa00_22 : w22.cell? ⟨w.heap.size, 0, none⟩ = some (.slice ap0_0 an0_0 aq0_0) := (b22.cell (p := ⟨w.heap.size, 0, none⟩) fcx).trans qa00_21
  have zba0_22 : w.heap.size < w22.heap.size := fcx
  clear qa00_21
  have qw0r00_22 : w22.cell? ⟨w5.heap.size, 0, none⟩ = some (.slice w0r0dp0 w0r0dn0 w0r0dq0) := (b22.cell (p := ⟨w5.heap.size, 0, none⟩) fcx).trans qw0r00_21
  have zbw0r0_22 : w5.heap.size < w22.heap.size := fcx
  clear qw0r00_21
  have qx00_22 : w22.cell? ⟨w6.heap.size, 0, none⟩ = some (.slice x0dp0 x0dn0 x0dq0) := (b22.cell (p := ⟨w6.heap.size, 0, none⟩) fcx).trans qx00_21
  have zbx0_22 : w6.heap.size < w22.heap.size := fcx
  clear qx00_21
  have qg0r00_22 : w22.cell? ⟨w8.heap.size, 0, none⟩ = some (.slice g0r0dp0 g0r0dn0 g0r0dq0) := (b22.cell (p := ⟨w8.heap.size, 0, none⟩) fcx).trans qg0r00_21
  have zbg0r0_22 : w8.heap.size < w22.heap.size := fcx
  clear qg0r00_21
  have Fw0r0_22 := Lib.hid (Fw0r0_21.out.below b22 fcx)
  clear Fw0r0_21
  have Fw0r1_22 := Lib.hid (Fw0r1_21.out.below b22 fcx)
  clear Fw0r1_21
  have Fg0r0_22 := Lib.hid (Fg0r0_21.out.below b22 fcx)
  clear Fg0r0_21
  have Fg0r1_22 := Lib.hid (Fg0r1_21.out.below b22 fcx)
  clear Fg0r1_21
  go_wp2_with fail
  refine (toModel_any _ d0 _ (by exact rd_below H0.out B22) (by omega)).mono ?_
  rintro e w23 ⟨ucs0, rfl, uf0, b23⟩
  have B23 : Below w.heap.size w w23 := Below.trans B22 (b23.mono fcx)
  have z23 : w22.heap.size + 0 ≤ w23.heap.size := by have := b23.size; (try simp only [World.size_alloc, World.size_drew] at this ⊢) <;> omega
  have qa00_23 : w23.cell? ⟨w.heap.size, 0, none⟩ = some (.slice ap0_0 an0_0 aq0_0) := (b23.cell (p := ⟨w.heap.size, 0, none⟩) fcx).trans qa00_22
  have zba0_23 : w.heap.size < w23.heap.size := fcx
  clear qa00_22
  have qw0r00_23 : w23.cell? ⟨w5.heap.size, 0, none⟩ = some (.slice w0r0dp0 w0r0dn0 w0r0dq0) := (b23.cell (p := ⟨w5.heap.size, 0, none⟩) fcx).trans qw0r00_22
  have zbw0r0_23 : w5.heap.size < w23.heap.size := fcx
  clear qw0r00_22
  have qx00_23 : w23.cell? ⟨w6.heap.size, 0, none⟩ = some (.slice x0dp0 x0dn0 x0dq0) := (b23.cell (p := ⟨w6.heap.size, 0, none⟩) fcx).trans qx00_22
  have zbx0_23 : w6.heap.size < w23.heap.size := fcx
  clear qx00_22
  have qg0r00_23 : w23.cell? ⟨w8.heap.size, 0, none⟩ = some (.slice g0r0dp0 g0r0dn0 g0r0dq0) := (b23.cell (p := ⟨w8.heap.size, 0, none⟩) fcx).trans qg0r00_22
  have zbg0r0_23 : w8.heap.size < w23.heap.size := fcx
  clear qg0r00_22
  have Fw0r0_23 := Lib.hid (Fw0r0_22.out.below b23 fcx)
  clear Fw0r0_22
  have Fw0r1_23 := Lib.hid (Fw0r1_22.out.below b23 fcx)
  clear Fw0r1_22
  have Fg0r0_23 := Lib.hid (Fg0r0_22.out.below b23 fcx)
  clear Fg0r0_22
  have Fg0r1_23 := Lib.hid (Fg0r1_22.out.below b23 fcx)
  clear Fg0r1_22
  have Fu0_23 := Lib.hid uf0; clear uf0
  go_wp2_with fail
  refine (toBatchS_any _ _ _ l1 _ (by exact h1.below B23) (by omega)).mono ?_
  rintro e w24 ⟨up1, uc1, rfl, uf1, b24⟩
  have B24 : Below w.heap.size w w24 := Below.trans B23 (b24.mono fcx)
  have z24 : w23.heap.size + 0 ≤ w24.heap.size := by have := b24.size; (try simp only [World.size_alloc, World.size_drew] at this ⊢) <;> omega
  have qa00_24 : w24.cell? ⟨w.heap.size, 0, none⟩ = some (.slice ap0_0 an0_0 aq0_0) := (b24.cell (p := ⟨w.heap.size, 0, none⟩) fcx).trans qa00_23
  have zba0_24 : w.heap.size < w24.heap.size := fcx
  clear qa00_23
  have qw0r00_24 : w24.cell? ⟨w5.heap.size, 0, none⟩ = some (.slice w0r0dp0 w0r0dn0 w0r0dq0) := (b24.cell (p := ⟨w5.heap.size, 0, none⟩) fcx).trans qw0r00_23
  have zbw0r0_24 : w5.heap.size < w24.heap.size := fcx
  clear qw0r00_23
  have qx00_24 : w24.cell? ⟨w6.heap.size, 0, none⟩ = some (.slice x0dp0 x0dn0 x0dq0) := (b24.cell (p := ⟨w6.heap.size, 0, none⟩) fcx).trans qx00_23
  have zbx0_24 : w6.heap.size < w24.heap.size := fcx
  clear qx00_23
  have qg0r00_24 : w24.cell? ⟨w8.heap.size, 0, none⟩ = some (.slice g0r0dp0 g0r0dn0 g0r0dq0) := (b24.cell (p := ⟨w8.heap.size, 0, none⟩) fcx).trans qg0r00_23
  have zbg0r0_24 : w8.heap.size < w24.heap.size := fcx
  clear qg0r00_23
  have Fw0r0_24 := Lib.hid (Fw0r0_23.out.below b24 fcx)
  clear Fw0r0_23
  have Fw0r1_24 := Lib.hid (Fw0r1_23.out.below b24 fcx)
  clear Fw0r1_23
  have Fg0r0_24 := Lib.hid (Fg0r0_23.out.below b24 fcx)
  clear Fg0r0_23
  have Fg0r1_24 := Lib.hid (Fg0r1_23.out.below b24 fcx)
  clear Fg0r1_23
  have Fu0_24 := Lib.hid (Fu0_23.out.below b24 fcx)
  clear Fu0_23
  have Fu1_24 := Lib.hid uf1; clear uf1
  go_wp2_with fail
  refine (HI.out _ _ _ _ (by exact (Fu0_24.out).rd) (by exact (Fu1_24.out).sl)).mono ?_
  rintro e w25 ⟨h0rcs0, h0rp1, h0rc1, h0ry0, h0ry1, rfl, h0rf0, h0rf1, h0rdis, b25⟩
  have B25 : Below w.heap.size w w25 := Below.trans B24 (b25.mono fcx)
  have z25 : w24.heap.size + 0 ≤ w25.heap.size := by have := b25.size; (try simp only [World.size_alloc, World.size_drew] at this ⊢) <;> omega
  have qa00_25 : w25.cell? ⟨w.heap.size, 0, none⟩ = some (.slice ap0_0 an0_0 aq0_0) := (b25.cell (p := ⟨w.heap.size, 0, none⟩) fcx).trans qa00_24
  have zba0_25 : w.heap.size < w25.heap.size := fcx
  clear qa00_24
  have qw0r00_25 : w25.cell? ⟨w5.heap.size, 0, none⟩ = some (.slice w0r0dp0 w0r0dn0 w0r0dq0) := (b25.cell (p := ⟨w5.heap.size, 0, none⟩) fcx).trans qw0r00_24
  have zbw0r0_25 : w5.heap.size < w25.heap.size := fcx
  clear qw0r00_24
  have qx00_25 : w25.cell? ⟨w6.heap.size, 0, none⟩ = some (.slice x0dp0 x0dn0 x0dq0) := (b25.cell (p := ⟨w6.heap.size, 0, none⟩) fcx).trans qx00_24
  have zbx0_25 : w6.heap.size < w25.heap.size := fcx
  clear qx00_24
  have qg0r00_25 : w25.cell? ⟨w8.heap.size, 0, none⟩ = some (.slice g0r0dp0 g0r0dn0 g0r0dq0) := (b25.cell (p := ⟨w8.heap.size, 0, none⟩) fcx).trans qg0r00_24
  have zbg0r0_25 : w8.heap.size < w25.heap.size := fcx
  clear qg0r00_24
  have Fw0r0_25 := Lib.hid (Fw0r0_24.out.below b25 fcx)
  clear Fw0r0_24
  have Fw0r1_25 := Lib.hid (Fw0r1_24.out.below b25 fcx)
  clear Fw0r1_24
  have Fg0r0_25 := Lib.hid (Fg0r0_24.out.below b25 fcx)
  clear Fg0r0_24
  have Fg0r1_25 := Lib.hid (Fg0r1_24.out.below b25 fcx)
  clear Fg0r1_24
  have Fu0_25 := Lib.hid (Fu0_24.out.below b25 fcx)
  clear Fu0_24
  have Fu1_25 := Lib.hid (Fu1_24.out.below b25 fcx)
  clear Fu1_24
  clear Fu0_25
  clear Fu1_25
  have rrh0r0d := h0rf0.rd
  obtain ⟨h0r0dp0, h0r0dn0, h0r0dq0, h0r0dhcs, h0r0ds0⟩ := rrh0r0d
  obtain rfl : h0rcs0 = #[.slice h0r0dp0 h0r0dn0 h0r0dq0] := arr_of h0r0dhcs
  clear h0r0dhcs
  have Fh0r0_25 := Lib.hid h0rf0; clear h0rf0
  have Fh0r1_25 := Lib.hid h0rf1; clear h0rf1
  go_wp2_with fail
  refine (eqModel_any _ _ R0 _ (by exact ((Fh0r0_25.out.alloc _)).rd) (by exact ((Fw0r0_25.out.alloc _)).rd)).mono ?_
  rintro e w26 ⟨rfl, b26⟩
  have B26 : Below w.heap.size w w26 := Below.trans belx (b26.mono fcx)
  have z26 : w25.heap.size + 1 ≤ w26.heap.size := by have := b26.size; (try simp only [World.size_alloc, World.size_drew] at this ⊢) <;> omega
  have qa00_26 : w26.cell? ⟨w.heap.size, 0, none⟩ = some (.slice ap0_0 an0_0 aq0_0) := (b26.cell (p := ⟨w.heap.size, 0, none⟩) fcx).trans ((alloc_cell (a := ⟨w.heap.size, 0, none⟩) fcx).trans qa00_25)
  have zba0_26 : w.heap.size < w26.heap.size := fcx
  clear qa00_25
  have qw0r00_26 : w26.cell? ⟨w5.heap.size, 0, none⟩ = some (.slice w0r0dp0 w0r0dn0 w0r0dq0) := (b26.cell (p := ⟨w5.heap.size, 0, none⟩) fcx).trans ((alloc_cell (a := ⟨w5.heap.size, 0, none⟩) fcx).trans qw0r00_25)
  have zbw0r0_26 : w5.heap.size < w26.heap.size := fcx
  clear qw0r00_25
  have qx00_26 : w26.cell? ⟨w6.heap.size, 0, none⟩ = some (.slice x0dp0 x0dn0 x0dq0) := (b26.cell (p := ⟨w6.heap.size, 0, none⟩) fcx).trans ((alloc_cell (a := ⟨w6.heap.size, 0, none⟩) fcx).trans qx00_25)
  have zbx0_26 : w6.heap.size < w26.heap.size := fcx
  clear qx00_25
  have qg0r00_26 : w26.cell? ⟨w8.heap.size, 0, none⟩ = some (.slice g0r0dp0 g0r0dn0 g0r0dq0) := (b26.cell (p := ⟨w8.heap.size, 0, none⟩) fcx).trans ((alloc_cell (a := ⟨w8.heap.size, 0, none⟩) fcx).trans qg0r00_25)
  have zbg0r0_26 : w8.heap.size < w26.heap.size := fcx
  clear qg0r00_25
  have qh0r00_26 : w26.cell? ⟨w25.heap.size, 0, none⟩ = some (.slice h0r0dp0 h0r0dn0 h0r0dq0) := (b26.cell (p := ⟨w25.heap.size, 0, none⟩) fcx).trans (by simp)
  have zbh0r0_26 : w25.heap.size < w26.heap.size := fcx
  have Fw0r0_26 := Lib.hid ((Fw0r0_25.out.alloc _).below b26 fcx)
  clear Fw0r0_25
  have Fw0r1_26 := Lib.hid ((Fw0r1_25.out.alloc _).below b26 fcx)
  clear Fw0r1_25
  have Fg0r0_26 := Lib.hid ((Fg0r0_25.out.alloc _).below b26 fcx)
  clear Fg0r0_25
  have Fg0r1_26 := Lib.hid ((Fg0r1_25.out.alloc _).below b26 fcx)
  clear Fg0r1_25
  have Fh0r0_26 := Lib.hid ((Fh0r0_25.out.alloc _).below b26 fcx)
  clear Fh0r0_25
  have Fh0r1_26 := Lib.hid ((Fh0r1_25.out.alloc _).below b26 fcx)
  clear Fh0r1_25
  go_wp2_with fail
  refine (eqIntS_any _ _ _ _ _ _ R1 _ (by exact (Fh0r1_26.out).sl) (by exact (Fw0r1_26.out).sl)).mono ?_
  rintro e w27 ⟨rfl, b27⟩
  have B27 : Below w.heap.size w w27 := Below.trans B26 (b27.mono fcx)
  have z27 : w26.heap.size + 0 ≤ w27.heap.size := by have := b27.size; (try simp only [World.size_alloc, World.size_drew] at this ⊢) <;> omega
  have qa00_27 : w27.cell? ⟨w.heap.size, 0, none⟩ = some (.slice ap0_0 an0_0 aq0_0) := (b27.cell (p := ⟨w.heap.size, 0, none⟩) fcx).trans qa00_26
  have zba0_27 : w.heap.size < w27.heap.size := fcx
  clear qa00_26
  have qw0r00_27 : w27.cell? ⟨w5.heap.size, 0, none⟩ = some (.slice w0r0dp0 w0r0dn0 w0r0dq0) := (b27.cell (p := ⟨w5.heap.size, 0, none⟩) fcx).trans qw0r00_26
  have zbw0r0_27 : w5.heap.size < w27.heap.size := fcx
  clear qw0r00_26
  have qx00_27 : w27.cell? ⟨w6.heap.size, 0, none⟩ = some (.slice x0dp0 x0dn0 x0dq0) := (b27.cell (p := ⟨w6.heap.size, 0, none⟩) fcx).trans qx00_26
  have zbx0_27 : w6.heap.size < w27.heap.size := fcx
  clear qx00_26
  have qg0r00_27 : w27.cell? ⟨w8.heap.size, 0, none⟩ = some (.slice g0r0dp0 g0r0dn0 g0r0dq0) := (b27.cell (p := ⟨w8.heap.size, 0, none⟩) fcx).trans qg0r00_26
  have zbg0r0_27 : w8.heap.size < w27.heap.size := fcx
  clear qg0r00_26
  have qh0r00_27 : w27.cell? ⟨w25.heap.size, 0, none⟩ = some (.slice h0r0dp0 h0r0dn0 h0r0dq0) := (b27.cell (p := ⟨w25.heap.size, 0, none⟩) fcx).trans qh0r00_26
  have zbh0r0_27 : w25.heap.size < w27.heap.size := fcx
  clear qh0r00_26
  have Fw0r0_27 := Lib.hid (Fw0r0_26.out.below b27 fcx)
  clear Fw0r0_26
  have Fw0r1_27 := Lib.hid (Fw0r1_26.out.below b27 fcx)
  clear Fw0r1_26
  have Fg0r0_27 := Lib.hid (Fg0r0_26.out.below b27 fcx)
  clear Fg0r0_26
  have Fg0r1_27 := Lib.hid (Fg0r1_26.out.below b27 fcx)
  clear Fg0r1_26
  have Fh0r0_27 := Lib.hid (Fh0r0_26.out.below b27 fcx)
  clear Fh0r0_26
  have Fh0r1_27 := Lib.hid (Fh0r1_26.out.below b27 fcx)
  clear Fh0r1_26
  go_wp2_with fail
  refine (heldModel_any _ _ R0 _ (by exact (Fg0r0_27.out).rd) (by omega) (by omega)).mono ?_
  rintro e w28 ⟨rfl, b28⟩
  have B28 : Below w.heap.size w w28 := Below.trans B27 (b28.mono fcx)
  have z28 : w27.heap.size + 0 ≤ w28.heap.size := by have := b28.size; (try simp only [World.size_alloc, World.size_drew] at this ⊢) <;> omega
  have qa00_28 : w28.cell? ⟨w.heap.size, 0, none⟩ = some (.slice ap0_0 an0_0 aq0_0) := (b28.cell (p := ⟨w.heap.size, 0, none⟩) fcx).trans qa00_27
  have zba0_28 : w.heap.size < w28.heap.size := fcx
  clear qa00_27
  have qw0r00_28 : w28.cell? ⟨w5.heap.size, 0, none⟩ = some (.slice w0r0dp0 w0r0dn0 w0r0dq0) := (b28.cell (p := ⟨w5.heap.size, 0, none⟩) fcx).trans qw0r00_27
  have zbw0r0_28 : w5.heap.size < w28.heap.size := fcx
  clear qw0r00_27
  have qx00_28 : w28.cell? ⟨w6.heap.size, 0, none⟩ = some (.slice x0dp0 x0dn0 x0dq0) := (b28.cell (p := ⟨w6.heap.size, 0, none⟩) fcx).trans qx00_27
  have zbx0_28 : w6.heap.size < w28.heap.size := fcx
  clear qx00_27
  have qg0r00_28 : w28.cell? ⟨w8.heap.size, 0, none⟩ = some (.slice g0r0dp0 g0r0dn0 g0r0dq0) := (b28.cell (p := ⟨w8.heap.size, 0, none⟩) fcx).trans qg0r00_27
  have zbg0r0_28 : w8.heap.size < w28.heap.size := fcx
  clear qg0r00_27
  have qh0r00_28 : w28.cell? ⟨w25.heap.size, 0, none⟩ = some (.slice h0r0dp0 h0r0dn0 h0r0dq0) := (b28.cell (p := ⟨w25.heap.size, 0, none⟩) fcx).trans qh0r00_27
  have zbh0r0_28 : w25.heap.size < w28.heap.size := fcx
  clear qh0r00_27
  have Fw0r0_28 := Lib.hid (Fw0r0_27.out.below b28 fcx)
  clear Fw0r0_27
  have Fw0r1_28 := Lib.hid (Fw0r1_27.out.below b28 fcx)
  clear Fw0r1_27
  have Fg0r0_28 := Lib.hid (Fg0r0_27.out.below b28 fcx)
  clear Fg0r0_27
  have Fg0r1_28 := Lib.hid (Fg0r1_27.out.below b28 fcx)
  clear Fg0r1_27
  have Fh0r0_28 := Lib.hid (Fh0r0_27.out.below b28 fcx)
  clear Fh0r0_27
  have Fh0r1_28 := Lib.hid (Fh0r1_27.out.below b28 fcx)
  clear Fh0r1_27
  go_wp2_with fail
  refine (heldIntS_any _ _ _ _ R1 _ (by exact (Fg0r1_28.out).sl) (by omega) (by have := cnt_ints R1; omega)).mono ?_
  rintro e w29 ⟨rfl, b29⟩
  have B29 : Below w.heap.size w w29 := Below.trans B28 (b29.mono fcx)
  have z29 : w28.heap.size + 0 ≤ w29.heap.size := by have := b29.size; (try simp only [World.size_alloc, World.size_drew] at this ⊢) <;> omega
  have qa00_29 : w29.cell? ⟨w.heap.size, 0, none⟩ = some (.slice ap0_0 an0_0 aq0_0) := (b29.cell (p := ⟨w.heap.size, 0, none⟩) fcx).trans qa00_28
  have zba0_29 : w.heap.size < w29.heap.size := fcx
  clear qa00_28
  have qw0r00_29 : w29.cell? ⟨w5.heap.size, 0, none⟩ = some (.slice w0r0dp0 w0r0dn0 w0r0dq0) := (b29.cell (p := ⟨w5.heap.size, 0, none⟩) fcx).trans qw0r00_28
  have zbw0r0_29 : w5.heap.size < w29.heap.size := fcx
  clear qw0r00_28
  have qx00_29 : w29.cell? ⟨w6.heap.size, 0, none⟩ = some (.slice x0dp0 x0dn0 x0dq0) := (b29.cell (p := ⟨w6.heap.size, 0, none⟩) fcx).trans qx00_28
  have zbx0_29 : w6.heap.size < w29.heap.size := fcx
  clear qx00_28
  have qg0r00_29 : w29.cell? ⟨w8.heap.size, 0, none⟩ = some (.slice g0r0dp0 g0r0dn0 g0r0dq0) := (b29.cell (p := ⟨w8.heap.size, 0, none⟩) fcx).trans qg0r00_28
  have zbg0r0_29 : w8.heap.size < w29.heap.size := fcx
  clear qg0r00_28
  have qh0r00_29 : w29.cell? ⟨w25.heap.size, 0, none⟩ = some (.slice h0r0dp0 h0r0dn0 h0r0dq0) := (b29.cell (p := ⟨w25.heap.size, 0, none⟩) fcx).trans qh0r00_28
  have zbh0r0_29 : w25.heap.size < w29.heap.size := fcx
  clear qh0r00_28
  have Fw0r0_29 := Lib.hid (Fw0r0_28.out.below b29 fcx)
  clear Fw0r0_28
  have Fw0r1_29 := Lib.hid (Fw0r1_28.out.below b29 fcx)
  clear Fw0r1_28
  have Fg0r0_29 := Lib.hid (Fg0r0_28.out.below b29 fcx)
  clear Fg0r0_28
  have Fg0r1_29 := Lib.hid (Fg0r1_28.out.below b29 fcx)
  clear Fg0r1_28
  have Fh0r0_29 := Lib.hid (Fh0r0_28.out.below b29 fcx)
  clear Fh0r0_28
  have Fh0r1_29 := Lib.hid (Fh0r1_28.out.below b29 fcx)
  clear Fh0r1_28
  go_wp2
  go_ret
  exact ⟨rfl, B29⟩
end Go.Proofs.YtiihghfoeinbbaaGreat
