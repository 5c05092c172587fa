/- The walk of FnExactSamePipe. -/
import Derived.Test.YtbbbpbioehnblaaBSamePipe
import Derived.Test.YtbbbpbioehnblaaTPipe
import Derived.Deep.RegionHeld3
namespace Go.Proofs.Ytbbbpbioehnblaa
open Go.ChangeShapes Go.WideShapes Go.ChangeAt Go.RowKit
set_option linter.unusedVariables false
set_option linter.unusedSimpArgs false
set_option maxRecDepth 100000 in
set_option maxHeartbeats 4000000 in
theorem fnExactSamePipe_walk (w : World) (cs0 : Array Value) (d0 : Ty.D tPipe) (h0 : rd tPipe w cs0.toList d0) (cs1 : Array Value) (d1 : Ty.D tPipe) (h1 : rd tPipe w cs1.toList d1) :
    Calls Try.prog 3 #[.agg cs0, .agg cs1] w fun e w' => e = .returned (.bool true) ∧ Below w.heap.size w w' := by
  obtain ⟨ap0_0, an0_0, aq0_0, ap0_1, an0_1, aq0_1, ap0_2, an0_2, aq0_2, ap0_3, an0_3, aq0_3, rfl⟩ : ∃ ap0_0 an0_0 aq0_0 ap0_1 an0_1 aq0_1 ap0_2 an0_2 aq0_2 ap0_3 an0_3 aq0_3, cs0 = #[.slice ap0_0 an0_0 aq0_0, .slice ap0_1 an0_1 aq0_1, .slice ap0_2 an0_2 aq0_2, .slice ap0_3 an0_3 aq0_3] := by
    obtain ⟨_, _, khcs, ⟨kp0, kn0, kq0, rfl, ks0⟩, ⟨_, _, rfl, ⟨kp1, kn1, kq1, rfl, ks1⟩, ⟨_, _, rfl, ⟨kp2, kn2, kq2, rfl, ks2⟩, ⟨kp3, kn3, kq3, rfl, ks3⟩⟩⟩⟩ := h0
    exact ⟨kp0, kn0, kq0, kp1, kn1, kq1, kp2, kn2, kq2, kp3, kn3, kq3, arr_of khcs⟩
  have H0 := Lib.hid h0; clear h0
  obtain ⟨ap1_0, an1_0, aq1_0, ap1_1, an1_1, aq1_1, ap1_2, an1_2, aq1_2, ap1_3, an1_3, aq1_3, rfl⟩ : ∃ ap1_0 an1_0 aq1_0 ap1_1 an1_1 aq1_1 ap1_2 an1_2 aq1_2 ap1_3 an1_3 aq1_3, cs1 = #[.slice ap1_0 an1_0 aq1_0, .slice ap1_1 an1_1 aq1_1, .slice ap1_2 an1_2 aq1_2, .slice ap1_3 an1_3 aq1_3] := by
    obtain ⟨_, _, khcs, ⟨kp0, kn0, kq0, rfl, ks0⟩, ⟨_, _, rfl, ⟨kp1, kn1, kq1, rfl, ks1⟩, ⟨_, _, rfl, ⟨kp2, kn2, kq2, rfl, ks2⟩, ⟨kp3, kn3, kq3, rfl, ks3⟩⟩⟩⟩ := h1
    exact ⟨kp0, kn0, kq0, kp1, kn1, kq1, kp2, kn2, kq2, kp3, kn3, kq3, arr_of khcs⟩
  have H1 := Lib.hid h1; clear h1
  by_cases hz0 : ((szT tPipe d0 : Nat) : Int) ≤ (1048576 : Int)
  rotate_left
  · skip
    go_enter Try.func3, Try.ntmps3
    go_wp2_with fail
    refine (szPipe_no _ d0 _ _ (by exact rd_below H0.out belx) (by omega) (by omega) (by omega)).mono ?_
    rintro e w1 ⟨rfl, b1⟩
    have B1 : Below w.heap.size w w1 := Below.trans belx (b1.mono fcx)
    have z1 : w.heap.size + 2 ≤ w1.heap.size := by have := b1.size; (try simp only [World.size_alloc, World.size_drew] at this ⊢) <;> omega
    have qa00_1 : w1.cell? ⟨w.heap.size, 0, none⟩ = some (.slice ap0_0 an0_0 aq0_0) := (b1.cell (p := ⟨w.heap.size, 0, none⟩) fcx).trans (by simp)
    have qa01_1 : w1.cell? ⟨w.heap.size, 1, none⟩ = some (.slice ap0_1 an0_1 aq0_1) := (b1.cell (p := ⟨w.heap.size, 1, none⟩) fcx).trans (by simp)
    have qa02_1 : w1.cell? ⟨w.heap.size, 2, none⟩ = some (.slice ap0_2 an0_2 aq0_2) := (b1.cell (p := ⟨w.heap.size, 2, none⟩) fcx).trans (by simp)
    have qa03_1 : w1.cell? ⟨w.heap.size, 3, none⟩ = some (.slice ap0_3 an0_3 aq0_3) := (b1.cell (p := ⟨w.heap.size, 3, none⟩) fcx).trans (by simp)
    have zba0_1 : w.heap.size < w1.heap.size := fcx
    have qa10_1 : w1.cell? ⟨w.heap.size + 1, 0, none⟩ = some (.slice ap1_0 an1_0 aq1_0) := (b1.cell (p := ⟨w.heap.size + 1, 0, none⟩) fcx).trans (by simp)
    have qa11_1 : w1.cell? ⟨w.heap.size + 1, 1, none⟩ = some (.slice ap1_1 an1_1 aq1_1) := (b1.cell (p := ⟨w.heap.size + 1, 1, none⟩) fcx).trans (by simp)
    have qa12_1 : w1.cell? ⟨w.heap.size + 1, 2, none⟩ = some (.slice ap1_2 an1_2 aq1_2) := (b1.cell (p := ⟨w.heap.size + 1, 2, none⟩) fcx).trans (by simp)
    have qa13_1 : w1.cell? ⟨w.heap.size + 1, 3, none⟩ = some (.slice ap1_3 an1_3 aq1_3) := (b1.cell (p := ⟨w.heap.size + 1, 3, none⟩) fcx).trans (by simp)
    have zba1_1 : w.heap.size + 1 < w1.heap.size := fcx
    go_wp2
    go_ret
    exact ⟨rfl, B1⟩
  by_cases hz1 : ((szT tPipe d1 : Nat) : Int) ≤ (1048576 : Int) - (szT tPipe d0 : Nat)
  rotate_left
  · skip
    go_enter Try.func3, Try.ntmps3
    go_wp2_with fail
    refine (szPipe_ok _ d0 _ _ (by exact rd_below H0.out belx) (by omega) (by omega) (by omega)).mono ?_
    rintro e w1 ⟨rfl, b1⟩
    have B1 : Below w.heap.size w w1 := Below.trans belx (b1.mono fcx)
    have z1 : w.heap.size + 2 ≤ w1.heap.size := by have := b1.size; (try simp only [World.size_alloc, World.size_drew] at this ⊢) <;> omega
    have qa00_1 : w1.cell? ⟨w.heap.size, 0, none⟩ = some (.slice ap0_0 an0_0 aq0_0) := (b1.cell (p := ⟨w.heap.size, 0, none⟩) fcx).trans (by simp)
    have qa01_1 : w1.cell? ⟨w.heap.size, 1, none⟩ = some (.slice ap0_1 an0_1 aq0_1) := (b1.cell (p := ⟨w.heap.size, 1, none⟩) fcx).trans (by simp)
    have qa02_1 : w1.cell? ⟨w.heap.size, 2, none⟩ = some (.slice ap0_2 an0_2 aq0_2) := (b1.cell (p := ⟨w.heap.size, 2, none⟩) fcx).trans (by simp)
    have qa03_1 : w1.cell? ⟨w.heap.size, 3, none⟩ = some (.slice ap0_3 an0_3 aq0_3) := (b1.cell (p := ⟨w.heap.size, 3, none⟩) fcx).trans (by simp)
    have zba0_1 : w.heap.size < w1.heap.size := fcx
    have qa10_1 : w1.cell? ⟨w.heap.size + 1, 0, none⟩ = some (.slice ap1_0 an1_0 aq1_0) := (b1.cell (p := ⟨w.heap.size + 1, 0, none⟩) fcx).trans (by simp)
    have qa11_1 : w1.cell? ⟨w.heap.size + 1, 1, none⟩ = some (.slice ap1_1 an1_1 aq1_1) := (b1.cell (p := ⟨w.heap.size + 1, 1, none⟩) fcx).trans (by simp)
    have qa12_1 : w1.cell? ⟨w.heap.size + 1, 2, none⟩ = some (.slice ap1_2 an1_2 aq1_2) := (b1.cell (p := ⟨w.heap.size + 1, 2, none⟩) fcx).trans (by simp)
    have qa13_1 : w1.cell? ⟨w.heap.size + 1, 3, none⟩ = some (.slice ap1_3 an1_3 aq1_3) := (b1.cell (p := ⟨w.heap.size + 1, 3, none⟩) fcx).trans (by simp)
    have zba1_1 : w.heap.size + 1 < w1.heap.size := fcx
    obtain ⟨lf0, hlf0⟩ : ∃ z : Int, z = (1048576 : Int) - (szT tPipe d0 : Nat) := ⟨_, rfl⟩
    rw [← hlf0]
    have hnl0 : ¬ (lf0 < 0) := by omega
    have hnm0 : lf0 ≤ 1048576 := by omega
    have HLF0 := Lib.hid hlf0; have hle0 := Int.le_of_eq hlf0; have hge0 := Int.le_of_eq hlf0.symm; clear hlf0
    go_wp2_with fail
    refine (szPipe_no _ d1 _ _ (by exact rd_below H1.out B1) (by omega) (by omega) (by omega)).mono ?_
    rintro e w2 ⟨rfl, b2⟩
    have B2 : Below w.heap.size w w2 := Below.trans B1 (b2.mono fcx)
    have z2 : w1.heap.size + 0 ≤ w2.heap.size := by have := b2.size; (try simp only [World.size_alloc, World.size_drew] at this ⊢) <;> omega
    have qa00_2 : w2.cell? ⟨w.heap.size, 0, none⟩ = some (.slice ap0_0 an0_0 aq0_0) := (b2.cell (p := ⟨w.heap.size, 0, none⟩) fcx).trans qa00_1
    have qa01_2 : w2.cell? ⟨w.heap.size, 1, none⟩ = some (.slice ap0_1 an0_1 aq0_1) := (b2.cell (p := ⟨w.heap.size, 1, none⟩) fcx).trans qa01_1
    have qa02_2 : w2.cell? ⟨w.heap.size, 2, none⟩ = some (.slice ap0_2 an0_2 aq0_2) := (b2.cell (p := ⟨w.heap.size, 2, none⟩) fcx).trans qa02_1
    have qa03_2 : w2.cell? ⟨w.heap.size, 3, none⟩ = some (.slice ap0_3 an0_3 aq0_3) := (b2.cell (p := ⟨w.heap.size, 3, none⟩) fcx).trans qa03_1
    have zba0_2 : w.heap.size < w2.heap.size := fcx
    clear qa00_1 qa01_1 qa02_1 qa03_1
    have qa10_2 : w2.cell? ⟨w.heap.size + 1, 0, none⟩ = some (.slice ap1_0 an1_0 aq1_0) := (b2.cell (p := ⟨w.heap.size + 1, 0, none⟩) fcx).trans qa10_1
    have qa11_2 : w2.cell? ⟨w.heap.size + 1, 1, none⟩ = some (.slice ap1_1 an1_1 aq1_1) := (b2.cell (p := ⟨w.heap.size + 1, 1, none⟩) fcx).trans qa11_1
    have qa12_2 : w2.cell? ⟨w.heap.size + 1, 2, none⟩ = some (.slice ap1_2 an1_2 aq1_2) := (b2.cell (p := ⟨w.heap.size + 1, 2, none⟩) fcx).trans qa12_1
    have qa13_2 : w2.cell? ⟨w.heap.size + 1, 3, none⟩ = some (.slice ap1_3 an1_3 aq1_3) := (b2.cell (p := ⟨w.heap.size + 1, 3, none⟩) fcx).trans qa13_1
    have zba1_2 : w.heap.size + 1 < w2.heap.size := fcx
    clear qa10_1 qa11_1 qa12_1 qa13_1
    go_wp2
    go_ret
    exact ⟨rfl, B2⟩
  obtain ⟨R0, hS, hI⟩ := samePipe_both d0 d1 (by omega) (by omega)
  have HS := Lib.hid hS; have HI := Lib.hid hI; clear hS hI
  go_enter Try.func3, Try.ntmps3
  go_wp2_with fail
  refine (szPipe_ok _ d0 _ _ (by exact rd_below H0.out belx) (by omega) (by omega) (by omega)).mono ?_
  rintro e w1 ⟨rfl, b1⟩
  have B1 : Below w.heap.size w w1 := Below.trans belx (b1.mono fcx)
  have z1 : w.heap.size + 2 ≤ w1.heap.size := by have := b1.size; (try simp only [World.size_alloc, World.size_drew] at this ⊢) <;> omega
  have qa00_1 : w1.cell? ⟨w.heap.size, 0, none⟩ = some (.slice ap0_0 an0_0 aq0_0) := (b1.cell (p := ⟨w.heap.size, 0, none⟩) fcx).trans (by simp)
  have qa01_1 : w1.cell? ⟨w.heap.size, 1, none⟩ = some (.slice ap0_1 an0_1 aq0_1) := (b1.cell (p := ⟨w.heap.size, 1, none⟩) fcx).trans (by simp)
  have qa02_1 : w1.cell? ⟨w.heap.size, 2, none⟩ = some (.slice ap0_2 an0_2 aq0_2) := (b1.cell (p := ⟨w.heap.size, 2, none⟩) fcx).trans (by simp)
  have qa03_1 : w1.cell? ⟨w.heap.size, 3, none⟩ = some (.slice ap0_3 an0_3 aq0_3) := (b1.cell (p := ⟨w.heap.size, 3, none⟩) fcx).trans (by simp)
  have zba0_1 : w.heap.size < w1.heap.size := fcx
  have qa10_1 : w1.cell? ⟨w.heap.size + 1, 0, none⟩ = some (.slice ap1_0 an1_0 aq1_0) := (b1.cell (p := ⟨w.heap.size + 1, 0, none⟩) fcx).trans (by simp)
  have qa11_1 : w1.cell? ⟨w.heap.size + 1, 1, none⟩ = some (.slice ap1_1 an1_1 aq1_1) := (b1.cell (p := ⟨w.heap.size + 1, 1, none⟩) fcx).trans (by simp)
  have qa12_1 : w1.cell? ⟨w.heap.size + 1, 2, none⟩ = some (.slice ap1_2 an1_2 aq1_2) := (b1.cell (p := ⟨w.heap.size + 1, 2, none⟩) fcx).trans (by simp)
  have qa13_1 : w1.cell? ⟨w.heap.size + 1, 3, none⟩ = some (.slice ap1_3 an1_3 aq1_3) := (b1.cell (p := ⟨w.heap.size + 1, 3, none⟩) fcx).trans (by simp)
  have zba1_1 : w.heap.size + 1 < w1.heap.size := fcx
  obtain ⟨lf0, hlf0⟩ : ∃ z : Int, z = (1048576 : Int) - (szT tPipe d0 : Nat) := ⟨_, rfl⟩
  rw [← hlf0]
  have hnl0 : ¬ (lf0 < 0) := by omega
  have hnm0 : lf0 ≤ 1048576 := by omega
  have HLF0 := Lib.hid hlf0; have hle0 := Int.le_of_eq hlf0; have hge0 := Int.le_of_eq hlf0.symm; clear hlf0
  go_wp2_with fail
  refine (szPipe_ok _ d1 _ _ (by exact rd_below H1.out B1) (by omega) (by omega) (by omega)).mono ?_
  rintro e w2 ⟨rfl, b2⟩
  have B2 : Below w.heap.size w w2 := Below.trans B1 (b2.mono fcx)
  have z2 : w1.heap.size + 0 ≤ w2.heap.size := by have := b2.size; (try simp only [World.size_alloc, World.size_drew] at this ⊢) <;> omega
  have qa00_2 : w2.cell? ⟨w.heap.size, 0, none⟩ = some (.slice ap0_0 an0_0 aq0_0) := (b2.cell (p := ⟨w.heap.size, 0, none⟩) fcx).trans qa00_1
  have qa01_2 : w2.cell? ⟨w.heap.size, 1, none⟩ = some (.slice ap0_1 an0_1 aq0_1) := (b2.cell (p := ⟨w.heap.size, 1, none⟩) fcx).trans qa01_1
  have qa02_2 : w2.cell? ⟨w.heap.size, 2, none⟩ = some (.slice ap0_2 an0_2 aq0_2) := (b2.cell (p := ⟨w.heap.size, 2, none⟩) fcx).trans qa02_1
  have qa03_2 : w2.cell? ⟨w.heap.size, 3, none⟩ = some (.slice ap0_3 an0_3 aq0_3) := (b2.cell (p := ⟨w.heap.size, 3, none⟩) fcx).trans qa03_1
  have zba0_2 : w.heap.size < w2.heap.size := fcx
  clear qa00_1 qa01_1 qa02_1 qa03_1
  have qa10_2 : w2.cell? ⟨w.heap.size + 1, 0, none⟩ = some (.slice ap1_0 an1_0 aq1_0) := (b2.cell (p := ⟨w.heap.size + 1, 0, none⟩) fcx).trans qa10_1
  have qa11_2 : w2.cell? ⟨w.heap.size + 1, 1, none⟩ = some (.slice ap1_1 an1_1 aq1_1) := (b2.cell (p := ⟨w.heap.size + 1, 1, none⟩) fcx).trans qa11_1
  have qa12_2 : w2.cell? ⟨w.heap.size + 1, 2, none⟩ = some (.slice ap1_2 an1_2 aq1_2) := (b2.cell (p := ⟨w.heap.size + 1, 2, none⟩) fcx).trans qa12_1
  have qa13_2 : w2.cell? ⟨w.heap.size + 1, 3, none⟩ = some (.slice ap1_3 an1_3 aq1_3) := (b2.cell (p := ⟨w.heap.size + 1, 3, none⟩) fcx).trans qa13_1
  have zba1_2 : w.heap.size + 1 < w2.heap.size := fcx
  clear qa10_1 qa11_1 qa12_1 qa13_1
  obtain ⟨lf1, hlf1⟩ : ∃ z : Int, z = lf0 - (szT tPipe d1 : Nat) := ⟨_, rfl⟩
  rw [← hlf1]
  have hnl1 : ¬ (lf1 < 0) := by omega
  have hnm1 : lf1 ≤ 1048576 := by omega
  have HLF1 := Lib.hid hlf1; have hle1 := Int.le_of_eq hlf1; have hge1 := Int.le_of_eq hlf1.symm; clear hlf1
  go_wp2_with fail
  go_region_held3 (fun w' => w'.cell? ⟨w.heap.size, 0, none⟩ = some (.slice ap0_0 an0_0 aq0_0) ∧ w'.cell? ⟨w.heap.size, 1, none⟩ = some (.slice ap0_1 an0_1 aq0_1) ∧ w'.cell? ⟨w.heap.size, 2, none⟩ = some (.slice ap0_2 an0_2 aq0_2) ∧ w'.cell? ⟨w.heap.size, 3, none⟩ = some (.slice ap0_3 an0_3 aq0_3) ∧ w'.cell? ⟨w.heap.size + 1, 0, none⟩ = some (.slice ap1_0 an1_0 aq1_0) ∧ w'.cell? ⟨w.heap.size + 1, 1, none⟩ = some (.slice ap1_1 an1_1 aq1_1) ∧ w'.cell? ⟨w.heap.size + 1, 2, none⟩ = some (.slice ap1_2 an1_2 aq1_2) ∧ w'.cell? ⟨w.heap.size + 1, 3, none⟩ = some (.slice ap1_3 an1_3 aq1_3)) (first | go_keep | ((try dsimp only); (repeat' apply And.intro) <;> (first | go_keep | (refine ((Below.cell b5 ?_).trans ((Below.cell b4 ?_).trans ((Below.cell b3 ?_).trans ?_))) <;> first | assumption | omega | (simp; omega) | (simp; assumption)) | (refine ((Below.cell b4 ?_).trans ((Below.cell b3 ?_).trans ?_)) <;> first | assumption | omega | (simp; omega) | (simp; assumption)) | (refine ((Below.cell b3 ?_).trans ?_) <;> first | assumption | omega | (simp; omega) | (simp; assumption))))) ((first | (go_at_call 8; refine (toPipe_any _ d0 _ (by exact rd_below H0.out belx) (by omega)).mono ?_; rintro e w3 ⟨tcs0, rfl, tf0, b3⟩; have B3 : Below w.heap.size w w3 := Below.trans belx (b3.mono fcx); have z3 : w2.heap.size ≤ w3.heap.size := by have := b3.size; (try simp only [World.size_alloc, World.size_drew] at this ⊢) <;> omega) | (go_at_call 8; refine (toPipe_any _ d1 _ (by exact rd_below H1.out B3) (by omega)).mono ?_; rintro e w4 ⟨tcs1, rfl, tf1, b4⟩; have B4 : Below w.heap.size w w4 := B3.trans (b4.mono fcx); have z4 := b4.size) | (go_at_call 7; refine (HS.out _ _ _ (by exact (tf0.below b4 (Nat.le_refl _)).rd) (by exact tf1.rd)).mono ?_; rintro e w5 ⟨rfl, b5⟩; have B5 : Below w.heap.size w w5 := B4.trans (b5.mono fcx); have z5 := b5.size)))
  have hS := ‹_ ∧ _›
  obtain ⟨qa00_5, qa01_5, qa02_5, qa03_5, qa10_5, qa11_5, qa12_5, qa13_5⟩ := hS
  have zba0_5 : w.heap.size < w5.heap.size := fcx
  have zba1_5 : w.heap.size + 1 < w5.heap.size := fcx
  go_wp2_with fail
  refine (toPipe_any _ d0 _ (by exact rd_below H0.out B5) (by omega)).mono ?_
  rintro e w6 ⟨xcs0, rfl, xf0, b6⟩
  have B6 : Below w.heap.size w w6 := Below.trans B5 (b6.mono fcx)
  have z6 : w5.heap.size + 0 ≤ w6.heap.size := by have := b6.size; (try simp only [World.size_alloc, World.size_drew] at this ⊢) <;> omega
  have qa00_6 : w6.cell? ⟨w.heap.size, 0, none⟩ = some (.slice ap0_0 an0_0 aq0_0) := (b6.cell (p := ⟨w.heap.size, 0, none⟩) fcx).trans qa00_5
  have qa01_6 : w6.cell? ⟨w.heap.size, 1, none⟩ = some (.slice ap0_1 an0_1 aq0_1) := (b6.cell (p := ⟨w.heap.size, 1, none⟩) fcx).trans qa01_5
  have qa02_6 : w6.cell? ⟨w.heap.size, 2, none⟩ = some (.slice ap0_2 an0_2 aq0_2) := (b6.cell (p := ⟨w.heap.size, 2, none⟩) fcx).trans qa02_5
  have qa03_6 : w6.cell? ⟨w.heap.size, 3, none⟩ = some (.slice ap0_3 an0_3 aq0_3) := (b6.cell (p := ⟨w.heap.size, 3, none⟩) fcx).trans qa03_5
  have zba0_6 : w.heap.size < w6.heap.size := fcx
  clear qa00_5 qa01_5 qa02_5 qa03_5
  have qa10_6 : w6.cell? ⟨w.heap.size + 1, 0, none⟩ = some (.slice ap1_0 an1_0 aq1_0) := (b6.cell (p := ⟨w.heap.size + 1, 0, none⟩) fcx).trans qa10_5
  have qa11_6 : w6.cell? ⟨w.heap.size + 1, 1, none⟩ = some (.slice ap1_1 an1_1 aq1_1) := (b6.cell (p := ⟨w.heap.size + 1, 1, none⟩) fcx).trans qa11_5
  have qa12_6 : w6.cell? ⟨w.heap.size + 1, 2, none⟩ = some (.slice ap1_2 an1_2 aq1_2) := (b6.cell (p := ⟨w.heap.size + 1, 2, none⟩) fcx).trans qa12_5
  have qa13_6 : w6.cell? ⟨w.heap.size + 1, 3, none⟩ = some (.slice ap1_3 an1_3 aq1_3) := (b6.cell (p := ⟨w.heap.size + 1, 3, none⟩) fcx).trans qa13_5
  have zba1_6 : w.heap.size + 1 < w6.heap.size := fcx
  clear qa10_5 qa11_5 qa12_5 qa13_5
  have rrx0d := xf0.rd
  obtain ⟨_, _, x0dhcs, ⟨x0dp0, x0dn0, x0dq0, rfl, x0ds0⟩, ⟨_, _, rfl, ⟨x0dp1, x0dn1, x0dq1, rfl, x0ds1⟩, ⟨_, _, rfl, ⟨x0dp2, x0dn2, x0dq2, rfl, x0ds2⟩, ⟨x0dp3, x0dn3, x0dq3, rfl, x0ds3⟩⟩⟩⟩ := rrx0d
  obtain rfl : xcs0 = #[.slice x0dp0 x0dn0 x0dq0, .slice x0dp1 x0dn1 x0dq1, .slice x0dp2 x0dn2 x0dq2, .slice x0dp3 x0dn3 x0dq3] := arr_of x0dhcs
  clear x0dhcs
  have Fx0_6 := Lib.hid xf0; clear xf0
  go_wp2_with fail
  refine (toPipe_any _ d1 _ (by exact rd_below H1.out belx) (by omega)).mono ?_
  rintro e w7 ⟨xcs1, rfl, xf1, b7⟩
  have B7 : Below w.heap.size w w7 := Below.trans belx (b7.mono fcx)
  have z7 : w6.heap.size + 1 ≤ w7.heap.size := by have := b7.size; (try simp only [World.size_alloc, World.size_drew] at this ⊢) <;> omega
  have qa00_7 : w7.cell? ⟨w.heap.size, 0, none⟩ = some (.slice ap0_0 an0_0 aq0_0) := (b7.cell (p := ⟨w.heap.size, 0, none⟩) fcx).trans ((alloc_cell (a := ⟨w.heap.size, 0, none⟩) fcx).trans qa00_6)
  have qa01_7 : w7.cell? ⟨w.heap.size, 1, none⟩ = some (.slice ap0_1 an0_1 aq0_1) := (b7.cell (p := ⟨w.heap.size, 1, none⟩) fcx).trans ((alloc_cell (a := ⟨w.heap.size, 1, none⟩) fcx).trans qa01_6)
  have qa02_7 : w7.cell? ⟨w.heap.size, 2, none⟩ = some (.slice ap0_2 an0_2 aq0_2) := (b7.cell (p := ⟨w.heap.size, 2, none⟩) fcx).trans ((alloc_cell (a := ⟨w.heap.size, 2, none⟩) fcx).trans qa02_6)
  have qa03_7 : w7.cell? ⟨w.heap.size, 3, none⟩ = some (.slice ap0_3 an0_3 aq0_3) := (b7.cell (p := ⟨w.heap.size, 3, none⟩) fcx).trans ((alloc_cell (a := ⟨w.heap.size, 3, none⟩) fcx).trans qa03_6)
  have zba0_7 : w.heap.size < w7.heap.size := fcx
  clear qa00_6 qa01_6 qa02_6 qa03_6
  have qa10_7 : w7.cell? ⟨w.heap.size + 1, 0, none⟩ = some (.slice ap1_0 an1_0 aq1_0) := (b7.cell (p := ⟨w.heap.size + 1, 0, none⟩) fcx).trans ((alloc_cell (a := ⟨w.heap.size + 1, 0, none⟩) fcx).trans qa10_6)
  have qa11_7 : w7.cell? ⟨w.heap.size + 1, 1, none⟩ = some (.slice ap1_1 an1_1 aq1_1) := (b7.cell (p := ⟨w.heap.size + 1, 1, none⟩) fcx).trans ((alloc_cell (a := ⟨w.heap.size + 1, 1, none⟩) fcx).trans qa11_6)
  have qa12_7 : w7.cell? ⟨w.heap.size + 1, 2, none⟩ = some (.slice ap1_2 an1_2 aq1_2) := (b7.cell (p := ⟨w.heap.size + 1, 2, none⟩) fcx).trans ((alloc_cell (a := ⟨w.heap.size + 1, 2, none⟩) fcx).trans qa12_6)
  have qa13_7 : w7.cell? ⟨w.heap.size + 1, 3, none⟩ = some (.slice ap1_3 an1_3 aq1_3) := (b7.cell (p := ⟨w.heap.size + 1, 3, none⟩) fcx).trans ((alloc_cell (a := ⟨w.heap.size + 1, 3, none⟩) fcx).trans qa13_6)
  have zba1_7 : w.heap.size + 1 < w7.heap.size := fcx
  clear qa10_6 qa11_6 qa12_6 qa13_6
  have qx00_7 : w7.cell? ⟨w6.heap.size, 0, none⟩ = some (.slice x0dp0 x0dn0 x0dq0) := (b7.cell (p := ⟨w6.heap.size, 0, none⟩) fcx).trans (by simp)
  have qx01_7 : w7.cell? ⟨w6.heap.size, 1, none⟩ = some (.slice x0dp1 x0dn1 x0dq1) := (b7.cell (p := ⟨w6.heap.size, 1, none⟩) fcx).trans (by simp)
  have qx02_7 : w7.cell? ⟨w6.heap.size, 2, none⟩ = some (.slice x0dp2 x0dn2 x0dq2) := (b7.cell (p := ⟨w6.heap.size, 2, none⟩) fcx).trans (by simp)
  have qx03_7 : w7.cell? ⟨w6.heap.size, 3, none⟩ = some (.slice x0dp3 x0dn3 x0dq3) := (b7.cell (p := ⟨w6.heap.size, 3, none⟩) fcx).trans (by simp)
  have zbx0_7 : w6.heap.size < w7.heap.size := fcx
  have Fx0_7 := Lib.hid ((Fx0_6.out.alloc _).below b7 fcx)
  clear Fx0_6
  have rrx1d := xf1.rd
  obtain ⟨_, _, x1dhcs, ⟨x1dp0, x1dn0, x1dq0, rfl, x1ds0⟩, ⟨_, _, rfl, ⟨x1dp1, x1dn1, x1dq1, rfl, x1ds1⟩, ⟨_, _, rfl, ⟨x1dp2, x1dn2, x1dq2, rfl, x1ds2⟩, ⟨x1dp3, x1dn3, x1dq3, rfl, x1ds3⟩⟩⟩⟩ := rrx1d
  obtain rfl : xcs1 = #[.slice x1dp0 x1dn0 x1dq0, .slice x1dp1 x1dn1 x1dq1, .slice x1dp2 x1dn2 x1dq2, .slice x1dp3 x1dn3 x1dq3] := arr_of x1dhcs
  clear x1dhcs
  have Fx1_7 := Lib.hid xf1; clear xf1
  go_wp2_with fail
  refine (HI.out _ _ _ (by exact ((Fx0_7.out.alloc _)).rd) (by exact ((Fx1_7.out.alloc _)).rd)).mono ?_
  rintro e w8 ⟨rfl, b8⟩
  have B8 : Below w.heap.size w w8 := Below.trans belx (b8.mono fcx)
  have z8 : w7.heap.size + 1 ≤ w8.heap.size := by have := b8.size; (try simp only [World.size_alloc, World.size_drew] at this ⊢) <;> omega
  have qa00_8 : w8.cell? ⟨w.heap.size, 0, none⟩ = some (.slice ap0_0 an0_0 aq0_0) := (b8.cell (p := ⟨w.heap.size, 0, none⟩) fcx).trans ((alloc_cell (a := ⟨w.heap.size, 0, none⟩) fcx).trans qa00_7)
  have qa01_8 : w8.cell? ⟨w.heap.size, 1, none⟩ = some (.slice ap0_1 an0_1 aq0_1) := (b8.cell (p := ⟨w.heap.size, 1, none⟩) fcx).trans ((alloc_cell (a := ⟨w.heap.size, 1, none⟩) fcx).trans qa01_7)
  have qa02_8 : w8.cell? ⟨w.heap.size, 2, none⟩ = some (.slice ap0_2 an0_2 aq0_2) := (b8.cell (p := ⟨w.heap.size, 2, none⟩) fcx).trans ((alloc_cell (a := ⟨w.heap.size, 2, none⟩) fcx).trans qa02_7)
  have qa03_8 : w8.cell? ⟨w.heap.size, 3, none⟩ = some (.slice ap0_3 an0_3 aq0_3) := (b8.cell (p := ⟨w.heap.size, 3, none⟩) fcx).trans ((alloc_cell (a := ⟨w.heap.size, 3, none⟩) fcx).trans qa03_7)
  have zba0_8 : w.heap.size < w8.heap.size := fcx
  clear qa00_7 qa01_7 qa02_7 qa03_7
  have qa10_8 : w8.cell? ⟨w.heap.size + 1, 0, none⟩ = some (.slice ap1_0 an1_0 aq1_0) := (b8.cell (p := ⟨w.heap.size + 1, 0, none⟩) fcx).trans ((alloc_cell (a := ⟨w.heap.size + 1, 0, none⟩) fcx).trans qa10_7)
  have qa11_8 : w8.cell? ⟨w.heap.size + 1, 1, none⟩ = some (.slice ap1_1 an1_1 aq1_1) := (b8.cell (p := ⟨w.heap.size + 1, 1, none⟩) fcx).trans ((alloc_cell (a := ⟨w.heap.size + 1, 1, none⟩) fcx).trans qa11_7)
  have qa12_8 : w8.cell? ⟨w.heap.size + 1, 2, none⟩ = some (.slice ap1_2 an1_2 aq1_2) := (b8.cell (p := ⟨w.heap.size + 1, 2, none⟩) fcx).trans ((alloc_cell (a := ⟨w.heap.size + 1, 2, none⟩) fcx).trans qa12_7)
  have qa13_8 : w8.cell? ⟨w.heap.size + 1, 3, none⟩ = some (.slice ap1_3 an1_3 aq1_3) := (b8.cell (p := ⟨w.heap.size + 1, 3, none⟩) fcx).trans ((alloc_cell (a := ⟨w.heap.size + 1, 3, none⟩) fcx).trans qa13_7)
  have zba1_8 : w.heap.size + 1 < w8.heap.size := fcx
  clear qa10_7 qa11_7 qa12_7 qa13_7
  have qx00_8 : w8.cell? ⟨w6.heap.size, 0, none⟩ = some (.slice x0dp0 x0dn0 x0dq0) := (b8.cell (p := ⟨w6.heap.size, 0, none⟩) fcx).trans ((alloc_cell (a := ⟨w6.heap.size, 0, none⟩) fcx).trans qx00_7)
  have qx01_8 : w8.cell? ⟨w6.heap.size, 1, none⟩ = some (.slice x0dp1 x0dn1 x0dq1) := (b8.cell (p := ⟨w6.heap.size, 1, none⟩) fcx).trans ((alloc_cell (a := ⟨w6.heap.size, 1, none⟩) fcx).trans qx01_7)
  have qx02_8 : w8.cell? ⟨w6.heap.size, 2, none⟩ = some (.slice x0dp2 x0dn2 x0dq2) := (b8.cell (p := ⟨w6.heap.size, 2, none⟩) fcx).trans ((alloc_cell (a := ⟨w6.heap.size, 2, none⟩) fcx).trans qx02_7)
  have qx03_8 : w8.cell? ⟨w6.heap.size, 3, none⟩ = some (.slice x0dp3 x0dn3 x0dq3) := (b8.cell (p := ⟨w6.heap.size, 3, none⟩) fcx).trans ((alloc_cell (a := ⟨w6.heap.size, 3, none⟩) fcx).trans qx03_7)
  have zbx0_8 : w6.heap.size < w8.heap.size := fcx
  clear qx00_7 qx01_7 qx02_7 qx03_7
  have qx10_8 : w8.cell? ⟨w7.heap.size, 0, none⟩ = some (.slice x1dp0 x1dn0 x1dq0) := (b8.cell (p := ⟨w7.heap.size, 0, none⟩) fcx).trans (by simp)
  have qx11_8 : w8.cell? ⟨w7.heap.size, 1, none⟩ = some (.slice x1dp1 x1dn1 x1dq1) := (b8.cell (p := ⟨w7.heap.size, 1, none⟩) fcx).trans (by simp)
  have qx12_8 : w8.cell? ⟨w7.heap.size, 2, none⟩ = some (.slice x1dp2 x1dn2 x1dq2) := (b8.cell (p := ⟨w7.heap.size, 2, none⟩) fcx).trans (by simp)
  have qx13_8 : w8.cell? ⟨w7.heap.size, 3, none⟩ = some (.slice x1dp3 x1dn3 x1dq3) := (b8.cell (p := ⟨w7.heap.size, 3, none⟩) fcx).trans (by simp)
  have zbx1_8 : w7.heap.size < w8.heap.size := fcx
  have Fx0_8 := Lib.hid ((Fx0_7.out.alloc _).below b8 fcx)
  clear Fx0_7
  have Fx1_8 := Lib.hid ((Fx1_7.out.alloc _).below b8 fcx)
  clear Fx1_7
  go_wp2_with fail
  go_region_held3 (fun w' => w'.cell? ⟨w.heap.size, 0, none⟩ = some (.slice ap0_0 an0_0 aq0_0) ∧ w'.cell? ⟨w.heap.size, 1, none⟩ = some (.slice ap0_1 an0_1 aq0_1) ∧ w'.cell? ⟨w.heap.size, 2, none⟩ = some (.slice ap0_2 an0_2 aq0_2) ∧ w'.cell? ⟨w.heap.size, 3, none⟩ = some (.slice ap0_3 an0_3 aq0_3) ∧ w'.cell? ⟨w.heap.size + 1, 0, none⟩ = some (.slice ap1_0 an1_0 aq1_0) ∧ w'.cell? ⟨w.heap.size + 1, 1, none⟩ = some (.slice ap1_1 an1_1 aq1_1) ∧ w'.cell? ⟨w.heap.size + 1, 2, none⟩ = some (.slice ap1_2 an1_2 aq1_2) ∧ w'.cell? ⟨w.heap.size + 1, 3, none⟩ = some (.slice ap1_3 an1_3 aq1_3) ∧ w'.cell? ⟨w6.heap.size, 0, none⟩ = some (.slice x0dp0 x0dn0 x0dq0) ∧ w'.cell? ⟨w6.heap.size, 1, none⟩ = some (.slice x0dp1 x0dn1 x0dq1) ∧ w'.cell? ⟨w6.heap.size, 2, none⟩ = some (.slice x0dp2 x0dn2 x0dq2) ∧ w'.cell? ⟨w6.heap.size, 3, none⟩ = some (.slice x0dp3 x0dn3 x0dq3) ∧ w'.cell? ⟨w7.heap.size, 0, none⟩ = some (.slice x1dp0 x1dn0 x1dq0) ∧ w'.cell? ⟨w7.heap.size, 1, none⟩ = some (.slice x1dp1 x1dn1 x1dq1) ∧ w'.cell? ⟨w7.heap.size, 2, none⟩ = some (.slice x1dp2 x1dn2 x1dq2) ∧ w'.cell? ⟨w7.heap.size, 3, none⟩ = some (.slice x1dp3 x1dn3 x1dq3)) (first | go_keep | ((try dsimp only); (repeat' apply And.intro) <;> (first | go_keep | (refine ((Below.cell b10 ?_).trans ((Below.cell b9 ?_).trans ?_)) <;> first | assumption | omega | (simp; omega) | (simp; assumption)) | (refine ((Below.cell b9 ?_).trans ?_) <;> first | assumption | omega | (simp; omega) | (simp; assumption))))) ((first | (go_at_call 8; refine (toPipe_any _ d0 _ (by exact rd_below H0.out belx) (by omega)).mono ?_; rintro e w9 ⟨ycs0, rfl, yf0, b9⟩; have B9 : Below w.heap.size w w9 := Below.trans belx (b9.mono fcx); have z9 : w8.heap.size ≤ w9.heap.size := by have := b9.size; (try simp only [World.size_alloc, World.size_drew] at this ⊢) <;> omega) | (go_at_call 10; refine (eqPipe_any _ _ d0 _ (by exact ((Fx0_8.out.keep (w' := w8.drew) (fun _ _ _ => rfl) (Nat.le_refl _)).below b9 fcx).rd) (by exact yf0.rd)).mono ?_; rintro e w10 ⟨rfl, b10⟩; have B10 : Below w.heap.size w w10 := B9.trans (b10.mono fcx); have z10 := b10.size)))
  have hS := ‹_ ∧ _›
  obtain ⟨qa00_10, qa01_10, qa02_10, qa03_10, qa10_10, qa11_10, qa12_10, qa13_10, qx00_10, qx01_10, qx02_10, qx03_10, qx10_10, qx11_10, qx12_10, qx13_10⟩ := hS
  have zba0_10 : w.heap.size < w10.heap.size := fcx
  have zba1_10 : w.heap.size + 1 < w10.heap.size := fcx
  have zbx0_10 : w6.heap.size < w10.heap.size := fcx
  have zbx1_10 : w7.heap.size < w10.heap.size := fcx
  have Fx0_10 := Lib.hid (((Fx0_8.out.keep (w' := w8.drew) (fun _ _ _ => rfl) (Nat.le_refl _)).below b9 fcx).below b10 fcx)
  clear Fx0_8
  have Fx1_10 := Lib.hid (((Fx1_8.out.keep (w' := w8.drew) (fun _ _ _ => rfl) (Nat.le_refl _)).below b9 fcx).below b10 fcx)
  clear Fx1_8
  go_wp2_with fail
  go_region_held3 (fun w' => w'.cell? ⟨w.heap.size, 0, none⟩ = some (.slice ap0_0 an0_0 aq0_0) ∧ w'.cell? ⟨w.heap.size, 1, none⟩ = some (.slice ap0_1 an0_1 aq0_1) ∧ w'.cell? ⟨w.heap.size, 2, none⟩ = some (.slice ap0_2 an0_2 aq0_2) ∧ w'.cell? ⟨w.heap.size, 3, none⟩ = some (.slice ap0_3 an0_3 aq0_3) ∧ w'.cell? ⟨w.heap.size + 1, 0, none⟩ = some (.slice ap1_0 an1_0 aq1_0) ∧ w'.cell? ⟨w.heap.size + 1, 1, none⟩ = some (.slice ap1_1 an1_1 aq1_1) ∧ w'.cell? ⟨w.heap.size + 1, 2, none⟩ = some (.slice ap1_2 an1_2 aq1_2) ∧ w'.cell? ⟨w.heap.size + 1, 3, none⟩ = some (.slice ap1_3 an1_3 aq1_3) ∧ w'.cell? ⟨w6.heap.size, 0, none⟩ = some (.slice x0dp0 x0dn0 x0dq0) ∧ w'.cell? ⟨w6.heap.size, 1, none⟩ = some (.slice x0dp1 x0dn1 x0dq1) ∧ w'.cell? ⟨w6.heap.size, 2, none⟩ = some (.slice x0dp2 x0dn2 x0dq2) ∧ w'.cell? ⟨w6.heap.size, 3, none⟩ = some (.slice x0dp3 x0dn3 x0dq3) ∧ w'.cell? ⟨w7.heap.size, 0, none⟩ = some (.slice x1dp0 x1dn0 x1dq0) ∧ w'.cell? ⟨w7.heap.size, 1, none⟩ = some (.slice x1dp1 x1dn1 x1dq1) ∧ w'.cell? ⟨w7.heap.size, 2, none⟩ = some (.slice x1dp2 x1dn2 x1dq2) ∧ w'.cell? ⟨w7.heap.size, 3, none⟩ = some (.slice x1dp3 x1dn3 x1dq3)) (first | go_keep | ((try dsimp only); (repeat' apply And.intro) <;> (first | go_keep | (refine ((Below.cell b12 ?_).trans ((Below.cell b11 ?_).trans ?_)) <;> first | assumption | omega | (simp; omega) | (simp; assumption)) | (refine ((Below.cell b11 ?_).trans ?_) <;> first | assumption | omega | (simp; omega) | (simp; assumption))))) ((first | (go_at_call 8; refine (toPipe_any _ d1 _ (by exact rd_below H1.out belx) (by omega)).mono ?_; rintro e w11 ⟨ycs1, rfl, yf1, b11⟩; have B11 : Below w.heap.size w w11 := Below.trans belx (b11.mono fcx); have z11 : w10.heap.size ≤ w11.heap.size := by have := b11.size; (try simp only [World.size_alloc, World.size_drew] at this ⊢) <;> omega) | (go_at_call 10; refine (eqPipe_any _ _ d1 _ (by exact ((Fx1_10.out.keep (w' := w10.drew) (fun _ _ _ => rfl) (Nat.le_refl _)).below b11 fcx).rd) (by exact yf1.rd)).mono ?_; rintro e w12 ⟨rfl, b12⟩; have B12 : Below w.heap.size w w12 := B11.trans (b12.mono fcx); have z12 := b12.size)))
  have hS := ‹_ ∧ _›
  obtain ⟨qa00_12, qa01_12, qa02_12, qa03_12, qa10_12, qa11_12, qa12_12, qa13_12, qx00_12, qx01_12, qx02_12, qx03_12, qx10_12, qx11_12, qx12_12, qx13_12⟩ := hS
  have zba0_12 : w.heap.size < w12.heap.size := fcx
  have zba1_12 : w.heap.size + 1 < w12.heap.size := fcx
  have zbx0_12 : w6.heap.size < w12.heap.size := fcx
  have zbx1_12 : w7.heap.size < w12.heap.size := fcx
  have Fx0_12 := Lib.hid (((Fx0_10.out.keep (w' := w10.drew) (fun _ _ _ => rfl) (Nat.le_refl _)).below b11 fcx).below b12 fcx)
  clear Fx0_10
  have Fx1_12 := Lib.hid (((Fx1_10.out.keep (w' := w10.drew) (fun _ _ _ => rfl) (Nat.le_refl _)).below b11 fcx).below b12 fcx)
  clear Fx1_10
  go_wp2
  go_ret
  exact ⟨rfl, B12⟩
end Go.Proofs.Ytbbbpbioehnblaa
