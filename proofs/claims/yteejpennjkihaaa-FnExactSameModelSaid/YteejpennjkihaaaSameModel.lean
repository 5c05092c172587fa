/- The walk of FnExactSameModel. -/
import Derived.Test.YteejpennjkihaaaSame
import Derived.Deep.RegionHeld3
namespace Go.Proofs.Yteejpennjkihaaa
open Go.ChangeShapes Go.WideShapes Go.ChangeAt Go.RowKit
set_option linter.unusedVariables false
set_option linter.unusedSimpArgs false

theorem sameModel_both (a b : tModel.D) (h1 : (szT tModel a : Int) ≤ 1048576) (h2 : (szT tModel b : Int) ≤ 1048576) :
    ∃ R : Bool, (∀ ca cb w, rd tModel w ca.toList a → rd tModel w cb.toList b → Calls Try.prog 52 #[.agg ca, .agg cb] w (RetV (.bool R) w)) ∧
        (∀ ca cb w, rd tModel w ca.toList a → rd tModel w cb.toList b → Calls Try.prog 54 #[.agg ca, .agg cb] w (RetV (.bool R) w)) :=
  ⟨_, fun ca cb w h h' => specSameModel_any ca cb a b w h h', fun ca cb w h h' => implSameModel_any ca cb a b w h h'⟩

set_option maxRecDepth 100000 in
set_option maxHeartbeats 4000000 in
theorem fnExactSameModel_walk (w : World) (cs0 : Array Value) (d0 : Ty.D tModel) (h0 : rd tModel w cs0.toList d0) (cs1 : Array Value) (d1 : Ty.D tModel) (h1 : rd tModel w cs1.toList d1) :
    Calls Try.prog 11 #[.agg cs0, .agg cs1] w fun e w' => e = .returned (.bool true) ∧ Below w.heap.size w w' := by
  obtain ⟨ap0_0, an0_0, aq0_0, rfl⟩ : ∃ ap0_0 an0_0 aq0_0, cs0 = #[.slice ap0_0 an0_0 aq0_0] := by
    obtain ⟨kp0, kn0, kq0, khcs, ks0⟩ := h0
    exact ⟨kp0, kn0, kq0, arr_of khcs⟩
  have H0 := Lib.hid h0; clear h0
  obtain ⟨ap1_0, an1_0, aq1_0, rfl⟩ : ∃ ap1_0 an1_0 aq1_0, cs1 = #[.slice ap1_0 an1_0 aq1_0] := by
    obtain ⟨kp0, kn0, kq0, khcs, ks0⟩ := h1
    exact ⟨kp0, kn0, kq0, arr_of khcs⟩
  have H1 := Lib.hid h1; clear h1
  by_cases hz0 : ((szT tModel d0 : Nat) : Int) ≤ (1048576 : Int)
  rotate_left
  · skip
    go_enter Try.func11, Try.ntmps11
    go_wp2_with fail
    refine (szModel_no _ d0 _ _ (by exact rd_below H0.out (by (repeat' refine Below.alloc ?_ (by first | omega | (simp [World.setCell]; done) | (simp [World.setCell]; omega)) _); exact (Below.refl _ _))) (by omega) (by omega) (by omega)).mono ?_
    rintro e w1 ⟨rfl, b1⟩
    have B1 : Below w.heap.size w w1 := Below.trans (by (repeat' refine Below.alloc ?_ (by first | omega | (simp [World.setCell]; done) | (simp [World.setCell]; omega)) _); exact (Below.refl _ _)) (b1.mono (by first | omega | (simp [World.setCell]; done) | (simp [World.setCell]; omega)))
    have z1 : w.heap.size + 2 ≤ w1.heap.size := by have := b1.size; (try simp at this); omega
    have qa00_1 : w1.cell? ⟨w.heap.size, 0, none⟩ = some (.slice ap0_0 an0_0 aq0_0) := (b1.cell (p := ⟨w.heap.size, 0, none⟩) (by first | omega | (simp [World.setCell]; done) | (simp [World.setCell]; omega))).trans (by simp)
    have zba0_1 : w.heap.size < w1.heap.size := (by first | omega | (simp [World.setCell]; done) | (simp [World.setCell]; omega))
    have qa10_1 : w1.cell? ⟨w.heap.size + 1, 0, none⟩ = some (.slice ap1_0 an1_0 aq1_0) := (b1.cell (p := ⟨w.heap.size + 1, 0, none⟩) (by first | omega | (simp [World.setCell]; done) | (simp [World.setCell]; omega))).trans (by simp)
    have zba1_1 : w.heap.size + 1 < w1.heap.size := (by first | omega | (simp [World.setCell]; done) | (simp [World.setCell]; omega))
    go_wp2
    go_ret
    exact ⟨rfl, B1⟩
  by_cases hz1 : ((szT tModel d1 : Nat) : Int) ≤ (1048576 : Int) - (szT tModel d0 : Nat)
  rotate_left
  · skip
    go_enter Try.func11, Try.ntmps11
    go_wp2_with fail
    refine (szModel_ok _ d0 _ _ (by exact rd_below H0.out (by (repeat' refine Below.alloc ?_ (by first | omega | (simp [World.setCell]; done) | (simp [World.setCell]; omega)) _); exact (Below.refl _ _))) (by omega) (by omega) (by omega)).mono ?_
    rintro e w1 ⟨rfl, b1⟩
    have B1 : Below w.heap.size w w1 := Below.trans (by (repeat' refine Below.alloc ?_ (by first | omega | (simp [World.setCell]; done) | (simp [World.setCell]; omega)) _); exact (Below.refl _ _)) (b1.mono (by first | omega | (simp [World.setCell]; done) | (simp [World.setCell]; omega)))
    have z1 : w.heap.size + 2 ≤ w1.heap.size := by have := b1.size; (try simp at this); omega
    have qa00_1 : w1.cell? ⟨w.heap.size, 0, none⟩ = some (.slice ap0_0 an0_0 aq0_0) := (b1.cell (p := ⟨w.heap.size, 0, none⟩) (by first | omega | (simp [World.setCell]; done) | (simp [World.setCell]; omega))).trans (by simp)
    have zba0_1 : w.heap.size < w1.heap.size := (by first | omega | (simp [World.setCell]; done) | (simp [World.setCell]; omega))
    have qa10_1 : w1.cell? ⟨w.heap.size + 1, 0, none⟩ = some (.slice ap1_0 an1_0 aq1_0) := (b1.cell (p := ⟨w.heap.size + 1, 0, none⟩) (by first | omega | (simp [World.setCell]; done) | (simp [World.setCell]; omega))).trans (by simp)
    have zba1_1 : w.heap.size + 1 < w1.heap.size := (by first | omega | (simp [World.setCell]; done) | (simp [World.setCell]; omega))
    obtain ⟨lf0, hlf0⟩ : ∃ z : Int, z = (1048576 : Int) - (szT tModel d0 : Nat) := ⟨_, rfl⟩
    rw [← hlf0]
    have hnl0 : ¬ (lf0 < 0) := by omega
    have hnm0 : lf0 ≤ 1048576 := by omega
    have HLF0 := Lib.hid hlf0; have hle0 := Int.le_of_eq hlf0; have hge0 := Int.le_of_eq hlf0.symm; clear hlf0
    go_wp2_with fail
    refine (szModel_no _ d1 _ _ (by exact rd_below H1.out B1) (by omega) (by omega) (by omega)).mono ?_
    rintro e w2 ⟨rfl, b2⟩
    have B2 : Below w.heap.size w w2 := Below.trans B1 (b2.mono (by first | omega | (simp [World.setCell]; done) | (simp [World.setCell]; omega)))
    have z2 : w1.heap.size + 0 ≤ w2.heap.size := by have := b2.size; (try simp at this); omega
    have qa00_2 : w2.cell? ⟨w.heap.size, 0, none⟩ = some (.slice ap0_0 an0_0 aq0_0) := (b2.cell (p := ⟨w.heap.size, 0, none⟩) (by first | omega | (simp [World.setCell]; done) | (simp [World.setCell]; omega))).trans qa00_1
    have zba0_2 : w.heap.size < w2.heap.size := (by first | omega | (simp [World.setCell]; done) | (simp [World.setCell]; omega))
    clear qa00_1
    have qa10_2 : w2.cell? ⟨w.heap.size + 1, 0, none⟩ = some (.slice ap1_0 an1_0 aq1_0) := (b2.cell (p := ⟨w.heap.size + 1, 0, none⟩) (by first | omega | (simp [World.setCell]; done) | (simp [World.setCell]; omega))).trans qa10_1
    have zba1_2 : w.heap.size + 1 < w2.heap.size := (by first | omega | (simp [World.setCell]; done) | (simp [World.setCell]; omega))
    clear qa10_1
    go_wp2
    go_ret
    exact ⟨rfl, B2⟩
  obtain ⟨R0, hS, hI⟩ := sameModel_both d0 d1 (by omega) (by omega)
  have HS := Lib.hid hS; have HI := Lib.hid hI; clear hS hI
  go_enter Try.func11, Try.ntmps11
  go_wp2_with fail
  refine (szModel_ok _ d0 _ _ (by exact rd_below H0.out (by (repeat' refine Below.alloc ?_ (by first | omega | (simp [World.setCell]; done) | (simp [World.setCell]; omega)) _); exact (Below.refl _ _))) (by omega) (by omega) (by omega)).mono ?_
  rintro e w1 ⟨rfl, b1⟩
  have B1 : Below w.heap.size w w1 := Below.trans (by (repeat' refine Below.alloc ?_ (by first | omega | (simp [World.setCell]; done) | (simp [World.setCell]; omega)) _); exact (Below.refl _ _)) (b1.mono (by first | omega | (simp [World.setCell]; done) | (simp [World.setCell]; omega)))
  have z1 : w.heap.size + 2 ≤ w1.heap.size := by have := b1.size; (try simp at this); omega
  have qa00_1 : w1.cell? ⟨w.heap.size, 0, none⟩ = some (.slice ap0_0 an0_0 aq0_0) := (b1.cell (p := ⟨w.heap.size, 0, none⟩) (by first | omega | (simp [World.setCell]; done) | (simp [World.setCell]; omega))).trans (by simp)
  have zba0_1 : w.heap.size < w1.heap.size := (by first | omega | (simp [World.setCell]; done) | (simp [World.setCell]; omega))
  have qa10_1 : w1.cell? ⟨w.heap.size + 1, 0, none⟩ = some (.slice ap1_0 an1_0 aq1_0) := (b1.cell (p := ⟨w.heap.size + 1, 0, none⟩) (by first | omega | (simp [World.setCell]; done) | (simp [World.setCell]; omega))).trans (by simp)
  have zba1_1 : w.heap.size + 1 < w1.heap.size := (by first | omega | (simp [World.setCell]; done) | (simp [World.setCell]; omega))
  obtain ⟨lf0, hlf0⟩ : ∃ z : Int, z = (1048576 : Int) - (szT tModel d0 : Nat) := ⟨_, rfl⟩
  rw [← hlf0]
  have hnl0 : ¬ (lf0 < 0) := by omega
  have hnm0 : lf0 ≤ 1048576 := by omega
  have HLF0 := Lib.hid hlf0; have hle0 := Int.le_of_eq hlf0; have hge0 := Int.le_of_eq hlf0.symm; clear hlf0
  go_wp2_with fail
  refine (szModel_ok _ d1 _ _ (by exact rd_below H1.out B1) (by omega) (by omega) (by omega)).mono ?_
  rintro e w2 ⟨rfl, b2⟩
  have B2 : Below w.heap.size w w2 := Below.trans B1 (b2.mono (by first | omega | (simp [World.setCell]; done) | (simp [World.setCell]; omega)))
  have z2 : w1.heap.size + 0 ≤ w2.heap.size := by have := b2.size; (try simp at this); omega
  have qa00_2 : w2.cell? ⟨w.heap.size, 0, none⟩ = some (.slice ap0_0 an0_0 aq0_0) := (b2.cell (p := ⟨w.heap.size, 0, none⟩) (by first | omega | (simp [World.setCell]; done) | (simp [World.setCell]; omega))).trans qa00_1
  have zba0_2 : w.heap.size < w2.heap.size := (by first | omega | (simp [World.setCell]; done) | (simp [World.setCell]; omega))
  clear qa00_1
  have qa10_2 : w2.cell? ⟨w.heap.size + 1, 0, none⟩ = some (.slice ap1_0 an1_0 aq1_0) := (b2.cell (p := ⟨w.heap.size + 1, 0, none⟩) (by first | omega | (simp [World.setCell]; done) | (simp [World.setCell]; omega))).trans qa10_1
  have zba1_2 : w.heap.size + 1 < w2.heap.size := (by first | omega | (simp [World.setCell]; done) | (simp [World.setCell]; omega))
  clear qa10_1
  obtain ⟨lf1, hlf1⟩ : ∃ z : Int, z = lf0 - (szT tModel d1 : Nat) := ⟨_, rfl⟩
  rw [← hlf1]
  have hnl1 : ¬ (lf1 < 0) := by omega
  have hnm1 : lf1 ≤ 1048576 := by omega
  have HLF1 := Lib.hid hlf1; have hle1 := Int.le_of_eq hlf1; have hge1 := Int.le_of_eq hlf1.symm; clear hlf1
  go_wp2_with fail
  go_region_held3 (fun w' => w'.cell? ⟨w.heap.size, 0, none⟩ = some (.slice ap0_0 an0_0 aq0_0) ∧ w'.cell? ⟨w.heap.size + 1, 0, none⟩ = some (.slice ap1_0 an1_0 aq1_0)) (first | go_keep | ((try dsimp only); (repeat' apply And.intro) <;> (first | go_keep | (refine ((Below.cell b5 ?_).trans ((Below.cell b4 ?_).trans ((Below.cell b3 ?_).trans ?_))) <;> first | assumption | omega | (simp; omega) | (simp; assumption)) | (refine ((Below.cell b4 ?_).trans ((Below.cell b3 ?_).trans ?_)) <;> first | assumption | omega | (simp; omega) | (simp; assumption)) | (refine ((Below.cell b3 ?_).trans ?_) <;> first | assumption | omega | (simp; omega) | (simp; assumption))))) ((first | (go_at_call 53; refine (toModel_any _ d0 _ (by exact rd_below H0.out (Below.drew B2)) (by omega)).mono ?_; rintro e w3 ⟨tcs0, rfl, tf0, b3⟩; have B3 : Below w.heap.size w w3 := Below.trans (Below.drew B2) (b3.mono (by first | omega | (simp [World.setCell]; done) | (simp [World.setCell]; omega))); have z3 : w2.heap.size ≤ w3.heap.size := by have := b3.size; (try simp at this); omega) | (go_at_call 53; refine (toModel_any _ d1 _ (by exact rd_below H1.out B3) (by omega)).mono ?_; rintro e w4 ⟨tcs1, rfl, tf1, b4⟩; have B4 : Below w.heap.size w w4 := B3.trans (b4.mono (by first | omega | (simp [World.setCell]; done) | (simp [World.setCell]; omega))); have z4 := b4.size) | (go_at_call 52; refine (HS.out _ _ _ (by exact (tf0.below b4 (Nat.le_refl _)).rd) (by exact tf1.rd)).mono ?_; rintro e w5 ⟨rfl, b5⟩; have B5 : Below w.heap.size w w5 := B4.trans (b5.mono (by first | omega | (simp [World.setCell]; done) | (simp [World.setCell]; omega))); have z5 := b5.size)))
  have hS := ‹_ ∧ _›
  obtain ⟨qa00_5, qa10_5⟩ := hS
  have zba0_5 : w.heap.size < w5.heap.size := (by first | omega | (simp [World.setCell]; done) | (simp [World.setCell]; omega))
  have zba1_5 : w.heap.size + 1 < w5.heap.size := (by first | omega | (simp [World.setCell]; done) | (simp [World.setCell]; omega))
  go_wp2_with fail
  refine (toModel_any _ d0 _ (by exact rd_below H0.out B5) (by omega)).mono ?_
  rintro e w6 ⟨xcs0, rfl, xf0, b6⟩
  have B6 : Below w.heap.size w w6 := Below.trans B5 (b6.mono (by first | omega | (simp [World.setCell]; done) | (simp [World.setCell]; omega)))
  have z6 : w5.heap.size + 0 ≤ w6.heap.size := by have := b6.size; (try simp at this); omega
  have qa00_6 : w6.cell? ⟨w.heap.size, 0, none⟩ = some (.slice ap0_0 an0_0 aq0_0) := (b6.cell (p := ⟨w.heap.size, 0, none⟩) (by first | omega | (simp [World.setCell]; done) | (simp [World.setCell]; omega))).trans qa00_5
  have zba0_6 : w.heap.size < w6.heap.size := (by first | omega | (simp [World.setCell]; done) | (simp [World.setCell]; omega))
  clear qa00_5
  have qa10_6 : w6.cell? ⟨w.heap.size + 1, 0, none⟩ = some (.slice ap1_0 an1_0 aq1_0) := (b6.cell (p := ⟨w.heap.size + 1, 0, none⟩) (by first | omega | (simp [World.setCell]; done) | (simp [World.setCell]; omega))).trans qa10_5
  have zba1_6 : w.heap.size + 1 < w6.heap.size := (by first | omega | (simp [World.setCell]; done) | (simp [World.setCell]; omega))
  clear qa10_5
  have rrx0d := xf0.rd
  obtain ⟨x0dp0, x0dn0, x0dq0, x0dhcs, x0ds0⟩ := rrx0d
  obtain rfl : xcs0 = #[.slice x0dp0 x0dn0 x0dq0] := arr_of x0dhcs
  clear x0dhcs
  have Fx0_6 := Lib.hid xf0; clear xf0
  go_wp2_with fail
  refine (toModel_any _ d1 _ (by exact rd_below H1.out (by (repeat' refine Below.alloc ?_ (by first | omega | (simp [World.setCell]; done) | (simp [World.setCell]; omega)) _); exact B6)) (by omega)).mono ?_
  rintro e w7 ⟨xcs1, rfl, xf1, b7⟩
  have B7 : Below w.heap.size w w7 := Below.trans (by (repeat' refine Below.alloc ?_ (by first | omega | (simp [World.setCell]; done) | (simp [World.setCell]; omega)) _); exact B6) (b7.mono (by first | omega | (simp [World.setCell]; done) | (simp [World.setCell]; omega)))
  have z7 : w6.heap.size + 1 ≤ w7.heap.size := by have := b7.size; (try simp at this); omega
  have qa00_7 : w7.cell? ⟨w.heap.size, 0, none⟩ = some (.slice ap0_0 an0_0 aq0_0) := (b7.cell (p := ⟨w.heap.size, 0, none⟩) (by first | omega | (simp [World.setCell]; done) | (simp [World.setCell]; omega))).trans ((alloc_cell (a := ⟨w.heap.size, 0, none⟩) (by first | omega | (simp [World.setCell]; done) | (simp [World.setCell]; omega))).trans qa00_6)
  have zba0_7 : w.heap.size < w7.heap.size := (by first | omega | (simp [World.setCell]; done) | (simp [World.setCell]; omega))
  clear qa00_6
  have qa10_7 : w7.cell? ⟨w.heap.size + 1, 0, none⟩ = some (.slice ap1_0 an1_0 aq1_0) := (b7.cell (p := ⟨w.heap.size + 1, 0, none⟩) (by first | omega | (simp [World.setCell]; done) | (simp [World.setCell]; omega))).trans ((alloc_cell (a := ⟨w.heap.size + 1, 0, none⟩) (by first | omega | (simp [World.setCell]; done) | (simp [World.setCell]; omega))).trans qa10_6)
  have zba1_7 : w.heap.size + 1 < w7.heap.size := (by first | omega | (simp [World.setCell]; done) | (simp [World.setCell]; omega))
  clear qa10_6
  have qx00_7 : w7.cell? ⟨w6.heap.size, 0, none⟩ = some (.slice x0dp0 x0dn0 x0dq0) := (b7.cell (p := ⟨w6.heap.size, 0, none⟩) (by first | omega | (simp [World.setCell]; done) | (simp [World.setCell]; omega))).trans (by simp)
  have zbx0_7 : w6.heap.size < w7.heap.size := (by first | omega | (simp [World.setCell]; done) | (simp [World.setCell]; omega))
  have Fx0_7 := Lib.hid ((Fx0_6.out.alloc _).below b7 (by first | omega | (simp [World.setCell]; done) | (simp [World.setCell]; omega)))
  clear Fx0_6
  have rrx1d := xf1.rd
  obtain ⟨x1dp0, x1dn0, x1dq0, x1dhcs, x1ds0⟩ := rrx1d
  obtain rfl : xcs1 = #[.slice x1dp0 x1dn0 x1dq0] := arr_of x1dhcs
  clear x1dhcs
  have Fx1_7 := Lib.hid xf1; clear xf1
  go_wp2_with fail
  refine (HI.out _ _ _ (by exact ((Fx0_7.out.alloc _)).rd) (by exact ((Fx1_7.out.alloc _)).rd)).mono ?_
  rintro e w8 ⟨rfl, b8⟩
  have B8 : Below w.heap.size w w8 := Below.trans (by (repeat' refine Below.alloc ?_ (by first | omega | (simp [World.setCell]; done) | (simp [World.setCell]; omega)) _); exact B7) (b8.mono (by first | omega | (simp [World.setCell]; done) | (simp [World.setCell]; omega)))
  have z8 : w7.heap.size + 1 ≤ w8.heap.size := by have := b8.size; (try simp at this); omega
  have qa00_8 : w8.cell? ⟨w.heap.size, 0, none⟩ = some (.slice ap0_0 an0_0 aq0_0) := (b8.cell (p := ⟨w.heap.size, 0, none⟩) (by first | omega | (simp [World.setCell]; done) | (simp [World.setCell]; omega))).trans ((alloc_cell (a := ⟨w.heap.size, 0, none⟩) (by first | omega | (simp [World.setCell]; done) | (simp [World.setCell]; omega))).trans qa00_7)
  have zba0_8 : w.heap.size < w8.heap.size := (by first | omega | (simp [World.setCell]; done) | (simp [World.setCell]; omega))
  clear qa00_7
  have qa10_8 : w8.cell? ⟨w.heap.size + 1, 0, none⟩ = some (.slice ap1_0 an1_0 aq1_0) := (b8.cell (p := ⟨w.heap.size + 1, 0, none⟩) (by first | omega | (simp [World.setCell]; done) | (simp [World.setCell]; omega))).trans ((alloc_cell (a := ⟨w.heap.size + 1, 0, none⟩) (by first | omega | (simp [World.setCell]; done) | (simp [World.setCell]; omega))).trans qa10_7)
  have zba1_8 : w.heap.size + 1 < w8.heap.size := (by first | omega | (simp [World.setCell]; done) | (simp [World.setCell]; omega))
  clear qa10_7
  have qx00_8 : w8.cell? ⟨w6.heap.size, 0, none⟩ = some (.slice x0dp0 x0dn0 x0dq0) := (b8.cell (p := ⟨w6.heap.size, 0, none⟩) (by first | omega | (simp [World.setCell]; done) | (simp [World.setCell]; omega))).trans ((alloc_cell (a := ⟨w6.heap.size, 0, none⟩) (by first | omega | (simp [World.setCell]; done) | (simp [World.setCell]; omega))).trans qx00_7)
  have zbx0_8 : w6.heap.size < w8.heap.size := (by first | omega | (simp [World.setCell]; done) | (simp [World.setCell]; omega))
  clear qx00_7
  have qx10_8 : w8.cell? ⟨w7.heap.size, 0, none⟩ = some (.slice x1dp0 x1dn0 x1dq0) := (b8.cell (p := ⟨w7.heap.size, 0, none⟩) (by first | omega | (simp [World.setCell]; done) | (simp [World.setCell]; omega))).trans (by simp)
  have zbx1_8 : w7.heap.size < w8.heap.size := (by first | omega | (simp [World.setCell]; done) | (simp [World.setCell]; omega))
  have Fx0_8 := Lib.hid ((Fx0_7.out.alloc _).below b8 (by first | omega | (simp [World.setCell]; done) | (simp [World.setCell]; omega)))
  clear Fx0_7
  have Fx1_8 := Lib.hid ((Fx1_7.out.alloc _).below b8 (by first | omega | (simp [World.setCell]; done) | (simp [World.setCell]; omega)))
  clear Fx1_7
  go_wp2_with fail
  go_region_held3 (fun w' => w'.cell? ⟨w.heap.size, 0, none⟩ = some (.slice ap0_0 an0_0 aq0_0) ∧ w'.cell? ⟨w.heap.size + 1, 0, none⟩ = some (.slice ap1_0 an1_0 aq1_0) ∧ w'.cell? ⟨w6.heap.size, 0, none⟩ = some (.slice x0dp0 x0dn0 x0dq0) ∧ w'.cell? ⟨w7.heap.size, 0, none⟩ = some (.slice x1dp0 x1dn0 x1dq0)) (first | go_keep | ((try dsimp only); (repeat' apply And.intro) <;> (first | go_keep | (refine ((Below.cell b10 ?_).trans ((Below.cell b9 ?_).trans ?_)) <;> first | assumption | omega | (simp; omega) | (simp; assumption)) | (refine ((Below.cell b9 ?_).trans ?_) <;> first | assumption | omega | (simp; omega) | (simp; assumption))))) ((first | (go_at_call 53; refine (toModel_any _ d0 _ (by exact rd_below H0.out (Below.drew B8)) (by omega)).mono ?_; rintro e w9 ⟨ycs0, rfl, yf0, b9⟩; have B9 : Below w.heap.size w w9 := Below.trans (Below.drew B8) (b9.mono (by first | omega | (simp [World.setCell]; done) | (simp [World.setCell]; omega))); have z9 : w8.heap.size ≤ w9.heap.size := by have := b9.size; (try simp at this); omega) | (go_at_call 55; refine (eqModel_any _ _ d0 _ (by exact ((Fx0_8.out.keep (w' := w8.drew) (fun _ _ _ => rfl) (Nat.le_refl _)).below b9 (by first | omega | (simp [World.setCell]; done) | (simp [World.setCell]; omega))).rd) (by exact yf0.rd)).mono ?_; rintro e w10 ⟨rfl, b10⟩; have B10 : Below w.heap.size w w10 := B9.trans (b10.mono (by first | omega | (simp [World.setCell]; done) | (simp [World.setCell]; omega))); have z10 := b10.size)))
  have hS := ‹_ ∧ _›
  obtain ⟨qa00_10, qa10_10, qx00_10, qx10_10⟩ := hS
  have zba0_10 : w.heap.size < w10.heap.size := (by first | omega | (simp [World.setCell]; done) | (simp [World.setCell]; omega))
  have zba1_10 : w.heap.size + 1 < w10.heap.size := (by first | omega | (simp [World.setCell]; done) | (simp [World.setCell]; omega))
  have zbx0_10 : w6.heap.size < w10.heap.size := (by first | omega | (simp [World.setCell]; done) | (simp [World.setCell]; omega))
  have zbx1_10 : w7.heap.size < w10.heap.size := (by first | omega | (simp [World.setCell]; done) | (simp [World.setCell]; omega))
  have Fx0_10 := Lib.hid (((Fx0_8.out.keep (w' := w8.drew) (fun _ _ _ => rfl) (Nat.le_refl _)).below b9 (by first | omega | (simp [World.setCell]; done) | (simp [World.setCell]; omega))).below b10 (by first | omega | (simp [World.setCell]; done) | (simp [World.setCell]; omega)))
  clear Fx0_8
  have Fx1_10 := Lib.hid (((Fx1_8.out.keep (w' := w8.drew) (fun _ _ _ => rfl) (Nat.le_refl _)).below b9 (by first | omega | (simp [World.setCell]; done) | (simp [World.setCell]; omega))).below b10 (by first | omega | (simp [World.setCell]; done) | (simp [World.setCell]; omega)))
  clear Fx1_8
  go_wp2_with fail
  go_region_held3 (fun w' => w'.cell? ⟨w.heap.size, 0, none⟩ = some (.slice ap0_0 an0_0 aq0_0) ∧ w'.cell? ⟨w.heap.size + 1, 0, none⟩ = some (.slice ap1_0 an1_0 aq1_0) ∧ w'.cell? ⟨w6.heap.size, 0, none⟩ = some (.slice x0dp0 x0dn0 x0dq0) ∧ w'.cell? ⟨w7.heap.size, 0, none⟩ = some (.slice x1dp0 x1dn0 x1dq0)) (first | go_keep | ((try dsimp only); (repeat' apply And.intro) <;> (first | go_keep | (refine ((Below.cell b12 ?_).trans ((Below.cell b11 ?_).trans ?_)) <;> first | assumption | omega | (simp; omega) | (simp; assumption)) | (refine ((Below.cell b11 ?_).trans ?_) <;> first | assumption | omega | (simp; omega) | (simp; assumption))))) ((first | (go_at_call 53; refine (toModel_any _ d1 _ (by exact rd_below H1.out (Below.drew B10)) (by omega)).mono ?_; rintro e w11 ⟨ycs1, rfl, yf1, b11⟩; have B11 : Below w.heap.size w w11 := Below.trans (Below.drew B10) (b11.mono (by first | omega | (simp [World.setCell]; done) | (simp [World.setCell]; omega))); have z11 : w10.heap.size ≤ w11.heap.size := by have := b11.size; (try simp at this); omega) | (go_at_call 55; refine (eqModel_any _ _ d1 _ (by exact ((Fx1_10.out.keep (w' := w10.drew) (fun _ _ _ => rfl) (Nat.le_refl _)).below b11 (by first | omega | (simp [World.setCell]; done) | (simp [World.setCell]; omega))).rd) (by exact yf1.rd)).mono ?_; rintro e w12 ⟨rfl, b12⟩; have B12 : Below w.heap.size w w12 := B11.trans (b12.mono (by first | omega | (simp [World.setCell]; done) | (simp [World.setCell]; omega))); have z12 := b12.size)))
  have hS := ‹_ ∧ _›
  obtain ⟨qa00_12, qa10_12, qx00_12, qx10_12⟩ := hS
  have zba0_12 : w.heap.size < w12.heap.size := (by first | omega | (simp [World.setCell]; done) | (simp [World.setCell]; omega))
  have zba1_12 : w.heap.size + 1 < w12.heap.size := (by first | omega | (simp [World.setCell]; done) | (simp [World.setCell]; omega))
  have zbx0_12 : w6.heap.size < w12.heap.size := (by first | omega | (simp [World.setCell]; done) | (simp [World.setCell]; omega))
  have zbx1_12 : w7.heap.size < w12.heap.size := (by first | omega | (simp [World.setCell]; done) | (simp [World.setCell]; omega))
  have Fx0_12 := Lib.hid (((Fx0_10.out.keep (w' := w10.drew) (fun _ _ _ => rfl) (Nat.le_refl _)).below b11 (by first | omega | (simp [World.setCell]; done) | (simp [World.setCell]; omega))).below b12 (by first | omega | (simp [World.setCell]; done) | (simp [World.setCell]; omega)))
  clear Fx0_10
  have Fx1_12 := Lib.hid (((Fx1_10.out.keep (w' := w10.drew) (fun _ _ _ => rfl) (Nat.le_refl _)).below b11 (by first | omega | (simp [World.setCell]; done) | (simp [World.setCell]; omega))).below b12 (by first | omega | (simp [World.setCell]; done) | (simp [World.setCell]; omega)))
  clear Fx1_10
  go_wp2
  go_ret
  exact ⟨rfl, B12⟩
end Go.Proofs.Yteejpennjkihaaa
