/- The walk of FnExactShowVec. -/
import Derived.Test.YtannonjikfbdhaaBShowVec
import Derived.Deep.RegionHeld3
namespace Go.Proofs.Ytannonjikfbdhaa
open Go.ChangeShapes Go.WideShapes Go.ChangeAt Go.RowKit
set_option linter.unusedVariables false
set_option linter.unusedSimpArgs false
set_option maxRecDepth 100000 in
set_option maxHeartbeats 4000000 in
theorem fnExactShowVec_walk (w : World) (p0 : Option Addr) (len0 cap0 : Nat) (l0 : List (Ty.D tInt)) (h0 : SlRd (Ty.n tInt) (rd tInt w) w p0 len0 cap0 l0) :
    Calls Try.prog 3 #[.slice p0 len0 cap0] w fun e w' => e = .returned (.bool true) ∧ Below w.heap.size w w' := by
  have hsl0 : (szT tInts l0 : Nat) = len0 := by rw [h0.lens]; exact szT_ints l0
  by_cases hg0 : ((len0 : Nat) : Int) ≤ 1048576
  rotate_left
  · skip
    have hgn0 : (1048576 : Int) < (len0 : Nat) := by omega
    go_enter Try.func3, Try.ntmps3
    go_wp2
    go_ret
    exact ⟨rfl, (by (repeat' first | (with_reducible exact Below.refl _ _) | (with_reducible refine Below.drew ?_) | (with_reducible refine Below.setCell ?_ ?_ _) | (with_reducible refine Below.alloc ?_ ?_ _) | (with_reducible refine Below.mono (by assumption) ?_) | (with_reducible refine Below.trans ?_ (Below.mono (by assumption) ?_))) <;> (first | (with_reducible assumption) | ((try simp only [World.size_alloc, World.size_setCell, World.size_drew]) <;> omega) | (simp [World.setCell]; done) | (simp [World.setCell]; omega)))⟩
  have hgn0 : ¬ ((1048576 : Int) < (len0 : Nat)) := by omega
  obtain ⟨R0, hS, hI⟩ := showVec_both l0 (by omega)
  have HS := Lib.hid hS; have HI := Lib.hid hI; clear hS hI
  go_enter Try.func3, Try.ntmps3
  go_wp2_with fail
  refine (toIntS_any _ _ _ l0 _ (by exact h0.below (Below.refl _ _)) (by have := szT_ints l0; omega)).mono ?_
  rintro e w1 ⟨tp0, tc0, rfl, tf0, b1⟩
  have B1 : Below w.heap.size w w1 := Below.trans (Below.refl _ _) (b1.mono (by first | (with_reducible assumption) | ((try simp only [World.size_alloc, World.size_setCell, World.size_drew]) <;> omega) | (simp [World.setCell]; done) | (simp [World.setCell]; omega)))
  have z1 : w.heap.size + 0 ≤ w1.heap.size := by have := b1.size; (try simp only [World.size_alloc, World.size_drew] at this ⊢) <;> omega
  have Ft0_1 := Lib.hid tf0; clear tf0
  go_wp2_with fail
  refine (HS.out _ _ _ (by exact (Ft0_1.out).sl)).mono ?_
  rintro e w2 ⟨rfl, b2⟩
  have B2 : Below w.heap.size w w2 := Below.trans B1 (b2.mono (by first | (with_reducible assumption) | ((try simp only [World.size_alloc, World.size_setCell, World.size_drew]) <;> omega) | (simp [World.setCell]; done) | (simp [World.setCell]; omega)))
  have z2 : w1.heap.size + 0 ≤ w2.heap.size := by have := b2.size; (try simp only [World.size_alloc, World.size_drew] at this ⊢) <;> omega
  have Ft0_2 := Lib.hid (Ft0_1.out.below b2 (by first | (with_reducible assumption) | ((try simp only [World.size_alloc, World.size_setCell, World.size_drew]) <;> omega) | (simp [World.setCell]; done) | (simp [World.setCell]; omega)))
  clear Ft0_1
  clear Ft0_2
  go_wp2_with fail
  refine (toIntS_any _ _ _ l0 _ (by exact h0.below B2) (by have := szT_ints l0; omega)).mono ?_
  rintro e w3 ⟨xp0, xc0, rfl, xf0, b3⟩
  have B3 : Below w.heap.size w w3 := Below.trans B2 (b3.mono (by first | (with_reducible assumption) | ((try simp only [World.size_alloc, World.size_setCell, World.size_drew]) <;> omega) | (simp [World.setCell]; done) | (simp [World.setCell]; omega)))
  have z3 : w2.heap.size + 0 ≤ w3.heap.size := by have := b3.size; (try simp only [World.size_alloc, World.size_drew] at this ⊢) <;> omega
  have Fx0_3 := Lib.hid xf0; clear xf0
  go_wp2_with fail
  refine (HI.out _ _ _ (by exact (Fx0_3.out).sl)).mono ?_
  rintro e w4 ⟨rfl, b4⟩
  have B4 : Below w.heap.size w w4 := Below.trans B3 (b4.mono (by first | (with_reducible assumption) | ((try simp only [World.size_alloc, World.size_setCell, World.size_drew]) <;> omega) | (simp [World.setCell]; done) | (simp [World.setCell]; omega)))
  have z4 : w3.heap.size + 0 ≤ w4.heap.size := by have := b4.size; (try simp only [World.size_alloc, World.size_drew] at this ⊢) <;> omega
  have Fx0_4 := Lib.hid (Fx0_3.out.below b4 (by first | (with_reducible assumption) | ((try simp only [World.size_alloc, World.size_setCell, World.size_drew]) <;> omega) | (simp [World.setCell]; done) | (simp [World.setCell]; omega)))
  clear Fx0_3
  go_wp2_with fail
  refine (toIntS_any _ _ _ l0 _ (by exact h0.below B4) (by have := szT_ints l0; omega)).mono ?_
  rintro e w5 ⟨yp0, yc0, rfl, yf0, b5⟩
  have B5 : Below w.heap.size w w5 := Below.trans B4 (b5.mono (by first | (with_reducible assumption) | ((try simp only [World.size_alloc, World.size_setCell, World.size_drew]) <;> omega) | (simp [World.setCell]; done) | (simp [World.setCell]; omega)))
  have z5 : w4.heap.size + 0 ≤ w5.heap.size := by have := b5.size; (try simp only [World.size_alloc, World.size_drew] at this ⊢) <;> omega
  have Fx0_5 := Lib.hid (Fx0_4.out.below b5 (by first | (with_reducible assumption) | ((try simp only [World.size_alloc, World.size_setCell, World.size_drew]) <;> omega) | (simp [World.setCell]; done) | (simp [World.setCell]; omega)))
  clear Fx0_4
  have Fy0_5 := Lib.hid yf0; clear yf0
  go_wp2_with fail
  refine (eqIntS_any _ _ _ _ _ _ l0 _ (by exact (Fx0_5.out).sl) (by exact (Fy0_5.out).sl)).mono ?_
  rintro e w6 ⟨rfl, b6⟩
  have B6 : Below w.heap.size w w6 := Below.trans B5 (b6.mono (by first | (with_reducible assumption) | ((try simp only [World.size_alloc, World.size_setCell, World.size_drew]) <;> omega) | (simp [World.setCell]; done) | (simp [World.setCell]; omega)))
  have z6 : w5.heap.size + 0 ≤ w6.heap.size := by have := b6.size; (try simp only [World.size_alloc, World.size_drew] at this ⊢) <;> omega
  have Fx0_6 := Lib.hid (Fx0_5.out.below b6 (by first | (with_reducible assumption) | ((try simp only [World.size_alloc, World.size_setCell, World.size_drew]) <;> omega) | (simp [World.setCell]; done) | (simp [World.setCell]; omega)))
  clear Fx0_5
  have Fy0_6 := Lib.hid (Fy0_5.out.below b6 (by first | (with_reducible assumption) | ((try simp only [World.size_alloc, World.size_setCell, World.size_drew]) <;> omega) | (simp [World.setCell]; done) | (simp [World.setCell]; omega)))
  clear Fy0_5
  clear Fy0_6
  go_wp2
  go_ret
  exact ⟨rfl, B6⟩
end Go.Proofs.Ytannonjikfbdhaa
