/- The walk of FnExactReadVec. -/
import Derived.Test.YtannonjikfbdhaaBReadVec
import Derived.Deep.RegionHeld3
namespace Go.Proofs.Ytannonjikfbdhaa
open Go.ChangeShapes Go.WideShapes Go.ChangeAt Go.RowKit
set_option linter.unusedVariables false
set_option linter.unusedSimpArgs false
set_option maxRecDepth 100000 in
set_option maxHeartbeats 4000000 in
theorem fnExactReadVec_walk (w : World) (x0 : ByteArray) (h0 : x0.size ≤ maxLen) :
    Calls Try.prog 4 #[.string x0] w fun e w' => e = .returned (.bool true) ∧ Below w.heap.size w w' := by
  by_cases hg0 : ((x0.size : Nat) : Int) ≤ 1048576
  rotate_left
  · skip
    have hgn0 : (1048576 : Int) < (x0.size : Nat) := by omega
    go_enter Try.func4, Try.ntmps4
    go_wp2
    go_ret
    exact ⟨rfl, (by (repeat' first | (with_reducible exact Below.refl _ _) | (with_reducible refine Below.drew ?_) | (with_reducible refine Below.setCell ?_ ?_ _) | (with_reducible refine Below.alloc ?_ ?_ _) | (with_reducible refine Below.mono (by assumption) ?_) | (with_reducible refine Below.trans ?_ (Below.mono (by assumption) ?_))) <;> (first | (with_reducible assumption) | ((try simp only [World.size_alloc, World.size_setCell, World.size_drew]) <;> omega) | (simp [World.setCell]; done) | (simp [World.setCell]; omega)))⟩
  have hgn0 : ¬ ((1048576 : Int) < (x0.size : Nat)) := by omega
  obtain ⟨R0, R1, R2, hS, hI, hcr⟩ := readVec_both x0 h0 (by omega)
  have HS := Lib.hid hS; have HI := Lib.hid hI; clear hS hI
  go_enter Try.func4, Try.ntmps4
  go_wp2_with fail
  refine (HS.out  _ ).mono ?_
  rintro e w1 ⟨w0rp0, w0rc0, rfl, w0rf0, b1⟩
  have B1 : Below w.heap.size w w1 := Below.trans (Below.refl _ _) (b1.mono (by first | (with_reducible assumption) | ((try simp only [World.size_alloc, World.size_setCell, World.size_drew]) <;> omega) | (simp [World.setCell]; done) | (simp [World.setCell]; omega)))
  have z1 : w.heap.size + 0 ≤ w1.heap.size := by have := b1.size; (try simp only [World.size_alloc, World.size_drew] at this ⊢) <;> omega
  have Fw0r0_1 := Lib.hid w0rf0; clear w0rf0
  go_wp2_with fail
  refine (HI.out  _ ).mono ?_
  rintro e w2 ⟨g0rp0, g0rc0, rfl, g0rf0, b2⟩
  have B2 : Below w.heap.size w w2 := Below.trans B1 (b2.mono (by first | (with_reducible assumption) | ((try simp only [World.size_alloc, World.size_setCell, World.size_drew]) <;> omega) | (simp [World.setCell]; done) | (simp [World.setCell]; omega)))
  have z2 : w1.heap.size + 0 ≤ w2.heap.size := by have := b2.size; (try simp only [World.size_alloc, World.size_drew] at this ⊢) <;> omega
  have Fw0r0_2 := Lib.hid (Fw0r0_1.out.below b2 (by first | (with_reducible assumption) | ((try simp only [World.size_alloc, World.size_setCell, World.size_drew]) <;> omega) | (simp [World.setCell]; done) | (simp [World.setCell]; omega)))
  clear Fw0r0_1
  have Fg0r0_2 := Lib.hid g0rf0; clear g0rf0
  go_wp2_with fail
  refine (eqIntS_any _ _ _ _ _ _ R0 _ (by exact (Fg0r0_2.out).sl) (by exact (Fw0r0_2.out).sl)).mono ?_
  rintro e w3 ⟨rfl, b3⟩
  have B3 : Below w.heap.size w w3 := Below.trans B2 (b3.mono (by first | (with_reducible assumption) | ((try simp only [World.size_alloc, World.size_setCell, World.size_drew]) <;> omega) | (simp [World.setCell]; done) | (simp [World.setCell]; omega)))
  have z3 : w2.heap.size + 0 ≤ w3.heap.size := by have := b3.size; (try simp only [World.size_alloc, World.size_drew] at this ⊢) <;> omega
  have Fw0r0_3 := Lib.hid (Fw0r0_2.out.below b3 (by first | (with_reducible assumption) | ((try simp only [World.size_alloc, World.size_setCell, World.size_drew]) <;> omega) | (simp [World.setCell]; done) | (simp [World.setCell]; omega)))
  clear Fw0r0_2
  have Fg0r0_3 := Lib.hid (Fg0r0_2.out.below b3 (by first | (with_reducible assumption) | ((try simp only [World.size_alloc, World.size_setCell, World.size_drew]) <;> omega) | (simp [World.setCell]; done) | (simp [World.setCell]; omega)))
  clear Fg0r0_2
  go_wp2_with fail
  obtain ⟨bl4, rep4, nd4, in4⟩ := (Fg0r0_3.out).un
  clear Fg0r0_3
  refine (markIntS_un _ _ _ _ R0 _ _ (by exact rep4) nd4 (by omega) (by have := cnt_ints R0; omega)).mono ?_
  rintro e w4 ⟨rfl, rp4, on4⟩
  have B4 : Below w.heap.size w w4 := Below.trans B3 (on4.below (fun b hb => by have := in4 b hb; (try simp only [World.size_alloc, World.size_drew] at this ⊢) <;> omega) (by first | (with_reducible assumption) | ((try simp only [World.size_alloc, World.size_setCell, World.size_drew]) <;> omega) | (simp [World.setCell]; done) | (simp [World.setCell]; omega)))
  have z4 : w3.heap.size + 0 ≤ w4.heap.size := by have := on4.size; (try simp only [World.size_alloc, World.size_drew] at this ⊢) <;> omega
  have Fw0r0_4 := Lib.hid (Fw0r0_3.out.only on4 (fun b hb => by have := in4 b hb; (try simp only [World.size_alloc, World.size_drew] at this ⊢) <;> omega))
  clear Fw0r0_3
  have G4 := FrA.of_un rp4 nd4 in4 (by first | (with_reducible assumption) | ((try simp only [World.size_alloc, World.size_setCell, World.size_drew]) <;> omega) | (simp [World.setCell]; done) | (simp [World.setCell]; omega))
  clear rep4 rp4
  have Fg0r0_4 := Lib.hid G4; clear G4
  go_wp2_with fail
  refine (heldIntS_any _ _ _ _ R0 _ (by exact (Fg0r0_4.out).sl) (by omega) (by have := cnt_ints R0; omega)).mono ?_
  rintro e w5 ⟨rfl, b5⟩
  have B5 : Below w.heap.size w w5 := Below.trans B4 (b5.mono (by first | (with_reducible assumption) | ((try simp only [World.size_alloc, World.size_setCell, World.size_drew]) <;> omega) | (simp [World.setCell]; done) | (simp [World.setCell]; omega)))
  have z5 : w4.heap.size + 0 ≤ w5.heap.size := by have := b5.size; (try simp only [World.size_alloc, World.size_drew] at this ⊢) <;> omega
  have Fw0r0_5 := Lib.hid (Fw0r0_4.out.below b5 (by first | (with_reducible assumption) | ((try simp only [World.size_alloc, World.size_setCell, World.size_drew]) <;> omega) | (simp [World.setCell]; done) | (simp [World.setCell]; omega)))
  clear Fw0r0_4
  have Fg0r0_5 := Lib.hid (Fg0r0_4.out.below b5 (by first | (with_reducible assumption) | ((try simp only [World.size_alloc, World.size_setCell, World.size_drew]) <;> omega) | (simp [World.setCell]; done) | (simp [World.setCell]; omega)))
  clear Fg0r0_4
  go_wp2_with fail
  refine (HI.out  _ ).mono ?_
  rintro e w6 ⟨h0rp0, h0rc0, rfl, h0rf0, b6⟩
  have B6 : Below w.heap.size w w6 := Below.trans B5 (b6.mono (by first | (with_reducible assumption) | ((try simp only [World.size_alloc, World.size_setCell, World.size_drew]) <;> omega) | (simp [World.setCell]; done) | (simp [World.setCell]; omega)))
  have z6 : w5.heap.size + 0 ≤ w6.heap.size := by have := b6.size; (try simp only [World.size_alloc, World.size_drew] at this ⊢) <;> omega
  have Fw0r0_6 := Lib.hid (Fw0r0_5.out.below b6 (by first | (with_reducible assumption) | ((try simp only [World.size_alloc, World.size_setCell, World.size_drew]) <;> omega) | (simp [World.setCell]; done) | (simp [World.setCell]; omega)))
  clear Fw0r0_5
  have Fg0r0_6 := Lib.hid (Fg0r0_5.out.below b6 (by first | (with_reducible assumption) | ((try simp only [World.size_alloc, World.size_setCell, World.size_drew]) <;> omega) | (simp [World.setCell]; done) | (simp [World.setCell]; omega)))
  clear Fg0r0_5
  have Fh0r0_6 := Lib.hid h0rf0; clear h0rf0
  go_wp2_with fail
  refine (eqIntS_any _ _ _ _ _ _ R0 _ (by exact (Fh0r0_6.out).sl) (by exact (Fw0r0_6.out).sl)).mono ?_
  rintro e w7 ⟨rfl, b7⟩
  have B7 : Below w.heap.size w w7 := Below.trans B6 (b7.mono (by first | (with_reducible assumption) | ((try simp only [World.size_alloc, World.size_setCell, World.size_drew]) <;> omega) | (simp [World.setCell]; done) | (simp [World.setCell]; omega)))
  have z7 : w6.heap.size + 0 ≤ w7.heap.size := by have := b7.size; (try simp only [World.size_alloc, World.size_drew] at this ⊢) <;> omega
  have Fw0r0_7 := Lib.hid (Fw0r0_6.out.below b7 (by first | (with_reducible assumption) | ((try simp only [World.size_alloc, World.size_setCell, World.size_drew]) <;> omega) | (simp [World.setCell]; done) | (simp [World.setCell]; omega)))
  clear Fw0r0_6
  have Fg0r0_7 := Lib.hid (Fg0r0_6.out.below b7 (by first | (with_reducible assumption) | ((try simp only [World.size_alloc, World.size_setCell, World.size_drew]) <;> omega) | (simp [World.setCell]; done) | (simp [World.setCell]; omega)))
  clear Fg0r0_6
  have Fh0r0_7 := Lib.hid (Fh0r0_6.out.below b7 (by first | (with_reducible assumption) | ((try simp only [World.size_alloc, World.size_setCell, World.size_drew]) <;> omega) | (simp [World.setCell]; done) | (simp [World.setCell]; omega)))
  clear Fh0r0_6
  go_wp2_with fail
  refine (heldIntS_any _ _ _ _ R0 _ (by exact (Fg0r0_7.out).sl) (by omega) (by have := cnt_ints R0; omega)).mono ?_
  rintro e w8 ⟨rfl, b8⟩
  have B8 : Below w.heap.size w w8 := Below.trans B7 (b8.mono (by first | (with_reducible assumption) | ((try simp only [World.size_alloc, World.size_setCell, World.size_drew]) <;> omega) | (simp [World.setCell]; done) | (simp [World.setCell]; omega)))
  have z8 : w7.heap.size + 0 ≤ w8.heap.size := by have := b8.size; (try simp only [World.size_alloc, World.size_drew] at this ⊢) <;> omega
  have Fw0r0_8 := Lib.hid (Fw0r0_7.out.below b8 (by first | (with_reducible assumption) | ((try simp only [World.size_alloc, World.size_setCell, World.size_drew]) <;> omega) | (simp [World.setCell]; done) | (simp [World.setCell]; omega)))
  clear Fw0r0_7
  have Fg0r0_8 := Lib.hid (Fg0r0_7.out.below b8 (by first | (with_reducible assumption) | ((try simp only [World.size_alloc, World.size_setCell, World.size_drew]) <;> omega) | (simp [World.setCell]; done) | (simp [World.setCell]; omega)))
  clear Fg0r0_7
  have Fh0r0_8 := Lib.hid (Fh0r0_7.out.below b8 (by first | (with_reducible assumption) | ((try simp only [World.size_alloc, World.size_setCell, World.size_drew]) <;> omega) | (simp [World.setCell]; done) | (simp [World.setCell]; omega)))
  clear Fh0r0_7
  go_wp2
  go_ret
  exact ⟨rfl, B8⟩
end Go.Proofs.Ytannonjikfbdhaa
