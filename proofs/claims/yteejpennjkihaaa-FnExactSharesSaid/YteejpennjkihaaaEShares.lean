/- The walk of FnExactShares. -/
import Derived.Test.YteejpennjkihaaaPairs
import Derived.Test.YteejpennjkihaaaTPair
import Derived.Test.YteejpennjkihaaaTBatch
import Derived.Deep.RegionHeld3
namespace Go.Proofs.Yteejpennjkihaaa
open Go.ChangeShapes Go.WideShapes Go.ChangeAt Go.RowKit
set_option linter.unusedVariables false
set_option linter.unusedSimpArgs false
set_option maxRecDepth 100000 in
set_option maxHeartbeats 4000000 in
theorem fnExactShares_walk (w : World) (p0 : Option Addr) (len0 cap0 : Nat) (l0 : List (Ty.D tPair)) (h0 : SlRd (Ty.n tPair) (rd tPair w) w p0 len0 cap0 l0) (x1 : Int) (h1 : (Lit.int .i64 x1).wf = true) :
    Calls Try.prog 13 #[.slice p0 len0 cap0, .int .i64 x1] w fun e w' => e = .returned (.bool true) ∧ Below w.heap.size w w' := by
  by_cases hz0 : ((szT (.slice 91 tPair) l0 : Nat) : Int) ≤ (1048576 : Int)
  rotate_left
  · skip
    go_enter Try.func13, Try.ntmps13
    go_wp2_with fail
    refine (szPairS_no _ _ _ l0 _ _ (by exact h0.below (Below.refl _ _)) (by omega) (by omega) (by omega)).mono ?_
    rintro e w1 ⟨rfl, b1⟩
    have B1 : Below w.heap.size w w1 := Below.trans (Below.refl _ _) (b1.mono (by first | (with_reducible assumption) | ((try simp only [World.size_alloc, World.size_setCell, World.size_drew]) <;> omega) | (simp [World.setCell]; done) | (simp [World.setCell]; omega)))
    have z1 : w.heap.size + 0 ≤ w1.heap.size := by have := b1.size; (try simp only [World.size_alloc, World.size_drew] at this ⊢) <;> omega
    go_wp2
    go_ret
    exact ⟨rfl, B1⟩
  obtain ⟨R0, hS, hI, hcr⟩ := shares_both l0 x1 (by omega)
  have HS := Lib.hid hS; have HI := Lib.hid hI; clear hS hI
  clear h1
  have hcb0 := cnt_le _ _ l0 (show Ty.per (.slice 91 tPair) ≤ 20 by decide)
  go_enter Try.func13, Try.ntmps13
  go_wp2_with fail
  refine (szPairS_ok _ _ _ l0 _ _ (by exact h0.below (Below.refl _ _)) (by omega) (by omega) (by omega)).mono ?_
  rintro e w1 ⟨rfl, b1⟩
  have B1 : Below w.heap.size w w1 := Below.trans (Below.refl _ _) (b1.mono (by first | (with_reducible assumption) | ((try simp only [World.size_alloc, World.size_setCell, World.size_drew]) <;> omega) | (simp [World.setCell]; done) | (simp [World.setCell]; omega)))
  have z1 : w.heap.size + 0 ≤ w1.heap.size := by have := b1.size; (try simp only [World.size_alloc, World.size_drew] at this ⊢) <;> omega
  obtain ⟨lf0, hlf0⟩ : ∃ z : Int, z = (1048576 : Int) - (szT (.slice 91 tPair) l0 : Nat) := ⟨_, rfl⟩
  rw [← hlf0]
  have hnl0 : ¬ (lf0 < 0) := by omega
  have hnm0 : lf0 ≤ 1048576 := by omega
  have HLF0 := Lib.hid hlf0; have hle0 := Int.le_of_eq hlf0; have hge0 := Int.le_of_eq hlf0.symm; clear hlf0
  go_wp2_with fail
  refine (toPairS_any _ _ _ l0 _ (by exact h0.below B1) (by omega)).mono ?_
  rintro e w2 ⟨tp0, tc0, rfl, tf0, b2⟩
  have B2 : Below w.heap.size w w2 := Below.trans B1 (b2.mono (by first | (with_reducible assumption) | ((try simp only [World.size_alloc, World.size_setCell, World.size_drew]) <;> omega) | (simp [World.setCell]; done) | (simp [World.setCell]; omega)))
  have z2 : w1.heap.size + 0 ≤ w2.heap.size := by have := b2.size; (try simp only [World.size_alloc, World.size_drew] at this ⊢) <;> omega
  have Ft0_2 := Lib.hid tf0; clear tf0
  go_wp2_with fail
  refine (HS.out _ _ _ (by exact fr_sl Ft0_2.out)).mono ?_
  rintro e w3 ⟨w0rp0, w0rc0, rfl, w0rf0, b3⟩
  have B3 : Below w.heap.size w w3 := Below.trans B2 (b3.mono (by first | (with_reducible assumption) | ((try simp only [World.size_alloc, World.size_setCell, World.size_drew]) <;> omega) | (simp [World.setCell]; done) | (simp [World.setCell]; omega)))
  have z3 : w2.heap.size + 0 ≤ w3.heap.size := by have := b3.size; (try simp only [World.size_alloc, World.size_drew] at this ⊢) <;> omega
  have Ft0_3 := Lib.hid (Ft0_2.out.below b3 (by first | (with_reducible assumption) | ((try simp only [World.size_alloc, World.size_setCell, World.size_drew]) <;> omega) | (simp [World.setCell]; done) | (simp [World.setCell]; omega)))
  clear Ft0_2
  clear Ft0_3
  have Fw0r0_3 := Lib.hid w0rf0; clear w0rf0
  go_wp2_with fail
  refine (toPairS_any _ _ _ l0 _ (by exact h0.below B3) (by omega)).mono ?_
  rintro e w4 ⟨xp0, xc0, rfl, xf0, b4⟩
  have B4 : Below w.heap.size w w4 := Below.trans B3 (b4.mono (by first | (with_reducible assumption) | ((try simp only [World.size_alloc, World.size_setCell, World.size_drew]) <;> omega) | (simp [World.setCell]; done) | (simp [World.setCell]; omega)))
  have z4 : w3.heap.size + 0 ≤ w4.heap.size := by have := b4.size; (try simp only [World.size_alloc, World.size_drew] at this ⊢) <;> omega
  have Fw0r0_4 := Lib.hid (Fw0r0_3.out.below b4 (by first | (with_reducible assumption) | ((try simp only [World.size_alloc, World.size_setCell, World.size_drew]) <;> omega) | (simp [World.setCell]; done) | (simp [World.setCell]; omega)))
  clear Fw0r0_3
  have Fx0_4 := Lib.hid xf0; clear xf0
  go_wp2_with fail
  refine (HI.out _ _ _ (by exact fr_sl Fx0_4.out)).mono ?_
  rintro e w5 ⟨g0rp0, g0rc0, rfl, g0rf0, b5⟩
  have B5 : Below w.heap.size w w5 := Below.trans B4 (b5.mono (by first | (with_reducible assumption) | ((try simp only [World.size_alloc, World.size_setCell, World.size_drew]) <;> omega) | (simp [World.setCell]; done) | (simp [World.setCell]; omega)))
  have z5 : w4.heap.size + 0 ≤ w5.heap.size := by have := b5.size; (try simp only [World.size_alloc, World.size_drew] at this ⊢) <;> omega
  have Fw0r0_5 := Lib.hid (Fw0r0_4.out.below b5 (by first | (with_reducible assumption) | ((try simp only [World.size_alloc, World.size_setCell, World.size_drew]) <;> omega) | (simp [World.setCell]; done) | (simp [World.setCell]; omega)))
  clear Fw0r0_4
  have Fx0_5 := Lib.hid (Fx0_4.out.below b5 (by first | (with_reducible assumption) | ((try simp only [World.size_alloc, World.size_setCell, World.size_drew]) <;> omega) | (simp [World.setCell]; done) | (simp [World.setCell]; omega)))
  clear Fx0_4
  have Fg0r0_5 := Lib.hid g0rf0; clear g0rf0
  go_wp2_with fail
  refine (eqBatchS_any _ _ _ _ _ _ R0 _ (by exact fr_sl Fg0r0_5.out) (by exact fr_sl Fw0r0_5.out)).mono ?_
  rintro e w6 ⟨rfl, b6⟩
  have B6 : Below w.heap.size w w6 := Below.trans B5 (b6.mono (by first | (with_reducible assumption) | ((try simp only [World.size_alloc, World.size_setCell, World.size_drew]) <;> omega) | (simp [World.setCell]; done) | (simp [World.setCell]; omega)))
  have z6 : w5.heap.size + 0 ≤ w6.heap.size := by have := b6.size; (try simp only [World.size_alloc, World.size_drew] at this ⊢) <;> omega
  have Fw0r0_6 := Lib.hid (Fw0r0_5.out.below b6 (by first | (with_reducible assumption) | ((try simp only [World.size_alloc, World.size_setCell, World.size_drew]) <;> omega) | (simp [World.setCell]; done) | (simp [World.setCell]; omega)))
  clear Fw0r0_5
  have Fx0_6 := Lib.hid (Fx0_5.out.below b6 (by first | (with_reducible assumption) | ((try simp only [World.size_alloc, World.size_setCell, World.size_drew]) <;> omega) | (simp [World.setCell]; done) | (simp [World.setCell]; omega)))
  clear Fx0_5
  have Fg0r0_6 := Lib.hid (Fg0r0_5.out.below b6 (by first | (with_reducible assumption) | ((try simp only [World.size_alloc, World.size_setCell, World.size_drew]) <;> omega) | (simp [World.setCell]; done) | (simp [World.setCell]; omega)))
  clear Fg0r0_5
  go_wp2_with fail
  refine (toPairS_any _ _ _ l0 _ (by exact h0.below B6) (by omega)).mono ?_
  rintro e w7 ⟨yp0, yc0, rfl, yf0, b7⟩
  have B7 : Below w.heap.size w w7 := Below.trans B6 (b7.mono (by first | (with_reducible assumption) | ((try simp only [World.size_alloc, World.size_setCell, World.size_drew]) <;> omega) | (simp [World.setCell]; done) | (simp [World.setCell]; omega)))
  have z7 : w6.heap.size + 0 ≤ w7.heap.size := by have := b7.size; (try simp only [World.size_alloc, World.size_drew] at this ⊢) <;> omega
  have Fw0r0_7 := Lib.hid (Fw0r0_6.out.below b7 (by first | (with_reducible assumption) | ((try simp only [World.size_alloc, World.size_setCell, World.size_drew]) <;> omega) | (simp [World.setCell]; done) | (simp [World.setCell]; omega)))
  clear Fw0r0_6
  have Fx0_7 := Lib.hid (Fx0_6.out.below b7 (by first | (with_reducible assumption) | ((try simp only [World.size_alloc, World.size_setCell, World.size_drew]) <;> omega) | (simp [World.setCell]; done) | (simp [World.setCell]; omega)))
  clear Fx0_6
  have Fg0r0_7 := Lib.hid (Fg0r0_6.out.below b7 (by first | (with_reducible assumption) | ((try simp only [World.size_alloc, World.size_setCell, World.size_drew]) <;> omega) | (simp [World.setCell]; done) | (simp [World.setCell]; omega)))
  clear Fg0r0_6
  have Fy0_7 := Lib.hid yf0; clear yf0
  go_wp2_with fail
  refine (eqPairS_any _ _ _ _ _ _ l0 _ (by exact fr_sl Fx0_7.out) (by exact fr_sl Fy0_7.out)).mono ?_
  rintro e w8 ⟨rfl, b8⟩
  have B8 : Below w.heap.size w w8 := Below.trans B7 (b8.mono (by first | (with_reducible assumption) | ((try simp only [World.size_alloc, World.size_setCell, World.size_drew]) <;> omega) | (simp [World.setCell]; done) | (simp [World.setCell]; omega)))
  have z8 : w7.heap.size + 0 ≤ w8.heap.size := by have := b8.size; (try simp only [World.size_alloc, World.size_drew] at this ⊢) <;> omega
  have Fw0r0_8 := Lib.hid (Fw0r0_7.out.below b8 (by first | (with_reducible assumption) | ((try simp only [World.size_alloc, World.size_setCell, World.size_drew]) <;> omega) | (simp [World.setCell]; done) | (simp [World.setCell]; omega)))
  clear Fw0r0_7
  have Fx0_8 := Lib.hid (Fx0_7.out.below b8 (by first | (with_reducible assumption) | ((try simp only [World.size_alloc, World.size_setCell, World.size_drew]) <;> omega) | (simp [World.setCell]; done) | (simp [World.setCell]; omega)))
  clear Fx0_7
  have Fg0r0_8 := Lib.hid (Fg0r0_7.out.below b8 (by first | (with_reducible assumption) | ((try simp only [World.size_alloc, World.size_setCell, World.size_drew]) <;> omega) | (simp [World.setCell]; done) | (simp [World.setCell]; omega)))
  clear Fg0r0_7
  have Fy0_8 := Lib.hid (Fy0_7.out.below b8 (by first | (with_reducible assumption) | ((try simp only [World.size_alloc, World.size_setCell, World.size_drew]) <;> omega) | (simp [World.setCell]; done) | (simp [World.setCell]; omega)))
  clear Fy0_7
  clear Fy0_8
  go_wp2_with fail
  obtain ⟨bl9, rep9, nd9, in9⟩ := rep_of_FrIn Fx0_8.out
  clear Fx0_8
  refine (markPairS_any _ _ _ _ l0 _ _ (by exact rep9) nd9 (by omega) (by omega)).mono ?_
  rintro e w9 ⟨rfl, rp9, on9⟩
  have B9 : Below w.heap.size w w9 := Below.trans B8 (on9.below (fun b hb => by have := in9 b hb; (try simp only [World.size_alloc, World.size_drew] at this ⊢) <;> omega) (by first | (with_reducible assumption) | ((try simp only [World.size_alloc, World.size_setCell, World.size_drew]) <;> omega) | (simp [World.setCell]; done) | (simp [World.setCell]; omega)))
  have z9 : w8.heap.size + 0 ≤ w9.heap.size := by have := on9.size; (try simp only [World.size_alloc, World.size_drew] at this ⊢) <;> omega
  have Fw0r0_9 := Lib.hid (Fw0r0_8.out.only on9 (fun b hb => by have := in9 b hb; (try simp only [World.size_alloc, World.size_drew] at this ⊢) <;> omega))
  clear Fw0r0_8
  have Fg0r0_9 := Lib.hid (Fg0r0_8.out.only on9 (fun b hb => by have := in9 b hb; (try simp only [World.size_alloc, World.size_drew] at this ⊢) <;> omega))
  clear Fg0r0_8
  have G9 := FrIn.of_rep rp9 nd9 in9 (by first | (with_reducible assumption) | ((try simp only [World.size_alloc, World.size_setCell, World.size_drew]) <;> omega) | (simp [World.setCell]; done) | (simp [World.setCell]; omega))
  clear rep9 rp9
  have Fx0_9 := Lib.hid G9; clear G9
  clear Fx0_9
  go_wp2_with fail
  refine (eqBatchS_any _ _ _ _ _ _ R0 _ (by exact fr_sl Fg0r0_9.out) (by exact fr_sl Fw0r0_9.out)).mono ?_
  rintro e w10 ⟨rfl, b10⟩
  have B10 : Below w.heap.size w w10 := Below.trans B9 (b10.mono (by first | (with_reducible assumption) | ((try simp only [World.size_alloc, World.size_setCell, World.size_drew]) <;> omega) | (simp [World.setCell]; done) | (simp [World.setCell]; omega)))
  have z10 : w9.heap.size + 0 ≤ w10.heap.size := by have := b10.size; (try simp only [World.size_alloc, World.size_drew] at this ⊢) <;> omega
  have Fw0r0_10 := Lib.hid (Fw0r0_9.out.below b10 (by first | (with_reducible assumption) | ((try simp only [World.size_alloc, World.size_setCell, World.size_drew]) <;> omega) | (simp [World.setCell]; done) | (simp [World.setCell]; omega)))
  clear Fw0r0_9
  have Fg0r0_10 := Lib.hid (Fg0r0_9.out.below b10 (by first | (with_reducible assumption) | ((try simp only [World.size_alloc, World.size_setCell, World.size_drew]) <;> omega) | (simp [World.setCell]; done) | (simp [World.setCell]; omega)))
  clear Fg0r0_9
  go_wp2_with fail
  obtain ⟨bl11, rep11, nd11, in11⟩ := rep_of_FrIn Fg0r0_10.out
  clear Fg0r0_10
  refine (markBatchS_any _ _ _ _ R0 _ _ (by exact rep11) nd11 (by omega) (by omega)).mono ?_
  rintro e w11 ⟨rfl, rp11, on11⟩
  have B11 : Below w.heap.size w w11 := Below.trans B10 (on11.below (fun b hb => by have := in11 b hb; (try simp only [World.size_alloc, World.size_drew] at this ⊢) <;> omega) (by first | (with_reducible assumption) | ((try simp only [World.size_alloc, World.size_setCell, World.size_drew]) <;> omega) | (simp [World.setCell]; done) | (simp [World.setCell]; omega)))
  have z11 : w10.heap.size + 0 ≤ w11.heap.size := by have := on11.size; (try simp only [World.size_alloc, World.size_drew] at this ⊢) <;> omega
  have Fw0r0_11 := Lib.hid (Fw0r0_10.out.only on11 (fun b hb => by have := in11 b hb; (try simp only [World.size_alloc, World.size_drew] at this ⊢) <;> omega))
  clear Fw0r0_10
  have G11 := FrIn.of_rep rp11 nd11 in11 (by first | (with_reducible assumption) | ((try simp only [World.size_alloc, World.size_setCell, World.size_drew]) <;> omega) | (simp [World.setCell]; done) | (simp [World.setCell]; omega))
  clear rep11 rp11
  have Fg0r0_11 := Lib.hid G11; clear G11
  go_wp2_with fail
  refine (heldBatchS_any _ _ _ _ R0 _ (by exact fr_sl Fg0r0_11.out) (by omega) (by omega)).mono ?_
  rintro e w12 ⟨rfl, b12⟩
  have B12 : Below w.heap.size w w12 := Below.trans B11 (b12.mono (by first | (with_reducible assumption) | ((try simp only [World.size_alloc, World.size_setCell, World.size_drew]) <;> omega) | (simp [World.setCell]; done) | (simp [World.setCell]; omega)))
  have z12 : w11.heap.size + 0 ≤ w12.heap.size := by have := b12.size; (try simp only [World.size_alloc, World.size_drew] at this ⊢) <;> omega
  have Fw0r0_12 := Lib.hid (Fw0r0_11.out.below b12 (by first | (with_reducible assumption) | ((try simp only [World.size_alloc, World.size_setCell, World.size_drew]) <;> omega) | (simp [World.setCell]; done) | (simp [World.setCell]; omega)))
  clear Fw0r0_11
  have Fg0r0_12 := Lib.hid (Fg0r0_11.out.below b12 (by first | (with_reducible assumption) | ((try simp only [World.size_alloc, World.size_setCell, World.size_drew]) <;> omega) | (simp [World.setCell]; done) | (simp [World.setCell]; omega)))
  clear Fg0r0_11
  go_wp2_with fail
  refine (toPairS_any _ _ _ l0 _ (by exact h0.below B12) (by omega)).mono ?_
  rintro e w13 ⟨up0, uc0, rfl, uf0, b13⟩
  have B13 : Below w.heap.size w w13 := Below.trans B12 (b13.mono (by first | (with_reducible assumption) | ((try simp only [World.size_alloc, World.size_setCell, World.size_drew]) <;> omega) | (simp [World.setCell]; done) | (simp [World.setCell]; omega)))
  have z13 : w12.heap.size + 0 ≤ w13.heap.size := by have := b13.size; (try simp only [World.size_alloc, World.size_drew] at this ⊢) <;> omega
  have Fw0r0_13 := Lib.hid (Fw0r0_12.out.below b13 (by first | (with_reducible assumption) | ((try simp only [World.size_alloc, World.size_setCell, World.size_drew]) <;> omega) | (simp [World.setCell]; done) | (simp [World.setCell]; omega)))
  clear Fw0r0_12
  have Fg0r0_13 := Lib.hid (Fg0r0_12.out.below b13 (by first | (with_reducible assumption) | ((try simp only [World.size_alloc, World.size_setCell, World.size_drew]) <;> omega) | (simp [World.setCell]; done) | (simp [World.setCell]; omega)))
  clear Fg0r0_12
  have Fu0_13 := Lib.hid uf0; clear uf0
  go_wp2_with fail
  refine (HI.out _ _ _ (by exact fr_sl Fu0_13.out)).mono ?_
  rintro e w14 ⟨h0rp0, h0rc0, rfl, h0rf0, b14⟩
  have B14 : Below w.heap.size w w14 := Below.trans B13 (b14.mono (by first | (with_reducible assumption) | ((try simp only [World.size_alloc, World.size_setCell, World.size_drew]) <;> omega) | (simp [World.setCell]; done) | (simp [World.setCell]; omega)))
  have z14 : w13.heap.size + 0 ≤ w14.heap.size := by have := b14.size; (try simp only [World.size_alloc, World.size_drew] at this ⊢) <;> omega
  have Fw0r0_14 := Lib.hid (Fw0r0_13.out.below b14 (by first | (with_reducible assumption) | ((try simp only [World.size_alloc, World.size_setCell, World.size_drew]) <;> omega) | (simp [World.setCell]; done) | (simp [World.setCell]; omega)))
  clear Fw0r0_13
  have Fg0r0_14 := Lib.hid (Fg0r0_13.out.below b14 (by first | (with_reducible assumption) | ((try simp only [World.size_alloc, World.size_setCell, World.size_drew]) <;> omega) | (simp [World.setCell]; done) | (simp [World.setCell]; omega)))
  clear Fg0r0_13
  have Fu0_14 := Lib.hid (Fu0_13.out.below b14 (by first | (with_reducible assumption) | ((try simp only [World.size_alloc, World.size_setCell, World.size_drew]) <;> omega) | (simp [World.setCell]; done) | (simp [World.setCell]; omega)))
  clear Fu0_13
  clear Fu0_14
  have Fh0r0_14 := Lib.hid h0rf0; clear h0rf0
  go_wp2_with fail
  refine (eqBatchS_any _ _ _ _ _ _ R0 _ (by exact fr_sl Fh0r0_14.out) (by exact fr_sl Fw0r0_14.out)).mono ?_
  rintro e w15 ⟨rfl, b15⟩
  have B15 : Below w.heap.size w w15 := Below.trans B14 (b15.mono (by first | (with_reducible assumption) | ((try simp only [World.size_alloc, World.size_setCell, World.size_drew]) <;> omega) | (simp [World.setCell]; done) | (simp [World.setCell]; omega)))
  have z15 : w14.heap.size + 0 ≤ w15.heap.size := by have := b15.size; (try simp only [World.size_alloc, World.size_drew] at this ⊢) <;> omega
  have Fw0r0_15 := Lib.hid (Fw0r0_14.out.below b15 (by first | (with_reducible assumption) | ((try simp only [World.size_alloc, World.size_setCell, World.size_drew]) <;> omega) | (simp [World.setCell]; done) | (simp [World.setCell]; omega)))
  clear Fw0r0_14
  have Fg0r0_15 := Lib.hid (Fg0r0_14.out.below b15 (by first | (with_reducible assumption) | ((try simp only [World.size_alloc, World.size_setCell, World.size_drew]) <;> omega) | (simp [World.setCell]; done) | (simp [World.setCell]; omega)))
  clear Fg0r0_14
  have Fh0r0_15 := Lib.hid (Fh0r0_14.out.below b15 (by first | (with_reducible assumption) | ((try simp only [World.size_alloc, World.size_setCell, World.size_drew]) <;> omega) | (simp [World.setCell]; done) | (simp [World.setCell]; omega)))
  clear Fh0r0_14
  go_wp2_with fail
  refine (heldBatchS_any _ _ _ _ R0 _ (by exact fr_sl Fg0r0_15.out) (by omega) (by omega)).mono ?_
  rintro e w16 ⟨rfl, b16⟩
  have B16 : Below w.heap.size w w16 := Below.trans B15 (b16.mono (by first | (with_reducible assumption) | ((try simp only [World.size_alloc, World.size_setCell, World.size_drew]) <;> omega) | (simp [World.setCell]; done) | (simp [World.setCell]; omega)))
  have z16 : w15.heap.size + 0 ≤ w16.heap.size := by have := b16.size; (try simp only [World.size_alloc, World.size_drew] at this ⊢) <;> omega
  have Fw0r0_16 := Lib.hid (Fw0r0_15.out.below b16 (by first | (with_reducible assumption) | ((try simp only [World.size_alloc, World.size_setCell, World.size_drew]) <;> omega) | (simp [World.setCell]; done) | (simp [World.setCell]; omega)))
  clear Fw0r0_15
  have Fg0r0_16 := Lib.hid (Fg0r0_15.out.below b16 (by first | (with_reducible assumption) | ((try simp only [World.size_alloc, World.size_setCell, World.size_drew]) <;> omega) | (simp [World.setCell]; done) | (simp [World.setCell]; omega)))
  clear Fg0r0_15
  have Fh0r0_16 := Lib.hid (Fh0r0_15.out.below b16 (by first | (with_reducible assumption) | ((try simp only [World.size_alloc, World.size_setCell, World.size_drew]) <;> omega) | (simp [World.setCell]; done) | (simp [World.setCell]; omega)))
  clear Fh0r0_15
  go_wp2
  go_ret
  exact ⟨rfl, B16⟩
end Go.Proofs.Yteejpennjkihaaa
