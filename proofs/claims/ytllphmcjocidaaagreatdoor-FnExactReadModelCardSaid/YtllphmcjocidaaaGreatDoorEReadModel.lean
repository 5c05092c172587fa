/- The walk of FnExactReadModel. -/
import Derived.Test.YtllphmcjocidaaaGreatDoorBReadModel
import Derived.Test.YtllphmcjocidaaaGreatDoorTModel
import Derived.Test.YtllphmcjocidaaaGreatDoorUModel
import Derived.Deep.RegionHeld3
namespace Go.Proofs.YtllphmcjocidaaaGreatDoor
open Go.ChangeShapes Go.WideShapes Go.ChangeAt Go.RowKit
set_option linter.unusedVariables false
set_option linter.unusedSimpArgs false
set_option maxRecDepth 100000 in
set_option maxHeartbeats 4000000 in
theorem fnExactReadModel_walk (w : World) (ht : tabP.p w) (x0 : ByteArray) (h0 : x0.size ≤ maxLen) :
    Calls Tryz.prog 3 #[.string x0] w fun e w' => e = .returned (.bool true) ∧ Below w.heap.size w w' := by
  by_cases hg0 : ((x0.size : Nat) : Int) ≤ 1048576
  rotate_left
  · skip
    have hgn0 : (1048576 : Int) < (x0.size : Nat) := by omega
    go_enter Tryz.func3, Tryz.ntmps3
    go_wp2
    go_ret
    exact ⟨rfl, belx⟩
  have hgn0 : ¬ ((1048576 : Int) < (x0.size : Nat)) := by omega
  obtain ⟨R0, R1, hS, hI, hcr⟩ := readModel_both x0 h0 (by omega)
  have HS := Lib.hid hS; have HI := Lib.hid hI; clear hS hI
  go_enter Tryz.func3, Tryz.ntmps3
  go_wp2_with fail
  refine (HS.out  _ ht).mono ?_
  rintro e w1 ⟨w0rcs0, rfl, w0rf0, b1⟩
  have B1 : Below w.heap.size w w1 := Below.trans (Below.refl _ _) (b1.mono fcx)
  have z1 : w.heap.size + 0 ≤ w1.heap.size := by have := b1.size; (try simp only [World.size_alloc, World.size_drew] at this ⊢) <;> omega
  have rrw0r0d := w0rf0.rd
  obtain ⟨w0r0dp0, w0r0dn0, w0r0dq0, w0r0dhcs, w0r0ds0⟩ := rrw0r0d
  obtain rfl : w0rcs0 = #[.slice w0r0dp0 w0r0dn0 w0r0dq0] := arr_of w0r0dhcs
  clear w0r0dhcs
  have Fw0r0_1 := Lib.hid w0rf0; clear w0rf0
  go_wp2_with fail
  refine (HI.out  _ (tab_triv ht (B := w.heap.size) belx (Nat.le_refl _))).mono ?_
  rintro e w2 ⟨g0rcs0, rfl, g0rf0, b2⟩
  have B2 : Below w.heap.size w w2 := Below.trans belx (b2.mono fcx)
  have z2 : w1.heap.size + 1 ≤ w2.heap.size := by have := b2.size; (try simp only [World.size_alloc, World.size_drew] at this ⊢) <;> omega
  have qw0r00_2 : w2.cell? ⟨w1.heap.size, 0, none⟩ = some (.slice w0r0dp0 w0r0dn0 w0r0dq0) := (b2.cell (p := ⟨w1.heap.size, 0, none⟩) fcx).trans (by simp)
  have zbw0r0_2 : w1.heap.size < w2.heap.size := fcx
  have Fw0r0_2 := Lib.hid ((Fw0r0_1.out.alloc _).below b2 fcx)
  clear Fw0r0_1
  have rrg0r0d := g0rf0.rd
  obtain ⟨g0r0dp0, g0r0dn0, g0r0dq0, g0r0dhcs, g0r0ds0⟩ := rrg0r0d
  obtain rfl : g0rcs0 = #[.slice g0r0dp0 g0r0dn0 g0r0dq0] := arr_of g0r0dhcs
  clear g0r0dhcs
  have Fg0r0_2 := Lib.hid g0rf0; clear g0rf0
  go_wp2_with fail
  refine (eqModel_any _ _ R0 _ (by exact ((Fg0r0_2.out.alloc _)).rd) (by exact ((Fw0r0_2.out.alloc _)).rd)).mono ?_
  rintro e w3 ⟨rfl, b3⟩
  have B3 : Below w.heap.size w w3 := Below.trans belx (b3.mono fcx)
  have z3 : w2.heap.size + 1 ≤ w3.heap.size := by have := b3.size; (try simp only [World.size_alloc, World.size_drew] at this ⊢) <;> omega
  have qw0r00_3 : w3.cell? ⟨w1.heap.size, 0, none⟩ = some (.slice w0r0dp0 w0r0dn0 w0r0dq0) := (b3.cell (p := ⟨w1.heap.size, 0, none⟩) fcx).trans ((alloc_cell (a := ⟨w1.heap.size, 0, none⟩) fcx).trans qw0r00_2)
  have zbw0r0_3 : w1.heap.size < w3.heap.size := fcx
  clear qw0r00_2
  have qg0r00_3 : w3.cell? ⟨w2.heap.size, 0, none⟩ = some (.slice g0r0dp0 g0r0dn0 g0r0dq0) := (b3.cell (p := ⟨w2.heap.size, 0, none⟩) fcx).trans (by simp)
  have zbg0r0_3 : w2.heap.size < w3.heap.size := fcx
  have Fw0r0_3 := Lib.hid ((Fw0r0_2.out.alloc _).below b3 fcx)
  clear Fw0r0_2
  have Fg0r0_3 := Lib.hid ((Fg0r0_2.out.alloc _).below b3 fcx)
  clear Fg0r0_2
  go_wp2_with fail
  obtain ⟨bl4, rep4, nd4, in4⟩ := (Fg0r0_3.out).un
  clear Fg0r0_3
  refine (markModel_un _ _ R0 _ _ (by exact rep4) nd4 (by omega) (by omega)).mono ?_
  rintro e w4 ⟨rfl, rp4, on4⟩
  have B4 : Below w.heap.size w w4 := Below.trans B3 (on4.below (fun b hb => by have := in4 b hb; (try simp only [World.size_alloc, World.size_drew] at this ⊢) <;> omega) fcx)
  have z4 : w3.heap.size + 0 ≤ w4.heap.size := by have := on4.size; (try simp only [World.size_alloc, World.size_drew] at this ⊢) <;> omega
  have qw0r00_4 : w4.cell? ⟨w1.heap.size, 0, none⟩ = some (.slice w0r0dp0 w0r0dn0 w0r0dq0) := (on4.cell (a := ⟨w1.heap.size, 0, none⟩) (fun hm => by have := in4 _ hm; (try simp only [World.size_alloc, World.size_drew] at this ⊢) <;> omega) fcx).trans qw0r00_3
  have zbw0r0_4 : w1.heap.size < w4.heap.size := fcx
  clear qw0r00_3
  have qg0r00_4 : w4.cell? ⟨w2.heap.size, 0, none⟩ = some (.slice g0r0dp0 g0r0dn0 g0r0dq0) := (on4.cell (a := ⟨w2.heap.size, 0, none⟩) (fun hm => by have := in4 _ hm; (try simp only [World.size_alloc, World.size_drew] at this ⊢) <;> omega) fcx).trans qg0r00_3
  have zbg0r0_4 : w2.heap.size < w4.heap.size := fcx
  clear qg0r00_3
  have Fw0r0_4 := Lib.hid (Fw0r0_3.out.only on4 (fun b hb => by have := in4 b hb; (try simp only [World.size_alloc, World.size_drew] at this ⊢) <;> omega))
  clear Fw0r0_3
  have G4 := FrA.of_un rp4 nd4 in4 fcx
  clear rep4 rp4
  have Fg0r0_4 := Lib.hid G4; clear G4
  go_wp2_with fail
  refine (heldModel_any _ _ R0 _ (by exact (Fg0r0_4.out).rd) (by omega) (by omega)).mono ?_
  rintro e w5 ⟨rfl, b5⟩
  have B5 : Below w.heap.size w w5 := Below.trans B4 (b5.mono fcx)
  have z5 : w4.heap.size + 0 ≤ w5.heap.size := by have := b5.size; (try simp only [World.size_alloc, World.size_drew] at this ⊢) <;> omega
  have qw0r00_5 : w5.cell? ⟨w1.heap.size, 0, none⟩ = some (.slice w0r0dp0 w0r0dn0 w0r0dq0) := (b5.cell (p := ⟨w1.heap.size, 0, none⟩) fcx).trans qw0r00_4
  have zbw0r0_5 : w1.heap.size < w5.heap.size := fcx
  clear qw0r00_4
  have qg0r00_5 : w5.cell? ⟨w2.heap.size, 0, none⟩ = some (.slice g0r0dp0 g0r0dn0 g0r0dq0) := (b5.cell (p := ⟨w2.heap.size, 0, none⟩) fcx).trans qg0r00_4
  have zbg0r0_5 : w2.heap.size < w5.heap.size := fcx
  clear qg0r00_4
  have Fw0r0_5 := Lib.hid (Fw0r0_4.out.below b5 fcx)
  clear Fw0r0_4
  have Fg0r0_5 := Lib.hid (Fg0r0_4.out.below b5 fcx)
  clear Fg0r0_4
  go_wp2_with fail
  refine (HI.out  _ (tab_triv ht (B := w.heap.size) belx (Nat.le_refl _))).mono ?_
  rintro e w6 ⟨h0rcs0, rfl, h0rf0, b6⟩
  have B6 : Below w.heap.size w w6 := Below.trans B5 (b6.mono fcx)
  have z6 : w5.heap.size + 0 ≤ w6.heap.size := by have := b6.size; (try simp only [World.size_alloc, World.size_drew] at this ⊢) <;> omega
  have qw0r00_6 : w6.cell? ⟨w1.heap.size, 0, none⟩ = some (.slice w0r0dp0 w0r0dn0 w0r0dq0) := (b6.cell (p := ⟨w1.heap.size, 0, none⟩) fcx).trans qw0r00_5
  have zbw0r0_6 : w1.heap.size < w6.heap.size := fcx
  clear qw0r00_5
  have qg0r00_6 : w6.cell? ⟨w2.heap.size, 0, none⟩ = some (.slice g0r0dp0 g0r0dn0 g0r0dq0) := (b6.cell (p := ⟨w2.heap.size, 0, none⟩) fcx).trans qg0r00_5
  have zbg0r0_6 : w2.heap.size < w6.heap.size := fcx
  clear qg0r00_5
  have Fw0r0_6 := Lib.hid (Fw0r0_5.out.below b6 fcx)
  clear Fw0r0_5
  have Fg0r0_6 := Lib.hid (Fg0r0_5.out.below b6 fcx)
  clear Fg0r0_5
  have rrh0r0d := h0rf0.rd
  obtain ⟨h0r0dp0, h0r0dn0, h0r0dq0, h0r0dhcs, h0r0ds0⟩ := rrh0r0d
  obtain rfl : h0rcs0 = #[.slice h0r0dp0 h0r0dn0 h0r0dq0] := arr_of h0r0dhcs
  clear h0r0dhcs
  have Fh0r0_6 := Lib.hid h0rf0; clear h0rf0
  go_wp2_with fail
  refine (eqModel_any _ _ R0 _ (by exact ((Fh0r0_6.out.alloc _)).rd) (by exact ((Fw0r0_6.out.alloc _)).rd)).mono ?_
  rintro e w7 ⟨rfl, b7⟩
  have B7 : Below w.heap.size w w7 := Below.trans belx (b7.mono fcx)
  have z7 : w6.heap.size + 1 ≤ w7.heap.size := by have := b7.size; (try simp only [World.size_alloc, World.size_drew] at this ⊢) <;> omega
  have qw0r00_7 : w7.cell? ⟨w1.heap.size, 0, none⟩ = some (.slice w0r0dp0 w0r0dn0 w0r0dq0) := (b7.cell (p := ⟨w1.heap.size, 0, none⟩) fcx).trans ((alloc_cell (a := ⟨w1.heap.size, 0, none⟩) fcx).trans qw0r00_6)
  have zbw0r0_7 : w1.heap.size < w7.heap.size := fcx
  clear qw0r00_6
  have qg0r00_7 : w7.cell? ⟨w2.heap.size, 0, none⟩ = some (.slice g0r0dp0 g0r0dn0 g0r0dq0) := (b7.cell (p := ⟨w2.heap.size, 0, none⟩) fcx).trans ((alloc_cell (a := ⟨w2.heap.size, 0, none⟩) fcx).trans qg0r00_6)
  have zbg0r0_7 : w2.heap.size < w7.heap.size := fcx
  clear qg0r00_6
  have qh0r00_7 : w7.cell? ⟨w6.heap.size, 0, none⟩ = some (.slice h0r0dp0 h0r0dn0 h0r0dq0) := (b7.cell (p := ⟨w6.heap.size, 0, none⟩) fcx).trans (by simp)
  have zbh0r0_7 : w6.heap.size < w7.heap.size := fcx
  have Fw0r0_7 := Lib.hid ((Fw0r0_6.out.alloc _).below b7 fcx)
  clear Fw0r0_6
  have Fg0r0_7 := Lib.hid ((Fg0r0_6.out.alloc _).below b7 fcx)
  clear Fg0r0_6
  have Fh0r0_7 := Lib.hid ((Fh0r0_6.out.alloc _).below b7 fcx)
  clear Fh0r0_6
  go_wp2_with fail
  refine (heldModel_any _ _ R0 _ (by exact (Fg0r0_7.out).rd) (by omega) (by omega)).mono ?_
  rintro e w8 ⟨rfl, b8⟩
  have B8 : Below w.heap.size w w8 := Below.trans B7 (b8.mono fcx)
  have z8 : w7.heap.size + 0 ≤ w8.heap.size := by have := b8.size; (try simp only [World.size_alloc, World.size_drew] at this ⊢) <;> omega
  have qw0r00_8 : w8.cell? ⟨w1.heap.size, 0, none⟩ = some (.slice w0r0dp0 w0r0dn0 w0r0dq0) := (b8.cell (p := ⟨w1.heap.size, 0, none⟩) fcx).trans qw0r00_7
  have zbw0r0_8 : w1.heap.size < w8.heap.size := fcx
  clear qw0r00_7
  have qg0r00_8 : w8.cell? ⟨w2.heap.size, 0, none⟩ = some (.slice g0r0dp0 g0r0dn0 g0r0dq0) := (b8.cell (p := ⟨w2.heap.size, 0, none⟩) fcx).trans qg0r00_7
  have zbg0r0_8 : w2.heap.size < w8.heap.size := fcx
  clear qg0r00_7
  have qh0r00_8 : w8.cell? ⟨w6.heap.size, 0, none⟩ = some (.slice h0r0dp0 h0r0dn0 h0r0dq0) := (b8.cell (p := ⟨w6.heap.size, 0, none⟩) fcx).trans qh0r00_7
  have zbh0r0_8 : w6.heap.size < w8.heap.size := fcx
  clear qh0r00_7
  have Fw0r0_8 := Lib.hid (Fw0r0_7.out.below b8 fcx)
  clear Fw0r0_7
  have Fg0r0_8 := Lib.hid (Fg0r0_7.out.below b8 fcx)
  clear Fg0r0_7
  have Fh0r0_8 := Lib.hid (Fh0r0_7.out.below b8 fcx)
  clear Fh0r0_7
  go_wp2
  go_ret
  exact ⟨rfl, B8⟩
end Go.Proofs.YtllphmcjocidaaaGreatDoor
