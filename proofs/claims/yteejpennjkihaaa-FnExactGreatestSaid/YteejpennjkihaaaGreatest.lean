/- The walk of FnExactGreatest: the greatest of all gradients, without their signs. -/
import Derived.Test.YteejpennjkihaaaTGrads
import Derived.Test.YteejpennjkihaaaFix
import Derived.Deep.RegionHeld3
namespace Go.Proofs.Yteejpennjkihaaa
open Go.ChangeShapes Go.WideShapes Go.ChangeAt Go.RowKit
set_option linter.unusedVariables false
set_option linter.unusedSimpArgs false

def gstep (m x : Int) : Int := max (max m (cl x)) (-(cl x))
def grow (m : Int) (r : List Int) : Int := r.foldl gstep m
def gall (l : List tRow.D) : Int := l.foldl grow 0
theorem grow_snoc (m : Int) (l : List Int) (k : Nat) (h : k < l.length) : grow m (l.take (k+1)) = gstep (grow m (l.take k)) l[k] := by
  unfold grow; rw [List.take_succ_eq_append_getElem h, List.foldl_append]; rfl
theorem gall_snoc (l : List tRow.D) (k : Nat) (h : k < l.length) : gall (l.take (k+1)) = grow (gall (l.take k)) l[k] := by
  unfold gall; rw [List.take_succ_eq_append_getElem h, List.foldl_append]; rfl

/-- One row of a list of rows. -/
theorem row_at {w : World} {p : Option Addr} {len cap : Nat} {l : List tRow.D} (h : SlRd tRow.n (rd tRow w) w p len cap l) (k : Nat) (hk : k < l.length) :
    ∃ b off q n c, p = some ⟨b, off, none⟩ ∧ b < w.heap.size ∧ w.cell? ⟨b, off + k, none⟩ = some (.slice q n c) ∧ SlRd 1 (rd tInt w) w q n c (l[k] : List Int) := by
  obtain ⟨b, off, hp, hb, cs, hl, hc, q, n, c, rfl, hs⟩ := h.2.2.2.2 k hk
  refine ⟨b, off, q, n, c, hp, hb, ?_, hs⟩
  have := hc 0 (by simp)
  rw [show Ty.n tRow = 1 from rfl] at this
  simpa using this

set_option maxRecDepth 100000 in
set_option maxHeartbeats 1000000 in
theorem implGreatest_any (cs : Array Value) (d : tGrads.D) (w : World) (h : rd tGrads w cs.toList d) :
    Calls Try.prog 49 #[.agg cs] w (RetV (.int .i64 (gall d.1)) w) := by
  obtain ⟨l, x1, x2⟩ := d
  obtain ⟨_, _, hcs, ⟨p, len, cap, rfl, hs⟩, _, _, rfl, ⟨rfl, _⟩, rfl⟩ := h
  obtain rfl : cs = #[.slice p len cap, .int .i64 x1, .bool x2] := arr_of hcs
  clear hcs
  have hlen : len ≤ maxLen := Nat.le_trans hs.2.1 hs.2.2.1
  obtain rfl := hs.lens
  unfold maxLen at hlen
  go_enter Try.func49, Try.ntmps49
  go_wp2
  go_loopw [3, 11] (fun v i wr => ∃ k : Nat, k ≤ List.length l ∧ i = .int .i64 k ∧ (∃ m, v = .int .i64 m ∧ m = gall (List.take k l)) ∧ Below w.heap.size w wr) (fun _ i _ => List.length l - (intOf i).toNat)
  case atStart => exact ⟨0, by omega, rfl, ⟨0, rfl, rfl⟩, (Below.refl _ _).alloc (Nat.le_refl _) _⟩
  case round =>
    obtain ⟨k, hk, rfl, ⟨m0, rfl, hm0⟩, hb⟩ := hrel
    have HM0 := Lib.hid hm0; clear hm0
    by_cases hlt : k < List.length l
    · obtain ⟨b, off, q, n, c, rfl, hlb, e1, hrow⟩ := row_at hs k hlt
      have c1 := (hb.cell hlb).trans e1
      have HG := Lib.hid (gall_snoc l k hlt)
      obtain ⟨r, hr⟩ : ∃ r : List Int, l[k] = r := ⟨_, rfl⟩
      have HR := Lib.hid hr
      rw [hr] at hrow
      have hn : n ≤ maxLen := Nat.le_trans hrow.2.1 hrow.2.2.1
      obtain rfl := hrow.lens
      unfold maxLen at hn
      have HS := Lib.hid hs
      obtain ⟨wo, rfl⟩ : ∃ wo : World, wo = wr := ⟨_, rfl⟩
      clear e1 hs hr
      go_wp2
      go_loopw [3, 18] (fun v i wr => ∃ j : Nat, j ≤ r.length ∧ i = .int .i64 j ∧ (∃ m, v = .int .i64 m ∧ m = grow m0 (r.take j)) ∧ Below w.heap.size w wr) (fun _ i _ => r.length - (intOf i).toNat)
      case atStart => exact ⟨0, by omega, rfl, ⟨_, rfl, rfl⟩, hb.alloc hb.size _⟩
      case round =>
        obtain ⟨j, hj, rfl, ⟨m, rfl, hm⟩, hb2⟩ := hrel
        have HM := Lib.hid hm; clear hm
        by_cases hjl : j < r.length
        · obtain ⟨b2, off2, rfl, hlb2, hc, -, -⟩ := int_at hrow j hjl
          have c2 := (hb2.cell hlb2).trans hc
          have HGS := Lib.hid (grow_snoc m0 r j hjl)
          obtain ⟨x, hx⟩ : ∃ x, r[j] = x := ⟨_, rfl⟩
          rw [hx] at c2
          have HX := Lib.hid hx
          obtain ⟨y1, y2⟩ := cl_bounds x
          clear hc hx hrow c1
          go_wp2_with (go_at_call 94; refine (clamp_any _ _).mono ?_; rintro e w' ⟨rfl, rfl⟩)
          all_goals go_roundw
          case rel =>
            refine ⟨j + 1, by omega, by go_num, ⟨_, rfl, ?_⟩, hb2⟩
            rw [HGS.out, HX.out, ← HM.out]
            unfold gstep
            simp only [Int.max_def]
            repeat (split <;> try omega)
          case measure => simp [intOf]; omega
        · clear hrow c1
          go_wp2
          go_roundw
          case rel =>
            refine ⟨k + 1, by omega, by go_num, ⟨_, rfl, ?_⟩, hb2⟩
            rw [HG.out, HR.out, ← HM0.out, HM.out, List.take_of_length_le (by omega)]
          case measure => simp [intOf]; omega
    · clear hs
      go_wp2
      go_ret
      exact ⟨ret_int (by rw [HM0.out, List.take_of_length_le (by omega)]), hb⟩

set_option maxRecDepth 100000 in
set_option maxHeartbeats 1000000 in
theorem specGreatest_any (cs : Array Value) (d : tGrads.D) (w : World) (h : rd tGrads w cs.toList d) :
    Calls Try.prog 47 #[.agg cs] w (RetV (.int .i64 (gall d.1)) w) := by
  obtain ⟨l, x1, x2⟩ := d
  obtain ⟨_, _, hcs, ⟨p, len, cap, rfl, hs⟩, _, _, rfl, ⟨rfl, _⟩, rfl⟩ := h
  obtain rfl : cs = #[.slice p len cap, .int .i64 x1, .bool x2] := arr_of hcs
  clear hcs
  have hlen : len ≤ maxLen := Nat.le_trans hs.2.1 hs.2.2.1
  obtain rfl := hs.lens
  unfold maxLen at hlen
  go_enter Try.func47, Try.ntmps47
  go_wp2
  go_loopw [3, 4] (fun v i wr => ∃ k : Nat, k ≤ List.length l ∧ i = .int .i64 k ∧ (∃ m, v = .int .i64 m ∧ m = gall (List.take k l)) ∧ Below w.heap.size w wr ∧ wr.cell? ⟨w.heap.size, 0, none⟩ = some (.slice p (List.length l) cap)) (fun _ i _ => List.length l - (intOf i).toNat)
  case atStart => exact ⟨0, by omega, rfl, ⟨0, rfl, rfl⟩, (Below.refl _ _).alloc (Nat.le_refl _) _, by simp⟩
  case round =>
    obtain ⟨k, hk, rfl, ⟨m0, rfl, hm0⟩, hb, hbox⟩ := hrel
    have HM0 := Lib.hid hm0; clear hm0
    by_cases hlt : k < List.length l
    · obtain ⟨b, off, q, n, c, rfl, hlb, e1, hrow⟩ := row_at hs k hlt
      have HG := Lib.hid (gall_snoc l k hlt)
      obtain ⟨r, hr⟩ : ∃ r : List Int, l[k] = r := ⟨_, rfl⟩
      have HR := Lib.hid hr
      rw [hr] at hrow
      have hn : n ≤ maxLen := Nat.le_trans hrow.2.1 hrow.2.2.1
      obtain rfl := hrow.lens
      unfold maxLen at hn
      have HS := Lib.hid hs
      obtain ⟨wo, rfl⟩ : ∃ wo : World, wo = wr := ⟨_, rfl⟩
      clear hs hr
      go_wp2
      go_loopw [3, 5] (fun v i wr => ∃ j : Nat, j ≤ r.length ∧ i = .int .i64 j ∧ (∃ m, v = .int .i64 m ∧ m = grow m0 (r.take j)) ∧ Below w.heap.size w wr ∧ wr.cell? ⟨w.heap.size, 0, none⟩ = some (.slice (some ⟨b, off, none⟩) (List.length l) cap)) (fun _ i _ => r.length - (intOf i).toNat)
      case atStart => exact ⟨0, by omega, rfl, ⟨_, rfl, rfl⟩, hb, hbox⟩
      case round =>
        obtain ⟨j, hj, rfl, ⟨m, rfl, hm⟩, hb2, hbox2⟩ := hrel
        have HM := Lib.hid hm; clear hm
        have c1 := (hb2.cell hlb).trans e1
        by_cases hjl : j < r.length
        · obtain ⟨b2, off2, rfl, hlb2, hc, -, -⟩ := int_at hrow j hjl
          have c2 := (hb2.cell hlb2).trans hc
          have HGS := Lib.hid (grow_snoc m0 r j hjl)
          obtain ⟨x, hx⟩ : ∃ x, r[j] = x := ⟨_, rfl⟩
          rw [hx] at c2
          have HX := Lib.hid hx
          obtain ⟨y1, y2⟩ := cl_bounds x
          clear hc hx hrow e1 hbox
          go_wp2
          go_quiet ((first | (go_at_call 91; exact Calls.quiet_of_same ((l2In_any _ _).mono fun e w' h => ⟨h.1, h.2.symm⟩)) | (go_at_call 92; exact Calls.quiet_of_same ((specFixNeg_any _ _).mono fun e w' h => ⟨h.1, h.2.symm⟩))))
          go_wp2
          all_goals go_roundw
          case rel =>
            refine ⟨j + 1, by omega, by go_num, ⟨_, rfl, ?_⟩, below_drewN hb2 _, by simpa using hbox2⟩
            rw [HGS.out, HX.out, ← HM.out]
            unfold gstep
            simp only [Int.max_def]
            repeat (split <;> try omega)
          case measure => simp [intOf]; omega
        · clear hrow e1 hbox
          go_wp2
          go_roundw
          case rel =>
            refine ⟨k + 1, by omega, by go_num, ⟨_, rfl, ?_⟩, hb2, hbox2⟩
            rw [HG.out, HR.out, ← HM0.out, HM.out, List.take_of_length_le (by omega)]
          case measure => simp [intOf]; omega
    · clear hs
      go_wp2
      go_ret
      exact ⟨ret_int (by rw [HM0.out, List.take_of_length_le (by omega)]), hb⟩

set_option maxRecDepth 100000 in
set_option maxHeartbeats 2000000 in
theorem fnExactGreatest_walk (w : World) (cs : Array Value) (d : tGrads.D) (h : rd tGrads w cs.toList d) :
    Calls Try.prog 10 #[.agg cs] w fun e w' => e = .returned (.bool true) ∧ Below w.heap.size w w' := by
  obtain ⟨p, len, cap, x1, x2, rfl⟩ : ∃ p len cap x1 x2, cs = #[.slice p len cap, .int .i64 x1, .bool x2] := by
    obtain ⟨_, _, hcs, ⟨p, len, cap, rfl, hs⟩, _, _, rfl, ⟨rfl, _⟩, rfl⟩ := h
    exact ⟨p, len, cap, d.2.1, d.2.2, arr_of hcs⟩
  have H := Lib.hid h; clear h
  by_cases hz : ((szT tGrads d : Nat) : Int) ≤ 1048576
  · go_enter Try.func10, Try.ntmps10
    go_wp2_with fail
    refine (szGrads_ok _ d _ _ (by exact rd_below H.out ((Below.refl _ _).alloc (Nat.le_refl _) _)) (by omega) (by omega) (by omega)).mono ?_
    rintro e w1 ⟨rfl, b1⟩
    have B1 : Below w.heap.size w w1 := Below.trans ((Below.refl _ _).alloc (Nat.le_refl _) _) (b1.mono (by simp))
    have q10 : w1.cell? ⟨w.heap.size, 0, none⟩ = some (.slice p len cap) := (b1.cell (p := ⟨w.heap.size, 0, none⟩) (by simp)).trans (by simp)
    have q11 : w1.cell? ⟨w.heap.size, 1, none⟩ = some (.int .i64 x1) := (b1.cell (p := ⟨w.heap.size, 1, none⟩) (by simp)).trans (by simp)
    have q12 : w1.cell? ⟨w.heap.size, 2, none⟩ = some (.bool x2) := (b1.cell (p := ⟨w.heap.size, 2, none⟩) (by simp)).trans (by simp)
    have z1 : w.heap.size < w1.heap.size := by have := b1.size; simp at this; omega
    obtain ⟨lf, hlf⟩ : ∃ z : Int, z = 1048576 - (szT tGrads d : Nat) := ⟨_, rfl⟩
    rw [← hlf]
    have hnl : ¬ (lf < 0) := by omega
    clear hlf b1
    go_wp2_with fail
    refine (toGrads_any _ d _ (by exact rd_below H.out B1) (by omega)).mono ?_
    rintro e w2 ⟨cs2, rfl, f2, b2⟩
    have B2 := B1.trans (b2.mono B1.size)
    have q20 := (b2.cell z1).trans q10
    have q21 := (b2.cell z1).trans q11
    have q22 := (b2.cell z1).trans q12
    have z2 : w.heap.size < w2.heap.size := by have := b2.size; omega
    clear q10 q11 q12
    go_wp2_with fail
    refine (specGreatest_any _ d _ (by exact f2.rd)).mono ?_
    rintro e w3 ⟨rfl, b3⟩
    have B3 := B2.trans (b3.mono B2.size)
    have q30 := (b3.cell z2).trans q20
    have q31 := (b3.cell z2).trans q21
    have q32 := (b3.cell z2).trans q22
    have z3 : w.heap.size < w3.heap.size := by have := b3.size; omega
    clear q20 q21 q22
    go_wp2_with fail
    refine (toGrads_any _ d _ (by exact rd_below H.out B3) (by omega)).mono ?_
    rintro e w4 ⟨cs4, rfl, f4, b4⟩
    have B4 := B3.trans (b4.mono B3.size)
    have q40 := (b4.cell z3).trans q30
    have q41 := (b4.cell z3).trans q31
    have q42 := (b4.cell z3).trans q32
    have z4 : w.heap.size < w4.heap.size := by have := b4.size; omega
    clear q30 q31 q32
    have r4 := f4.rd
    obtain ⟨_, _, hcs4, ⟨p4, n4, c4, rfl, hs4⟩, _, _, rfl, ⟨rfl, _⟩, rfl⟩ := r4
    obtain rfl : cs4 = #[.slice p4 n4 c4, .int .i64 d.2.1, .bool d.2.2] := arr_of hcs4
    clear hcs4
    go_wp2_with fail
    refine (implGreatest_any _ d _ (by exact (f4.alloc _).rd)).mono ?_
    rintro e w5 ⟨rfl, b5⟩
    have B5 : Below w.heap.size w w5 := (B4.alloc B4.size _).trans (b5.mono (by simp; omega))
    have q50 : w5.cell? ⟨w.heap.size, 0, none⟩ = some (.slice p len cap) := (b5.cell (p := ⟨w.heap.size, 0, none⟩) (by simp; omega)).trans ((alloc_cell (a := ⟨w.heap.size, 0, none⟩) z4).trans q40)
    have q51 : w5.cell? ⟨w.heap.size, 1, none⟩ = some (.int .i64 x1) := (b5.cell (p := ⟨w.heap.size, 1, none⟩) (by simp; omega)).trans ((alloc_cell (a := ⟨w.heap.size, 1, none⟩) z4).trans q41)
    have q52 : w5.cell? ⟨w.heap.size, 2, none⟩ = some (.bool x2) := (b5.cell (p := ⟨w.heap.size, 2, none⟩) (by simp; omega)).trans ((alloc_cell (a := ⟨w.heap.size, 2, none⟩) z4).trans q42)
    have y50 : w5.cell? ⟨w4.heap.size, 0, none⟩ = some (.slice p4 n4 c4) := (b5.cell (p := ⟨w4.heap.size, 0, none⟩) (by simp)).trans (by simp)
    have y51 : w5.cell? ⟨w4.heap.size, 1, none⟩ = some (.int .i64 d.2.1) := (b5.cell (p := ⟨w4.heap.size, 1, none⟩) (by simp)).trans (by simp)
    have y52 : w5.cell? ⟨w4.heap.size, 2, none⟩ = some (.bool d.2.2) := (b5.cell (p := ⟨w4.heap.size, 2, none⟩) (by simp)).trans (by simp)
    have z5 : w4.heap.size < w5.heap.size := by have := b5.size; simp at this; omega
    have z5' : w.heap.size < w5.heap.size := by omega
    have f5 : FrIn tGrads w3.heap.size w4.heap.size w5 [.slice p4 n4 c4, .int .i64 d.2.1, .bool d.2.2] d := (f4.alloc _).below b5 (by simp)
    clear q40 q41 q42 hs4
    have HF := Lib.hid f5
    clear f5 f4 f2
    go_wp2_with fail
    go_region_held3 (fun w' => w'.cell? ⟨w.heap.size, 0, none⟩ = some (.slice p len cap) ∧ w'.cell? ⟨w.heap.size, 1, none⟩ = some (.int .i64 x1) ∧ w'.cell? ⟨w.heap.size, 2, none⟩ = some (.bool x2) ∧
        w'.cell? ⟨w4.heap.size, 0, none⟩ = some (.slice p4 n4 c4) ∧ w'.cell? ⟨w4.heap.size, 1, none⟩ = some (.int .i64 d.2.1) ∧ w'.cell? ⟨w4.heap.size, 2, none⟩ = some (.bool d.2.2))
      (first | go_keep | ((try dsimp only); (repeat' apply And.intro) <;> (first | go_keep | (refine (Below.cell b7 ?_).trans ((Below.cell b6 ?_).trans ?_) <;> first | assumption | omega | (simp; omega) | (simp; assumption)) | (refine (Below.cell b6 ?_).trans ?_ <;> first | assumption | omega | (simp; omega) | (simp; assumption)))))
      ((first | (go_at_call 48; refine (toGrads_any _ d _ (by exact rd_below H.out B5.drew) (by omega)).mono ?_; rintro e w6 ⟨cs6, rfl, f6, b6⟩; have z6 : w5.heap.size ≤ w6.heap.size := by have := b6.size; simpa using this) | (go_at_call 50; refine (eqGrads_any _ _ d _ (by exact ((HF.out.keep (w' := w5.drew) (fun _ _ _ => rfl) (Nat.le_refl _)).below b6 (by simp; omega)).rd) (by exact f6.rd)).mono ?_; rintro e w7 ⟨rfl, b7⟩)))
    have B6 : Below w.heap.size w w6 := B5.drew.trans (b6.mono (by simp; omega))
    go_wp2
    go_ret
    exact ⟨rfl, B6.trans (b7.mono B6.size)⟩
  · go_enter Try.func10, Try.ntmps10
    go_wp2_with fail
    refine (szGrads_no _ d _ _ (by exact rd_below H.out ((Below.refl _ _).alloc (Nat.le_refl _) _)) (by omega) (by omega) (by omega)).mono ?_
    rintro e w1 ⟨rfl, b1⟩
    have B1 : Below w.heap.size w w1 := Below.trans ((Below.refl _ _).alloc (Nat.le_refl _) _) (b1.mono (by simp))
    go_wp2
    go_ret
    exact ⟨rfl, B1⟩
end Go.Proofs.Yteejpennjkihaaa
