/- The laws' own helpers over Grads: copy, compare, count, mark, look at the marks. -/
import Derived.Test.YtnijnjclmlfahaaTRow
namespace Go.Proofs.Ytnijnjclmlfahaa
open Go.ChangeShapes Go.WideShapes Go.ChangeAt Go.RowKit
set_option linter.unusedVariables false
set_option linter.unusedSimpArgs false
abbrev tGrads : Ty := .pair (.slice 111 tRow) (.pair tInt .bool)

set_option maxHeartbeats 1000000 in
set_option maxRecDepth 100000 in
theorem toGrads_any (cs : Array Value) (d : tGrads.D) (w : World) (h : rd tGrads w cs.toList d) (hz : szT tGrads d ≤ 1048576) :
    Calls Try.prog 51 #[.agg cs] w (RetAg tGrads w d) := by
  obtain ⟨x0, ⟨x1, x2⟩⟩ := d
  obtain ⟨_, _, hcs, ⟨p0, n0, q0, rfl, s0⟩, ⟨_, _, rfl, ⟨rfl, w1⟩, rfl⟩⟩ := h
  obtain rfl : cs = #[.slice p0 n0 q0, .int .i64 x1, .bool x2] := arr_of hcs
  have z0 : szT (.slice 111 tRow) x0 ≤ 1048576 := by simp only [szT] at hz ⊢; omega
  clear hz hcs
  go_enter Try.func51, Try.ntmps51
  go_wp2_with fail
  refine (toRowS_any _ _ _ x0 _ (by exact s0.below (by (repeat' first | refine Below.setCell ?_ (by first | (with_reducible assumption) | ((try simp only [World.size_alloc, World.size_setCell, World.size_drew]) <;> omega) | (simp [World.setCell]; done) | (simp [World.setCell]; omega)) _ | refine Below.alloc ?_ (by first | (with_reducible assumption) | ((try simp only [World.size_alloc, World.size_setCell, World.size_drew]) <;> omega) | (simp [World.setCell]; done) | (simp [World.setCell]; omega)) _); exact Below.refl _ _)) z0).mono ?_
  rintro e w90 ⟨r0, rc0, rfl, f0, b0⟩
  obtain ⟨u0, v0⟩ := bcell b0
  have y0 := b0.size
  simp only [World.size_alloc, World.size_setCell] at u0 v0 y0
  have yy00 : w.heap.size < w90.heap.size := (by first | (with_reducible assumption) | ((try simp only [World.size_alloc, World.size_setCell, World.size_drew]) <;> omega) | (simp [World.setCell]; done) | (simp [World.setCell]; omega))
  have yy01 : w.heap.size + 1 < w90.heap.size := (by first | (with_reducible assumption) | ((try simp only [World.size_alloc, World.size_setCell, World.size_drew]) <;> omega) | (simp [World.setCell]; done) | (simp [World.setCell]; omega))
  have yy02 : w.heap.size + 1 + 1 < w90.heap.size := (by first | (with_reducible assumption) | ((try simp only [World.size_alloc, World.size_setCell, World.size_drew]) <;> omega) | (simp [World.setCell]; done) | (simp [World.setCell]; omega))
  go_wp2
  refine bodyPost_ret (v := .agg #[.slice r0 (List.length x0) rc0, .int .i64 x1, .bool x2]) (by simp [results, Try.results51, go_sem, u0, yy00, yy01, yy02]) rfl ⟨_, rfl, ?_, ?_⟩
  · refine FrIn.pair (c1 := [_]) (c2 := [_, _]) (mid := w90.heap.size) ?_ ?_ (by first | (with_reducible assumption) | ((try simp only [World.size_alloc, World.size_setCell, World.size_drew]) <;> omega) | (simp [World.setCell]; done) | (simp [World.setCell]; omega)) (by first | (with_reducible assumption) | ((try simp only [World.size_alloc, World.size_setCell, World.size_drew]) <;> omega) | (simp [World.setCell]; done) | (simp [World.setCell]; omega))
    · refine FrIn.mono (lo := w.heap.size + 1 + 1 + 1) (hi := w90.heap.size) ?_ (by first | (with_reducible assumption) | ((try simp only [World.size_alloc, World.size_setCell, World.size_drew]) <;> omega) | (simp [World.setCell]; done) | (simp [World.setCell]; omega)) (by first | (with_reducible assumption) | ((try simp only [World.size_alloc, World.size_setCell, World.size_drew]) <;> omega) | (simp [World.setCell]; done) | (simp [World.setCell]; omega)) (by first | (with_reducible assumption) | ((try simp only [World.size_alloc, World.size_setCell, World.size_drew]) <;> omega) | (simp [World.setCell]; done) | (simp [World.setCell]; omega))
      (repeat' first | refine FrIn.set1 ?_ (by first | (with_reducible assumption) | ((try simp only [World.size_alloc, World.size_setCell, World.size_drew]) <;> omega) | (simp [World.setCell]; done) | (simp [World.setCell]; omega)) _ | refine FrIn.alloc ?_ _)
      exact f0.mono (by first | (with_reducible assumption) | ((try simp only [World.size_alloc, World.size_setCell, World.size_drew]) <;> omega) | (simp [World.setCell]; done) | (simp [World.setCell]; omega)) (Nat.le_refl _) (Nat.le_refl _)
    · refine FrIn.pair (c1 := [_]) (c2 := [_]) (mid := w90.heap.size) ?_ ?_ (by first | (with_reducible assumption) | ((try simp only [World.size_alloc, World.size_setCell, World.size_drew]) <;> omega) | (simp [World.setCell]; done) | (simp [World.setCell]; omega)) (by first | (with_reducible assumption) | ((try simp only [World.size_alloc, World.size_setCell, World.size_drew]) <;> omega) | (simp [World.setCell]; done) | (simp [World.setCell]; omega))
      · exact FrIn.int w1 (by first | (with_reducible assumption) | ((try simp only [World.size_alloc, World.size_setCell, World.size_drew]) <;> omega) | (simp [World.setCell]; done) | (simp [World.setCell]; omega))
      · exact FrIn.bool (by first | (with_reducible assumption) | ((try simp only [World.size_alloc, World.size_setCell, World.size_drew]) <;> omega) | (simp [World.setCell]; done) | (simp [World.setCell]; omega))
  · exact (by (repeat' first | refine Below.setCell ?_ (by first | (with_reducible assumption) | ((try simp only [World.size_alloc, World.size_setCell, World.size_drew]) <;> omega) | (simp [World.setCell]; done) | (simp [World.setCell]; omega)) _ | refine Below.alloc ?_ (by first | (with_reducible assumption) | ((try simp only [World.size_alloc, World.size_setCell, World.size_drew]) <;> omega) | (simp [World.setCell]; done) | (simp [World.setCell]; omega)) _); refine Below.trans ?_ (b0.mono (by first | (with_reducible assumption) | ((try simp only [World.size_alloc, World.size_setCell, World.size_drew]) <;> omega) | (simp [World.setCell]; done) | (simp [World.setCell]; omega))); (repeat' first | refine Below.setCell ?_ (by first | (with_reducible assumption) | ((try simp only [World.size_alloc, World.size_setCell, World.size_drew]) <;> omega) | (simp [World.setCell]; done) | (simp [World.setCell]; omega)) _ | refine Below.alloc ?_ (by first | (with_reducible assumption) | ((try simp only [World.size_alloc, World.size_setCell, World.size_drew]) <;> omega) | (simp [World.setCell]; done) | (simp [World.setCell]; omega)) _); exact Below.refl _ _)

set_option maxHeartbeats 1000000 in
set_option maxRecDepth 100000 in
theorem toGradsS_any (p : Option Addr) (len cap : Nat) (l : List tGrads.D) (w : World) (h : SlRd tGrads.n (rd tGrads w) w p len cap l) (hz : szT (.slice 36 tGrads) l ≤ 1048576) :
    Calls Try.prog 15 #[.slice p len cap] w (RetSl 36 tGrads w l) := by
  obtain rfl := h.lens
  rw [szT_slice] at hz
  have hlen : l.length ≤ 1048576 := by omega
  have hmk := run_make_fr Try.prog 24 36 (.agg #[.slice none 0 0, .int .i64 0, .bool false]) 40 tGrads Try.underlying24 (by kernel_rfl) rfl l.length (by omega) (by omega)
  go_enter Try.func15, Try.ntmps15
  go_wp2
  go_loopw [4] (fun i wr => ∃ k : Nat, k ≤ l.length ∧ i = .int .i64 k ∧ Below w.heap.size w wr ∧ FrIn (.slice 36 tGrads) w.heap.size wr.heap.size wr [.slice (some ⟨w.heap.size, 0, none⟩) l.length l.length] (l.take k ++ List.replicate (l.length - k) (zeroD tGrads))) (fun i _ => l.length - (intOf i).toNat)
  case atStart => exact ⟨0, by omega, rfl, (Below.refl _ _).alloc (Nat.le_refl _) _, (FrIn.made w tGrads _ l.length (by simp [maxLen]; omega)).mono (Nat.le_refl _) (by simp) (Nat.le_refl _)⟩
  case round =>
    obtain ⟨k, hk, rfl, hb, hf⟩ := hrel
    by_cases hlt : k < l.length
    · obtain ⟨b, off, rfl, hlb, cs, hcs, hc, hR⟩ := h.2.2.2.2 k hlt
      have hzk := sum_get_le (szT tGrads) l k hlt
      obtain ⟨x, hx⟩ : ∃ x, l[k] = x := ⟨_, rfl⟩
      rw [hx] at hR hzk
      have hR0 : rd tGrads wr cs x := rd_mono (fun q hq => hb.block q hq) _ _ _ hR
      obtain ⟨x0, ⟨x1, x2⟩⟩ := x
      obtain ⟨_, _, rfl, ⟨p0, n0, q0, rfl, s0⟩, ⟨_, _, rfl, ⟨rfl, w1⟩, rfl⟩⟩ := hR
      have c0 : wr.cell? ⟨b, off + k * 3, none⟩ = some (.slice p0 n0 q0) := (hb.cell hlb).trans (by have hh := hc 0 (by simp); rw [show Ty.n tGrads = 3 from rfl] at hh; simpa using hh)
      have c1 : wr.cell? ⟨b, off + k * 3 + 1, none⟩ = some (.int .i64 x1) := (hb.cell hlb).trans (by have hh := hc 1 (by simp); rw [show Ty.n tGrads = 3 from rfl] at hh; simpa using hh)
      have c2 : wr.cell? ⟨b, off + k * 3 + 2, none⟩ = some (.bool x2) := (hb.cell hlb).trans (by have hh := hc 2 (by simp); rw [show Ty.n tGrads = 3 from rfl] at hh; simpa using hh)
      obtain ⟨b', cap', hv, _, hbl, hfz, c, hcl, hcc, _⟩ := hf.at k (by simp; omega)
      simp only [Value.slice.injEq, Option.some.injEq, Addr.mk.injEq, and_true] at hv
      obtain ⟨rfl, -, rfl⟩ := hv
      have HF := Lib.hid hf; have HX := Lib.hid hx
      have e0 : wr.cell? ⟨w.heap.size, k * 3, none⟩ = some (c[0]'(by rw [hcl]; decide)) := by simpa [Ty.n] using hcc 0 (by rw [hcl]; decide)
      have g0 : wr.frozen? ⟨w.heap.size, k * 3, none⟩ = false := hfz _
      have e1 : wr.cell? ⟨w.heap.size, k * 3 + 1, none⟩ = some (c[1]'(by rw [hcl]; decide)) := by simpa [Ty.n] using hcc 1 (by rw [hcl]; decide)
      have g1 : wr.frozen? ⟨w.heap.size, k * 3 + 1, none⟩ = false := hfz _
      have e2 : wr.cell? ⟨w.heap.size, k * 3 + 2, none⟩ = some (c[2]'(by rw [hcl]; decide)) := by simpa [Ty.n] using hcc 2 (by rw [hcl]; decide)
      have g2 : wr.frozen? ⟨w.heap.size, k * 3 + 2, none⟩ = false := hfz _
      clear h hc hcc hfz hf hx
      go_wp2_with fail
      refine (toGrads_any _ (x0, (x1, x2)) _ (by exact hR0) (by omega)).mono ?_
      rintro e w1 ⟨cs1, rfl, f1, b1⟩
      have rr := f1.rd
      obtain ⟨_, _, rhcs, ⟨rp0, rn0, rq0, rfl, rs0⟩, ⟨_, _, rfl, ⟨rfl, rw1⟩, rfl⟩⟩ := rr
      obtain rfl : cs1 = #[.slice rp0 rn0 rq0, .int .i64 x1, .bool x2] := arr_of rhcs
      have e0' : w1.cell? ⟨w.heap.size, k * 3, none⟩ = some (c[0]'(by rw [hcl]; decide)) := (b1.cell hbl).trans e0
      have g0' : w1.frozen? ⟨w.heap.size, k * 3, none⟩ = false := (b1.frozen hbl).trans g0
      have e1' : w1.cell? ⟨w.heap.size, k * 3 + 1, none⟩ = some (c[1]'(by rw [hcl]; decide)) := (b1.cell hbl).trans e1
      have g1' : w1.frozen? ⟨w.heap.size, k * 3 + 1, none⟩ = false := (b1.frozen hbl).trans g1
      have e2' : w1.cell? ⟨w.heap.size, k * 3 + 2, none⟩ = some (c[2]'(by rw [hcl]; decide)) := (b1.cell hbl).trans e2
      have g2' : w1.frozen? ⟨w.heap.size, k * 3 + 2, none⟩ = false := (b1.frozen hbl).trans g2
      clear e0 g0 c0 e1 g1 c1 e2 g2 c2 rhcs
      go_wp2
      go_roundw
      case rel =>
        refine ⟨k + 1, by omega, by go_num, ?_, ?_⟩
        · (repeat' first | refine Below.setCell ?_ (by first | (with_reducible assumption) | ((try simp only [World.size_alloc, World.size_setCell, World.size_drew]) <;> omega) | (simp [World.setCell]; done) | (simp [World.setCell]; omega)) _); exact hb.trans (b1.mono hb.size)
        · have h1 := (HF.out.below b1 (Nat.le_refl _)).set k (by simp; omega) hb.size b1.size (x := l[k]) (by rw [HX.out]; exact f1)
          rw [set_zero l (zeroD tGrads) k hlt] at h1
          refine FrIn.mono (hi := w1.heap.size) ?_ (Nat.le_refl _) (by first | (with_reducible assumption) | ((try simp only [World.size_alloc, World.size_setCell, World.size_drew]) <;> omega) | (simp [World.setCell]; done) | (simp [World.setCell]; omega)) (Nat.le_refl _)
          exact h1
      case measure => simp [intOf]; omega
    · clear h
      go_wp2
      go_ret
      obtain rfl : k = l.length := by omega
      exact ⟨_, _, rfl, by simpa using hf, hb⟩

set_option maxHeartbeats 1000000 in
set_option maxRecDepth 100000 in
theorem szGrads_any (ca : Array Value) (d : tGrads.D) (left : Int) (w : World) (ha : rd tGrads w ca.toList d) (h0 : 0 ≤ left) (h2 : left ≤ 9223372036854775807) :
    Calls Try.prog 49 #[.agg ca, .int .i64 left] w (RetV (.int .i64 (szR left (szT tGrads d))) w) := by
  obtain ⟨x0, ⟨x1, x2⟩⟩ := d
  obtain ⟨_, _, ahcs, ⟨ap0, an0, aq0, rfl, as0⟩, ⟨_, _, rfl, ⟨rfl, aw1⟩, rfl⟩⟩ := ha
  obtain rfl : ca = #[.slice ap0 an0 aq0, .int .i64 x1, .bool x2] := arr_of ahcs
  clear ahcs
  have e0 : szT tGrads (x0, (x1, x2)) = szT (.slice 111 tRow) x0 := by first | rfl | (simp only [szT]; omega)
  have HS : Hid (szT tGrads (x0, (x1, x2)) = szT (.slice 111 tRow) x0) := e0.trans (by rfl)
  clear e0 
  by_cases hf0 : ((szT (.slice 111 tRow) x0 : Nat) : Int) ≤ left
  rotate_left
  · go_enter Try.func49, Try.ntmps49
    go_wp2_with fail
    refine (szRowS_no _ _ _ x0 _ _ (by exact as0.below (by (repeat' first | refine Below.setCell ?_ (by first | (with_reducible assumption) | ((try simp only [World.size_alloc, World.size_setCell, World.size_drew]) <;> omega) | (simp [World.setCell]; done) | (simp [World.setCell]; omega)) _ | refine Below.alloc ?_ (by first | (with_reducible assumption) | ((try simp only [World.size_alloc, World.size_setCell, World.size_drew]) <;> omega) | (simp [World.setCell]; done) | (simp [World.setCell]; omega)) _); exact Below.refl _ _)) (by omega) (by omega) (by omega)).mono ?_
    rintro e w90 ⟨rfl, b0⟩
    obtain ⟨u0, v0⟩ := bcell b0
    have y0 := b0.size
    try simp only [World.size_alloc, World.size_setCell] at u0 v0 y0
    have yy00 : w.heap.size < w90.heap.size := (by first | (with_reducible assumption) | ((try simp only [World.size_alloc, World.size_setCell, World.size_drew]) <;> omega) | (simp [World.setCell]; done) | (simp [World.setCell]; omega))
    go_wp2
    go_ret
    exact ⟨ret_int (by (first | rw [HS.out] | skip); unfold szR; rw [if_neg (by omega)]), (by (repeat' first | refine Below.setCell ?_ (by first | (with_reducible assumption) | ((try simp only [World.size_alloc, World.size_setCell, World.size_drew]) <;> omega) | (simp [World.setCell]; done) | (simp [World.setCell]; omega)) _ | refine Below.alloc ?_ (by first | (with_reducible assumption) | ((try simp only [World.size_alloc, World.size_setCell, World.size_drew]) <;> omega) | (simp [World.setCell]; done) | (simp [World.setCell]; omega)) _); refine Below.trans ?_ (b0.mono (by first | (with_reducible assumption) | ((try simp only [World.size_alloc, World.size_setCell, World.size_drew]) <;> omega) | (simp [World.setCell]; done) | (simp [World.setCell]; omega))); (repeat' first | refine Below.setCell ?_ (by first | (with_reducible assumption) | ((try simp only [World.size_alloc, World.size_setCell, World.size_drew]) <;> omega) | (simp [World.setCell]; done) | (simp [World.setCell]; omega)) _ | refine Below.alloc ?_ (by first | (with_reducible assumption) | ((try simp only [World.size_alloc, World.size_setCell, World.size_drew]) <;> omega) | (simp [World.setCell]; done) | (simp [World.setCell]; omega)) _); exact Below.refl _ _)⟩
  go_enter Try.func49, Try.ntmps49
  go_wp2_with fail
  refine (szRowS_ok _ _ _ x0 _ _ (by exact as0.below (by (repeat' first | refine Below.setCell ?_ (by first | (with_reducible assumption) | ((try simp only [World.size_alloc, World.size_setCell, World.size_drew]) <;> omega) | (simp [World.setCell]; done) | (simp [World.setCell]; omega)) _ | refine Below.alloc ?_ (by first | (with_reducible assumption) | ((try simp only [World.size_alloc, World.size_setCell, World.size_drew]) <;> omega) | (simp [World.setCell]; done) | (simp [World.setCell]; omega)) _); exact Below.refl _ _)) (by omega) (by omega) (by omega)).mono ?_
  rintro e w90 ⟨rfl, b0⟩
  obtain ⟨u0, v0⟩ := bcell b0
  have y0 := b0.size
  try simp only [World.size_alloc, World.size_setCell] at u0 v0 y0
  have yy00 : w.heap.size < w90.heap.size := (by first | (with_reducible assumption) | ((try simp only [World.size_alloc, World.size_setCell, World.size_drew]) <;> omega) | (simp [World.setCell]; done) | (simp [World.setCell]; omega))
  go_wp2
  go_ret
  exact ⟨ret_int (by (first | rw [HS.out] | skip); unfold szR; rw [if_pos (by omega)]; try omega), (by (repeat' first | refine Below.setCell ?_ (by first | (with_reducible assumption) | ((try simp only [World.size_alloc, World.size_setCell, World.size_drew]) <;> omega) | (simp [World.setCell]; done) | (simp [World.setCell]; omega)) _ | refine Below.alloc ?_ (by first | (with_reducible assumption) | ((try simp only [World.size_alloc, World.size_setCell, World.size_drew]) <;> omega) | (simp [World.setCell]; done) | (simp [World.setCell]; omega)) _); refine Below.trans ?_ (b0.mono (by first | (with_reducible assumption) | ((try simp only [World.size_alloc, World.size_setCell, World.size_drew]) <;> omega) | (simp [World.setCell]; done) | (simp [World.setCell]; omega))); (repeat' first | refine Below.setCell ?_ (by first | (with_reducible assumption) | ((try simp only [World.size_alloc, World.size_setCell, World.size_drew]) <;> omega) | (simp [World.setCell]; done) | (simp [World.setCell]; omega)) _ | refine Below.alloc ?_ (by first | (with_reducible assumption) | ((try simp only [World.size_alloc, World.size_setCell, World.size_drew]) <;> omega) | (simp [World.setCell]; done) | (simp [World.setCell]; omega)) _); exact Below.refl _ _)⟩

theorem szGrads_ok (ca : Array Value) (d : tGrads.D) (left : Int) (w : World) (ha : rd tGrads w ca.toList d) (h0 : 0 ≤ left) (h2 : left ≤ 9223372036854775807) (h : ((szT tGrads d : Nat) : Int) ≤ left) :
    Calls Try.prog 49 #[.agg ca, .int .i64 left] w (RetV (.int .i64 (left - (szT tGrads d : Nat))) w) := by
  have := szGrads_any ca d left w ha h0 h2
  rwa [szR_pos h] at this
theorem szGrads_no (ca : Array Value) (d : tGrads.D) (left : Int) (w : World) (ha : rd tGrads w ca.toList d) (h0 : 0 ≤ left) (h2 : left ≤ 9223372036854775807) (h : ¬ ((szT tGrads d : Nat) : Int) ≤ left) :
    Calls Try.prog 49 #[.agg ca, .int .i64 left] w (RetV (.int .i64 (-1)) w) := by
  have := szGrads_any ca d left w ha h0 h2
  rwa [szR_neg h] at this

set_option maxHeartbeats 1000000 in
set_option maxRecDepth 100000 in
theorem szGradsS_any (p : Option Addr) (len cap : Nat) (l : List tGrads.D) (left : Int) (w : World) (h : SlRd tGrads.n (rd tGrads w) w p len cap l) (h0 : 0 ≤ left) (h2 : left ≤ 9223372036854775807) :
    Calls Try.prog 13 #[.slice p len cap, .int .i64 left] w (RetV (.int .i64 (szR left (szT (.slice 36 tGrads) l))) w) := by
  have hm : len ≤ maxLen := Nat.le_trans h.2.1 h.2.2.1
  obtain rfl := h.lens
  unfold maxLen at hm
  have HS : Hid (szT (.slice 36 tGrads) l = l.length + (l.map (szT tGrads)).sum) := szT_slice _ _ _
  by_cases hc : (l.length : Int) ≤ left
  rotate_left
  · have hc2 : (left - l.length < 0) := by omega
    clear h
    go_enter Try.func13, Try.ntmps13
    go_wp2
    go_ret
    exact ⟨ret_int (by (first | rw [HS.out] | skip); unfold szR; rw [if_neg (by omega)]), Below.refl _ _⟩
  go_enter Try.func13, Try.ntmps13
  go_wp2
  go_loopw [1, 5] (fun q i wr => ∃ k : Nat, k ≤ l.length ∧ i = .int .i64 k ∧ ∃ m : Int, q = .int .i64 m ∧ m = left - l.length - (((l.take k).map (szT tGrads)).sum : Nat) ∧ 0 ≤ m ∧ Below w.heap.size w wr) (fun _ i _ => l.length - (intOf i).toNat)
  case atStart => exact ⟨0, by omega, rfl, _, rfl, by simp, by omega, Below.refl _ _⟩
  case round =>
    obtain ⟨k, hk, rfl, m, rfl, hm1, hm2, hb⟩ := hrel
    have hmb : m ≤ left := by omega
    by_cases hlt : k < l.length
    · obtain ⟨b, off, rfl, hlb, cs, hcs, hc1, hR⟩ := h.2.2.2.2 k hlt
      have hsum := sum_take_succ (szT tGrads) l k hlt
      have hsle := sum_take_le (szT tGrads) l (k + 1)
      obtain ⟨x, hx⟩ : ∃ x, l[k] = x := ⟨_, rfl⟩
      rw [hx] at hR hsum
      have hR0 : rd tGrads wr cs x := rd_mono (fun q hq => hb.block q hq) _ _ _ hR
      obtain ⟨z, hz⟩ : ∃ z, szT tGrads x = z := ⟨_, rfl⟩
      obtain ⟨s0, hs0⟩ : ∃ z, ((l.take k).map (szT tGrads)).sum = z := ⟨_, rfl⟩
      obtain ⟨s1, hs1⟩ : ∃ z, ((l.take (k + 1)).map (szT tGrads)).sum = z := ⟨_, rfl⟩
      obtain ⟨s2, hs2⟩ : ∃ z, (l.map (szT tGrads)).sum = z := ⟨_, rfl⟩
      rw [hs0] at hsum hm1
      rw [hs1, hz] at hsum
      rw [hs1] at hsle
      rw [hs2] at hsle
      have HZ := Lib.hid hz; have HR := Lib.hid hR0; have H1 := Lib.hid hs1; have H2 := Lib.hid hs2; have HM := Lib.hid hm1; have HU := Lib.hid hsum; have HX := Lib.hid hz
      obtain ⟨x0, ⟨x1, x2⟩⟩ := x
      obtain ⟨_, _, rfl, ⟨ap0, an0, aq0, rfl, as0⟩, ⟨_, _, rfl, ⟨rfl, aw1⟩, rfl⟩⟩ := hR
      have c0 : wr.cell? ⟨b, off + k * 3, none⟩ = some (.slice ap0 an0 aq0) := (hb.cell hlb).trans (by have hh := hc1 0 (by simp); rw [show Ty.n tGrads = 3 from rfl] at hh; simpa using hh)
      have c1 : wr.cell? ⟨b, off + k * 3 + 1, none⟩ = some (.int .i64 x1) := (hb.cell hlb).trans (by have hh := hc1 1 (by simp); rw [show Ty.n tGrads = 3 from rfl] at hh; simpa using hh)
      have c2 : wr.cell? ⟨b, off + k * 3 + 2, none⟩ = some (.bool x2) := (hb.cell hlb).trans (by have hh := hc1 2 (by simp); rw [show Ty.n tGrads = 3 from rfl] at hh; simpa using hh)
      clear h hc1 hcs hx hR0 hz hs0 hs1 hs2 hm1 hsum
      by_cases hfit : (z : Int) ≤ m
      · go_wp2_with fail
        refine (szGrads_ok _ (x0, (x1, x2)) _ _ (by exact HR.out) (by omega) (by omega) (by rw [HZ.out]; omega)).mono ?_
        rintro e w3 ⟨rfl, b3⟩
        rw [HZ.out]
        have hmz : ¬ (m - z < 0) := by omega
        go_wp2
        go_roundw
        case rel => exact ⟨k + 1, by omega, by go_num, _, rfl, by rw [H1.out]; have := HM.out; have := HU.out; omega, by omega, hb.trans (b3.mono hb.size)⟩
        case measure => simp [intOf]; omega
      · go_wp2_with fail
        refine (szGrads_no _ (x0, (x1, x2)) _ _ (by exact HR.out) (by omega) (by omega) (by rw [HZ.out]; omega)).mono ?_
        rintro e w3 ⟨rfl, b3⟩
        go_wp2
        go_ret
        exact ⟨ret_int (by rw [HS.out, H2.out]; unfold szR; rw [if_neg (by have := HM.out; have := HU.out; omega)]), hb.trans (b3.mono hb.size)⟩
    · clear h
      have HM := Lib.hid hm1; clear hm1
      go_wp2
      go_ret
      obtain rfl : k = l.length := by omega
      have hm1 := HM.out
      rw [List.take_length] at hm1
      exact ⟨ret_int (by (first | rw [HS.out] | skip); unfold szR; rw [if_pos (by omega)]; try omega), hb⟩

theorem szGradsS_ok (p : Option Addr) (len cap : Nat) (l : List tGrads.D) (left : Int) (w : World) (ha : SlRd tGrads.n (rd tGrads w) w p len cap l) (h0 : 0 ≤ left) (h2 : left ≤ 9223372036854775807) (h : ((szT (.slice 36 tGrads) l : Nat) : Int) ≤ left) :
    Calls Try.prog 13 #[.slice p len cap, .int .i64 left] w (RetV (.int .i64 (left - (szT (.slice 36 tGrads) l : Nat))) w) := by
  have := szGradsS_any p len cap l left w ha h0 h2
  rwa [szR_pos h] at this
theorem szGradsS_no (p : Option Addr) (len cap : Nat) (l : List tGrads.D) (left : Int) (w : World) (ha : SlRd tGrads.n (rd tGrads w) w p len cap l) (h0 : 0 ≤ left) (h2 : left ≤ 9223372036854775807) (h : ¬ ((szT (.slice 36 tGrads) l : Nat) : Int) ≤ left) :
    Calls Try.prog 13 #[.slice p len cap, .int .i64 left] w (RetV (.int .i64 (-1)) w) := by
  have := szGradsS_any p len cap l left w ha h0 h2
  rwa [szR_neg h] at this

set_option maxHeartbeats 1000000 in
set_option maxRecDepth 100000 in
theorem eqGrads_any (ca cb : Array Value) (d : tGrads.D) (w : World) (ha : rd tGrads w ca.toList d) (hb : rd tGrads w cb.toList d) :
    Calls Try.prog 24 #[.agg ca, .agg cb] w (RetV (.bool true) w) := by
  obtain ⟨x0, ⟨x1, x2⟩⟩ := d
  obtain ⟨_, _, ahcs, ⟨ap0, an0, aq0, rfl, as0⟩, ⟨_, _, rfl, ⟨rfl, aw1⟩, rfl⟩⟩ := ha
  obtain ⟨_, _, bhcs, ⟨bp0, bn0, bq0, rfl, bs0⟩, ⟨_, _, rfl, ⟨rfl, bw1⟩, rfl⟩⟩ := hb
  obtain rfl : ca = #[.slice ap0 an0 aq0, .int .i64 x1, .bool x2] := arr_of ahcs
  obtain rfl : cb = #[.slice bp0 bn0 bq0, .int .i64 x1, .bool x2] := arr_of bhcs
  clear ahcs bhcs
  go_enter Try.func24, Try.ntmps24
  go_wp2_with fail
  refine (eqRowS_any _ _ _ _ _ _ x0 _ (by exact as0.below (by (repeat' first | refine Below.setCell ?_ (by first | (with_reducible assumption) | ((try simp only [World.size_alloc, World.size_setCell, World.size_drew]) <;> omega) | (simp [World.setCell]; done) | (simp [World.setCell]; omega)) _ | refine Below.alloc ?_ (by first | (with_reducible assumption) | ((try simp only [World.size_alloc, World.size_setCell, World.size_drew]) <;> omega) | (simp [World.setCell]; done) | (simp [World.setCell]; omega)) _); exact Below.refl _ _)) (by exact bs0.below (by (repeat' first | refine Below.setCell ?_ (by first | (with_reducible assumption) | ((try simp only [World.size_alloc, World.size_setCell, World.size_drew]) <;> omega) | (simp [World.setCell]; done) | (simp [World.setCell]; omega)) _ | refine Below.alloc ?_ (by first | (with_reducible assumption) | ((try simp only [World.size_alloc, World.size_setCell, World.size_drew]) <;> omega) | (simp [World.setCell]; done) | (simp [World.setCell]; omega)) _); exact Below.refl _ _))).mono ?_
  rintro e w90 ⟨rfl, b0⟩
  obtain ⟨u0, v0⟩ := bcell b0
  have y0 := b0.size
  try simp only [World.size_alloc, World.size_setCell] at u0 v0 y0
  have yy00 : w.heap.size < w90.heap.size := (by first | (with_reducible assumption) | ((try simp only [World.size_alloc, World.size_setCell, World.size_drew]) <;> omega) | (simp [World.setCell]; done) | (simp [World.setCell]; omega))
  have yy01 : w.heap.size + 1 < w90.heap.size := (by first | (with_reducible assumption) | ((try simp only [World.size_alloc, World.size_setCell, World.size_drew]) <;> omega) | (simp [World.setCell]; done) | (simp [World.setCell]; omega))
  go_wp2
  go_ret
  exact ⟨rfl, (by (repeat' first | refine Below.setCell ?_ (by first | (with_reducible assumption) | ((try simp only [World.size_alloc, World.size_setCell, World.size_drew]) <;> omega) | (simp [World.setCell]; done) | (simp [World.setCell]; omega)) _ | refine Below.alloc ?_ (by first | (with_reducible assumption) | ((try simp only [World.size_alloc, World.size_setCell, World.size_drew]) <;> omega) | (simp [World.setCell]; done) | (simp [World.setCell]; omega)) _); refine Below.trans ?_ (b0.mono (by first | (with_reducible assumption) | ((try simp only [World.size_alloc, World.size_setCell, World.size_drew]) <;> omega) | (simp [World.setCell]; done) | (simp [World.setCell]; omega))); (repeat' first | refine Below.setCell ?_ (by first | (with_reducible assumption) | ((try simp only [World.size_alloc, World.size_setCell, World.size_drew]) <;> omega) | (simp [World.setCell]; done) | (simp [World.setCell]; omega)) _ | refine Below.alloc ?_ (by first | (with_reducible assumption) | ((try simp only [World.size_alloc, World.size_setCell, World.size_drew]) <;> omega) | (simp [World.setCell]; done) | (simp [World.setCell]; omega)) _); exact Below.refl _ _)⟩

set_option maxHeartbeats 1000000 in
set_option maxRecDepth 100000 in
theorem eqGradsS_any (p q : Option Addr) (len cap len' cap' : Nat) (l : List tGrads.D) (w : World) (h : SlRd tGrads.n (rd tGrads w) w p len cap l) (h' : SlRd tGrads.n (rd tGrads w) w q len' cap' l) :
    Calls Try.prog 18 #[.slice p len cap, .slice q len' cap'] w (RetV (.bool true) w) := by
  obtain rfl := h.lens
  obtain rfl := h'.lens
  have hmx : l.length ≤ maxLen := by have := h.2.1; have := h.2.2.1; omega
  unfold maxLen at hmx
  go_enter Try.func18, Try.ntmps18
  go_wp2
  go_loopw [5] (fun i wr => ∃ k : Nat, k ≤ l.length ∧ i = .int .i64 k ∧ Below w.heap.size w wr) (fun i _ => l.length - (intOf i).toNat)
  case atStart => exact ⟨0, by omega, rfl, Below.refl _ _⟩
  case round =>
    obtain ⟨k, hk, rfl, hb⟩ := hrel
    by_cases hlt : k < l.length
    · obtain ⟨b, off, rfl, hlb, cs, hcs, hc, hR⟩ := h.2.2.2.2 k hlt
      obtain ⟨b2, off2, rfl, hlb2, cs2, hcs2, hc2, hR2⟩ := h'.2.2.2.2 k hlt
      obtain ⟨x, hx⟩ : ∃ x, l[k] = x := ⟨_, rfl⟩
      rw [hx] at hR hR2
      have hR0 : rd tGrads wr.drew cs x := rd_mono (fun q hq => hb.block q hq) _ _ _ hR
      have hR20 : rd tGrads wr.drew cs2 x := rd_mono (fun q hq => hb.block q hq) _ _ _ hR2
      obtain ⟨x0, ⟨x1, x2⟩⟩ := x
      obtain ⟨_, _, rfl, ⟨ap0, an0, aq0, rfl, as0⟩, ⟨_, _, rfl, ⟨rfl, aw1⟩, rfl⟩⟩ := hR
      obtain ⟨_, _, rfl, ⟨bp0, bn0, bq0, rfl, bs0⟩, ⟨_, _, rfl, ⟨rfl, bw1⟩, rfl⟩⟩ := hR2
      have c0 : wr.cell? ⟨b, off + k * 3, none⟩ = some (.slice ap0 an0 aq0) := (hb.cell hlb).trans (by have hh := hc 0 (by simp); rw [show Ty.n tGrads = 3 from rfl] at hh; simpa using hh)
      have c1 : wr.cell? ⟨b, off + k * 3 + 1, none⟩ = some (.int .i64 x1) := (hb.cell hlb).trans (by have hh := hc 1 (by simp); rw [show Ty.n tGrads = 3 from rfl] at hh; simpa using hh)
      have c2 : wr.cell? ⟨b, off + k * 3 + 2, none⟩ = some (.bool x2) := (hb.cell hlb).trans (by have hh := hc 2 (by simp); rw [show Ty.n tGrads = 3 from rfl] at hh; simpa using hh)
      have d0 : wr.cell? ⟨b2, off2 + k * 3, none⟩ = some (.slice bp0 bn0 bq0) := (hb.cell hlb2).trans (by have hh := hc2 0 (by simp); rw [show Ty.n tGrads = 3 from rfl] at hh; simpa using hh)
      have d1 : wr.cell? ⟨b2, off2 + k * 3 + 1, none⟩ = some (.int .i64 x1) := (hb.cell hlb2).trans (by have hh := hc2 1 (by simp); rw [show Ty.n tGrads = 3 from rfl] at hh; simpa using hh)
      have d2 : wr.cell? ⟨b2, off2 + k * 3 + 2, none⟩ = some (.bool x2) := (hb.cell hlb2).trans (by have hh := hc2 2 (by simp); rw [show Ty.n tGrads = 3 from rfl] at hh; simpa using hh)
      have HR := Lib.hid hR0; have HR2 := Lib.hid hR20
      clear h h' hc hc2 hx hcs hcs2 hR0 hR20
      go_wp2
      go_still_tail 8, (by kernel_rfl)
      change wpList _ _ _ _ _ wr.drew
      have hb2 : Below w.heap.size w wr.drew := hb.drew
      generalize wr.drew = w2 at hb2 HR HR2 ⊢
      go_wp2_with fail
      refine (eqGrads_any _ _ (x0, (x1, x2)) _ (by exact HR.out) (by exact HR2.out)).mono ?_
      rintro e w3 ⟨rfl, b3⟩
      go_wp2
      go_roundw
      case rel => exact ⟨k + 1, by omega, by go_num, hb2.trans (b3.mono hb2.size)⟩
      case measure => simp [intOf]; omega
    · clear h h'
      go_wp2
      go_ret
      exact ⟨rfl, hb⟩

set_option maxHeartbeats 4000000 in
set_option maxRecDepth 100000 in
theorem markGradsS_any (p : Option Addr) (len cap : Nat) (k0 : Int) (l : List tGrads.D) (bl : List Nat) (w : World) (h : rep (.slice 36 tGrads) w [.slice p len cap] l bl) (hnd : bl.Nodup) (h0 : 0 ≤ k0) (h1 : k0 + (cnt (.slice 36 tGrads) l : Nat) ≤ 1000000000000) :
    Calls Try.prog 19 #[.slice p len cap, .int .i64 k0] w (RetMk (.slice 36 tGrads) w [.slice p len cap] (mk (.slice 36 tGrads) l k0) bl (k0 + (cnt (.slice 36 tGrads) l : Nat))) := by
  obtain ⟨rfl, hmx⟩ := rep_len h
  have HL := Lib.hid (mk_length (e := 36) (t := tGrads) l k0)
  rw [cnt_slice] at h1
  have hbl := rep_lt _ _ _ _ _ h
  unfold maxLen at hmx
  go_enter Try.func19, Try.ntmps19
  go_wp2
  go_loopw [1, 5] (fun q i wr => ∃ k : Nat, k ≤ l.length ∧ i = .int .i64 k ∧ (∃ kk : Int, q = .int .i64 kk ∧ Hid (kk = k0 + (((l.take k).map (cnt tGrads)).sum : Nat)) ∧ 0 ≤ kk ∧ kk ≤ 1000000000000) ∧ Only bl w wr ∧ Hid (rep (.slice 36 tGrads) wr [.slice p l.length cap] ((mk (.slice 36 tGrads) l k0 : List tGrads.D).take k ++ l.drop k) bl)) (fun _ i _ => l.length - (intOf i).toNat)
  case atStart => exact ⟨0, by omega, rfl, ⟨_, rfl, by show _ = _; simp, by omega, by omega⟩, Only.refl _ _, by show rep _ _ _ _ _; simpa using h⟩
  case round =>
    obtain ⟨k, hk, rfl, ⟨kk, rfl, hkk, hk0, hk1⟩, hb, hf⟩ := hrel
    clear h
    by_cases hlt : k < l.length
    · obtain ⟨M, hM⟩ : ∃ M, M = (mk (.slice 36 tGrads) l k0 : List tGrads.D).take k ++ l.drop k := ⟨_, rfl⟩
      have hkl : k < M.length := by rw [hM]; simp only [List.length_append, List.length_take, List.length_drop, HL.out]; omega
      obtain ⟨x, hx⟩ : ∃ x, l[k] = x := ⟨_, rfl⟩
      have hMk : M[k] = x := by subst hM; rw [get_mix _ _ _ hlt HL.out, hx]
      have hset : ∀ y, (mk (.slice 36 tGrads) l k0 : List tGrads.D)[k]'(by rw [HL.out]; exact hlt) = y → M.set k y = (mk (.slice 36 tGrads) l k0 : List tGrads.D).take (k + 1) ++ l.drop (k + 1) := fun y hy => by subst hM; exact set_mix _ _ _ hlt HL.out _ hy
      have hmk := mk_get (e := 36) (t := tGrads) l k0 k hlt (by rw [HL.out]; exact hlt)
      rw [hx, ← hkk.out] at hmk
      have hs1 := sum_take_succ (cnt tGrads) l k hlt
      have hs2 := sum_take_le (cnt tGrads) l (k + 1)
      rw [hx] at hs1
      have hf1 := hf.out
      rw [← hM] at hf1
      have hxb : kk + (cnt tGrads x : Nat) ≤ 1000000000000 := by have := hkk.out; omega
      have HS1 := Lib.hid hs1; have HSET := Lib.hid hset; have HMK := Lib.hid hmk
      clear hx hM hs1 hs2 hset hmk hf
      obtain ⟨x0, ⟨x1, x2⟩⟩ := x
      have hcx : cnt tGrads (x0, (x1, x2)) = cnt (.slice 111 tRow) x0 + 1 + 1 := by first | rfl | (simp only [cnt]; omega)
      rw [hcx] at hxb
      have HCX := Lib.hid hcx; clear hcx
      have hw0 : wr.heap.size = wr.heap.size := rfl
      obtain ⟨bs1, caps1, cs1, bks1, hvs1, hbms1, hbzs1, hfzs1, hcls1, hcs1, hRs1, hsubs1, hnbs1, hnos1, hUs1, hVs1⟩ := rep_lens hf1 hnd k hkl
      simp only [Value.slice.injEq] at hvs1
      obtain ⟨rfl, -, -⟩ := hvs1
      rw [hMk] at hRs1
      obtain ⟨_, _, _, _, rfl, rfl, s1r0, ⟨_, _, _, _, rfl, rfl, ⟨rfl, s1w1, rfl⟩, ⟨rfl, rfl⟩⟩⟩ := hRs1
      obtain ⟨s1p0, s1n0, s1q0, rfl⟩ := rep_form s1r0
      have es1 : wr.cell? ⟨bs1, k * 3, none⟩ = some (.slice s1p0 s1n0 s1q0) := by have hh := hcs1 0 (by simp); rw [show Ty.n tGrads = 3 from rfl] at hh; simpa using hh
      clear hfzs1 hcs1 hcls1 hVs1
      have HUs1 := Lib.hid hUs1; clear hUs1
      go_wp2_with fail
      refine (markRowS_any _ _ _ _ x0 _ _ (by exact s1r0) (nd_l hnbs1) (by omega) (by omega)).mono ?_
      rintro e ws1 ⟨rfl, rps1, ons1⟩
      have hf2 := HUs1.out ws1 ((mk (.slice 111 tRow) x0 (kk)), (x1, x2)) (fun q hq hz => ons1.block q (fun hm => hq (List.mem_append_left _ hm)) hz) ⟨[_], [_, _], _, _, rfl, rfl, rps1, ⟨[_], [_], _, _, rfl, rfl, ⟨rfl, s1w1, rfl⟩, ⟨rfl, rfl⟩⟩⟩
      have hbs1 : Only bl w ws1 := Only.trans hb (ons1.mono (fun q hq => hsubs1 q (List.mem_append_left _ hq)))
      clear HUs1 rps1 s1r0 es1
      have hkl2 : k < (M.set k ((mk (.slice 111 tRow) x0 (kk)), (x1, x2))).length := by rw [List.length_set]; exact hkl
      have hM2 : (M.set k ((mk (.slice 111 tRow) x0 (kk)), (x1, x2)))[k]'hkl2 = ((mk (.slice 111 tRow) x0 (kk)), (x1, x2)) := List.getElem_set_self _
      obtain ⟨bs2, caps2, cs2, bks2, hvs2, hbms2, hbzs2, hfzs2, hcls2, hcs2, hRs2, hsubs2, hnbs2, hnos2, hUs2, hVs2⟩ := rep_lens hf2 hnd k hkl2
      simp only [Value.slice.injEq] at hvs2
      obtain ⟨hvbs2, -, -⟩ := hvs2
      simp only [Option.some.injEq, Addr.mk.injEq, and_true] at hvbs2
      subst hvbs2
      rw [hM2] at hRs2
      obtain ⟨_, _, _, _, rfl, rfl, s2r0, ⟨_, _, _, _, rfl, rfl, ⟨rfl, s2w1, rfl⟩, ⟨rfl, rfl⟩⟩⟩ := hRs2
      obtain ⟨s2p0, s2n0, s2q0, rfl⟩ := rep_form s2r0
      have es2 := hcs2 1 (by simp)
      have es2 : ∃ u, ws1.cell? ⟨bs1, k * 3 + 1, none⟩ = some u := ⟨_, by have hh := hcs2 1 (by simp); rw [show Ty.n tGrads = 3 from rfl] at hh; simpa using hh⟩
      obtain ⟨us2, es2⟩ := es2
      have gs2 : ws1.frozen? ⟨bs1, k * 3 + 1, none⟩ = false := hfzs2 _
      have hf3 := hVs2 1 (.int .i64 (kk + (cnt (.slice 111 tRow) x0 : Nat))) ((mk (.slice 111 tRow) x0 (kk)), (((kk + (cnt (.slice 111 tRow) x0 : Nat) : Int)), x2)) (by simp) ⟨[_], [_, _], _, _, rfl, rfl, s2r0, ⟨[_], [_], _, _, rfl, rfl, ⟨rfl, wf_i64 (show -9223372036854775808 ≤ (kk + (cnt (.slice 111 tRow) x0 : Nat) : Int) ∧ (kk + (cnt (.slice 111 tRow) x0 : Nat) : Int) ≤ 9223372036854775807 by omega), rfl⟩, ⟨rfl, rfl⟩⟩⟩
      simp only [show Ty.n tGrads = 3 from rfl, Nat.add_zero, Nat.mul_one] at hf3
      have hbs2 : Only bl w (ws1.setCell ⟨bs1, k * 3 + 1, none⟩ (.int .i64 (kk + (cnt (.slice 111 tRow) x0 : Nat)))) := Only.setCell hbs1 hbms1 _
      clear hVs2 hUs2 hcs2 hfzs2
      rw [List.set_set] at hf3
      have hkl3 : k < (M.set k ((mk (.slice 111 tRow) x0 (kk)), (((kk + (cnt (.slice 111 tRow) x0 : Nat) : Int)), x2))).length := by rw [List.length_set]; exact hkl
      have hM3 : (M.set k ((mk (.slice 111 tRow) x0 (kk)), (((kk + (cnt (.slice 111 tRow) x0 : Nat) : Int)), x2)))[k]'hkl3 = ((mk (.slice 111 tRow) x0 (kk)), (((kk + (cnt (.slice 111 tRow) x0 : Nat) : Int)), x2)) := List.getElem_set_self _
      obtain ⟨bs3, caps3, cs3, bks3, hvs3, hbms3, hbzs3, hfzs3, hcls3, hcs3, hRs3, hsubs3, hnbs3, hnos3, hUs3, hVs3⟩ := rep_lens hf3 hnd k hkl3
      simp only [Value.slice.injEq] at hvs3
      obtain ⟨hvbs3, -, -⟩ := hvs3
      simp only [Option.some.injEq, Addr.mk.injEq, and_true] at hvbs3
      subst hvbs3
      rw [hM3] at hRs3
      obtain ⟨_, _, _, _, rfl, rfl, s3r0, ⟨_, _, _, _, rfl, rfl, ⟨rfl, s3w1, rfl⟩, ⟨rfl, rfl⟩⟩⟩ := hRs3
      obtain ⟨s3p0, s3n0, s3q0, rfl⟩ := rep_form s3r0
      have es3 := hcs3 2 (by simp)
      have es3 : ∃ u, (ws1.setCell ⟨bs1, k * 3 + 1, none⟩ (.int .i64 (kk + (cnt (.slice 111 tRow) x0 : Nat)))).cell? ⟨bs1, k * 3 + 2, none⟩ = some u := ⟨_, by have hh := hcs3 2 (by simp); rw [show Ty.n tGrads = 3 from rfl] at hh; simpa using hh⟩
      obtain ⟨us3, es3⟩ := es3
      have gs3 : (ws1.setCell ⟨bs1, k * 3 + 1, none⟩ (.int .i64 (kk + (cnt (.slice 111 tRow) x0 : Nat)))).frozen? ⟨bs1, k * 3 + 2, none⟩ = false := hfzs3 _
      have hf4 := hVs3 2 (.bool ((kk + (cnt (.slice 111 tRow) x0 : Nat) + 1 : Int) % 3 == 0)) ((mk (.slice 111 tRow) x0 (kk)), (((kk + (cnt (.slice 111 tRow) x0 : Nat) : Int)), ((kk + (cnt (.slice 111 tRow) x0 : Nat) + 1 : Int) % 3 == 0))) (by simp) ⟨[_], [_, _], _, _, rfl, rfl, s3r0, ⟨[_], [_], _, _, rfl, rfl, ⟨rfl, s3w1, rfl⟩, ⟨rfl, rfl⟩⟩⟩
      simp only [show Ty.n tGrads = 3 from rfl, Nat.add_zero, Nat.mul_one] at hf4
      have hbs3 : Only bl w ((ws1.setCell ⟨bs1, k * 3 + 1, none⟩ (.int .i64 (kk + (cnt (.slice 111 tRow) x0 : Nat)))).setCell ⟨bs1, k * 3 + 2, none⟩ (.bool ((kk + (cnt (.slice 111 tRow) x0 : Nat) + 1 : Int) % 3 == 0))) := Only.setCell hbs2 hbms1 _
      clear hVs3 hUs3 hcs3 hfzs3
      rw [List.set_set] at hf4
      have hkl4 : k < (M.set k ((mk (.slice 111 tRow) x0 (kk)), (((kk + (cnt (.slice 111 tRow) x0 : Nat) : Int)), ((kk + (cnt (.slice 111 tRow) x0 : Nat) + 1 : Int) % 3 == 0)))).length := by rw [List.length_set]; exact hkl
      have hM4 : (M.set k ((mk (.slice 111 tRow) x0 (kk)), (((kk + (cnt (.slice 111 tRow) x0 : Nat) : Int)), ((kk + (cnt (.slice 111 tRow) x0 : Nat) + 1 : Int) % 3 == 0))))[k]'hkl4 = ((mk (.slice 111 tRow) x0 (kk)), (((kk + (cnt (.slice 111 tRow) x0 : Nat) : Int)), ((kk + (cnt (.slice 111 tRow) x0 : Nat) + 1 : Int) % 3 == 0))) := List.getElem_set_self _
      have HF := Lib.hid hf4
      clear hf1 hf2 hf3 hf4
      go_wp2
      go_roundw
      case rel =>
        refine ⟨k + 1, by omega, by go_num, ⟨_, rfl, by show _ = _; have := HS1.out; have := hkk.out; have hcx9 : cnt tGrads (x0, (x1, x2)) = cnt (.slice 111 tRow) x0 + 1 + 1 := (by first | rfl | (simp only [cnt]; omega)); omega, by omega, by omega⟩, hbs3, ?_⟩
        have h2 := HF.out
        rw [HSET.out _ (HMK.out.trans (by rfl))] at h2
        exact h2
      case measure => simp [intOf]; omega
    · go_wp2
      go_ret
      obtain rfl : k = l.length := by omega
      have hkk := hkk.out
      rw [List.take_length] at hkk
      refine ⟨ret_int (by rw [cnt_slice]; exact hkk), ?_, hb⟩
      have hf := hf.out
      have e1 : (mk (.slice 36 tGrads) l k0 : List tGrads.D).take l.length ++ l.drop l.length = mk (.slice 36 tGrads) l k0 := by
        rw [List.drop_length, List.append_nil, List.take_of_length_le (by rw [HL.out]; exact Nat.le_refl _)]
      rw [e1] at hf
      exact hf

set_option maxHeartbeats 4000000 in
set_option maxRecDepth 100000 in
theorem heldGradsS_any (p : Option Addr) (len cap : Nat) (k0 : Int) (l : List tGrads.D) (w : World) (h : SlRd tGrads.n (rd tGrads w) w p len cap (mk (.slice 36 tGrads) l k0)) (h0 : 0 ≤ k0) (h1 : k0 + (cnt (.slice 36 tGrads) l : Nat) ≤ 1000000000000) :
    Calls Try.prog 69 #[.slice p len cap, .int .i64 k0] w (RetV (.int .i64 (k0 + (cnt (.slice 36 tGrads) l : Nat))) w) := by
  have HL := mk_length (e := 36) (t := tGrads) l k0
  obtain rfl : len = l.length := by rw [h.lens]; exact HL
  have hmx : l.length ≤ maxLen := Nat.le_trans h.2.1 h.2.2.1
  unfold maxLen at hmx
  rw [cnt_slice] at h1
  have HL2 := Lib.hid HL
  clear HL
  go_enter Try.func69, Try.ntmps69
  go_wp2
  go_loopw [1, 5] (fun q i wr => ∃ k : Nat, k ≤ l.length ∧ i = .int .i64 k ∧ (∃ kk : Int, q = .int .i64 kk ∧ Hid (kk = k0 + (((l.take k).map (cnt tGrads)).sum : Nat)) ∧ 0 ≤ kk ∧ kk ≤ 1000000000000) ∧ Below w.heap.size w wr) (fun _ i _ => l.length - (intOf i).toNat)
  case atStart => exact ⟨0, by omega, rfl, ⟨_, rfl, by show _ = _; simp, by omega, by omega⟩, Below.refl _ _⟩
  case round =>
    obtain ⟨k, hk, rfl, ⟨kk, rfl, hkk, hk0, hk1⟩, hb⟩ := hrel
    by_cases hlt : k < l.length
    · obtain ⟨b, off, rfl, hlb, cs, hcs, hc, hR⟩ := h.2.2.2.2 k (by rw [HL2.out]; exact hlt)
      have hx9 := mk_get (e := 36) (t := tGrads) l k0 k hlt (by rw [HL2.out]; exact hlt)
      obtain ⟨x, hx⟩ : ∃ x, l[k] = x := ⟨_, rfl⟩
      rw [hx, ← hkk.out] at hx9
      rw [hx9] at hR
      have hs1 := sum_take_succ (cnt tGrads) l k hlt
      have hs2 := sum_take_le (cnt tGrads) l (k + 1)
      rw [hx] at hs1
      have hxb : kk + (cnt tGrads x : Nat) ≤ 1000000000000 := by have := hkk.out; omega
      have HS1 := Lib.hid hs1
      clear hx hx9 hs1 hs2
      obtain ⟨x0, ⟨x1, x2⟩⟩ := x
      have hcx : cnt tGrads (x0, (x1, x2)) = cnt (.slice 111 tRow) x0 + 1 + 1 := by first | rfl | (simp only [cnt]; omega)
      rw [hcx] at hxb
      clear hcx
      have hR2 : rd tGrads w cs ((mk (.slice 111 tRow) x0 (kk)), ((kk + (cnt (.slice 111 tRow) x0 : Nat)), ((kk + (cnt (.slice 111 tRow) x0 : Nat) + 1) % 3 == 0))) := hR
      clear hR
      obtain ⟨_, _, rfl, ⟨ap0, an0, aq0, rfl, as0⟩, ⟨_, _, rfl, ⟨rfl, aw1⟩, rfl⟩⟩ := hR2
      have c0_0 : wr.cell? ⟨b, off + k * 3, none⟩ = some (.slice ap0 an0 aq0) := (hb.cell hlb).trans (by have hh := hc 0 (by simp); rw [show Ty.n tGrads = 3 from rfl] at hh; simpa using hh)
      have c1_0 : wr.cell? ⟨b, off + k * 3 + 1, none⟩ = some (.int .i64 (kk + (cnt (.slice 111 tRow) x0 : Nat))) := (hb.cell hlb).trans (by have hh := hc 1 (by simp); rw [show Ty.n tGrads = 3 from rfl] at hh; simpa using hh)
      have c2_0 : wr.cell? ⟨b, off + k * 3 + 2, none⟩ = some (.bool ((kk + (cnt (.slice 111 tRow) x0 : Nat) + 1) % 3 == 0)) := (hb.cell hlb).trans (by have hh := hc 2 (by simp); rw [show Ty.n tGrads = 3 from rfl] at hh; simpa using hh)
      have HC := Lib.hid hc
      have HA0 := Lib.hid as0
      clear h hc hcs as0
      go_wp2_with fail
      refine (heldRowS_any _ _ _ _ x0 _ (by exact SlRd.below HA0.out hb) (by omega) (by omega)).mono ?_
      rintro e w90 ⟨rfl, b90⟩
      have hb90 := hb.trans (b90.mono hb.size)
      have hnn0 : ¬ (kk + (cnt (.slice 111 tRow) x0 : Nat) < 0) := by omega
      clear c0_0 c1_0 c2_0
      have hc := HC.out
      have c0_1 : w90.cell? ⟨b, off + k * 3, none⟩ = some (.slice ap0 an0 aq0) := (hb90.cell hlb).trans (by have hh := hc 0 (by simp); rw [show Ty.n tGrads = 3 from rfl] at hh; simpa using hh)
      have c1_1 : w90.cell? ⟨b, off + k * 3 + 1, none⟩ = some (.int .i64 (kk + (cnt (.slice 111 tRow) x0 : Nat))) := (hb90.cell hlb).trans (by have hh := hc 1 (by simp); rw [show Ty.n tGrads = 3 from rfl] at hh; simpa using hh)
      have c2_1 : w90.cell? ⟨b, off + k * 3 + 2, none⟩ = some (.bool ((kk + (cnt (.slice 111 tRow) x0 : Nat) + 1) % 3 == 0)) := (hb90.cell hlb).trans (by have hh := hc 2 (by simp); rw [show Ty.n tGrads = 3 from rfl] at hh; simpa using hh)
      clear hc
      go_wp2
      go_roundw
      case rel => exact ⟨k + 1, by omega, by go_num, ⟨_, rfl, by show _ = _; have := HS1.out; have := hkk.out; have hcx9 : cnt tGrads (x0, (x1, x2)) = cnt (.slice 111 tRow) x0 + 1 + 1 := (by first | rfl | (simp only [cnt]; omega)); omega, by omega, by omega⟩, hb90⟩
      case measure => simp [intOf]; omega
    · clear h
      go_wp2
      go_ret
      obtain rfl : k = l.length := by omega
      have hkk := hkk.out
      rw [List.take_length] at hkk
      exact ⟨ret_int (by rw [cnt_slice]; exact hkk), hb⟩

set_option maxHeartbeats 4000000 in
set_option maxRecDepth 100000 in
theorem markGrads_any (cs : Array Value) (k0 : Int) (d : tGrads.D) (bl : List Nat) (w : World) (h : rep tGrads w cs.toList d bl) (hnd : bl.Nodup) (h0 : 0 ≤ k0) (h1 : k0 + (cntt tGrads d : Nat) ≤ 1000000000000) :
    Calls Try.prog 25 #[.agg cs, .int .i64 k0] w (RetMt tGrads w cs.toList (mkt tGrads d k0) bl (k0 + (cntt tGrads d : Nat))) := by
  obtain ⟨x0, ⟨x1, x2⟩⟩ := d
  have hcx : cntt tGrads (x0, (x1, x2)) = cnt (.slice 111 tRow) x0 := by first | rfl | (simp only [cntt]; omega)
  rw [hcx] at h1
  clear hcx
  obtain ⟨BL, hBL⟩ : ∃ BL, BL = bl := ⟨_, rfl⟩
  obtain ⟨_, _, _, _, hcs, rfl, sr0, ⟨_, _, _, _, rfl, rfl, ⟨rfl, sw1, rfl⟩, ⟨rfl, rfl⟩⟩⟩ := h
  obtain ⟨sp0, sn0, sq0, rfl⟩ := rep_form sr0
  obtain rfl : cs = #[.slice sp0 sn0 sq0, .int .i64 x1, .bool x2] := arr_of hcs
  clear hcs
  have HBL := Lib.hid hBL; clear hBL
  have R0 := Lib.hid sr0; clear sr0
  go_enter Try.func25, Try.ntmps25
  go_wp2_with fail
  refine (markRowS_any _ _ _ _ x0 _ _ (by exact (rep_keep _ _ _ _ (fun q hq => Below.heap_alloc _ _ _ (rep_lt _ _ _ _ _ R0.out q hq)) R0.out)) (nd_l hnd) (by omega) (by omega)).mono ?_
  rintro e w90 ⟨rfl, rp0, on0⟩
  have K0_1 := Lib.hid rp0; clear rp0
  have z90 := on0.size
  skip
  have q0_1 : w90.cell? ⟨w.heap.size, 0, none⟩ = some (.slice sp0 sn0 sq0) := (on0.cell (a := ⟨w.heap.size, 0, none⟩) (fun hm => by have := rep_lt _ _ _ _ _ R0.out _ hm; simp at this) (by simp)).trans (by simp)
  have q1_1 : w90.cell? ⟨w.heap.size, 1, none⟩ = some (.int .i64 x1) := (on0.cell (a := ⟨w.heap.size, 1, none⟩) (fun hm => by have := rep_lt _ _ _ _ _ R0.out _ hm; simp at this) (by simp)).trans (by simp)
  have q2_1 : w90.cell? ⟨w.heap.size, 2, none⟩ = some (.bool x2) := (on0.cell (a := ⟨w.heap.size, 2, none⟩) (fun hm => by have := rep_lt _ _ _ _ _ R0.out _ hm; simp at this) (by simp)).trans (by simp)
  have zb1 : w.heap.size < w90.heap.size := by have := z90; (try simp at this); omega
  have O1 : Only BL w w90 := Only.trans (Only.alloc (Only.refl _ w) _) (on0.mono (fun q hq => by rw [HBL.out]; exact (List.mem_append_left _ hq)))
  go_wp2
  go_ret
  exact ⟨ret_int (by have hcx : cntt tGrads (x0, (x1, x2)) = cnt (.slice 111 tRow) x0 := (by first | rfl | (simp only [cntt]; omega)); rw [hcx]; try omega), ⟨[_], [_, _], _, _, rfl, rfl, K0_1.out, ⟨[_], [_], _, _, rfl, rfl, ⟨rfl, sw1, rfl⟩, ⟨rfl, rfl⟩⟩⟩, Only.mono O1 (fun q hq => by rw [HBL.out] at hq; simpa using hq)⟩

set_option maxHeartbeats 4000000 in
set_option maxRecDepth 100000 in
theorem heldGrads_any (cs : Array Value) (k0 : Int) (d : tGrads.D) (w : World) (h : rd tGrads w cs.toList (mkt tGrads d k0)) (h0 : 0 ≤ k0) (h1 : k0 + (cntt tGrads d : Nat) ≤ 1000000000000) :
    Calls Try.prog 26 #[.agg cs, .int .i64 k0] w (RetV (.int .i64 (k0 + (cntt tGrads d : Nat))) w) := by
  obtain ⟨x0, ⟨x1, x2⟩⟩ := d
  have hcx : cntt tGrads (x0, (x1, x2)) = cnt (.slice 111 tRow) x0 := by first | rfl | (simp only [cntt]; omega)
  rw [hcx] at h1
  clear hcx
  have hR2 : rd tGrads w cs.toList ((mk (.slice 111 tRow) x0 (k0)), (x1, x2)) := by
    first | exact h | (simpa only [mkt, cntt, Int.natCast_add, Int.natCast_zero, Int.add_zero, Int.zero_add, ← Int.add_assoc] using h)
  clear h
  obtain ⟨_, _, ahcs, ⟨ap0, an0, aq0, rfl, as0⟩, ⟨_, _, rfl, ⟨rfl, aw1⟩, rfl⟩⟩ := hR2
  obtain rfl : cs = #[.slice ap0 an0 aq0, .int .i64 x1, .bool x2] := arr_of ahcs
  clear ahcs
  have HA0 := Lib.hid as0; clear as0
  go_enter Try.func26, Try.ntmps26
  go_wp2_with fail
  refine (heldRowS_any _ _ _ _ x0 _ (by exact SlRd.below HA0.out (by (repeat' first | refine Below.setCell ?_ (by first | (with_reducible assumption) | ((try simp only [World.size_alloc, World.size_setCell, World.size_drew]) <;> omega) | (simp [World.setCell]; done) | (simp [World.setCell]; omega)) _ | refine Below.alloc ?_ (by first | (with_reducible assumption) | ((try simp only [World.size_alloc, World.size_setCell, World.size_drew]) <;> omega) | (simp [World.setCell]; done) | (simp [World.setCell]; omega)) _); exact Below.refl _ _)) (by omega) (by omega)).mono ?_
  rintro e w90 ⟨rfl, b0⟩
  obtain ⟨u0, v0⟩ := bcell b0
  have y0 := b0.size
  try simp only [World.size_alloc, World.size_setCell] at u0 v0 y0
  have yy00 : w.heap.size < w90.heap.size := (by first | (with_reducible assumption) | ((try simp only [World.size_alloc, World.size_setCell, World.size_drew]) <;> omega) | (simp [World.setCell]; done) | (simp [World.setCell]; omega))
  have hnn0 : ¬ (k0 + (cnt (.slice 111 tRow) x0 : Nat) < 0) := by omega
  go_wp2
  go_ret
  exact ⟨ret_int (by have hcx : cntt tGrads (x0, (x1, x2)) = cnt (.slice 111 tRow) x0 := (by first | rfl | (simp only [cntt]; omega)); rw [hcx]; try omega), (by (repeat' first | refine Below.setCell ?_ (by first | (with_reducible assumption) | ((try simp only [World.size_alloc, World.size_setCell, World.size_drew]) <;> omega) | (simp [World.setCell]; done) | (simp [World.setCell]; omega)) _ | refine Below.alloc ?_ (by first | (with_reducible assumption) | ((try simp only [World.size_alloc, World.size_setCell, World.size_drew]) <;> omega) | (simp [World.setCell]; done) | (simp [World.setCell]; omega)) _); refine Below.trans ?_ (b0.mono (by first | (with_reducible assumption) | ((try simp only [World.size_alloc, World.size_setCell, World.size_drew]) <;> omega) | (simp [World.setCell]; done) | (simp [World.setCell]; omega))); (repeat' first | refine Below.setCell ?_ (by first | (with_reducible assumption) | ((try simp only [World.size_alloc, World.size_setCell, World.size_drew]) <;> omega) | (simp [World.setCell]; done) | (simp [World.setCell]; omega)) _ | refine Below.alloc ?_ (by first | (with_reducible assumption) | ((try simp only [World.size_alloc, World.size_setCell, World.size_drew]) <;> omega) | (simp [World.setCell]; done) | (simp [World.setCell]; omega)) _); exact Below.refl _ _)⟩

end Go.Proofs.Ytnijnjclmlfahaa
