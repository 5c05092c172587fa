/- The laws' own helpers over Pair: copy, compare, count, mark, look at the marks. -/
import Derived.Test.YteejpennjkihaaaMark
namespace Go.Proofs.Yteejpennjkihaaa
open Go.ChangeShapes Go.WideShapes Go.ChangeAt Go.RowKit
set_option linter.unusedVariables false
set_option linter.unusedSimpArgs false
abbrev tPair : Ty := .pair tInts tInts

set_option maxHeartbeats 1000000 in
set_option maxRecDepth 100000 in
theorem toPair_any (cs : Array Value) (d : tPair.D) (w : World) (h : rd tPair w cs.toList d) (hz : szT tPair d ≤ 1048576) :
    Calls Try.prog 107 #[.agg cs] w (RetAg tPair w d) := by
  obtain ⟨x0, x1⟩ := d
  obtain ⟨_, _, hcs, ⟨p0, n0, q0, rfl, s0⟩, ⟨p1, n1, q1, rfl, s1⟩⟩ := h
  obtain rfl : cs = #[.slice p0 n0 q0, .slice p1 n1 q1] := arr_of hcs
  have z0 : szT tInts x0 ≤ 1048576 := by simp only [szT] at hz ⊢; omega
  have z1 : szT tInts x1 ≤ 1048576 := by simp only [szT] at hz ⊢; omega
  clear hz hcs
  go_enter Try.func107, Try.ntmps107
  go_wp2_with fail
  refine (toIntS_any _ _ _ x0 _ (by exact s0.below (by (repeat' first | refine Below.setCell ?_ (by first | omega | (simp [World.setCell]; done) | (simp [World.setCell]; omega)) _ | refine Below.alloc ?_ (by first | omega | (simp [World.setCell]; done) | (simp [World.setCell]; omega)) _); exact Below.refl _ _)) (by simp only [szT_slice] at z0; omega)).mono ?_
  rintro e w90 ⟨r0, rc0, rfl, f0, b0⟩
  obtain ⟨u0, v0⟩ := bcell b0
  have y0 := b0.size
  simp only [World.size_alloc, World.size_setCell] at u0 v0 y0
  have yy00 : w.heap.size < w90.heap.size := (by first | omega | (simp [World.setCell]; done) | (simp [World.setCell]; omega))
  have yy01 : w.heap.size + 1 < w90.heap.size := (by first | omega | (simp [World.setCell]; done) | (simp [World.setCell]; omega))
  have yy02 : w.heap.size + 1 + 1 < w90.heap.size := (by first | omega | (simp [World.setCell]; done) | (simp [World.setCell]; omega))
  go_wp2_with fail
  refine (toIntS_any _ _ _ x1 _ (by exact s1.below (by (repeat' first | refine Below.setCell ?_ (by first | omega | (simp [World.setCell]; done) | (simp [World.setCell]; omega)) _ | refine Below.alloc ?_ (by first | omega | (simp [World.setCell]; done) | (simp [World.setCell]; omega)) _); refine Below.trans ?_ (b0.mono (by first | omega | (simp [World.setCell]; done) | (simp [World.setCell]; omega))); (repeat' first | refine Below.setCell ?_ (by first | omega | (simp [World.setCell]; done) | (simp [World.setCell]; omega)) _ | refine Below.alloc ?_ (by first | omega | (simp [World.setCell]; done) | (simp [World.setCell]; omega)) _); exact Below.refl _ _)) (by simp only [szT_slice] at z1; omega)).mono ?_
  rintro e w91 ⟨r1, rc1, rfl, f1, b1⟩
  obtain ⟨u1, v1⟩ := bcell b1
  have y1 := b1.size
  simp only [World.size_alloc, World.size_setCell] at u1 v1 y1
  have yy10 : w.heap.size < w91.heap.size := (by first | omega | (simp [World.setCell]; done) | (simp [World.setCell]; omega))
  have yy11 : w.heap.size + 1 < w91.heap.size := (by first | omega | (simp [World.setCell]; done) | (simp [World.setCell]; omega))
  have yy12 : w.heap.size + 1 + 1 < w91.heap.size := (by first | omega | (simp [World.setCell]; done) | (simp [World.setCell]; omega))
  go_wp2
  refine bodyPost_ret (v := .agg #[.slice r0 (List.length x0) rc0, .slice r1 (List.length x1) rc1]) (by simp [results, Try.results107, go_sem, u0, yy00, yy01, yy02, u1, yy10, yy11, yy12]) rfl ⟨_, rfl, ?_, ?_⟩
  · refine FrIn.pair (c1 := [_]) (c2 := [_]) (mid := w90.heap.size) ?_ ?_ (by first | omega | (simp [World.setCell]; done) | (simp [World.setCell]; omega)) (by first | omega | (simp [World.setCell]; done) | (simp [World.setCell]; omega))
    · refine FrIn.mono (lo := w.heap.size + 1 + 1 + 1) (hi := w90.heap.size) ?_ (by first | omega | (simp [World.setCell]; done) | (simp [World.setCell]; omega)) (by first | omega | (simp [World.setCell]; done) | (simp [World.setCell]; omega)) (by first | omega | (simp [World.setCell]; done) | (simp [World.setCell]; omega))
      (repeat' first | refine FrIn.set1 ?_ (by first | omega | (simp [World.setCell]; done) | (simp [World.setCell]; omega)) _ | refine FrIn.alloc ?_ _)
      refine FrIn.below ?_ b1 (by first | omega | (simp [World.setCell]; done) | (simp [World.setCell]; omega))
      (repeat' first | refine FrIn.set1 ?_ (by first | omega | (simp [World.setCell]; done) | (simp [World.setCell]; omega)) _ | refine FrIn.alloc ?_ _)
      exact f0.mono (by first | omega | (simp [World.setCell]; done) | (simp [World.setCell]; omega)) (Nat.le_refl _) (Nat.le_refl _)
    · refine FrIn.mono (lo := w90.heap.size) (hi := w91.heap.size) ?_ (by first | omega | (simp [World.setCell]; done) | (simp [World.setCell]; omega)) (by first | omega | (simp [World.setCell]; done) | (simp [World.setCell]; omega)) (by first | omega | (simp [World.setCell]; done) | (simp [World.setCell]; omega))
      (repeat' first | refine FrIn.set1 ?_ (by first | omega | (simp [World.setCell]; done) | (simp [World.setCell]; omega)) _ | refine FrIn.alloc ?_ _)
      exact f1.mono (by first | omega | (simp [World.setCell]; done) | (simp [World.setCell]; omega)) (Nat.le_refl _) (Nat.le_refl _)
  · exact (by (repeat' first | refine Below.setCell ?_ (by first | omega | (simp [World.setCell]; done) | (simp [World.setCell]; omega)) _ | refine Below.alloc ?_ (by first | omega | (simp [World.setCell]; done) | (simp [World.setCell]; omega)) _); refine Below.trans ?_ (b1.mono (by first | omega | (simp [World.setCell]; done) | (simp [World.setCell]; omega))); (repeat' first | refine Below.setCell ?_ (by first | omega | (simp [World.setCell]; done) | (simp [World.setCell]; omega)) _ | refine Below.alloc ?_ (by first | omega | (simp [World.setCell]; done) | (simp [World.setCell]; omega)) _); refine Below.trans ?_ (b0.mono (by first | omega | (simp [World.setCell]; done) | (simp [World.setCell]; omega))); (repeat' first | refine Below.setCell ?_ (by first | omega | (simp [World.setCell]; done) | (simp [World.setCell]; omega)) _ | refine Below.alloc ?_ (by first | omega | (simp [World.setCell]; done) | (simp [World.setCell]; omega)) _); exact Below.refl _ _)

set_option maxHeartbeats 1000000 in
set_option maxRecDepth 100000 in
theorem toPairS_any (p : Option Addr) (len cap : Nat) (l : List tPair.D) (w : World) (h : SlRd tPair.n (rd tPair w) w p len cap l) (hz : szT (.slice 91 tPair) l ≤ 1048576) :
    Calls Try.prog 62 #[.slice p len cap] w (RetSl 91 tPair w l) := by
  obtain rfl := h.lens
  rw [szT_slice] at hz
  have hlen : l.length ≤ 1048576 := by omega
  have hmk := run_make_fr Try.prog 83 91 (.agg #[.slice none 0 0, .slice none 0 0]) 48 tPair Try.underlying83 (by kernel_rfl) rfl l.length (by omega) (by omega)
  go_enter Try.func62, Try.ntmps62
  go_wp2
  go_loopw [4] (fun i wr => ∃ k : Nat, k ≤ l.length ∧ i = .int .i64 k ∧ Below w.heap.size w wr ∧ FrIn (.slice 91 tPair) w.heap.size wr.heap.size wr [.slice (some ⟨w.heap.size, 0, none⟩) l.length l.length] (l.take k ++ List.replicate (l.length - k) (zeroD tPair))) (fun i _ => l.length - (intOf i).toNat)
  case atStart => exact ⟨0, by omega, rfl, (Below.refl _ _).alloc (Nat.le_refl _) _, (FrIn.made w tPair _ l.length (by simp [maxLen]; omega)).mono (Nat.le_refl _) (by simp) (Nat.le_refl _)⟩
  case round =>
    obtain ⟨k, hk, rfl, hb, hf⟩ := hrel
    by_cases hlt : k < l.length
    · obtain ⟨b, off, rfl, hlb, cs, hcs, hc, hR⟩ := h.2.2.2.2 k hlt
      have hzk := sum_get_le (szT tPair) l k hlt
      obtain ⟨x, hx⟩ : ∃ x, l[k] = x := ⟨_, rfl⟩
      rw [hx] at hR hzk
      have hR0 : rd tPair wr cs x := rd_mono (fun q hq => hb.block q hq) _ _ _ hR
      obtain ⟨x0, x1⟩ := x
      obtain ⟨_, _, rfl, ⟨p0, n0, q0, rfl, s0⟩, ⟨p1, n1, q1, rfl, s1⟩⟩ := hR
      have c0 : wr.cell? ⟨b, off + k * 2, none⟩ = some (.slice p0 n0 q0) := (hb.cell hlb).trans (by have hh := hc 0 (by simp); rw [show Ty.n tPair = 2 from rfl] at hh; simpa using hh)
      have c1 : wr.cell? ⟨b, off + k * 2 + 1, none⟩ = some (.slice p1 n1 q1) := (hb.cell hlb).trans (by have hh := hc 1 (by simp); rw [show Ty.n tPair = 2 from rfl] at hh; simpa using hh)
      obtain ⟨b', cap', hv, _, hbl, hfz, c, hcl, hcc, _⟩ := hf.at k (by simp; omega)
      simp only [Value.slice.injEq, Option.some.injEq, Addr.mk.injEq, and_true] at hv
      obtain ⟨rfl, -, rfl⟩ := hv
      have HF := Lib.hid hf; have HX := Lib.hid hx
      have e0 : wr.cell? ⟨w.heap.size, k * 2, none⟩ = some (c[0]'(by rw [hcl]; decide)) := by simpa [Ty.n] using hcc 0 (by rw [hcl]; decide)
      have g0 : wr.frozen? ⟨w.heap.size, k * 2, none⟩ = false := hfz _
      have e1 : wr.cell? ⟨w.heap.size, k * 2 + 1, none⟩ = some (c[1]'(by rw [hcl]; decide)) := by simpa [Ty.n] using hcc 1 (by rw [hcl]; decide)
      have g1 : wr.frozen? ⟨w.heap.size, k * 2 + 1, none⟩ = false := hfz _
      clear h hc hcc hfz hf hx
      go_wp2_with fail
      refine (toPair_any _ (x0, x1) _ (by exact hR0) (by omega)).mono ?_
      rintro e w1 ⟨cs1, rfl, f1, b1⟩
      have rr := f1.rd
      obtain ⟨_, _, rhcs, ⟨rp0, rn0, rq0, rfl, rs0⟩, ⟨rp1, rn1, rq1, rfl, rs1⟩⟩ := rr
      obtain rfl : cs1 = #[.slice rp0 rn0 rq0, .slice rp1 rn1 rq1] := arr_of rhcs
      have e0' : w1.cell? ⟨w.heap.size, k * 2, none⟩ = some (c[0]'(by rw [hcl]; decide)) := (b1.cell hbl).trans e0
      have g0' : w1.frozen? ⟨w.heap.size, k * 2, none⟩ = false := (b1.frozen hbl).trans g0
      have e1' : w1.cell? ⟨w.heap.size, k * 2 + 1, none⟩ = some (c[1]'(by rw [hcl]; decide)) := (b1.cell hbl).trans e1
      have g1' : w1.frozen? ⟨w.heap.size, k * 2 + 1, none⟩ = false := (b1.frozen hbl).trans g1
      clear e0 g0 c0 e1 g1 c1 rhcs
      go_wp2
      go_roundw
      case rel =>
        refine ⟨k + 1, by omega, by go_num, ?_, ?_⟩
        · (repeat' first | refine Below.setCell ?_ (by first | omega | (simp [World.setCell]; done) | (simp [World.setCell]; omega)) _); exact hb.trans (b1.mono hb.size)
        · have h1 := (HF.out.below b1 (Nat.le_refl _)).set k (by simp; omega) hb.size b1.size (x := l[k]) (by rw [HX.out]; exact f1)
          rw [set_zero l (zeroD tPair) k hlt] at h1
          refine FrIn.mono (hi := w1.heap.size) ?_ (Nat.le_refl _) (by first | omega | (simp [World.setCell]; done) | (simp [World.setCell]; omega)) (Nat.le_refl _)
          exact h1
      case measure => simp [intOf]; omega
    · clear h
      go_wp2
      go_ret
      obtain rfl : k = l.length := by omega
      exact ⟨_, _, rfl, by simpa using hf, hb⟩

set_option maxHeartbeats 1000000 in
set_option maxRecDepth 100000 in
theorem szPair_any (ca : Array Value) (d : tPair.D) (left : Int) (w : World) (ha : rd tPair w ca.toList d) (h0 : 0 ≤ left) (h2 : left ≤ 9223372036854775807) :
    Calls Try.prog 106 #[.agg ca, .int .i64 left] w (RetV (.int .i64 (szR left (szT tPair d))) w) := by
  obtain ⟨x0, x1⟩ := d
  obtain ⟨_, _, ahcs, ⟨ap0, an0, aq0, rfl, as0⟩, ⟨ap1, an1, aq1, rfl, as1⟩⟩ := ha
  obtain rfl : ca = #[.slice ap0 an0 aq0, .slice ap1 an1 aq1] := arr_of ahcs
  clear ahcs
  have e0 : szT tPair (x0, x1) = szT tInts x0 + szT tInts x1 := by first | rfl | (simp only [szT]; omega)
  have hl0 : szT tInts x0 = an0 := by rw [as0.lens]; exact szT_ints x0
  have hm0 : an0 ≤ maxLen := Nat.le_trans as0.2.1 as0.2.2.1
  have hl1 : szT tInts x1 = an1 := by rw [as1.lens]; exact szT_ints x1
  have hm1 : an1 ≤ maxLen := Nat.le_trans as1.2.1 as1.2.2.1
  have HS : Hid (szT tPair (x0, x1) = an0 + an1) := e0.trans (by rw [hl0, hl1])
  clear e0 hl0 hl1
  by_cases hf0 : ((an0 : Nat) : Int) ≤ left
  rotate_left
  · go_enter Try.func106, Try.ntmps106
    go_wp2_with fail
    refine (szIntS_no _ _ _ _ _ hm0 (by omega) (by omega) (by omega)).mono ?_
    rintro e w90 ⟨rfl, b0⟩
    obtain ⟨u0, v0⟩ := bcell b0
    have y0 := b0.size
    try simp only [World.size_alloc, World.size_setCell] at u0 v0 y0
    have yy00 : w.heap.size < w90.heap.size := (by first | omega | (simp [World.setCell]; done) | (simp [World.setCell]; omega))
    go_wp2
    go_ret
    exact ⟨ret_int (by (first | rw [HS.out] | skip); unfold szR; rw [if_neg (by omega)]), (by (repeat' first | refine Below.setCell ?_ (by first | omega | (simp [World.setCell]; done) | (simp [World.setCell]; omega)) _ | refine Below.alloc ?_ (by first | omega | (simp [World.setCell]; done) | (simp [World.setCell]; omega)) _); refine Below.trans ?_ (b0.mono (by first | omega | (simp [World.setCell]; done) | (simp [World.setCell]; omega))); (repeat' first | refine Below.setCell ?_ (by first | omega | (simp [World.setCell]; done) | (simp [World.setCell]; omega)) _ | refine Below.alloc ?_ (by first | omega | (simp [World.setCell]; done) | (simp [World.setCell]; omega)) _); exact Below.refl _ _)⟩
  by_cases hf1 : ((an1 : Nat) : Int) ≤ left - (an0 : Nat)
  rotate_left
  · go_enter Try.func106, Try.ntmps106
    go_wp2_with fail
    refine (szIntS_ok _ _ _ _ _ hm0 (by omega) (by omega) (by omega)).mono ?_
    rintro e w90 ⟨rfl, b0⟩
    obtain ⟨u0, v0⟩ := bcell b0
    have y0 := b0.size
    try simp only [World.size_alloc, World.size_setCell] at u0 v0 y0
    have yy00 : w.heap.size < w90.heap.size := (by first | omega | (simp [World.setCell]; done) | (simp [World.setCell]; omega))
    go_wp2_with fail
    refine (szIntS_no _ _ _ _ _ hm1 (by omega) (by omega) (by omega)).mono ?_
    rintro e w91 ⟨rfl, b1⟩
    obtain ⟨u1, v1⟩ := bcell b1
    have y1 := b1.size
    try simp only [World.size_alloc, World.size_setCell] at u1 v1 y1
    have yy10 : w.heap.size < w91.heap.size := (by first | omega | (simp [World.setCell]; done) | (simp [World.setCell]; omega))
    go_wp2
    go_ret
    exact ⟨ret_int (by (first | rw [HS.out] | skip); unfold szR; rw [if_neg (by omega)]), (by (repeat' first | refine Below.setCell ?_ (by first | omega | (simp [World.setCell]; done) | (simp [World.setCell]; omega)) _ | refine Below.alloc ?_ (by first | omega | (simp [World.setCell]; done) | (simp [World.setCell]; omega)) _); refine Below.trans ?_ (b1.mono (by first | omega | (simp [World.setCell]; done) | (simp [World.setCell]; omega))); (repeat' first | refine Below.setCell ?_ (by first | omega | (simp [World.setCell]; done) | (simp [World.setCell]; omega)) _ | refine Below.alloc ?_ (by first | omega | (simp [World.setCell]; done) | (simp [World.setCell]; omega)) _); refine Below.trans ?_ (b0.mono (by first | omega | (simp [World.setCell]; done) | (simp [World.setCell]; omega))); (repeat' first | refine Below.setCell ?_ (by first | omega | (simp [World.setCell]; done) | (simp [World.setCell]; omega)) _ | refine Below.alloc ?_ (by first | omega | (simp [World.setCell]; done) | (simp [World.setCell]; omega)) _); exact Below.refl _ _)⟩
  go_enter Try.func106, Try.ntmps106
  go_wp2_with fail
  refine (szIntS_ok _ _ _ _ _ hm0 (by omega) (by omega) (by omega)).mono ?_
  rintro e w90 ⟨rfl, b0⟩
  obtain ⟨u0, v0⟩ := bcell b0
  have y0 := b0.size
  try simp only [World.size_alloc, World.size_setCell] at u0 v0 y0
  have yy00 : w.heap.size < w90.heap.size := (by first | omega | (simp [World.setCell]; done) | (simp [World.setCell]; omega))
  go_wp2_with fail
  refine (szIntS_ok _ _ _ _ _ hm1 (by omega) (by omega) (by omega)).mono ?_
  rintro e w91 ⟨rfl, b1⟩
  obtain ⟨u1, v1⟩ := bcell b1
  have y1 := b1.size
  try simp only [World.size_alloc, World.size_setCell] at u1 v1 y1
  have yy10 : w.heap.size < w91.heap.size := (by first | omega | (simp [World.setCell]; done) | (simp [World.setCell]; omega))
  go_wp2
  go_ret
  exact ⟨ret_int (by (first | rw [HS.out] | skip); unfold szR; rw [if_pos (by omega)]; try omega), (by (repeat' first | refine Below.setCell ?_ (by first | omega | (simp [World.setCell]; done) | (simp [World.setCell]; omega)) _ | refine Below.alloc ?_ (by first | omega | (simp [World.setCell]; done) | (simp [World.setCell]; omega)) _); refine Below.trans ?_ (b1.mono (by first | omega | (simp [World.setCell]; done) | (simp [World.setCell]; omega))); (repeat' first | refine Below.setCell ?_ (by first | omega | (simp [World.setCell]; done) | (simp [World.setCell]; omega)) _ | refine Below.alloc ?_ (by first | omega | (simp [World.setCell]; done) | (simp [World.setCell]; omega)) _); refine Below.trans ?_ (b0.mono (by first | omega | (simp [World.setCell]; done) | (simp [World.setCell]; omega))); (repeat' first | refine Below.setCell ?_ (by first | omega | (simp [World.setCell]; done) | (simp [World.setCell]; omega)) _ | refine Below.alloc ?_ (by first | omega | (simp [World.setCell]; done) | (simp [World.setCell]; omega)) _); exact Below.refl _ _)⟩

theorem szPair_ok (ca : Array Value) (d : tPair.D) (left : Int) (w : World) (ha : rd tPair w ca.toList d) (h0 : 0 ≤ left) (h2 : left ≤ 9223372036854775807) (h : ((szT tPair d : Nat) : Int) ≤ left) :
    Calls Try.prog 106 #[.agg ca, .int .i64 left] w (RetV (.int .i64 (left - (szT tPair d : Nat))) w) := by
  have := szPair_any ca d left w ha h0 h2
  rwa [szR_pos h] at this
theorem szPair_no (ca : Array Value) (d : tPair.D) (left : Int) (w : World) (ha : rd tPair w ca.toList d) (h0 : 0 ≤ left) (h2 : left ≤ 9223372036854775807) (h : ¬ ((szT tPair d : Nat) : Int) ≤ left) :
    Calls Try.prog 106 #[.agg ca, .int .i64 left] w (RetV (.int .i64 (-1)) w) := by
  have := szPair_any ca d left w ha h0 h2
  rwa [szR_neg h] at this

set_option maxHeartbeats 1000000 in
set_option maxRecDepth 100000 in
theorem szPairS_any (p : Option Addr) (len cap : Nat) (l : List tPair.D) (left : Int) (w : World) (h : SlRd tPair.n (rd tPair w) w p len cap l) (h0 : 0 ≤ left) (h2 : left ≤ 9223372036854775807) :
    Calls Try.prog 60 #[.slice p len cap, .int .i64 left] w (RetV (.int .i64 (szR left (szT (.slice 91 tPair) l))) w) := by
  have hm : len ≤ maxLen := Nat.le_trans h.2.1 h.2.2.1
  obtain rfl := h.lens
  unfold maxLen at hm
  have HS : Hid (szT (.slice 91 tPair) l = l.length + (l.map (szT tPair)).sum) := szT_slice _ _ _
  by_cases hc : (l.length : Int) ≤ left
  rotate_left
  · have hc2 : (left - l.length < 0) := by omega
    clear h
    go_enter Try.func60, Try.ntmps60
    go_wp2
    go_ret
    exact ⟨ret_int (by (first | rw [HS.out] | skip); unfold szR; rw [if_neg (by omega)]), Below.refl _ _⟩
  go_enter Try.func60, Try.ntmps60
  go_wp2
  go_loopw [1, 5] (fun q i wr => ∃ k : Nat, k ≤ l.length ∧ i = .int .i64 k ∧ ∃ m : Int, q = .int .i64 m ∧ m = left - l.length - (((l.take k).map (szT tPair)).sum : Nat) ∧ 0 ≤ m ∧ Below w.heap.size w wr) (fun _ i _ => l.length - (intOf i).toNat)
  case atStart => exact ⟨0, by omega, rfl, _, rfl, by simp, by omega, Below.refl _ _⟩
  case round =>
    obtain ⟨k, hk, rfl, m, rfl, hm1, hm2, hb⟩ := hrel
    have hmb : m ≤ left := by omega
    by_cases hlt : k < l.length
    · obtain ⟨b, off, rfl, hlb, cs, hcs, hc1, hR⟩ := h.2.2.2.2 k hlt
      have hsum := sum_take_succ (szT tPair) l k hlt
      have hsle := sum_take_le (szT tPair) l (k + 1)
      obtain ⟨x, hx⟩ : ∃ x, l[k] = x := ⟨_, rfl⟩
      rw [hx] at hR hsum
      have hR0 : rd tPair wr cs x := rd_mono (fun q hq => hb.block q hq) _ _ _ hR
      obtain ⟨z, hz⟩ : ∃ z, szT tPair x = z := ⟨_, rfl⟩
      obtain ⟨s0, hs0⟩ : ∃ z, ((l.take k).map (szT tPair)).sum = z := ⟨_, rfl⟩
      obtain ⟨s1, hs1⟩ : ∃ z, ((l.take (k + 1)).map (szT tPair)).sum = z := ⟨_, rfl⟩
      obtain ⟨s2, hs2⟩ : ∃ z, (l.map (szT tPair)).sum = z := ⟨_, rfl⟩
      rw [hs0] at hsum hm1
      rw [hs1, hz] at hsum
      rw [hs1] at hsle
      rw [hs2] at hsle
      have HZ := Lib.hid hz; have HR := Lib.hid hR0; have H1 := Lib.hid hs1; have H2 := Lib.hid hs2; have HM := Lib.hid hm1; have HU := Lib.hid hsum; have HX := Lib.hid hz
      obtain ⟨x0, x1⟩ := x
      obtain ⟨_, _, rfl, ⟨ap0, an0, aq0, rfl, as0⟩, ⟨ap1, an1, aq1, rfl, as1⟩⟩ := hR
      have c0 : wr.cell? ⟨b, off + k * 2, none⟩ = some (.slice ap0 an0 aq0) := (hb.cell hlb).trans (by have hh := hc1 0 (by simp); rw [show Ty.n tPair = 2 from rfl] at hh; simpa using hh)
      have c1 : wr.cell? ⟨b, off + k * 2 + 1, none⟩ = some (.slice ap1 an1 aq1) := (hb.cell hlb).trans (by have hh := hc1 1 (by simp); rw [show Ty.n tPair = 2 from rfl] at hh; simpa using hh)
      clear h hc1 hcs hx hR0 hz hs0 hs1 hs2 hm1 hsum
      by_cases hfit : (z : Int) ≤ m
      · go_wp2_with fail
        refine (szPair_ok _ (x0, x1) _ _ (by exact HR.out) (by omega) (by omega) (by rw [HZ.out]; omega)).mono ?_
        rintro e w3 ⟨rfl, b3⟩
        rw [HZ.out]
        have hmz : ¬ (m - z < 0) := by omega
        go_wp2
        go_roundw
        case rel => exact ⟨k + 1, by omega, by go_num, _, rfl, by rw [H1.out]; have := HM.out; have := HU.out; omega, by omega, hb.trans (b3.mono hb.size)⟩
        case measure => simp [intOf]; omega
      · go_wp2_with fail
        refine (szPair_no _ (x0, x1) _ _ (by exact HR.out) (by omega) (by omega) (by rw [HZ.out]; omega)).mono ?_
        rintro e w3 ⟨rfl, b3⟩
        go_wp2
        go_ret
        exact ⟨ret_int (by rw [HS.out, H2.out]; unfold szR; rw [if_neg (by have := HM.out; have := HU.out; omega)]), hb.trans (b3.mono hb.size)⟩
    · clear h
      have HM := Lib.hid hm1; clear hm1
      go_wp2
      go_ret
      obtain rfl : k = l.length := by omega
      have hm1 := HM.out
      rw [List.take_length] at hm1
      exact ⟨ret_int (by (first | rw [HS.out] | skip); unfold szR; rw [if_pos (by omega)]; try omega), hb⟩

theorem szPairS_ok (p : Option Addr) (len cap : Nat) (l : List tPair.D) (left : Int) (w : World) (ha : SlRd tPair.n (rd tPair w) w p len cap l) (h0 : 0 ≤ left) (h2 : left ≤ 9223372036854775807) (h : ((szT (.slice 91 tPair) l : Nat) : Int) ≤ left) :
    Calls Try.prog 60 #[.slice p len cap, .int .i64 left] w (RetV (.int .i64 (left - (szT (.slice 91 tPair) l : Nat))) w) := by
  have := szPairS_any p len cap l left w ha h0 h2
  rwa [szR_pos h] at this
theorem szPairS_no (p : Option Addr) (len cap : Nat) (l : List tPair.D) (left : Int) (w : World) (ha : SlRd tPair.n (rd tPair w) w p len cap l) (h0 : 0 ≤ left) (h2 : left ≤ 9223372036854775807) (h : ¬ ((szT (.slice 91 tPair) l : Nat) : Int) ≤ left) :
    Calls Try.prog 60 #[.slice p len cap, .int .i64 left] w (RetV (.int .i64 (-1)) w) := by
  have := szPairS_any p len cap l left w ha h0 h2
  rwa [szR_neg h] at this

set_option maxHeartbeats 1000000 in
set_option maxRecDepth 100000 in
theorem eqPair_any (ca cb : Array Value) (d : tPair.D) (w : World) (ha : rd tPair w ca.toList d) (hb : rd tPair w cb.toList d) :
    Calls Try.prog 109 #[.agg ca, .agg cb] w (RetV (.bool true) w) := by
  obtain ⟨x0, x1⟩ := d
  obtain ⟨_, _, ahcs, ⟨ap0, an0, aq0, rfl, as0⟩, ⟨ap1, an1, aq1, rfl, as1⟩⟩ := ha
  obtain ⟨_, _, bhcs, ⟨bp0, bn0, bq0, rfl, bs0⟩, ⟨bp1, bn1, bq1, rfl, bs1⟩⟩ := hb
  obtain rfl : ca = #[.slice ap0 an0 aq0, .slice ap1 an1 aq1] := arr_of ahcs
  obtain rfl : cb = #[.slice bp0 bn0 bq0, .slice bp1 bn1 bq1] := arr_of bhcs
  clear ahcs bhcs
  go_enter Try.func109, Try.ntmps109
  go_wp2_with fail
  refine (eqIntS_any _ _ _ _ _ _ x0 _ (by exact as0.below (by (repeat' first | refine Below.setCell ?_ (by first | omega | (simp [World.setCell]; done) | (simp [World.setCell]; omega)) _ | refine Below.alloc ?_ (by first | omega | (simp [World.setCell]; done) | (simp [World.setCell]; omega)) _); exact Below.refl _ _)) (by exact bs0.below (by (repeat' first | refine Below.setCell ?_ (by first | omega | (simp [World.setCell]; done) | (simp [World.setCell]; omega)) _ | refine Below.alloc ?_ (by first | omega | (simp [World.setCell]; done) | (simp [World.setCell]; omega)) _); exact Below.refl _ _))).mono ?_
  rintro e w90 ⟨rfl, b0⟩
  obtain ⟨u0, v0⟩ := bcell b0
  have y0 := b0.size
  try simp only [World.size_alloc, World.size_setCell] at u0 v0 y0
  have yy00 : w.heap.size < w90.heap.size := (by first | omega | (simp [World.setCell]; done) | (simp [World.setCell]; omega))
  have yy01 : w.heap.size + 1 < w90.heap.size := (by first | omega | (simp [World.setCell]; done) | (simp [World.setCell]; omega))
  go_wp2_with fail
  refine (eqIntS_any _ _ _ _ _ _ x1 _ (by exact as1.below (by (repeat' first | refine Below.setCell ?_ (by first | omega | (simp [World.setCell]; done) | (simp [World.setCell]; omega)) _ | refine Below.alloc ?_ (by first | omega | (simp [World.setCell]; done) | (simp [World.setCell]; omega)) _); refine Below.trans ?_ (b0.mono (by first | omega | (simp [World.setCell]; done) | (simp [World.setCell]; omega))); (repeat' first | refine Below.setCell ?_ (by first | omega | (simp [World.setCell]; done) | (simp [World.setCell]; omega)) _ | refine Below.alloc ?_ (by first | omega | (simp [World.setCell]; done) | (simp [World.setCell]; omega)) _); exact Below.refl _ _)) (by exact bs1.below (by (repeat' first | refine Below.setCell ?_ (by first | omega | (simp [World.setCell]; done) | (simp [World.setCell]; omega)) _ | refine Below.alloc ?_ (by first | omega | (simp [World.setCell]; done) | (simp [World.setCell]; omega)) _); refine Below.trans ?_ (b0.mono (by first | omega | (simp [World.setCell]; done) | (simp [World.setCell]; omega))); (repeat' first | refine Below.setCell ?_ (by first | omega | (simp [World.setCell]; done) | (simp [World.setCell]; omega)) _ | refine Below.alloc ?_ (by first | omega | (simp [World.setCell]; done) | (simp [World.setCell]; omega)) _); exact Below.refl _ _))).mono ?_
  rintro e w91 ⟨rfl, b1⟩
  obtain ⟨u1, v1⟩ := bcell b1
  have y1 := b1.size
  try simp only [World.size_alloc, World.size_setCell] at u1 v1 y1
  have yy10 : w.heap.size < w91.heap.size := (by first | omega | (simp [World.setCell]; done) | (simp [World.setCell]; omega))
  have yy11 : w.heap.size + 1 < w91.heap.size := (by first | omega | (simp [World.setCell]; done) | (simp [World.setCell]; omega))
  go_wp2
  go_ret
  exact ⟨rfl, (by (repeat' first | refine Below.setCell ?_ (by first | omega | (simp [World.setCell]; done) | (simp [World.setCell]; omega)) _ | refine Below.alloc ?_ (by first | omega | (simp [World.setCell]; done) | (simp [World.setCell]; omega)) _); refine Below.trans ?_ (b1.mono (by first | omega | (simp [World.setCell]; done) | (simp [World.setCell]; omega))); (repeat' first | refine Below.setCell ?_ (by first | omega | (simp [World.setCell]; done) | (simp [World.setCell]; omega)) _ | refine Below.alloc ?_ (by first | omega | (simp [World.setCell]; done) | (simp [World.setCell]; omega)) _); refine Below.trans ?_ (b0.mono (by first | omega | (simp [World.setCell]; done) | (simp [World.setCell]; omega))); (repeat' first | refine Below.setCell ?_ (by first | omega | (simp [World.setCell]; done) | (simp [World.setCell]; omega)) _ | refine Below.alloc ?_ (by first | omega | (simp [World.setCell]; done) | (simp [World.setCell]; omega)) _); exact Below.refl _ _)⟩

set_option maxHeartbeats 1000000 in
set_option maxRecDepth 100000 in
theorem eqPairS_any (p q : Option Addr) (len cap len' cap' : Nat) (l : List tPair.D) (w : World) (h : SlRd tPair.n (rd tPair w) w p len cap l) (h' : SlRd tPair.n (rd tPair w) w q len' cap' l) :
    Calls Try.prog 64 #[.slice p len cap, .slice q len' cap'] w (RetV (.bool true) w) := by
  obtain rfl := h.lens
  obtain rfl := h'.lens
  have hmx : l.length ≤ maxLen := by have := h.2.1; have := h.2.2.1; omega
  unfold maxLen at hmx
  go_enter Try.func64, Try.ntmps64
  go_wp2
  go_loopw [5] (fun i wr => ∃ k : Nat, k ≤ l.length ∧ i = .int .i64 k ∧ Below w.heap.size w wr) (fun i _ => l.length - (intOf i).toNat)
  case atStart => exact ⟨0, by omega, rfl, Below.refl _ _⟩
  case round =>
    obtain ⟨k, hk, rfl, hb⟩ := hrel
    by_cases hlt : k < l.length
    · obtain ⟨b, off, rfl, hlb, cs, hcs, hc, hR⟩ := h.2.2.2.2 k hlt
      obtain ⟨b2, off2, rfl, hlb2, cs2, hcs2, hc2, hR2⟩ := h'.2.2.2.2 k hlt
      obtain ⟨x, hx⟩ : ∃ x, l[k] = x := ⟨_, rfl⟩
      rw [hx] at hR hR2
      have hR0 : rd tPair wr.drew cs x := rd_mono (fun q hq => hb.block q hq) _ _ _ hR
      have hR20 : rd tPair wr.drew cs2 x := rd_mono (fun q hq => hb.block q hq) _ _ _ hR2
      obtain ⟨x0, x1⟩ := x
      obtain ⟨_, _, rfl, ⟨ap0, an0, aq0, rfl, as0⟩, ⟨ap1, an1, aq1, rfl, as1⟩⟩ := hR
      obtain ⟨_, _, rfl, ⟨bp0, bn0, bq0, rfl, bs0⟩, ⟨bp1, bn1, bq1, rfl, bs1⟩⟩ := hR2
      have c0 : wr.cell? ⟨b, off + k * 2, none⟩ = some (.slice ap0 an0 aq0) := (hb.cell hlb).trans (by have hh := hc 0 (by simp); rw [show Ty.n tPair = 2 from rfl] at hh; simpa using hh)
      have c1 : wr.cell? ⟨b, off + k * 2 + 1, none⟩ = some (.slice ap1 an1 aq1) := (hb.cell hlb).trans (by have hh := hc 1 (by simp); rw [show Ty.n tPair = 2 from rfl] at hh; simpa using hh)
      have d0 : wr.cell? ⟨b2, off2 + k * 2, none⟩ = some (.slice bp0 bn0 bq0) := (hb.cell hlb2).trans (by have hh := hc2 0 (by simp); rw [show Ty.n tPair = 2 from rfl] at hh; simpa using hh)
      have d1 : wr.cell? ⟨b2, off2 + k * 2 + 1, none⟩ = some (.slice bp1 bn1 bq1) := (hb.cell hlb2).trans (by have hh := hc2 1 (by simp); rw [show Ty.n tPair = 2 from rfl] at hh; simpa using hh)
      have HR := Lib.hid hR0; have HR2 := Lib.hid hR20
      clear h h' hc hc2 hx hcs hcs2 hR0 hR20
      go_wp2
      go_still_tail 8, (by kernel_rfl)
      change wpList _ _ _ _ _ wr.drew
      have hb2 : Below w.heap.size w wr.drew := hb.drew
      generalize wr.drew = w2 at hb2 HR HR2 ⊢
      go_wp2_with fail
      refine (eqPair_any _ _ (x0, x1) _ (by exact HR.out) (by exact HR2.out)).mono ?_
      rintro e w3 ⟨rfl, b3⟩
      go_wp2
      go_roundw
      case rel => exact ⟨k + 1, by omega, by go_num, hb2.trans (b3.mono hb2.size)⟩
      case measure => simp [intOf]; omega
    · clear h h'
      go_wp2
      go_ret
      exact ⟨rfl, hb⟩

set_option maxHeartbeats 4000000 in
set_option maxRecDepth 100000 in
theorem markPairS_any (p : Option Addr) (len cap : Nat) (k0 : Int) (l : List tPair.D) (bl : List Nat) (w : World) (h : rep (.slice 91 tPair) w [.slice p len cap] l bl) (hnd : bl.Nodup) (h0 : 0 ≤ k0) (h1 : k0 + (cnt (.slice 91 tPair) l : Nat) ≤ 1000000000000) :
    Calls Try.prog 65 #[.slice p len cap, .int .i64 k0] w (RetMk (.slice 91 tPair) w [.slice p len cap] (mk (.slice 91 tPair) l k0) bl (k0 + (cnt (.slice 91 tPair) l : Nat))) := by
  obtain ⟨rfl, hmx⟩ := rep_len h
  have HL := Lib.hid (mk_length (e := 91) (t := tPair) l k0)
  rw [cnt_slice] at h1
  have hbl := rep_lt _ _ _ _ _ h
  unfold maxLen at hmx
  go_enter Try.func65, Try.ntmps65
  go_wp2
  go_loopw [1, 5] (fun q i wr => ∃ k : Nat, k ≤ l.length ∧ i = .int .i64 k ∧ (∃ kk : Int, q = .int .i64 kk ∧ Hid (kk = k0 + (((l.take k).map (cnt tPair)).sum : Nat)) ∧ 0 ≤ kk ∧ kk ≤ 1000000000000) ∧ Only bl w wr ∧ Hid (rep (.slice 91 tPair) wr [.slice p l.length cap] ((mk (.slice 91 tPair) l k0 : List tPair.D).take k ++ l.drop k) bl)) (fun _ i _ => l.length - (intOf i).toNat)
  case atStart => exact ⟨0, by omega, rfl, ⟨_, rfl, by show _ = _; simp, by omega, by omega⟩, Only.refl _ _, by show rep _ _ _ _ _; simpa using h⟩
  case round =>
    obtain ⟨k, hk, rfl, ⟨kk, rfl, hkk, hk0, hk1⟩, hb, hf⟩ := hrel
    clear h
    by_cases hlt : k < l.length
    · obtain ⟨M, hM⟩ : ∃ M, M = (mk (.slice 91 tPair) l k0 : List tPair.D).take k ++ l.drop k := ⟨_, rfl⟩
      have hkl : k < M.length := by rw [hM]; simp only [List.length_append, List.length_take, List.length_drop, HL.out]; omega
      obtain ⟨x, hx⟩ : ∃ x, l[k] = x := ⟨_, rfl⟩
      have hMk : M[k] = x := by subst hM; rw [get_mix _ _ _ hlt HL.out, hx]
      have hset : ∀ y, (mk (.slice 91 tPair) l k0 : List tPair.D)[k]'(by rw [HL.out]; exact hlt) = y → M.set k y = (mk (.slice 91 tPair) l k0 : List tPair.D).take (k + 1) ++ l.drop (k + 1) := fun y hy => by subst hM; exact set_mix _ _ _ hlt HL.out _ hy
      have hmk := mk_get (e := 91) (t := tPair) l k0 k hlt (by rw [HL.out]; exact hlt)
      rw [hx, ← hkk.out] at hmk
      have hs1 := sum_take_succ (cnt tPair) l k hlt
      have hs2 := sum_take_le (cnt tPair) l (k + 1)
      rw [hx] at hs1
      have hf1 := hf.out
      rw [← hM] at hf1
      have hxb : kk + (cnt tPair x : Nat) ≤ 1000000000000 := by have := hkk.out; omega
      have HS1 := Lib.hid hs1; have HSET := Lib.hid hset; have HMK := Lib.hid hmk
      clear hx hM hs1 hs2 hset hmk hf
      obtain ⟨x0, x1⟩ := x
      have hcx : cnt tPair (x0, x1) = cnt tInts x0 + cnt tInts x1 := by first | rfl | (simp only [cnt]; omega)
      rw [hcx] at hxb
      have HCX := Lib.hid hcx; clear hcx
      have hw0 : wr.heap.size = wr.heap.size := rfl
      obtain ⟨bs1, caps1, cs1, bks1, hvs1, hbms1, hbzs1, hfzs1, hcls1, hcs1, hRs1, hsubs1, hnbs1, hnos1, hUs1, hVs1⟩ := rep_lens hf1 hnd k hkl
      simp only [Value.slice.injEq] at hvs1
      obtain ⟨rfl, -, -⟩ := hvs1
      rw [hMk] at hRs1
      obtain ⟨_, _, _, _, rfl, rfl, s1r0, s1r1⟩ := hRs1
      obtain ⟨s1p0, s1n0, s1q0, rfl⟩ := rep_form s1r0
      obtain ⟨s1p1, s1n1, s1q1, rfl⟩ := rep_form s1r1
      have es1 : wr.cell? ⟨bs1, k * 2, none⟩ = some (.slice s1p0 s1n0 s1q0) := by have hh := hcs1 0 (by simp); rw [show Ty.n tPair = 2 from rfl] at hh; simpa using hh
      clear hfzs1 hcs1 hcls1 hVs1
      have HUs1 := Lib.hid hUs1; clear hUs1
      go_wp2_with fail
      refine (markIntS_any _ _ _ _ x0 _ _ (by exact s1r0) (nd_l hnbs1) (by omega) (by have := cnt_ints x0; omega)).mono ?_
      rintro e ws1 ⟨rfl, rps1, ons1⟩
      have hf2 := HUs1.out ws1 ((mk tInts x0 (kk)), x1) (fun q hq hz => ons1.block q (fun hm => hq (List.mem_append_left _ hm)) hz) ⟨[_], [_], _, _, rfl, rfl, rps1, (rep_keep _ _ _ _ (fun q hq => ons1.block q (fun hm => (nd_x hnbs1 hm hq)) (rep_lt _ _ _ _ _ s1r1 q hq)) s1r1)⟩
      have hbs1 : Only bl w ws1 := Only.trans hb (ons1.mono (fun q hq => hsubs1 q (List.mem_append_left _ hq)))
      clear HUs1 rps1 s1r0 s1r1 es1
      have hkl2 : k < (M.set k ((mk tInts x0 (kk)), x1)).length := by rw [List.length_set]; exact hkl
      have hM2 : (M.set k ((mk tInts x0 (kk)), x1))[k]'hkl2 = ((mk tInts x0 (kk)), x1) := List.getElem_set_self _
      obtain ⟨bs2, caps2, cs2, bks2, hvs2, hbms2, hbzs2, hfzs2, hcls2, hcs2, hRs2, hsubs2, hnbs2, hnos2, hUs2, hVs2⟩ := rep_lens hf2 hnd k hkl2
      simp only [Value.slice.injEq] at hvs2
      obtain ⟨hvbs2, -, -⟩ := hvs2
      simp only [Option.some.injEq, Addr.mk.injEq, and_true] at hvbs2
      subst hvbs2
      rw [hM2] at hRs2
      obtain ⟨_, _, _, _, rfl, rfl, s2r0, s2r1⟩ := hRs2
      obtain ⟨s2p0, s2n0, s2q0, rfl⟩ := rep_form s2r0
      obtain ⟨s2p1, s2n1, s2q1, rfl⟩ := rep_form s2r1
      have es2 : ws1.cell? ⟨bs1, k * 2 + 1, none⟩ = some (.slice s2p1 s2n1 s2q1) := by have hh := hcs2 1 (by simp); rw [show Ty.n tPair = 2 from rfl] at hh; simpa using hh
      clear hfzs2 hcs2 hcls2 hVs2
      have HUs2 := Lib.hid hUs2; clear hUs2
      go_wp2_with fail
      refine (markIntS_any _ _ _ _ x1 _ _ (by exact s2r1) (nd_r hnbs2) (by omega) (by have := cnt_ints x1; omega)).mono ?_
      rintro e ws2 ⟨rfl, rps2, ons2⟩
      have hf3 := HUs2.out ws2 ((mk tInts x0 (kk)), (mk tInts x1 (kk + (cnt tInts x0 : Nat)))) (fun q hq hz => ons2.block q (fun hm => hq (List.mem_append_right _ hm)) hz) ⟨[_], [_], _, _, rfl, rfl, (rep_keep _ _ _ _ (fun q hq => ons2.block q (fun hm => (nd_x hnbs2 hq hm)) (rep_lt _ _ _ _ _ s2r0 q hq)) s2r0), rps2⟩
      have hbs2 : Only bl w ws2 := Only.trans hbs1 (ons2.mono (fun q hq => hsubs2 q (List.mem_append_right _ hq)))
      clear HUs2 rps2 s2r0 s2r1 es2 hbms2
      rw [List.set_set] at hf3
      have hkl3 : k < (M.set k ((mk tInts x0 (kk)), (mk tInts x1 (kk + (cnt tInts x0 : Nat))))).length := by rw [List.length_set]; exact hkl
      have hM3 : (M.set k ((mk tInts x0 (kk)), (mk tInts x1 (kk + (cnt tInts x0 : Nat)))))[k]'hkl3 = ((mk tInts x0 (kk)), (mk tInts x1 (kk + (cnt tInts x0 : Nat)))) := List.getElem_set_self _
      have HF := Lib.hid hf3
      clear hf1 hf2 hf3
      go_wp2
      go_roundw
      case rel =>
        refine ⟨k + 1, by omega, by go_num, ⟨_, rfl, by show _ = _; have := HS1.out; have := hkk.out; have hcx9 : cnt tPair (x0, x1) = cnt tInts x0 + cnt tInts x1 := (by first | rfl | (simp only [cnt]; omega)); omega, by omega, by omega⟩, hbs2, ?_⟩
        have h2 := HF.out
        rw [HSET.out _ (HMK.out.trans (by rfl))] at h2
        exact h2
      case measure => simp [intOf]; omega
    · go_wp2
      go_ret
      obtain rfl : k = l.length := by omega
      have hkk := hkk.out
      rw [List.take_length] at hkk
      refine ⟨ret_int (by rw [cnt_slice]; exact hkk), ?_, hb⟩
      have hf := hf.out
      have e1 : (mk (.slice 91 tPair) l k0 : List tPair.D).take l.length ++ l.drop l.length = mk (.slice 91 tPair) l k0 := by
        rw [List.drop_length, List.append_nil, List.take_of_length_le (by rw [HL.out]; exact Nat.le_refl _)]
      rw [e1] at hf
      exact hf

set_option maxHeartbeats 4000000 in
set_option maxRecDepth 100000 in
theorem heldPairS_any (p : Option Addr) (len cap : Nat) (k0 : Int) (l : List tPair.D) (w : World) (h : SlRd tPair.n (rd tPair w) w p len cap (mk (.slice 91 tPair) l k0)) (h0 : 0 ≤ k0) (h1 : k0 + (cnt (.slice 91 tPair) l : Nat) ≤ 1000000000000) :
    Calls Try.prog 110 #[.slice p len cap, .int .i64 k0] w (RetV (.int .i64 (k0 + (cnt (.slice 91 tPair) l : Nat))) w) := by
  have HL := mk_length (e := 91) (t := tPair) l k0
  obtain rfl : len = l.length := by rw [h.lens]; exact HL
  have hmx : l.length ≤ maxLen := Nat.le_trans h.2.1 h.2.2.1
  unfold maxLen at hmx
  rw [cnt_slice] at h1
  have HL2 := Lib.hid HL
  clear HL
  go_enter Try.func110, Try.ntmps110
  go_wp2
  go_loopw [1, 5] (fun q i wr => ∃ k : Nat, k ≤ l.length ∧ i = .int .i64 k ∧ (∃ kk : Int, q = .int .i64 kk ∧ Hid (kk = k0 + (((l.take k).map (cnt tPair)).sum : Nat)) ∧ 0 ≤ kk ∧ kk ≤ 1000000000000) ∧ Below w.heap.size w wr) (fun _ i _ => l.length - (intOf i).toNat)
  case atStart => exact ⟨0, by omega, rfl, ⟨_, rfl, by show _ = _; simp, by omega, by omega⟩, Below.refl _ _⟩
  case round =>
    obtain ⟨k, hk, rfl, ⟨kk, rfl, hkk, hk0, hk1⟩, hb⟩ := hrel
    by_cases hlt : k < l.length
    · obtain ⟨b, off, rfl, hlb, cs, hcs, hc, hR⟩ := h.2.2.2.2 k (by rw [HL2.out]; exact hlt)
      have hx9 := mk_get (e := 91) (t := tPair) l k0 k hlt (by rw [HL2.out]; exact hlt)
      obtain ⟨x, hx⟩ : ∃ x, l[k] = x := ⟨_, rfl⟩
      rw [hx, ← hkk.out] at hx9
      rw [hx9] at hR
      have hs1 := sum_take_succ (cnt tPair) l k hlt
      have hs2 := sum_take_le (cnt tPair) l (k + 1)
      rw [hx] at hs1
      have hxb : kk + (cnt tPair x : Nat) ≤ 1000000000000 := by have := hkk.out; omega
      have HS1 := Lib.hid hs1
      clear hx hx9 hs1 hs2
      obtain ⟨x0, x1⟩ := x
      have hcx : cnt tPair (x0, x1) = cnt tInts x0 + cnt tInts x1 := by first | rfl | (simp only [cnt]; omega)
      rw [hcx] at hxb
      clear hcx
      have hR2 : rd tPair w cs ((mk tInts x0 (kk)), (mk tInts x1 (kk + (cnt tInts x0 : Nat)))) := hR
      clear hR
      obtain ⟨_, _, rfl, ⟨ap0, an0, aq0, rfl, as0⟩, ⟨ap1, an1, aq1, rfl, as1⟩⟩ := hR2
      have c0_0 : wr.cell? ⟨b, off + k * 2, none⟩ = some (.slice ap0 an0 aq0) := (hb.cell hlb).trans (by have hh := hc 0 (by simp); rw [show Ty.n tPair = 2 from rfl] at hh; simpa using hh)
      have c1_0 : wr.cell? ⟨b, off + k * 2 + 1, none⟩ = some (.slice ap1 an1 aq1) := (hb.cell hlb).trans (by have hh := hc 1 (by simp); rw [show Ty.n tPair = 2 from rfl] at hh; simpa using hh)
      have HC := Lib.hid hc
      have HA0 := Lib.hid as0
      have HA1 := Lib.hid as1
      clear h hc hcs as0 as1
      go_wp2_with fail
      refine (heldIntS_any _ _ _ _ x0 _ (by exact SlRd.below HA0.out hb) (by omega) (by have := cnt_ints x0; omega)).mono ?_
      rintro e w90 ⟨rfl, b90⟩
      have hb90 := hb.trans (b90.mono hb.size)
      have hnn0 : ¬ (kk + (cnt tInts x0 : Nat) < 0) := by omega
      clear c0_0 c1_0
      have hc := HC.out
      have c0_1 : w90.cell? ⟨b, off + k * 2, none⟩ = some (.slice ap0 an0 aq0) := (hb90.cell hlb).trans (by have hh := hc 0 (by simp); rw [show Ty.n tPair = 2 from rfl] at hh; simpa using hh)
      have c1_1 : w90.cell? ⟨b, off + k * 2 + 1, none⟩ = some (.slice ap1 an1 aq1) := (hb90.cell hlb).trans (by have hh := hc 1 (by simp); rw [show Ty.n tPair = 2 from rfl] at hh; simpa using hh)
      clear hc
      go_wp2_with fail
      refine (heldIntS_any _ _ _ _ x1 _ (by exact SlRd.below HA1.out hb90) (by omega) (by have := cnt_ints x1; omega)).mono ?_
      rintro e w91 ⟨rfl, b91⟩
      have hb91 := hb90.trans (b91.mono hb90.size)
      have hnn1 : ¬ (kk + (cnt tInts x0 : Nat) + (cnt tInts x1 : Nat) < 0) := by omega
      clear c0_1 c1_1
      have hc := HC.out
      have c0_2 : w91.cell? ⟨b, off + k * 2, none⟩ = some (.slice ap0 an0 aq0) := (hb91.cell hlb).trans (by have hh := hc 0 (by simp); rw [show Ty.n tPair = 2 from rfl] at hh; simpa using hh)
      have c1_2 : w91.cell? ⟨b, off + k * 2 + 1, none⟩ = some (.slice ap1 an1 aq1) := (hb91.cell hlb).trans (by have hh := hc 1 (by simp); rw [show Ty.n tPair = 2 from rfl] at hh; simpa using hh)
      clear hc
      go_wp2
      go_roundw
      case rel => exact ⟨k + 1, by omega, by go_num, ⟨_, rfl, by show _ = _; have := HS1.out; have := hkk.out; have hcx9 : cnt tPair (x0, x1) = cnt tInts x0 + cnt tInts x1 := (by first | rfl | (simp only [cnt]; omega)); omega, by omega, by omega⟩, hb91⟩
      case measure => simp [intOf]; omega
    · clear h
      go_wp2
      go_ret
      obtain rfl : k = l.length := by omega
      have hkk := hkk.out
      rw [List.take_length] at hkk
      exact ⟨ret_int (by rw [cnt_slice]; exact hkk), hb⟩



end Go.Proofs.Yteejpennjkihaaa
