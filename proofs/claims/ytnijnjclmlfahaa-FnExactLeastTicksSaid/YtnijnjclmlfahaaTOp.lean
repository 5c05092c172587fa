/- The laws' own helpers over Op: copy, compare, count, mark, look at the marks. -/
import Derived.Test.YtnijnjclmlfahaaCe
namespace Go.Proofs.Ytnijnjclmlfahaa
open Go.ChangeShapes Go.WideShapes Go.ChangeAt Go.RowKit
set_option linter.unusedVariables false
set_option linter.unusedSimpArgs false
abbrev tOp : Ty := .pair tInt (.pair tInt (.pair tInt tInts))

set_option maxHeartbeats 1000000 in
set_option maxRecDepth 100000 in
theorem toOp_any (cs : Array Value) (d : tOp.D) (w : World) (h : rd tOp w cs.toList d) (hz : szT tOp d ≤ 1048576) :
    Calls Try.prog 127 #[.agg cs] w (RetAg tOp w d) := by
  obtain ⟨x0, ⟨x1, ⟨x2, x3⟩⟩⟩ := d
  obtain ⟨_, _, hcs, ⟨rfl, w0⟩, ⟨_, _, rfl, ⟨rfl, w1⟩, ⟨_, _, rfl, ⟨rfl, w2⟩, ⟨p3, n3, q3, rfl, s3⟩⟩⟩⟩ := h
  obtain rfl : cs = #[.int .i64 x0, .int .i64 x1, .int .i64 x2, .slice p3 n3 q3] := arr_of hcs
  have z3 : szT tInts x3 ≤ 1048576 := by simp only [szT] at hz ⊢; omega
  clear hz hcs
  go_enter Try.func127, Try.ntmps127
  go_wp2_with fail
  refine (toIntS_any _ _ _ x3 _ (by exact s3.below (by (repeat' first | refine Below.setCell ?_ (by first | (with_reducible assumption) | ((try simp only [World.size_alloc, World.size_setCell, World.size_drew]) <;> omega) | (simp [World.setCell]; done) | (simp [World.setCell]; omega)) _ | refine Below.alloc ?_ (by first | (with_reducible assumption) | ((try simp only [World.size_alloc, World.size_setCell, World.size_drew]) <;> omega) | (simp [World.setCell]; done) | (simp [World.setCell]; omega)) _); exact Below.refl _ _)) (by simp only [szT_slice] at z3; omega)).mono ?_
  rintro e w93 ⟨r3, rc3, rfl, f3, b3⟩
  obtain ⟨u3, v3⟩ := bcell b3
  have y3 := b3.size
  simp only [World.size_alloc, World.size_setCell] at u3 v3 y3
  have yy30 : w.heap.size < w93.heap.size := (by first | (with_reducible assumption) | ((try simp only [World.size_alloc, World.size_setCell, World.size_drew]) <;> omega) | (simp [World.setCell]; done) | (simp [World.setCell]; omega))
  have yy31 : w.heap.size + 1 < w93.heap.size := (by first | (with_reducible assumption) | ((try simp only [World.size_alloc, World.size_setCell, World.size_drew]) <;> omega) | (simp [World.setCell]; done) | (simp [World.setCell]; omega))
  have yy32 : w.heap.size + 1 + 1 < w93.heap.size := (by first | (with_reducible assumption) | ((try simp only [World.size_alloc, World.size_setCell, World.size_drew]) <;> omega) | (simp [World.setCell]; done) | (simp [World.setCell]; omega))
  go_wp2
  refine bodyPost_ret (v := .agg #[.int .i64 x0, .int .i64 x1, .int .i64 x2, .slice r3 (List.length x3) rc3]) (by simp [results, Try.results127, go_sem, u3, yy30, yy31, yy32]) rfl ⟨_, rfl, ?_, ?_⟩
  · refine FrIn.pair (c1 := [_]) (c2 := [_, _, _]) (mid := w.heap.size) ?_ ?_ (by first | (with_reducible assumption) | ((try simp only [World.size_alloc, World.size_setCell, World.size_drew]) <;> omega) | (simp [World.setCell]; done) | (simp [World.setCell]; omega)) (by first | (with_reducible assumption) | ((try simp only [World.size_alloc, World.size_setCell, World.size_drew]) <;> omega) | (simp [World.setCell]; done) | (simp [World.setCell]; omega))
    · exact FrIn.int w0 (by first | (with_reducible assumption) | ((try simp only [World.size_alloc, World.size_setCell, World.size_drew]) <;> omega) | (simp [World.setCell]; done) | (simp [World.setCell]; omega))
    · refine FrIn.pair (c1 := [_]) (c2 := [_, _]) (mid := w.heap.size) ?_ ?_ (by first | (with_reducible assumption) | ((try simp only [World.size_alloc, World.size_setCell, World.size_drew]) <;> omega) | (simp [World.setCell]; done) | (simp [World.setCell]; omega)) (by first | (with_reducible assumption) | ((try simp only [World.size_alloc, World.size_setCell, World.size_drew]) <;> omega) | (simp [World.setCell]; done) | (simp [World.setCell]; omega))
      · exact FrIn.int w1 (by first | (with_reducible assumption) | ((try simp only [World.size_alloc, World.size_setCell, World.size_drew]) <;> omega) | (simp [World.setCell]; done) | (simp [World.setCell]; omega))
      · refine FrIn.pair (c1 := [_]) (c2 := [_]) (mid := w.heap.size) ?_ ?_ (by first | (with_reducible assumption) | ((try simp only [World.size_alloc, World.size_setCell, World.size_drew]) <;> omega) | (simp [World.setCell]; done) | (simp [World.setCell]; omega)) (by first | (with_reducible assumption) | ((try simp only [World.size_alloc, World.size_setCell, World.size_drew]) <;> omega) | (simp [World.setCell]; done) | (simp [World.setCell]; omega))
        · exact FrIn.int w2 (by first | (with_reducible assumption) | ((try simp only [World.size_alloc, World.size_setCell, World.size_drew]) <;> omega) | (simp [World.setCell]; done) | (simp [World.setCell]; omega))
        · refine FrIn.mono (lo := w.heap.size + 1 + 1 + 1) (hi := w93.heap.size) ?_ (by first | (with_reducible assumption) | ((try simp only [World.size_alloc, World.size_setCell, World.size_drew]) <;> omega) | (simp [World.setCell]; done) | (simp [World.setCell]; omega)) (by first | (with_reducible assumption) | ((try simp only [World.size_alloc, World.size_setCell, World.size_drew]) <;> omega) | (simp [World.setCell]; done) | (simp [World.setCell]; omega)) (by first | (with_reducible assumption) | ((try simp only [World.size_alloc, World.size_setCell, World.size_drew]) <;> omega) | (simp [World.setCell]; done) | (simp [World.setCell]; omega))
          (repeat' first | refine FrIn.set1 ?_ (by first | (with_reducible assumption) | ((try simp only [World.size_alloc, World.size_setCell, World.size_drew]) <;> omega) | (simp [World.setCell]; done) | (simp [World.setCell]; omega)) _ | refine FrIn.alloc ?_ _)
          exact f3.mono (by first | (with_reducible assumption) | ((try simp only [World.size_alloc, World.size_setCell, World.size_drew]) <;> omega) | (simp [World.setCell]; done) | (simp [World.setCell]; omega)) (Nat.le_refl _) (Nat.le_refl _)
  · exact (by (repeat' first | refine Below.setCell ?_ (by first | (with_reducible assumption) | ((try simp only [World.size_alloc, World.size_setCell, World.size_drew]) <;> omega) | (simp [World.setCell]; done) | (simp [World.setCell]; omega)) _ | refine Below.alloc ?_ (by first | (with_reducible assumption) | ((try simp only [World.size_alloc, World.size_setCell, World.size_drew]) <;> omega) | (simp [World.setCell]; done) | (simp [World.setCell]; omega)) _); refine Below.trans ?_ (b3.mono (by first | (with_reducible assumption) | ((try simp only [World.size_alloc, World.size_setCell, World.size_drew]) <;> omega) | (simp [World.setCell]; done) | (simp [World.setCell]; omega))); (repeat' first | refine Below.setCell ?_ (by first | (with_reducible assumption) | ((try simp only [World.size_alloc, World.size_setCell, World.size_drew]) <;> omega) | (simp [World.setCell]; done) | (simp [World.setCell]; omega)) _ | refine Below.alloc ?_ (by first | (with_reducible assumption) | ((try simp only [World.size_alloc, World.size_setCell, World.size_drew]) <;> omega) | (simp [World.setCell]; done) | (simp [World.setCell]; omega)) _); exact Below.refl _ _)

set_option maxHeartbeats 1000000 in
set_option maxRecDepth 100000 in
theorem toOpS_any (p : Option Addr) (len cap : Nat) (l : List tOp.D) (w : World) (h : SlRd tOp.n (rd tOp w) w p len cap l) (hz : szT (.slice 99 tOp) l ≤ 1048576) :
    Calls Try.prog 76 #[.slice p len cap] w (RetSl 99 tOp w l) := by
  obtain rfl := h.lens
  rw [szT_slice] at hz
  have hlen : l.length ≤ 1048576 := by omega
  have hmk := run_make_fr Try.prog 47 99 (.agg #[.int .i64 0, .int .i64 0, .int .i64 0, .slice none 0 0]) 48 tOp Try.underlying47 (by kernel_rfl) rfl l.length (by omega) (by omega)
  go_enter Try.func76, Try.ntmps76
  go_wp2
  go_loopw [4] (fun i wr => ∃ k : Nat, k ≤ l.length ∧ i = .int .i64 k ∧ Below w.heap.size w wr ∧ FrIn (.slice 99 tOp) w.heap.size wr.heap.size wr [.slice (some ⟨w.heap.size, 0, none⟩) l.length l.length] (l.take k ++ List.replicate (l.length - k) (zeroD tOp))) (fun i _ => l.length - (intOf i).toNat)
  case atStart => exact ⟨0, by omega, rfl, (Below.refl _ _).alloc (Nat.le_refl _) _, (FrIn.made w tOp _ l.length (by simp [maxLen]; omega)).mono (Nat.le_refl _) (by simp) (Nat.le_refl _)⟩
  case round =>
    obtain ⟨k, hk, rfl, hb, hf⟩ := hrel
    by_cases hlt : k < l.length
    · obtain ⟨b, off, rfl, hlb, cs, hcs, hc, hR⟩ := h.2.2.2.2 k hlt
      have hzk := sum_get_le (szT tOp) l k hlt
      obtain ⟨x, hx⟩ : ∃ x, l[k] = x := ⟨_, rfl⟩
      rw [hx] at hR hzk
      have hR0 : rd tOp wr cs x := rd_mono (fun q hq => hb.block q hq) _ _ _ hR
      obtain ⟨x0, ⟨x1, ⟨x2, x3⟩⟩⟩ := x
      obtain ⟨_, _, rfl, ⟨rfl, w0⟩, ⟨_, _, rfl, ⟨rfl, w1⟩, ⟨_, _, rfl, ⟨rfl, w2⟩, ⟨p3, n3, q3, rfl, s3⟩⟩⟩⟩ := hR
      have c0 : wr.cell? ⟨b, off + k * 4, none⟩ = some (.int .i64 x0) := (hb.cell hlb).trans (by have hh := hc 0 (by simp); rw [show Ty.n tOp = 4 from rfl] at hh; simpa using hh)
      have c1 : wr.cell? ⟨b, off + k * 4 + 1, none⟩ = some (.int .i64 x1) := (hb.cell hlb).trans (by have hh := hc 1 (by simp); rw [show Ty.n tOp = 4 from rfl] at hh; simpa using hh)
      have c2 : wr.cell? ⟨b, off + k * 4 + 2, none⟩ = some (.int .i64 x2) := (hb.cell hlb).trans (by have hh := hc 2 (by simp); rw [show Ty.n tOp = 4 from rfl] at hh; simpa using hh)
      have c3 : wr.cell? ⟨b, off + k * 4 + 3, none⟩ = some (.slice p3 n3 q3) := (hb.cell hlb).trans (by have hh := hc 3 (by simp); rw [show Ty.n tOp = 4 from rfl] at hh; simpa using hh)
      obtain ⟨b', cap', hv, _, hbl, hfz, c, hcl, hcc, _⟩ := hf.at k (by simp; omega)
      simp only [Value.slice.injEq, Option.some.injEq, Addr.mk.injEq, and_true] at hv
      obtain ⟨rfl, -, rfl⟩ := hv
      have HF := Lib.hid hf; have HX := Lib.hid hx
      have e0 : wr.cell? ⟨w.heap.size, k * 4, none⟩ = some (c[0]'(by rw [hcl]; decide)) := by simpa [Ty.n] using hcc 0 (by rw [hcl]; decide)
      have g0 : wr.frozen? ⟨w.heap.size, k * 4, none⟩ = false := hfz _
      have e1 : wr.cell? ⟨w.heap.size, k * 4 + 1, none⟩ = some (c[1]'(by rw [hcl]; decide)) := by simpa [Ty.n] using hcc 1 (by rw [hcl]; decide)
      have g1 : wr.frozen? ⟨w.heap.size, k * 4 + 1, none⟩ = false := hfz _
      have e2 : wr.cell? ⟨w.heap.size, k * 4 + 2, none⟩ = some (c[2]'(by rw [hcl]; decide)) := by simpa [Ty.n] using hcc 2 (by rw [hcl]; decide)
      have g2 : wr.frozen? ⟨w.heap.size, k * 4 + 2, none⟩ = false := hfz _
      have e3 : wr.cell? ⟨w.heap.size, k * 4 + 3, none⟩ = some (c[3]'(by rw [hcl]; decide)) := by simpa [Ty.n] using hcc 3 (by rw [hcl]; decide)
      have g3 : wr.frozen? ⟨w.heap.size, k * 4 + 3, none⟩ = false := hfz _
      clear h hc hcc hfz hf hx
      go_wp2_with fail
      refine (toOp_any _ (x0, (x1, (x2, x3))) _ (by exact hR0) (by omega)).mono ?_
      rintro e w1 ⟨cs1, rfl, f1, b1⟩
      have rr := f1.rd
      obtain ⟨_, _, rhcs, ⟨rfl, rw0⟩, ⟨_, _, rfl, ⟨rfl, rw1⟩, ⟨_, _, rfl, ⟨rfl, rw2⟩, ⟨rp3, rn3, rq3, rfl, rs3⟩⟩⟩⟩ := rr
      obtain rfl : cs1 = #[.int .i64 x0, .int .i64 x1, .int .i64 x2, .slice rp3 rn3 rq3] := arr_of rhcs
      have e0' : w1.cell? ⟨w.heap.size, k * 4, none⟩ = some (c[0]'(by rw [hcl]; decide)) := (b1.cell hbl).trans e0
      have g0' : w1.frozen? ⟨w.heap.size, k * 4, none⟩ = false := (b1.frozen hbl).trans g0
      have e1' : w1.cell? ⟨w.heap.size, k * 4 + 1, none⟩ = some (c[1]'(by rw [hcl]; decide)) := (b1.cell hbl).trans e1
      have g1' : w1.frozen? ⟨w.heap.size, k * 4 + 1, none⟩ = false := (b1.frozen hbl).trans g1
      have e2' : w1.cell? ⟨w.heap.size, k * 4 + 2, none⟩ = some (c[2]'(by rw [hcl]; decide)) := (b1.cell hbl).trans e2
      have g2' : w1.frozen? ⟨w.heap.size, k * 4 + 2, none⟩ = false := (b1.frozen hbl).trans g2
      have e3' : w1.cell? ⟨w.heap.size, k * 4 + 3, none⟩ = some (c[3]'(by rw [hcl]; decide)) := (b1.cell hbl).trans e3
      have g3' : w1.frozen? ⟨w.heap.size, k * 4 + 3, none⟩ = false := (b1.frozen hbl).trans g3
      clear e0 g0 c0 e1 g1 c1 e2 g2 c2 e3 g3 c3 rhcs
      go_wp2
      go_roundw
      case rel =>
        refine ⟨k + 1, by omega, by go_num, ?_, ?_⟩
        · (repeat' first | refine Below.setCell ?_ (by first | (with_reducible assumption) | ((try simp only [World.size_alloc, World.size_setCell, World.size_drew]) <;> omega) | (simp [World.setCell]; done) | (simp [World.setCell]; omega)) _); exact hb.trans (b1.mono hb.size)
        · have h1 := (HF.out.below b1 (Nat.le_refl _)).set k (by simp; omega) hb.size b1.size (x := l[k]) (by rw [HX.out]; exact f1)
          rw [set_zero l (zeroD tOp) k hlt] at h1
          refine FrIn.mono (hi := w1.heap.size) ?_ (Nat.le_refl _) (by first | (with_reducible assumption) | ((try simp only [World.size_alloc, World.size_setCell, World.size_drew]) <;> omega) | (simp [World.setCell]; done) | (simp [World.setCell]; omega)) (Nat.le_refl _)
          exact h1
      case measure => simp [intOf]; omega
    · clear h
      go_wp2
      go_ret
      obtain rfl : k = l.length := by omega
      exact ⟨_, _, rfl, by simpa using hf, hb⟩

set_option maxHeartbeats 1000000 in
set_option maxRecDepth 100000 in
theorem szOp_any (ca : Array Value) (d : tOp.D) (left : Int) (w : World) (ha : rd tOp w ca.toList d) (h0 : 0 ≤ left) (h2 : left ≤ 9223372036854775807) :
    Calls Try.prog 126 #[.agg ca, .int .i64 left] w (RetV (.int .i64 (szR left (szT tOp d))) w) := by
  obtain ⟨x0, ⟨x1, ⟨x2, x3⟩⟩⟩ := d
  obtain ⟨_, _, ahcs, ⟨rfl, aw0⟩, ⟨_, _, rfl, ⟨rfl, aw1⟩, ⟨_, _, rfl, ⟨rfl, aw2⟩, ⟨ap3, an3, aq3, rfl, as3⟩⟩⟩⟩ := ha
  obtain rfl : ca = #[.int .i64 x0, .int .i64 x1, .int .i64 x2, .slice ap3 an3 aq3] := arr_of ahcs
  clear ahcs
  have e0 : szT tOp (x0, (x1, (x2, x3))) = szT tInts x3 := by first | rfl | (simp only [szT]; omega)
  have hl3 : szT tInts x3 = an3 := by rw [as3.lens]; exact szT_ints x3
  have hm3 : an3 ≤ maxLen := Nat.le_trans as3.2.1 as3.2.2.1
  have HS : Hid (szT tOp (x0, (x1, (x2, x3))) = an3) := e0.trans (by rw [hl3])
  clear e0 hl3
  by_cases hf3 : ((an3 : Nat) : Int) ≤ left
  rotate_left
  · go_enter Try.func126, Try.ntmps126
    go_wp2_with fail
    refine (szIntS_no _ _ _ _ _ hm3 (by omega) (by omega) (by omega)).mono ?_
    rintro e w93 ⟨rfl, b3⟩
    obtain ⟨u3, v3⟩ := bcell b3
    have y3 := b3.size
    try simp only [World.size_alloc, World.size_setCell] at u3 v3 y3
    have yy30 : w.heap.size < w93.heap.size := (by first | (with_reducible assumption) | ((try simp only [World.size_alloc, World.size_setCell, World.size_drew]) <;> omega) | (simp [World.setCell]; done) | (simp [World.setCell]; omega))
    go_wp2
    go_ret
    exact ⟨ret_int (by (first | rw [HS.out] | skip); unfold szR; rw [if_neg (by omega)]), (by (repeat' first | refine Below.setCell ?_ (by first | (with_reducible assumption) | ((try simp only [World.size_alloc, World.size_setCell, World.size_drew]) <;> omega) | (simp [World.setCell]; done) | (simp [World.setCell]; omega)) _ | refine Below.alloc ?_ (by first | (with_reducible assumption) | ((try simp only [World.size_alloc, World.size_setCell, World.size_drew]) <;> omega) | (simp [World.setCell]; done) | (simp [World.setCell]; omega)) _); refine Below.trans ?_ (b3.mono (by first | (with_reducible assumption) | ((try simp only [World.size_alloc, World.size_setCell, World.size_drew]) <;> omega) | (simp [World.setCell]; done) | (simp [World.setCell]; omega))); (repeat' first | refine Below.setCell ?_ (by first | (with_reducible assumption) | ((try simp only [World.size_alloc, World.size_setCell, World.size_drew]) <;> omega) | (simp [World.setCell]; done) | (simp [World.setCell]; omega)) _ | refine Below.alloc ?_ (by first | (with_reducible assumption) | ((try simp only [World.size_alloc, World.size_setCell, World.size_drew]) <;> omega) | (simp [World.setCell]; done) | (simp [World.setCell]; omega)) _); exact Below.refl _ _)⟩
  go_enter Try.func126, Try.ntmps126
  go_wp2_with fail
  refine (szIntS_ok _ _ _ _ _ hm3 (by omega) (by omega) (by omega)).mono ?_
  rintro e w93 ⟨rfl, b3⟩
  obtain ⟨u3, v3⟩ := bcell b3
  have y3 := b3.size
  try simp only [World.size_alloc, World.size_setCell] at u3 v3 y3
  have yy30 : w.heap.size < w93.heap.size := (by first | (with_reducible assumption) | ((try simp only [World.size_alloc, World.size_setCell, World.size_drew]) <;> omega) | (simp [World.setCell]; done) | (simp [World.setCell]; omega))
  go_wp2
  go_ret
  exact ⟨ret_int (by (first | rw [HS.out] | skip); unfold szR; rw [if_pos (by omega)]; try omega), (by (repeat' first | refine Below.setCell ?_ (by first | (with_reducible assumption) | ((try simp only [World.size_alloc, World.size_setCell, World.size_drew]) <;> omega) | (simp [World.setCell]; done) | (simp [World.setCell]; omega)) _ | refine Below.alloc ?_ (by first | (with_reducible assumption) | ((try simp only [World.size_alloc, World.size_setCell, World.size_drew]) <;> omega) | (simp [World.setCell]; done) | (simp [World.setCell]; omega)) _); refine Below.trans ?_ (b3.mono (by first | (with_reducible assumption) | ((try simp only [World.size_alloc, World.size_setCell, World.size_drew]) <;> omega) | (simp [World.setCell]; done) | (simp [World.setCell]; omega))); (repeat' first | refine Below.setCell ?_ (by first | (with_reducible assumption) | ((try simp only [World.size_alloc, World.size_setCell, World.size_drew]) <;> omega) | (simp [World.setCell]; done) | (simp [World.setCell]; omega)) _ | refine Below.alloc ?_ (by first | (with_reducible assumption) | ((try simp only [World.size_alloc, World.size_setCell, World.size_drew]) <;> omega) | (simp [World.setCell]; done) | (simp [World.setCell]; omega)) _); exact Below.refl _ _)⟩

theorem szOp_ok (ca : Array Value) (d : tOp.D) (left : Int) (w : World) (ha : rd tOp w ca.toList d) (h0 : 0 ≤ left) (h2 : left ≤ 9223372036854775807) (h : ((szT tOp d : Nat) : Int) ≤ left) :
    Calls Try.prog 126 #[.agg ca, .int .i64 left] w (RetV (.int .i64 (left - (szT tOp d : Nat))) w) := by
  have := szOp_any ca d left w ha h0 h2
  rwa [szR_pos h] at this
theorem szOp_no (ca : Array Value) (d : tOp.D) (left : Int) (w : World) (ha : rd tOp w ca.toList d) (h0 : 0 ≤ left) (h2 : left ≤ 9223372036854775807) (h : ¬ ((szT tOp d : Nat) : Int) ≤ left) :
    Calls Try.prog 126 #[.agg ca, .int .i64 left] w (RetV (.int .i64 (-1)) w) := by
  have := szOp_any ca d left w ha h0 h2
  rwa [szR_neg h] at this

set_option maxHeartbeats 1000000 in
set_option maxRecDepth 100000 in
theorem szOpS_any (p : Option Addr) (len cap : Nat) (l : List tOp.D) (left : Int) (w : World) (h : SlRd tOp.n (rd tOp w) w p len cap l) (h0 : 0 ≤ left) (h2 : left ≤ 9223372036854775807) :
    Calls Try.prog 74 #[.slice p len cap, .int .i64 left] w (RetV (.int .i64 (szR left (szT (.slice 99 tOp) l))) w) := by
  have hm : len ≤ maxLen := Nat.le_trans h.2.1 h.2.2.1
  obtain rfl := h.lens
  unfold maxLen at hm
  have HS : Hid (szT (.slice 99 tOp) l = l.length + (l.map (szT tOp)).sum) := szT_slice _ _ _
  by_cases hc : (l.length : Int) ≤ left
  rotate_left
  · have hc2 : (left - l.length < 0) := by omega
    clear h
    go_enter Try.func74, Try.ntmps74
    go_wp2
    go_ret
    exact ⟨ret_int (by (first | rw [HS.out] | skip); unfold szR; rw [if_neg (by omega)]), Below.refl _ _⟩
  go_enter Try.func74, Try.ntmps74
  go_wp2
  go_loopw [1, 5] (fun q i wr => ∃ k : Nat, k ≤ l.length ∧ i = .int .i64 k ∧ ∃ m : Int, q = .int .i64 m ∧ m = left - l.length - (((l.take k).map (szT tOp)).sum : Nat) ∧ 0 ≤ m ∧ Below w.heap.size w wr) (fun _ i _ => l.length - (intOf i).toNat)
  case atStart => exact ⟨0, by omega, rfl, _, rfl, by simp, by omega, Below.refl _ _⟩
  case round =>
    obtain ⟨k, hk, rfl, m, rfl, hm1, hm2, hb⟩ := hrel
    have hmb : m ≤ left := by omega
    by_cases hlt : k < l.length
    · obtain ⟨b, off, rfl, hlb, cs, hcs, hc1, hR⟩ := h.2.2.2.2 k hlt
      have hsum := sum_take_succ (szT tOp) l k hlt
      have hsle := sum_take_le (szT tOp) l (k + 1)
      obtain ⟨x, hx⟩ : ∃ x, l[k] = x := ⟨_, rfl⟩
      rw [hx] at hR hsum
      have hR0 : rd tOp wr cs x := rd_mono (fun q hq => hb.block q hq) _ _ _ hR
      obtain ⟨z, hz⟩ : ∃ z, szT tOp x = z := ⟨_, rfl⟩
      obtain ⟨s0, hs0⟩ : ∃ z, ((l.take k).map (szT tOp)).sum = z := ⟨_, rfl⟩
      obtain ⟨s1, hs1⟩ : ∃ z, ((l.take (k + 1)).map (szT tOp)).sum = z := ⟨_, rfl⟩
      obtain ⟨s2, hs2⟩ : ∃ z, (l.map (szT tOp)).sum = z := ⟨_, rfl⟩
      rw [hs0] at hsum hm1
      rw [hs1, hz] at hsum
      rw [hs1] at hsle
      rw [hs2] at hsle
      have HZ := Lib.hid hz; have HR := Lib.hid hR0; have H1 := Lib.hid hs1; have H2 := Lib.hid hs2; have HM := Lib.hid hm1; have HU := Lib.hid hsum; have HX := Lib.hid hz
      obtain ⟨x0, ⟨x1, ⟨x2, x3⟩⟩⟩ := x
      obtain ⟨_, _, rfl, ⟨rfl, aw0⟩, ⟨_, _, rfl, ⟨rfl, aw1⟩, ⟨_, _, rfl, ⟨rfl, aw2⟩, ⟨ap3, an3, aq3, rfl, as3⟩⟩⟩⟩ := hR
      have c0 : wr.cell? ⟨b, off + k * 4, none⟩ = some (.int .i64 x0) := (hb.cell hlb).trans (by have hh := hc1 0 (by simp); rw [show Ty.n tOp = 4 from rfl] at hh; simpa using hh)
      have c1 : wr.cell? ⟨b, off + k * 4 + 1, none⟩ = some (.int .i64 x1) := (hb.cell hlb).trans (by have hh := hc1 1 (by simp); rw [show Ty.n tOp = 4 from rfl] at hh; simpa using hh)
      have c2 : wr.cell? ⟨b, off + k * 4 + 2, none⟩ = some (.int .i64 x2) := (hb.cell hlb).trans (by have hh := hc1 2 (by simp); rw [show Ty.n tOp = 4 from rfl] at hh; simpa using hh)
      have c3 : wr.cell? ⟨b, off + k * 4 + 3, none⟩ = some (.slice ap3 an3 aq3) := (hb.cell hlb).trans (by have hh := hc1 3 (by simp); rw [show Ty.n tOp = 4 from rfl] at hh; simpa using hh)
      clear h hc1 hcs hx hR0 hz hs0 hs1 hs2 hm1 hsum
      by_cases hfit : (z : Int) ≤ m
      · go_wp2_with fail
        refine (szOp_ok _ (x0, (x1, (x2, x3))) _ _ (by exact HR.out) (by omega) (by omega) (by rw [HZ.out]; omega)).mono ?_
        rintro e w3 ⟨rfl, b3⟩
        rw [HZ.out]
        have hmz : ¬ (m - z < 0) := by omega
        go_wp2
        go_roundw
        case rel => exact ⟨k + 1, by omega, by go_num, _, rfl, by rw [H1.out]; have := HM.out; have := HU.out; omega, by omega, hb.trans (b3.mono hb.size)⟩
        case measure => simp [intOf]; omega
      · go_wp2_with fail
        refine (szOp_no _ (x0, (x1, (x2, x3))) _ _ (by exact HR.out) (by omega) (by omega) (by rw [HZ.out]; omega)).mono ?_
        rintro e w3 ⟨rfl, b3⟩
        go_wp2
        go_ret
        exact ⟨ret_int (by rw [HS.out, H2.out]; unfold szR; rw [if_neg (by have := HM.out; have := HU.out; omega)]), hb.trans (b3.mono hb.size)⟩
    · clear h
      have HM := Lib.hid hm1; clear hm1
      go_wp2
      go_ret
      obtain rfl : k = l.length := by omega
      have hm1 := HM.out
      rw [List.take_length] at hm1
      exact ⟨ret_int (by (first | rw [HS.out] | skip); unfold szR; rw [if_pos (by omega)]; try omega), hb⟩

theorem szOpS_ok (p : Option Addr) (len cap : Nat) (l : List tOp.D) (left : Int) (w : World) (ha : SlRd tOp.n (rd tOp w) w p len cap l) (h0 : 0 ≤ left) (h2 : left ≤ 9223372036854775807) (h : ((szT (.slice 99 tOp) l : Nat) : Int) ≤ left) :
    Calls Try.prog 74 #[.slice p len cap, .int .i64 left] w (RetV (.int .i64 (left - (szT (.slice 99 tOp) l : Nat))) w) := by
  have := szOpS_any p len cap l left w ha h0 h2
  rwa [szR_pos h] at this
theorem szOpS_no (p : Option Addr) (len cap : Nat) (l : List tOp.D) (left : Int) (w : World) (ha : SlRd tOp.n (rd tOp w) w p len cap l) (h0 : 0 ≤ left) (h2 : left ≤ 9223372036854775807) (h : ¬ ((szT (.slice 99 tOp) l : Nat) : Int) ≤ left) :
    Calls Try.prog 74 #[.slice p len cap, .int .i64 left] w (RetV (.int .i64 (-1)) w) := by
  have := szOpS_any p len cap l left w ha h0 h2
  rwa [szR_neg h] at this

set_option maxHeartbeats 1000000 in
set_option maxRecDepth 100000 in
theorem eqOp_any (ca cb : Array Value) (d : tOp.D) (w : World) (ha : rd tOp w ca.toList d) (hb : rd tOp w cb.toList d) :
    Calls Try.prog 128 #[.agg ca, .agg cb] w (RetV (.bool true) w) := by
  obtain ⟨x0, ⟨x1, ⟨x2, x3⟩⟩⟩ := d
  obtain ⟨_, _, ahcs, ⟨rfl, aw0⟩, ⟨_, _, rfl, ⟨rfl, aw1⟩, ⟨_, _, rfl, ⟨rfl, aw2⟩, ⟨ap3, an3, aq3, rfl, as3⟩⟩⟩⟩ := ha
  obtain ⟨_, _, bhcs, ⟨rfl, bw0⟩, ⟨_, _, rfl, ⟨rfl, bw1⟩, ⟨_, _, rfl, ⟨rfl, bw2⟩, ⟨bp3, bn3, bq3, rfl, bs3⟩⟩⟩⟩ := hb
  obtain rfl : ca = #[.int .i64 x0, .int .i64 x1, .int .i64 x2, .slice ap3 an3 aq3] := arr_of ahcs
  obtain rfl : cb = #[.int .i64 x0, .int .i64 x1, .int .i64 x2, .slice bp3 bn3 bq3] := arr_of bhcs
  clear ahcs bhcs
  go_enter Try.func128, Try.ntmps128
  go_wp2_with fail
  refine (eqIntS_any _ _ _ _ _ _ x3 _ (by exact as3.below (by (repeat' first | refine Below.setCell ?_ (by first | (with_reducible assumption) | ((try simp only [World.size_alloc, World.size_setCell, World.size_drew]) <;> omega) | (simp [World.setCell]; done) | (simp [World.setCell]; omega)) _ | refine Below.alloc ?_ (by first | (with_reducible assumption) | ((try simp only [World.size_alloc, World.size_setCell, World.size_drew]) <;> omega) | (simp [World.setCell]; done) | (simp [World.setCell]; omega)) _); exact Below.refl _ _)) (by exact bs3.below (by (repeat' first | refine Below.setCell ?_ (by first | (with_reducible assumption) | ((try simp only [World.size_alloc, World.size_setCell, World.size_drew]) <;> omega) | (simp [World.setCell]; done) | (simp [World.setCell]; omega)) _ | refine Below.alloc ?_ (by first | (with_reducible assumption) | ((try simp only [World.size_alloc, World.size_setCell, World.size_drew]) <;> omega) | (simp [World.setCell]; done) | (simp [World.setCell]; omega)) _); exact Below.refl _ _))).mono ?_
  rintro e w93 ⟨rfl, b3⟩
  obtain ⟨u3, v3⟩ := bcell b3
  have y3 := b3.size
  try simp only [World.size_alloc, World.size_setCell] at u3 v3 y3
  have yy30 : w.heap.size < w93.heap.size := (by first | (with_reducible assumption) | ((try simp only [World.size_alloc, World.size_setCell, World.size_drew]) <;> omega) | (simp [World.setCell]; done) | (simp [World.setCell]; omega))
  have yy31 : w.heap.size + 1 < w93.heap.size := (by first | (with_reducible assumption) | ((try simp only [World.size_alloc, World.size_setCell, World.size_drew]) <;> omega) | (simp [World.setCell]; done) | (simp [World.setCell]; omega))
  go_wp2
  go_ret
  exact ⟨rfl, (by (repeat' first | refine Below.setCell ?_ (by first | (with_reducible assumption) | ((try simp only [World.size_alloc, World.size_setCell, World.size_drew]) <;> omega) | (simp [World.setCell]; done) | (simp [World.setCell]; omega)) _ | refine Below.alloc ?_ (by first | (with_reducible assumption) | ((try simp only [World.size_alloc, World.size_setCell, World.size_drew]) <;> omega) | (simp [World.setCell]; done) | (simp [World.setCell]; omega)) _); refine Below.trans ?_ (b3.mono (by first | (with_reducible assumption) | ((try simp only [World.size_alloc, World.size_setCell, World.size_drew]) <;> omega) | (simp [World.setCell]; done) | (simp [World.setCell]; omega))); (repeat' first | refine Below.setCell ?_ (by first | (with_reducible assumption) | ((try simp only [World.size_alloc, World.size_setCell, World.size_drew]) <;> omega) | (simp [World.setCell]; done) | (simp [World.setCell]; omega)) _ | refine Below.alloc ?_ (by first | (with_reducible assumption) | ((try simp only [World.size_alloc, World.size_setCell, World.size_drew]) <;> omega) | (simp [World.setCell]; done) | (simp [World.setCell]; omega)) _); exact Below.refl _ _)⟩

set_option maxHeartbeats 1000000 in
set_option maxRecDepth 100000 in
theorem eqOpS_any (p q : Option Addr) (len cap len' cap' : Nat) (l : List tOp.D) (w : World) (h : SlRd tOp.n (rd tOp w) w p len cap l) (h' : SlRd tOp.n (rd tOp w) w q len' cap' l) :
    Calls Try.prog 78 #[.slice p len cap, .slice q len' cap'] w (RetV (.bool true) w) := by
  obtain rfl := h.lens
  obtain rfl := h'.lens
  have hmx : l.length ≤ maxLen := by have := h.2.1; have := h.2.2.1; omega
  unfold maxLen at hmx
  go_enter Try.func78, Try.ntmps78
  go_wp2
  go_loopw [5] (fun i wr => ∃ k : Nat, k ≤ l.length ∧ i = .int .i64 k ∧ Below w.heap.size w wr) (fun i _ => l.length - (intOf i).toNat)
  case atStart => exact ⟨0, by omega, rfl, Below.refl _ _⟩
  case round =>
    obtain ⟨k, hk, rfl, hb⟩ := hrel
    by_cases hlt : k < l.length
    · obtain ⟨b, off, rfl, hlb, cs, hcs, hc, hR⟩ := h.2.2.2.2 k hlt
      obtain ⟨b2, off2, rfl, hlb2, cs2, hcs2, hc2, hR2⟩ := h'.2.2.2.2 k hlt
      obtain ⟨x, hx⟩ : ∃ x, l[k] = x := ⟨_, rfl⟩
      rw [hx] at hR hR2
      have hR0 : rd tOp wr.drew cs x := rd_mono (fun q hq => hb.block q hq) _ _ _ hR
      have hR20 : rd tOp wr.drew cs2 x := rd_mono (fun q hq => hb.block q hq) _ _ _ hR2
      obtain ⟨x0, ⟨x1, ⟨x2, x3⟩⟩⟩ := x
      obtain ⟨_, _, rfl, ⟨rfl, aw0⟩, ⟨_, _, rfl, ⟨rfl, aw1⟩, ⟨_, _, rfl, ⟨rfl, aw2⟩, ⟨ap3, an3, aq3, rfl, as3⟩⟩⟩⟩ := hR
      obtain ⟨_, _, rfl, ⟨rfl, bw0⟩, ⟨_, _, rfl, ⟨rfl, bw1⟩, ⟨_, _, rfl, ⟨rfl, bw2⟩, ⟨bp3, bn3, bq3, rfl, bs3⟩⟩⟩⟩ := hR2
      have c0 : wr.cell? ⟨b, off + k * 4, none⟩ = some (.int .i64 x0) := (hb.cell hlb).trans (by have hh := hc 0 (by simp); rw [show Ty.n tOp = 4 from rfl] at hh; simpa using hh)
      have c1 : wr.cell? ⟨b, off + k * 4 + 1, none⟩ = some (.int .i64 x1) := (hb.cell hlb).trans (by have hh := hc 1 (by simp); rw [show Ty.n tOp = 4 from rfl] at hh; simpa using hh)
      have c2 : wr.cell? ⟨b, off + k * 4 + 2, none⟩ = some (.int .i64 x2) := (hb.cell hlb).trans (by have hh := hc 2 (by simp); rw [show Ty.n tOp = 4 from rfl] at hh; simpa using hh)
      have c3 : wr.cell? ⟨b, off + k * 4 + 3, none⟩ = some (.slice ap3 an3 aq3) := (hb.cell hlb).trans (by have hh := hc 3 (by simp); rw [show Ty.n tOp = 4 from rfl] at hh; simpa using hh)
      have d0 : wr.cell? ⟨b2, off2 + k * 4, none⟩ = some (.int .i64 x0) := (hb.cell hlb2).trans (by have hh := hc2 0 (by simp); rw [show Ty.n tOp = 4 from rfl] at hh; simpa using hh)
      have d1 : wr.cell? ⟨b2, off2 + k * 4 + 1, none⟩ = some (.int .i64 x1) := (hb.cell hlb2).trans (by have hh := hc2 1 (by simp); rw [show Ty.n tOp = 4 from rfl] at hh; simpa using hh)
      have d2 : wr.cell? ⟨b2, off2 + k * 4 + 2, none⟩ = some (.int .i64 x2) := (hb.cell hlb2).trans (by have hh := hc2 2 (by simp); rw [show Ty.n tOp = 4 from rfl] at hh; simpa using hh)
      have d3 : wr.cell? ⟨b2, off2 + k * 4 + 3, none⟩ = some (.slice bp3 bn3 bq3) := (hb.cell hlb2).trans (by have hh := hc2 3 (by simp); rw [show Ty.n tOp = 4 from rfl] at hh; simpa using hh)
      have HR := Lib.hid hR0; have HR2 := Lib.hid hR20
      clear h h' hc hc2 hx hcs hcs2 hR0 hR20
      go_wp2
      go_still_tail 8, (by kernel_rfl)
      change wpList _ _ _ _ _ wr.drew
      have hb2 : Below w.heap.size w wr.drew := hb.drew
      generalize wr.drew = w2 at hb2 HR HR2 ⊢
      go_wp2_with fail
      refine (eqOp_any _ _ (x0, (x1, (x2, x3))) _ (by exact HR.out) (by exact HR2.out)).mono ?_
      rintro e w3 ⟨rfl, b3⟩
      go_wp2
      go_roundw
      case rel => exact ⟨k + 1, by omega, by go_num, hb2.trans (b3.mono hb2.size)⟩
      case measure => simp [intOf]; omega
    · clear h h'
      go_wp2
      go_ret
      exact ⟨rfl, hb⟩

set_option maxHeartbeats 4000000 in
set_option maxRecDepth 100000 in
theorem markOpS_any (p : Option Addr) (len cap : Nat) (k0 : Int) (l : List tOp.D) (bl : List Nat) (w : World) (h : rep (.slice 99 tOp) w [.slice p len cap] l bl) (hnd : bl.Nodup) (h0 : 0 ≤ k0) (h1 : k0 + (cnt (.slice 99 tOp) l : Nat) ≤ 1000000000000) :
    Calls Try.prog 79 #[.slice p len cap, .int .i64 k0] w (RetMk (.slice 99 tOp) w [.slice p len cap] (mk (.slice 99 tOp) l k0) bl (k0 + (cnt (.slice 99 tOp) l : Nat))) := by
  obtain ⟨rfl, hmx⟩ := rep_len h
  have HL := Lib.hid (mk_length (e := 99) (t := tOp) l k0)
  rw [cnt_slice] at h1
  have hbl := rep_lt _ _ _ _ _ h
  unfold maxLen at hmx
  go_enter Try.func79, Try.ntmps79
  go_wp2
  go_loopw [1, 5] (fun q i wr => ∃ k : Nat, k ≤ l.length ∧ i = .int .i64 k ∧ (∃ kk : Int, q = .int .i64 kk ∧ Hid (kk = k0 + (((l.take k).map (cnt tOp)).sum : Nat)) ∧ 0 ≤ kk ∧ kk ≤ 1000000000000) ∧ Only bl w wr ∧ Hid (rep (.slice 99 tOp) wr [.slice p l.length cap] ((mk (.slice 99 tOp) l k0 : List tOp.D).take k ++ l.drop k) bl)) (fun _ i _ => l.length - (intOf i).toNat)
  case atStart => exact ⟨0, by omega, rfl, ⟨_, rfl, by show _ = _; simp, by omega, by omega⟩, Only.refl _ _, by show rep _ _ _ _ _; simpa using h⟩
  case round =>
    obtain ⟨k, hk, rfl, ⟨kk, rfl, hkk, hk0, hk1⟩, hb, hf⟩ := hrel
    clear h
    by_cases hlt : k < l.length
    · obtain ⟨M, hM⟩ : ∃ M, M = (mk (.slice 99 tOp) l k0 : List tOp.D).take k ++ l.drop k := ⟨_, rfl⟩
      have hkl : k < M.length := by rw [hM]; simp only [List.length_append, List.length_take, List.length_drop, HL.out]; omega
      obtain ⟨x, hx⟩ : ∃ x, l[k] = x := ⟨_, rfl⟩
      have hMk : M[k] = x := by subst hM; rw [get_mix _ _ _ hlt HL.out, hx]
      have hset : ∀ y, (mk (.slice 99 tOp) l k0 : List tOp.D)[k]'(by rw [HL.out]; exact hlt) = y → M.set k y = (mk (.slice 99 tOp) l k0 : List tOp.D).take (k + 1) ++ l.drop (k + 1) := fun y hy => by subst hM; exact set_mix _ _ _ hlt HL.out _ hy
      have hmk := mk_get (e := 99) (t := tOp) l k0 k hlt (by rw [HL.out]; exact hlt)
      rw [hx, ← hkk.out] at hmk
      have hs1 := sum_take_succ (cnt tOp) l k hlt
      have hs2 := sum_take_le (cnt tOp) l (k + 1)
      rw [hx] at hs1
      have hf1 := hf.out
      rw [← hM] at hf1
      have hxb : kk + (cnt tOp x : Nat) ≤ 1000000000000 := by have := hkk.out; omega
      have HS1 := Lib.hid hs1; have HSET := Lib.hid hset; have HMK := Lib.hid hmk
      clear hx hM hs1 hs2 hset hmk hf
      obtain ⟨x0, ⟨x1, ⟨x2, x3⟩⟩⟩ := x
      have hcx : cnt tOp (x0, (x1, (x2, x3))) = 1 + 1 + 1 + cnt tInts x3 := by first | rfl | (simp only [cnt]; omega)
      rw [hcx] at hxb
      have HCX := Lib.hid hcx; clear hcx
      have hw0 : wr.heap.size = wr.heap.size := rfl
      obtain ⟨bs1, caps1, cs1, bks1, hvs1, hbms1, hbzs1, hfzs1, hcls1, hcs1, hRs1, hsubs1, hnbs1, hnos1, hUs1, hVs1⟩ := rep_lens hf1 hnd k hkl
      simp only [Value.slice.injEq] at hvs1
      obtain ⟨rfl, -, -⟩ := hvs1
      rw [hMk] at hRs1
      obtain ⟨_, _, _, _, rfl, rfl, ⟨rfl, s1w0, rfl⟩, ⟨_, _, _, _, rfl, rfl, ⟨rfl, s1w1, rfl⟩, ⟨_, _, _, _, rfl, rfl, ⟨rfl, s1w2, rfl⟩, s1r3⟩⟩⟩ := hRs1
      obtain ⟨s1p3, s1n3, s1q3, rfl⟩ := rep_form s1r3
      have es1 := hcs1 0 (by simp)
      have es1 : ∃ u, wr.cell? ⟨bs1, k * 4, none⟩ = some u := ⟨_, by have hh := hcs1 0 (by simp); rw [show Ty.n tOp = 4 from rfl] at hh; simpa using hh⟩
      obtain ⟨us1, es1⟩ := es1
      have gs1 : wr.frozen? ⟨bs1, k * 4, none⟩ = false := hfzs1 _
      have hf2 := hVs1 0 (.int .i64 (kk)) (((kk : Int)), (x1, (x2, x3))) (by simp) ⟨[_], [_, _, _], _, _, rfl, rfl, ⟨rfl, wf_i64 (show -9223372036854775808 ≤ (kk : Int) ∧ (kk : Int) ≤ 9223372036854775807 by omega), rfl⟩, ⟨[_], [_, _], _, _, rfl, rfl, ⟨rfl, s1w1, rfl⟩, ⟨[_], [_], _, _, rfl, rfl, ⟨rfl, s1w2, rfl⟩, s1r3⟩⟩⟩
      simp only [show Ty.n tOp = 4 from rfl, Nat.add_zero, Nat.mul_one] at hf2
      have hbs1 : Only bl w (wr.setCell ⟨bs1, k * 4, none⟩ (.int .i64 (kk))) := Only.setCell hb hbms1 _
      clear hVs1 hUs1 hcs1 hfzs1
      have hkl2 : k < (M.set k (((kk : Int)), (x1, (x2, x3)))).length := by rw [List.length_set]; exact hkl
      have hM2 : (M.set k (((kk : Int)), (x1, (x2, x3))))[k]'hkl2 = (((kk : Int)), (x1, (x2, x3))) := List.getElem_set_self _
      obtain ⟨bs2, caps2, cs2, bks2, hvs2, hbms2, hbzs2, hfzs2, hcls2, hcs2, hRs2, hsubs2, hnbs2, hnos2, hUs2, hVs2⟩ := rep_lens hf2 hnd k hkl2
      simp only [Value.slice.injEq] at hvs2
      obtain ⟨hvbs2, -, -⟩ := hvs2
      simp only [Option.some.injEq, Addr.mk.injEq, and_true] at hvbs2
      subst hvbs2
      rw [hM2] at hRs2
      obtain ⟨_, _, _, _, rfl, rfl, ⟨rfl, s2w0, rfl⟩, ⟨_, _, _, _, rfl, rfl, ⟨rfl, s2w1, rfl⟩, ⟨_, _, _, _, rfl, rfl, ⟨rfl, s2w2, rfl⟩, s2r3⟩⟩⟩ := hRs2
      obtain ⟨s2p3, s2n3, s2q3, rfl⟩ := rep_form s2r3
      have es2 := hcs2 1 (by simp)
      have es2 : ∃ u, (wr.setCell ⟨bs1, k * 4, none⟩ (.int .i64 (kk))).cell? ⟨bs1, k * 4 + 1, none⟩ = some u := ⟨_, by have hh := hcs2 1 (by simp); rw [show Ty.n tOp = 4 from rfl] at hh; simpa using hh⟩
      obtain ⟨us2, es2⟩ := es2
      have gs2 : (wr.setCell ⟨bs1, k * 4, none⟩ (.int .i64 (kk))).frozen? ⟨bs1, k * 4 + 1, none⟩ = false := hfzs2 _
      have hf3 := hVs2 1 (.int .i64 (kk + 1)) (((kk : Int)), (((kk + 1 : Int)), (x2, x3))) (by simp) ⟨[_], [_, _, _], _, _, rfl, rfl, ⟨rfl, s2w0, rfl⟩, ⟨[_], [_, _], _, _, rfl, rfl, ⟨rfl, wf_i64 (show -9223372036854775808 ≤ (kk + 1 : Int) ∧ (kk + 1 : Int) ≤ 9223372036854775807 by omega), rfl⟩, ⟨[_], [_], _, _, rfl, rfl, ⟨rfl, s2w2, rfl⟩, s2r3⟩⟩⟩
      simp only [show Ty.n tOp = 4 from rfl, Nat.add_zero, Nat.mul_one] at hf3
      have hbs2 : Only bl w ((wr.setCell ⟨bs1, k * 4, none⟩ (.int .i64 (kk))).setCell ⟨bs1, k * 4 + 1, none⟩ (.int .i64 (kk + 1))) := Only.setCell hbs1 hbms1 _
      clear hVs2 hUs2 hcs2 hfzs2
      rw [List.set_set] at hf3
      have hkl3 : k < (M.set k (((kk : Int)), (((kk + 1 : Int)), (x2, x3)))).length := by rw [List.length_set]; exact hkl
      have hM3 : (M.set k (((kk : Int)), (((kk + 1 : Int)), (x2, x3))))[k]'hkl3 = (((kk : Int)), (((kk + 1 : Int)), (x2, x3))) := List.getElem_set_self _
      obtain ⟨bs3, caps3, cs3, bks3, hvs3, hbms3, hbzs3, hfzs3, hcls3, hcs3, hRs3, hsubs3, hnbs3, hnos3, hUs3, hVs3⟩ := rep_lens hf3 hnd k hkl3
      simp only [Value.slice.injEq] at hvs3
      obtain ⟨hvbs3, -, -⟩ := hvs3
      simp only [Option.some.injEq, Addr.mk.injEq, and_true] at hvbs3
      subst hvbs3
      rw [hM3] at hRs3
      obtain ⟨_, _, _, _, rfl, rfl, ⟨rfl, s3w0, rfl⟩, ⟨_, _, _, _, rfl, rfl, ⟨rfl, s3w1, rfl⟩, ⟨_, _, _, _, rfl, rfl, ⟨rfl, s3w2, rfl⟩, s3r3⟩⟩⟩ := hRs3
      obtain ⟨s3p3, s3n3, s3q3, rfl⟩ := rep_form s3r3
      have es3 := hcs3 2 (by simp)
      have es3 : ∃ u, ((wr.setCell ⟨bs1, k * 4, none⟩ (.int .i64 (kk))).setCell ⟨bs1, k * 4 + 1, none⟩ (.int .i64 (kk + 1))).cell? ⟨bs1, k * 4 + 2, none⟩ = some u := ⟨_, by have hh := hcs3 2 (by simp); rw [show Ty.n tOp = 4 from rfl] at hh; simpa using hh⟩
      obtain ⟨us3, es3⟩ := es3
      have gs3 : ((wr.setCell ⟨bs1, k * 4, none⟩ (.int .i64 (kk))).setCell ⟨bs1, k * 4 + 1, none⟩ (.int .i64 (kk + 1))).frozen? ⟨bs1, k * 4 + 2, none⟩ = false := hfzs3 _
      have hf4 := hVs3 2 (.int .i64 (kk + 1 + 1)) (((kk : Int)), (((kk + 1 : Int)), (((kk + 1 + 1 : Int)), x3))) (by simp) ⟨[_], [_, _, _], _, _, rfl, rfl, ⟨rfl, s3w0, rfl⟩, ⟨[_], [_, _], _, _, rfl, rfl, ⟨rfl, s3w1, rfl⟩, ⟨[_], [_], _, _, rfl, rfl, ⟨rfl, wf_i64 (show -9223372036854775808 ≤ (kk + 1 + 1 : Int) ∧ (kk + 1 + 1 : Int) ≤ 9223372036854775807 by omega), rfl⟩, s3r3⟩⟩⟩
      simp only [show Ty.n tOp = 4 from rfl, Nat.add_zero, Nat.mul_one] at hf4
      have hbs3 : Only bl w (((wr.setCell ⟨bs1, k * 4, none⟩ (.int .i64 (kk))).setCell ⟨bs1, k * 4 + 1, none⟩ (.int .i64 (kk + 1))).setCell ⟨bs1, k * 4 + 2, none⟩ (.int .i64 (kk + 1 + 1))) := Only.setCell hbs2 hbms1 _
      clear hVs3 hUs3 hcs3 hfzs3
      rw [List.set_set] at hf4
      have hkl4 : k < (M.set k (((kk : Int)), (((kk + 1 : Int)), (((kk + 1 + 1 : Int)), x3)))).length := by rw [List.length_set]; exact hkl
      have hM4 : (M.set k (((kk : Int)), (((kk + 1 : Int)), (((kk + 1 + 1 : Int)), x3))))[k]'hkl4 = (((kk : Int)), (((kk + 1 : Int)), (((kk + 1 + 1 : Int)), x3))) := List.getElem_set_self _
      obtain ⟨bs4, caps4, cs4, bks4, hvs4, hbms4, hbzs4, hfzs4, hcls4, hcs4, hRs4, hsubs4, hnbs4, hnos4, hUs4, hVs4⟩ := rep_lens hf4 hnd k hkl4
      simp only [Value.slice.injEq] at hvs4
      obtain ⟨hvbs4, -, -⟩ := hvs4
      simp only [Option.some.injEq, Addr.mk.injEq, and_true] at hvbs4
      subst hvbs4
      rw [hM4] at hRs4
      obtain ⟨_, _, _, _, rfl, rfl, ⟨rfl, s4w0, rfl⟩, ⟨_, _, _, _, rfl, rfl, ⟨rfl, s4w1, rfl⟩, ⟨_, _, _, _, rfl, rfl, ⟨rfl, s4w2, rfl⟩, s4r3⟩⟩⟩ := hRs4
      obtain ⟨s4p3, s4n3, s4q3, rfl⟩ := rep_form s4r3
      have es4 : (((wr.setCell ⟨bs1, k * 4, none⟩ (.int .i64 (kk))).setCell ⟨bs1, k * 4 + 1, none⟩ (.int .i64 (kk + 1))).setCell ⟨bs1, k * 4 + 2, none⟩ (.int .i64 (kk + 1 + 1))).cell? ⟨bs1, k * 4 + 3, none⟩ = some (.slice s4p3 s4n3 s4q3) := by have hh := hcs4 3 (by simp); rw [show Ty.n tOp = 4 from rfl] at hh; simpa using hh
      clear hfzs4 hcs4 hcls4 hVs4
      have HUs4 := Lib.hid hUs4; clear hUs4
      go_wp2_with fail
      refine (markIntS_any _ _ _ _ x3 _ _ (by exact s4r3) (nd_r (nd_r (nd_r hnbs4))) (by omega) (by have := cnt_ints x3; omega)).mono ?_
      rintro e ws4 ⟨rfl, rps4, ons4⟩
      have hf5 := HUs4.out ws4 (((kk : Int)), (((kk + 1 : Int)), (((kk + 1 + 1 : Int)), (mk tInts x3 (kk + 1 + 1 + 1))))) (fun q hq hz => ons4.block q (fun hm => hq (List.mem_append_right _ (List.mem_append_right _ (List.mem_append_right _ hm)))) hz) ⟨[_], [_, _, _], _, _, rfl, rfl, ⟨rfl, s4w0, rfl⟩, ⟨[_], [_, _], _, _, rfl, rfl, ⟨rfl, s4w1, rfl⟩, ⟨[_], [_], _, _, rfl, rfl, ⟨rfl, s4w2, rfl⟩, rps4⟩⟩⟩
      have hbs4 : Only bl w ws4 := Only.trans hbs3 (ons4.mono (fun q hq => hsubs4 q (List.mem_append_right _ (List.mem_append_right _ (List.mem_append_right _ hq)))))
      clear HUs4 rps4 s4r3 es4 hbms4
      rw [List.set_set] at hf5
      have hkl5 : k < (M.set k (((kk : Int)), (((kk + 1 : Int)), (((kk + 1 + 1 : Int)), (mk tInts x3 (kk + 1 + 1 + 1)))))).length := by rw [List.length_set]; exact hkl
      have hM5 : (M.set k (((kk : Int)), (((kk + 1 : Int)), (((kk + 1 + 1 : Int)), (mk tInts x3 (kk + 1 + 1 + 1))))))[k]'hkl5 = (((kk : Int)), (((kk + 1 : Int)), (((kk + 1 + 1 : Int)), (mk tInts x3 (kk + 1 + 1 + 1))))) := List.getElem_set_self _
      have HF := Lib.hid hf5
      clear hf1 hf2 hf3 hf4 hf5
      go_wp2
      go_roundw
      case rel =>
        refine ⟨k + 1, by omega, by go_num, ⟨_, rfl, by show _ = _; have := HS1.out; have := hkk.out; have hcx9 : cnt tOp (x0, (x1, (x2, x3))) = 1 + 1 + 1 + cnt tInts x3 := (by first | rfl | (simp only [cnt]; omega)); omega, by omega, by omega⟩, hbs4, ?_⟩
        have h2 := HF.out
        rw [HSET.out _ (HMK.out.trans (by rfl))] at h2
        exact h2
      case measure => simp [intOf]; omega
    · go_wp2
      go_ret
      obtain rfl : k = l.length := by omega
      have hkk := hkk.out
      rw [List.take_length] at hkk
      refine ⟨ret_int (by rw [cnt_slice]; exact hkk), ?_, hb⟩
      have hf := hf.out
      have e1 : (mk (.slice 99 tOp) l k0 : List tOp.D).take l.length ++ l.drop l.length = mk (.slice 99 tOp) l k0 := by
        rw [List.drop_length, List.append_nil, List.take_of_length_le (by rw [HL.out]; exact Nat.le_refl _)]
      rw [e1] at hf
      exact hf

set_option maxHeartbeats 4000000 in
set_option maxRecDepth 100000 in
theorem heldOpS_any (p : Option Addr) (len cap : Nat) (k0 : Int) (l : List tOp.D) (w : World) (h : SlRd tOp.n (rd tOp w) w p len cap (mk (.slice 99 tOp) l k0)) (h0 : 0 ≤ k0) (h1 : k0 + (cnt (.slice 99 tOp) l : Nat) ≤ 1000000000000) :
    Calls Try.prog 104 #[.slice p len cap, .int .i64 k0] w (RetV (.int .i64 (k0 + (cnt (.slice 99 tOp) l : Nat))) w) := by
  have HL := mk_length (e := 99) (t := tOp) l k0
  obtain rfl : len = l.length := by rw [h.lens]; exact HL
  have hmx : l.length ≤ maxLen := Nat.le_trans h.2.1 h.2.2.1
  unfold maxLen at hmx
  rw [cnt_slice] at h1
  have HL2 := Lib.hid HL
  clear HL
  go_enter Try.func104, Try.ntmps104
  go_wp2
  go_loopw [1, 5] (fun q i wr => ∃ k : Nat, k ≤ l.length ∧ i = .int .i64 k ∧ (∃ kk : Int, q = .int .i64 kk ∧ Hid (kk = k0 + (((l.take k).map (cnt tOp)).sum : Nat)) ∧ 0 ≤ kk ∧ kk ≤ 1000000000000) ∧ Below w.heap.size w wr) (fun _ i _ => l.length - (intOf i).toNat)
  case atStart => exact ⟨0, by omega, rfl, ⟨_, rfl, by show _ = _; simp, by omega, by omega⟩, Below.refl _ _⟩
  case round =>
    obtain ⟨k, hk, rfl, ⟨kk, rfl, hkk, hk0, hk1⟩, hb⟩ := hrel
    by_cases hlt : k < l.length
    · obtain ⟨b, off, rfl, hlb, cs, hcs, hc, hR⟩ := h.2.2.2.2 k (by rw [HL2.out]; exact hlt)
      have hx9 := mk_get (e := 99) (t := tOp) l k0 k hlt (by rw [HL2.out]; exact hlt)
      obtain ⟨x, hx⟩ : ∃ x, l[k] = x := ⟨_, rfl⟩
      rw [hx, ← hkk.out] at hx9
      rw [hx9] at hR
      have hs1 := sum_take_succ (cnt tOp) l k hlt
      have hs2 := sum_take_le (cnt tOp) l (k + 1)
      rw [hx] at hs1
      have hxb : kk + (cnt tOp x : Nat) ≤ 1000000000000 := by have := hkk.out; omega
      have HS1 := Lib.hid hs1
      clear hx hx9 hs1 hs2
      obtain ⟨x0, ⟨x1, ⟨x2, x3⟩⟩⟩ := x
      have hcx : cnt tOp (x0, (x1, (x2, x3))) = 1 + 1 + 1 + cnt tInts x3 := by first | rfl | (simp only [cnt]; omega)
      rw [hcx] at hxb
      clear hcx
      have hR2 : rd tOp w cs ((kk), ((kk + 1), ((kk + 1 + 1), (mk tInts x3 (kk + 1 + 1 + 1))))) := hR
      clear hR
      obtain ⟨_, _, rfl, ⟨rfl, aw0⟩, ⟨_, _, rfl, ⟨rfl, aw1⟩, ⟨_, _, rfl, ⟨rfl, aw2⟩, ⟨ap3, an3, aq3, rfl, as3⟩⟩⟩⟩ := hR2
      have c0_0 : wr.cell? ⟨b, off + k * 4, none⟩ = some (.int .i64 (kk)) := (hb.cell hlb).trans (by have hh := hc 0 (by simp); rw [show Ty.n tOp = 4 from rfl] at hh; simpa using hh)
      have c1_0 : wr.cell? ⟨b, off + k * 4 + 1, none⟩ = some (.int .i64 (kk + 1)) := (hb.cell hlb).trans (by have hh := hc 1 (by simp); rw [show Ty.n tOp = 4 from rfl] at hh; simpa using hh)
      have c2_0 : wr.cell? ⟨b, off + k * 4 + 2, none⟩ = some (.int .i64 (kk + 1 + 1)) := (hb.cell hlb).trans (by have hh := hc 2 (by simp); rw [show Ty.n tOp = 4 from rfl] at hh; simpa using hh)
      have c3_0 : wr.cell? ⟨b, off + k * 4 + 3, none⟩ = some (.slice ap3 an3 aq3) := (hb.cell hlb).trans (by have hh := hc 3 (by simp); rw [show Ty.n tOp = 4 from rfl] at hh; simpa using hh)
      have HC := Lib.hid hc
      have HA3 := Lib.hid as3
      clear h hc hcs as3
      go_wp2_with fail
      refine (heldIntS_any _ _ _ _ x3 _ (by exact SlRd.below HA3.out hb) (by omega) (by have := cnt_ints x3; omega)).mono ?_
      rintro e w93 ⟨rfl, b93⟩
      have hb93 := hb.trans (b93.mono hb.size)
      have hnn3 : ¬ (kk + 1 + 1 + 1 + (cnt tInts x3 : Nat) < 0) := by omega
      clear c0_0 c1_0 c2_0 c3_0
      have hc := HC.out
      have c0_4 : w93.cell? ⟨b, off + k * 4, none⟩ = some (.int .i64 (kk)) := (hb93.cell hlb).trans (by have hh := hc 0 (by simp); rw [show Ty.n tOp = 4 from rfl] at hh; simpa using hh)
      have c1_4 : w93.cell? ⟨b, off + k * 4 + 1, none⟩ = some (.int .i64 (kk + 1)) := (hb93.cell hlb).trans (by have hh := hc 1 (by simp); rw [show Ty.n tOp = 4 from rfl] at hh; simpa using hh)
      have c2_4 : w93.cell? ⟨b, off + k * 4 + 2, none⟩ = some (.int .i64 (kk + 1 + 1)) := (hb93.cell hlb).trans (by have hh := hc 2 (by simp); rw [show Ty.n tOp = 4 from rfl] at hh; simpa using hh)
      have c3_4 : w93.cell? ⟨b, off + k * 4 + 3, none⟩ = some (.slice ap3 an3 aq3) := (hb93.cell hlb).trans (by have hh := hc 3 (by simp); rw [show Ty.n tOp = 4 from rfl] at hh; simpa using hh)
      clear hc
      go_wp2
      go_roundw
      case rel => exact ⟨k + 1, by omega, by go_num, ⟨_, rfl, by show _ = _; have := HS1.out; have := hkk.out; have hcx9 : cnt tOp (x0, (x1, (x2, x3))) = 1 + 1 + 1 + cnt tInts x3 := (by first | rfl | (simp only [cnt]; omega)); omega, by omega, by omega⟩, hb93⟩
      case measure => simp [intOf]; omega
    · clear h
      go_wp2
      go_ret
      obtain rfl : k = l.length := by omega
      have hkk := hkk.out
      rw [List.take_length] at hkk
      exact ⟨ret_int (by rw [cnt_slice]; exact hkk), hb⟩



end Go.Proofs.Ytnijnjclmlfahaa
