/- The laws' own helpers over Op: copy, compare, count, mark, look at the marks. -/
import Derived.Test.YtahggdiafncdhaaDoorCe
namespace Go.Proofs.YtahggdiafncdhaaDoor
open Go.ChangeShapes Go.WideShapes Go.ChangeAt Go.RowKit
set_option linter.unusedVariables false
set_option linter.unusedSimpArgs false
theorem fmOp {w : World} {cs : List Value} {x0 : Ty.D tInt} {x1 : Ty.D tInt} {x2 : Ty.D tInt} {x3 : Ty.D tInts} (h : rd tOp w cs (x0, (x1, (x2, x3)))) :
    ∃ p3 n3 q3, cs = [.int .i64 x0, .int .i64 x1, .int .i64 x2, .slice p3 n3 q3] ∧ (Lit.int .i64 x0).wf = true ∧ (Lit.int .i64 x1).wf = true ∧ (Lit.int .i64 x2).wf = true ∧ SlRd (Ty.n tInt) (rd tInt w) w p3 n3 q3 x3 := by
  obtain ⟨_, _, hcs, ⟨rfl, w0⟩, ⟨_, _, rfl, ⟨rfl, w1⟩, ⟨_, _, rfl, ⟨rfl, w2⟩, ⟨p3, n3, q3, rfl, s3⟩⟩⟩⟩ := h
  exact ⟨_, _, _, hcs, w0, w1, w2, s3⟩

set_option maxHeartbeats 1000000 in
set_option maxRecDepth 100000 in
theorem toOp_any (cs : Array Value) (d : tOp.D) (w : World) (h : rd tOp w cs.toList d) (hz : szT tOp d ≤ 1048576) :
    Calls Tryd.prog 14 #[.agg cs] w (RetAg tOp w d) := by
  obtain ⟨x0, ⟨x1, ⟨x2, x3⟩⟩⟩ := d
  obtain ⟨p3, n3, q3, hcs, w0, w1, w2, s3⟩ := fmOp h
  obtain rfl : cs = #[.int .i64 x0, .int .i64 x1, .int .i64 x2, .slice p3 n3 q3] := arr_of hcs
  have z3 : szT tInts x3 ≤ 1048576 := by simp only [szT] at hz ⊢; omega
  clear hz hcs
  go_enter Tryd.func14, Tryd.ntmps14
  go_wp2_with fail
  refine (toIntS_any _ _ _ x3 _ (by exact s3.below belx) (by simp only [szT_slice] at z3; omega)).mono ?_
  rintro e w93 ⟨r3, rc3, rfl, f3, b3⟩
  obtain ⟨u3, v3⟩ := bcell b3
  have y3 := b3.size
  simp only [World.size_alloc, World.size_setCell] at u3 v3 y3
  have yy30 : w.heap.size < w93.heap.size := fcx
  have yy31 : w.heap.size + 1 < w93.heap.size := fcx
  have yy32 : w.heap.size + 1 + 1 < w93.heap.size := fcx
  go_wp2
  refine bodyPost_ret (v := .agg #[.int .i64 x0, .int .i64 x1, .int .i64 x2, .slice r3 (List.length x3) rc3]) (by simp [results, Tryd.results14, go_sem, u3, yy30, yy31, yy32]) rfl ⟨_, rfl, ?_, ?_⟩
  · refine FrIn.pair (c1 := [_]) (c2 := [_, _, _]) (mid := w.heap.size) ?_ ?_ fcx fcx
    · exact FrIn.int w0 fcx
    · refine FrIn.pair (c1 := [_]) (c2 := [_, _]) (mid := w.heap.size) ?_ ?_ fcx fcx
      · exact FrIn.int w1 fcx
      · refine FrIn.pair (c1 := [_]) (c2 := [_]) (mid := w.heap.size) ?_ ?_ fcx fcx
        · exact FrIn.int w2 fcx
        · refine FrIn.mono (lo := w.heap.size + 1 + 1 + 1) (hi := w93.heap.size) ?_ fcx fcx fcx
          (repeat' first | refine FrIn.set1 ?_ fcx _ | refine FrIn.alloc ?_ _)
          exact f3.mono fcx (Nat.le_refl _) (Nat.le_refl _)
  · exact belx

set_option maxHeartbeats 1000000 in
set_option maxRecDepth 100000 in
theorem toOpS_any (p : Option Addr) (len cap : Nat) (l : List tOp.D) (w : World) (h : SlRd tOp.n (rd tOp w) w p len cap l) (hz : szT (.slice 34 tOp) l ≤ 1048576) :
    Calls Tryd.prog 44 #[.slice p len cap] w (RetSl 34 tOp w l) := by
  obtain rfl := h.lens
  rw [szT_slice] at hz
  have hlen : l.length ≤ 1048576 := by omega
  have hmk := run_make_fr Tryd.prog 43 34 (.agg #[.int .i64 0, .int .i64 0, .int .i64 0, .slice none 0 0]) 48 tOp Tryd.underlying43 (by kernel_rfl) rfl l.length (by omega) (by omega)
  go_enter Tryd.func44, Tryd.ntmps44
  go_wp2
  go_loopw [4] (fun i wr => ∃ k : Nat, k ≤ l.length ∧ i = .int .i64 k ∧ Below w.heap.size w wr ∧ FrIn (.slice 34 tOp) w.heap.size wr.heap.size wr [.slice (some ⟨w.heap.size, 0, none⟩) l.length l.length] (l.take k ++ List.replicate (l.length - k) (zeroD tOp))) (fun i _ => l.length - (intOf i).toNat)
  case atStart => exact ⟨0, by omega, rfl, (Below.refl _ _).alloc (Nat.le_refl _) _, (FrIn.made w tOp _ l.length (by simp [maxLen]; omega)).mono (Nat.le_refl _) (by simp) (Nat.le_refl _)⟩
  case round =>
    obtain ⟨k, hk, rfl, hb, hf⟩ := hrel
    by_cases hlt : k < l.length
    · obtain ⟨b, off, rfl, hlb, cs, hcs, hc, hR⟩ := h.2.2.2.2 k hlt
      have hzk := sum_get_le (szT tOp) l k hlt
      obtain ⟨x, hx⟩ : ∃ x, l[k] = x := ⟨_, rfl⟩
      rw [hx] at hR hzk
      have hR0 : rd tOp wr cs x := rd_mono (fun q hq => hb.block q hq) _ _ _ hR
      obtain ⟨x0, ⟨x1, ⟨x2, x3⟩⟩⟩ := x
      obtain ⟨p3, n3, q3, rfl, w0, w1, w2, s3⟩ := fmOp hR
      have c0 : wr.cell? ⟨b, off + k * 4, none⟩ = some (.int .i64 x0) := (hb.cell hlb).trans (by have hh := hc 0 (by simp); rw [show Ty.n tOp = 4 from rfl] at hh; simpa using hh)
      have c1 : wr.cell? ⟨b, off + k * 4 + 1, none⟩ = some (.int .i64 x1) := (hb.cell hlb).trans (by have hh := hc 1 (by simp); rw [show Ty.n tOp = 4 from rfl] at hh; simpa using hh)
      have c2 : wr.cell? ⟨b, off + k * 4 + 2, none⟩ = some (.int .i64 x2) := (hb.cell hlb).trans (by have hh := hc 2 (by simp); rw [show Ty.n tOp = 4 from rfl] at hh; simpa using hh)
      have c3 : wr.cell? ⟨b, off + k * 4 + 3, none⟩ = some (.slice p3 n3 q3) := (hb.cell hlb).trans (by have hh := hc 3 (by simp); rw [show Ty.n tOp = 4 from rfl] at hh; simpa using hh)
      obtain ⟨b', cap', hv, _, hbl, hfz, c, hcl, hcc, _⟩ := hf.at k (by simp; omega)
      simp only [Value.slice.injEq, Option.some.injEq, Addr.mk.injEq, and_true] at hv
      obtain ⟨rfl, -, rfl⟩ := hv
      have HF := Lib.hid hf; have HX := Lib.hid hx
      have e0 : wr.cell? ⟨w.heap.size, k * 4, none⟩ = some (c[0]'(by rw [hcl]; decide)) := by simpa [Ty.n] using hcc 0 (by rw [hcl]; decide)
      have g0 : wr.frozen? ⟨w.heap.size, k * 4, none⟩ = false := hfz _
      have e1 : wr.cell? ⟨w.heap.size, k * 4 + 1, none⟩ = some (c[1]'(by rw [hcl]; decide)) := by simpa [Ty.n] using hcc 1 (by rw [hcl]; decide)
      have g1 : wr.frozen? ⟨w.heap.size, k * 4 + 1, none⟩ = false := hfz _
      have e2 : wr.cell? ⟨w.heap.size, k * 4 + 2, none⟩ = some (c[2]'(by rw [hcl]; decide)) := by simpa [Ty.n] using hcc 2 (by rw [hcl]; decide)
      have g2 : wr.frozen? ⟨w.heap.size, k * 4 + 2, none⟩ = false := hfz _
      have e3 : wr.cell? ⟨w.heap.size, k * 4 + 3, none⟩ = some (c[3]'(by rw [hcl]; decide)) := by simpa [Ty.n] using hcc 3 (by rw [hcl]; decide)
      have g3 : wr.frozen? ⟨w.heap.size, k * 4 + 3, none⟩ = false := hfz _
      clear h hc hcc hfz hf hx
      go_wp2_with fail
      refine (toOp_any _ (x0, (x1, (x2, x3))) _ (by exact hR0) (by omega)).mono ?_
      rintro e w1 ⟨cs1, rfl, f1, b1⟩
      have rr := f1.rd
      obtain ⟨rp3, rn3, rq3, rhcs, rw0, rw1, rw2, rs3⟩ := fmOp rr
      obtain rfl : cs1 = #[.int .i64 x0, .int .i64 x1, .int .i64 x2, .slice rp3 rn3 rq3] := arr_of rhcs
      have e0' : w1.cell? ⟨w.heap.size, k * 4, none⟩ = some (c[0]'(by rw [hcl]; decide)) := (b1.cell hbl).trans e0
      have g0' : w1.frozen? ⟨w.heap.size, k * 4, none⟩ = false := (b1.frozen hbl).trans g0
      have e1' : w1.cell? ⟨w.heap.size, k * 4 + 1, none⟩ = some (c[1]'(by rw [hcl]; decide)) := (b1.cell hbl).trans e1
      have g1' : w1.frozen? ⟨w.heap.size, k * 4 + 1, none⟩ = false := (b1.frozen hbl).trans g1
      have e2' : w1.cell? ⟨w.heap.size, k * 4 + 2, none⟩ = some (c[2]'(by rw [hcl]; decide)) := (b1.cell hbl).trans e2
      have g2' : w1.frozen? ⟨w.heap.size, k * 4 + 2, none⟩ = false := (b1.frozen hbl).trans g2
      have e3' : w1.cell? ⟨w.heap.size, k * 4 + 3, none⟩ = some (c[3]'(by rw [hcl]; decide)) := (b1.cell hbl).trans e3
      have g3' : w1.frozen? ⟨w.heap.size, k * 4 + 3, none⟩ = false := (b1.frozen hbl).trans g3
      clear e0 g0 c0 e1 g1 c1 e2 g2 c2 e3 g3 c3 rhcs
      go_wp2
      go_roundw
      case rel =>
        refine ⟨k + 1, by omega, by go_num, ?_, ?_⟩
        · (repeat' first | refine Below.setCell ?_ fcx _); exact hb.trans (b1.mono hb.size)
        · have h1 := (HF.out.below b1 (Nat.le_refl _)).set k (by simp; omega) hb.size b1.size (x := l[k]) (by rw [HX.out]; exact f1)
          rw [set_zero l (zeroD tOp) k hlt] at h1
          refine FrIn.mono (hi := w1.heap.size) ?_ (Nat.le_refl _) fcx (Nat.le_refl _)
          exact h1
      case measure => simp [intOf]; omega
    · clear h
      go_wp2
      go_ret
      obtain rfl : k = l.length := by omega
      exact ⟨_, _, rfl, by simpa using hf, hb⟩

set_option maxHeartbeats 1000000 in
set_option maxRecDepth 100000 in
theorem szOp_any (ca : Array Value) (d : tOp.D) (left : Int) (w : World) (ha : rd tOp w ca.toList d) (h0 : 0 ≤ left) (h2 : left ≤ 9223372036854775807) :
    Calls Tryd.prog 12 #[.agg ca, .int .i64 left] w (RetV (.int .i64 (szR left (szT tOp d))) w) := by
  obtain ⟨x0, ⟨x1, ⟨x2, x3⟩⟩⟩ := d
  obtain ⟨ap3, an3, aq3, ahcs, aw0, aw1, aw2, as3⟩ := fmOp ha
  obtain rfl : ca = #[.int .i64 x0, .int .i64 x1, .int .i64 x2, .slice ap3 an3 aq3] := arr_of ahcs
  clear ahcs
  have e0 : szT tOp (x0, (x1, (x2, x3))) = szT tInts x3 := by first | rfl | (simp only [szT]; omega)
  have hl3 : szT tInts x3 = an3 := by rw [as3.lens]; exact szT_ints x3
  have hm3 : an3 ≤ maxLen := Nat.le_trans as3.2.1 as3.2.2.1
  have HS : Hid (szT tOp (x0, (x1, (x2, x3))) = an3) := e0.trans (by rw [hl3])
  clear e0 hl3
  by_cases hf3 : ((an3 : Nat) : Int) ≤ left
  rotate_left
  · go_enter Tryd.func12, Tryd.ntmps12
    go_wp2_with fail
    refine (szIntS_no _ _ _ _ _ hm3 (by omega) (by omega) (by omega)).mono ?_
    rintro e w93 ⟨rfl, b3⟩
    obtain ⟨u3, v3⟩ := bcell b3
    have y3 := b3.size
    try simp only [World.size_alloc, World.size_setCell] at u3 v3 y3
    have yy30 : w.heap.size < w93.heap.size := fcx
    go_wp2
    go_ret
    exact ⟨ret_int (by (first | rw [HS.out] | skip); unfold szR; rw [if_neg (by omega)]), belx⟩
  go_enter Tryd.func12, Tryd.ntmps12
  go_wp2_with fail
  refine (szIntS_ok _ _ _ _ _ hm3 (by omega) (by omega) (by omega)).mono ?_
  rintro e w93 ⟨rfl, b3⟩
  obtain ⟨u3, v3⟩ := bcell b3
  have y3 := b3.size
  try simp only [World.size_alloc, World.size_setCell] at u3 v3 y3
  have yy30 : w.heap.size < w93.heap.size := fcx
  go_wp2
  go_ret
  exact ⟨ret_int (by (first | rw [HS.out] | skip); unfold szR; rw [if_pos (by omega)]; try omega), belx⟩

theorem szOp_ok (ca : Array Value) (d : tOp.D) (left : Int) (w : World) (ha : rd tOp w ca.toList d) (h0 : 0 ≤ left) (h2 : left ≤ 9223372036854775807) (h : ((szT tOp d : Nat) : Int) ≤ left) :
    Calls Tryd.prog 12 #[.agg ca, .int .i64 left] w (RetV (.int .i64 (left - (szT tOp d : Nat))) w) := by
  have := szOp_any ca d left w ha h0 h2
  rwa [szR_pos h] at this
theorem szOp_no (ca : Array Value) (d : tOp.D) (left : Int) (w : World) (ha : rd tOp w ca.toList d) (h0 : 0 ≤ left) (h2 : left ≤ 9223372036854775807) (h : ¬ ((szT tOp d : Nat) : Int) ≤ left) :
    Calls Tryd.prog 12 #[.agg ca, .int .i64 left] w (RetV (.int .i64 (-1)) w) := by
  have := szOp_any ca d left w ha h0 h2
  rwa [szR_neg h] at this

set_option maxHeartbeats 1000000 in
set_option maxRecDepth 100000 in
theorem szOpS_any (p : Option Addr) (len cap : Nat) (l : List tOp.D) (left : Int) (w : World) (h : SlRd tOp.n (rd tOp w) w p len cap l) (h0 : 0 ≤ left) (h2 : left ≤ 9223372036854775807) :
    Calls Tryd.prog 42 #[.slice p len cap, .int .i64 left] w (RetV (.int .i64 (szR left (szT (.slice 34 tOp) l))) w) := by
  have hm : len ≤ maxLen := Nat.le_trans h.2.1 h.2.2.1
  obtain rfl := h.lens
  unfold maxLen at hm
  have HS : Hid (szT (.slice 34 tOp) l = l.length + (l.map (szT tOp)).sum) := szT_slice _ _ _
  by_cases hc : (l.length : Int) ≤ left
  rotate_left
  · have hc2 : (left - l.length < 0) := by omega
    clear h
    go_enter Tryd.func42, Tryd.ntmps42
    go_wp2
    go_ret
    exact ⟨ret_int (by (first | rw [HS.out] | skip); unfold szR; rw [if_neg (by omega)]), Below.refl _ _⟩
  go_enter Tryd.func42, Tryd.ntmps42
  go_wp2
  go_loopw [1, 5] (fun q i wr => ∃ k : Nat, k ≤ l.length ∧ i = .int .i64 k ∧ ∃ m : Int, q = .int .i64 m ∧ m = left - l.length - (((l.take k).map (szT tOp)).sum : Nat) ∧ 0 ≤ m ∧ Below w.heap.size w wr) (fun _ i _ => l.length - (intOf i).toNat)
  case atStart => exact ⟨0, by omega, rfl, _, rfl, by simp, by omega, Below.refl _ _⟩
  case round =>
    obtain ⟨k, hk, rfl, m, rfl, hm1, hm2, hb⟩ := hrel
    have hmb : m ≤ left := by omega
    by_cases hlt : k < l.length
    · obtain ⟨b, off, rfl, hlb, cs, hcs, hc1, hR⟩ := h.2.2.2.2 k hlt
      have hsum := sum_take_succ (szT tOp) l k hlt
      have hsle := sum_take_le (szT tOp) l (k + 1)
      obtain ⟨x, hx⟩ : ∃ x, l[k] = x := ⟨_, rfl⟩
      rw [hx] at hR hsum
      have hR0 : rd tOp wr cs x := rd_mono (fun q hq => hb.block q hq) _ _ _ hR
      obtain ⟨z, hz⟩ : ∃ z, szT tOp x = z := ⟨_, rfl⟩
      obtain ⟨s0, hs0⟩ : ∃ z, ((l.take k).map (szT tOp)).sum = z := ⟨_, rfl⟩
      obtain ⟨s1, hs1⟩ : ∃ z, ((l.take (k + 1)).map (szT tOp)).sum = z := ⟨_, rfl⟩
      obtain ⟨s2, hs2⟩ : ∃ z, (l.map (szT tOp)).sum = z := ⟨_, rfl⟩
      rw [hs0] at hsum hm1
      rw [hs1, hz] at hsum
      rw [hs1] at hsle
      rw [hs2] at hsle
      have HZ := Lib.hid hz; have HR := Lib.hid hR0; have H1 := Lib.hid hs1; have H2 := Lib.hid hs2; have HM := Lib.hid hm1; have HU := Lib.hid hsum; have HX := Lib.hid hz
      obtain ⟨x0, ⟨x1, ⟨x2, x3⟩⟩⟩ := x
      obtain ⟨ap3, an3, aq3, rfl, aw0, aw1, aw2, as3⟩ := fmOp hR
      have c0 : wr.cell? ⟨b, off + k * 4, none⟩ = some (.int .i64 x0) := (hb.cell hlb).trans (by have hh := hc1 0 (by simp); rw [show Ty.n tOp = 4 from rfl] at hh; simpa using hh)
      have c1 : wr.cell? ⟨b, off + k * 4 + 1, none⟩ = some (.int .i64 x1) := (hb.cell hlb).trans (by have hh := hc1 1 (by simp); rw [show Ty.n tOp = 4 from rfl] at hh; simpa using hh)
      have c2 : wr.cell? ⟨b, off + k * 4 + 2, none⟩ = some (.int .i64 x2) := (hb.cell hlb).trans (by have hh := hc1 2 (by simp); rw [show Ty.n tOp = 4 from rfl] at hh; simpa using hh)
      have c3 : wr.cell? ⟨b, off + k * 4 + 3, none⟩ = some (.slice ap3 an3 aq3) := (hb.cell hlb).trans (by have hh := hc1 3 (by simp); rw [show Ty.n tOp = 4 from rfl] at hh; simpa using hh)
      clear h hc1 hcs hx hR0 hz hs0 hs1 hs2 hm1 hsum
      by_cases hfit : (z : Int) ≤ m
      · go_wp2_with fail
        refine (szOp_ok _ (x0, (x1, (x2, x3))) _ _ (by exact HR.out) (by omega) (by omega) (by rw [HZ.out]; omega)).mono ?_
        rintro e w3 ⟨rfl, b3⟩
        rw [HZ.out]
        have hmz : ¬ (m - z < 0) := by omega
        go_wp2
        go_roundw
        case rel => exact ⟨k + 1, by omega, by go_num, _, rfl, by rw [H1.out]; have := HM.out; have := HU.out; omega, by omega, hb.trans (b3.mono hb.size)⟩
        case measure => simp [intOf]; omega
      · go_wp2_with fail
        refine (szOp_no _ (x0, (x1, (x2, x3))) _ _ (by exact HR.out) (by omega) (by omega) (by rw [HZ.out]; omega)).mono ?_
        rintro e w3 ⟨rfl, b3⟩
        go_wp2
        go_ret
        exact ⟨ret_int (by rw [HS.out, H2.out]; unfold szR; rw [if_neg (by have := HM.out; have := HU.out; omega)]), hb.trans (b3.mono hb.size)⟩
    · clear h
      have HM := Lib.hid hm1; clear hm1
      go_wp2
      go_ret
      obtain rfl : k = l.length := by omega
      have hm1 := HM.out
      rw [List.take_length] at hm1
      exact ⟨ret_int (by (first | rw [HS.out] | skip); unfold szR; rw [if_pos (by omega)]; try omega), hb⟩

theorem szOpS_ok (p : Option Addr) (len cap : Nat) (l : List tOp.D) (left : Int) (w : World) (ha : SlRd tOp.n (rd tOp w) w p len cap l) (h0 : 0 ≤ left) (h2 : left ≤ 9223372036854775807) (h : ((szT (.slice 34 tOp) l : Nat) : Int) ≤ left) :
    Calls Tryd.prog 42 #[.slice p len cap, .int .i64 left] w (RetV (.int .i64 (left - (szT (.slice 34 tOp) l : Nat))) w) := by
  have := szOpS_any p len cap l left w ha h0 h2
  rwa [szR_pos h] at this
theorem szOpS_no (p : Option Addr) (len cap : Nat) (l : List tOp.D) (left : Int) (w : World) (ha : SlRd tOp.n (rd tOp w) w p len cap l) (h0 : 0 ≤ left) (h2 : left ≤ 9223372036854775807) (h : ¬ ((szT (.slice 34 tOp) l : Nat) : Int) ≤ left) :
    Calls Tryd.prog 42 #[.slice p len cap, .int .i64 left] w (RetV (.int .i64 (-1)) w) := by
  have := szOpS_any p len cap l left w ha h0 h2
  rwa [szR_neg h] at this

set_option maxHeartbeats 1000000 in
set_option maxRecDepth 100000 in
theorem eqOp_any (ca cb : Array Value) (d : tOp.D) (w : World) (ha : rd tOp w ca.toList d) (hb : rd tOp w cb.toList d) :
    Calls Tryd.prog 16 #[.agg ca, .agg cb] w (RetV (.bool true) w) := by
  obtain ⟨x0, ⟨x1, ⟨x2, x3⟩⟩⟩ := d
  obtain ⟨ap3, an3, aq3, ahcs, aw0, aw1, aw2, as3⟩ := fmOp ha
  obtain ⟨bp3, bn3, bq3, bhcs, bw0, bw1, bw2, bs3⟩ := fmOp hb
  obtain rfl : ca = #[.int .i64 x0, .int .i64 x1, .int .i64 x2, .slice ap3 an3 aq3] := arr_of ahcs
  obtain rfl : cb = #[.int .i64 x0, .int .i64 x1, .int .i64 x2, .slice bp3 bn3 bq3] := arr_of bhcs
  clear ahcs bhcs
  go_enter Tryd.func16, Tryd.ntmps16
  go_wp2_with fail
  refine (eqIntS_any _ _ _ _ _ _ x3 _ (by exact as3.below belx) (by exact bs3.below belx)).mono ?_
  rintro e w93 ⟨rfl, b3⟩
  obtain ⟨u3, v3⟩ := bcell b3
  have y3 := b3.size
  try simp only [World.size_alloc, World.size_setCell] at u3 v3 y3
  have yy30 : w.heap.size < w93.heap.size := fcx
  have yy31 : w.heap.size + 1 < w93.heap.size := fcx
  go_wp2
  go_ret
  exact ⟨rfl, belx⟩

set_option maxHeartbeats 1000000 in
set_option maxRecDepth 100000 in
theorem eqOpS_any (p q : Option Addr) (len cap len' cap' : Nat) (l : List tOp.D) (w : World) (h : SlRd tOp.n (rd tOp w) w p len cap l) (h' : SlRd tOp.n (rd tOp w) w q len' cap' l) :
    Calls Tryd.prog 46 #[.slice p len cap, .slice q len' cap'] w (RetV (.bool true) w) := by
  obtain rfl := h.lens
  obtain rfl := h'.lens
  have hmx : l.length ≤ maxLen := by have := h.2.1; have := h.2.2.1; omega
  unfold maxLen at hmx
  go_enter Tryd.func46, Tryd.ntmps46
  go_wp2
  go_loopw [5] (fun i wr => ∃ k : Nat, k ≤ l.length ∧ i = .int .i64 k ∧ Below w.heap.size w wr) (fun i _ => l.length - (intOf i).toNat)
  case atStart => exact ⟨0, by omega, rfl, Below.refl _ _⟩
  case round =>
    obtain ⟨k, hk, rfl, hb⟩ := hrel
    by_cases hlt : k < l.length
    · obtain ⟨b, off, rfl, hlb, cs, hcs, hc, hR⟩ := h.2.2.2.2 k hlt
      obtain ⟨b2, off2, rfl, hlb2, cs2, hcs2, hc2, hR2⟩ := h'.2.2.2.2 k hlt
      obtain ⟨x, hx⟩ : ∃ x, l[k] = x := ⟨_, rfl⟩
      rw [hx] at hR hR2
      have hR0 : rd tOp wr.drew cs x := rd_mono (fun q hq => hb.block q hq) _ _ _ hR
      have hR20 : rd tOp wr.drew cs2 x := rd_mono (fun q hq => hb.block q hq) _ _ _ hR2
      obtain ⟨x0, ⟨x1, ⟨x2, x3⟩⟩⟩ := x
      obtain ⟨ap3, an3, aq3, rfl, aw0, aw1, aw2, as3⟩ := fmOp hR
      obtain ⟨bp3, bn3, bq3, rfl, bw0, bw1, bw2, bs3⟩ := fmOp hR2
      have c0 : wr.cell? ⟨b, off + k * 4, none⟩ = some (.int .i64 x0) := (hb.cell hlb).trans (by have hh := hc 0 (by simp); rw [show Ty.n tOp = 4 from rfl] at hh; simpa using hh)
      have c1 : wr.cell? ⟨b, off + k * 4 + 1, none⟩ = some (.int .i64 x1) := (hb.cell hlb).trans (by have hh := hc 1 (by simp); rw [show Ty.n tOp = 4 from rfl] at hh; simpa using hh)
      have c2 : wr.cell? ⟨b, off + k * 4 + 2, none⟩ = some (.int .i64 x2) := (hb.cell hlb).trans (by have hh := hc 2 (by simp); rw [show Ty.n tOp = 4 from rfl] at hh; simpa using hh)
      have c3 : wr.cell? ⟨b, off + k * 4 + 3, none⟩ = some (.slice ap3 an3 aq3) := (hb.cell hlb).trans (by have hh := hc 3 (by simp); rw [show Ty.n tOp = 4 from rfl] at hh; simpa using hh)
      have d0 : wr.cell? ⟨b2, off2 + k * 4, none⟩ = some (.int .i64 x0) := (hb.cell hlb2).trans (by have hh := hc2 0 (by simp); rw [show Ty.n tOp = 4 from rfl] at hh; simpa using hh)
      have d1 : wr.cell? ⟨b2, off2 + k * 4 + 1, none⟩ = some (.int .i64 x1) := (hb.cell hlb2).trans (by have hh := hc2 1 (by simp); rw [show Ty.n tOp = 4 from rfl] at hh; simpa using hh)
      have d2 : wr.cell? ⟨b2, off2 + k * 4 + 2, none⟩ = some (.int .i64 x2) := (hb.cell hlb2).trans (by have hh := hc2 2 (by simp); rw [show Ty.n tOp = 4 from rfl] at hh; simpa using hh)
      have d3 : wr.cell? ⟨b2, off2 + k * 4 + 3, none⟩ = some (.slice bp3 bn3 bq3) := (hb.cell hlb2).trans (by have hh := hc2 3 (by simp); rw [show Ty.n tOp = 4 from rfl] at hh; simpa using hh)
      have HR := Lib.hid hR0; have HR2 := Lib.hid hR20
      clear h h' hc hc2 hx hcs hcs2 hR0 hR20
      go_wp2
      go_still_tail 8, (by kernel_rfl)
      change wpList _ _ _ _ _ wr.drew
      have hb2 : Below w.heap.size w wr.drew := hb.drew
      generalize wr.drew = w2 at hb2 HR HR2 ⊢
      go_wp2_with fail
      refine (eqOp_any _ _ (x0, (x1, (x2, x3))) _ (by exact HR.out) (by exact HR2.out)).mono ?_
      rintro e w3 ⟨rfl, b3⟩
      go_wp2
      go_roundw
      case rel => exact ⟨k + 1, by omega, by go_num, hb2.trans (b3.mono hb2.size)⟩
      case measure => simp [intOf]; omega
    · clear h h'
      go_wp2
      go_ret
      exact ⟨rfl, hb⟩

end Go.Proofs.YtahggdiafncdhaaDoor
