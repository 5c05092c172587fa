/- The laws' own helpers over Act: copy, compare, count, mark, look at the marks. -/
import Derived.Test.YteejpennjkihaaaTIns
namespace Go.Proofs.Yteejpennjkihaaa
open Go.ChangeShapes Go.WideShapes Go.ChangeAt Go.RowKit
set_option linter.unusedVariables false
set_option linter.unusedSimpArgs false
abbrev tAct : Ty := .pair tInt (.pair tIns .bool)

set_option maxHeartbeats 1000000 in
set_option maxRecDepth 100000 in
theorem toAct_any (cs : Array Value) (d : tAct.D) (w : World) (h : rd tAct w cs.toList d) (hz : szT tAct d ≤ 1048576) :
    Calls Try.prog 83 #[.agg cs] w (RetAg tAct w d) := by
  obtain ⟨x0, ⟨⟨x1, x2⟩, x3⟩⟩ := d
  obtain ⟨_, _, hcs, ⟨rfl, w0⟩, ⟨_, _, rfl, ⟨_, _, rfl, ⟨rfl, w1⟩, ⟨rfl, w2⟩⟩, rfl⟩⟩ := h
  obtain rfl : cs = #[.int .i64 x0, .int .i64 x1, .int .i64 x2, .bool x3] := arr_of hcs
  clear hz hcs
  go_enter Try.func83, Try.ntmps83
  go_wp2_with fail
  refine (toIns_any _ (x1, x2) _ (by exact ⟨[_], [_], rfl, ⟨rfl, w1⟩, ⟨rfl, w2⟩⟩) (by simp [szT])).mono ?_
  rintro e w91 ⟨cs1, rfl, f1, b1⟩
  obtain ⟨u1, v1⟩ := bcell b1
  have y1 := b1.size
  simp only [World.size_alloc, World.size_setCell] at u1 v1 y1
  have yy10 : w.heap.size < w91.heap.size := (by first | omega | (simp [World.setCell]; done) | (simp [World.setCell]; omega))
  have yy11 : w.heap.size + 1 < w91.heap.size := (by first | omega | (simp [World.setCell]; done) | (simp [World.setCell]; omega))
  have yy12 : w.heap.size + 1 + 1 < w91.heap.size := (by first | omega | (simp [World.setCell]; done) | (simp [World.setCell]; omega))
  have rr1 := f1.rd
  obtain ⟨_, _, hcs1, ⟨rfl, c1w0⟩, ⟨rfl, c1w1⟩⟩ := rr1
  obtain rfl : cs1 = #[.int .i64 x1, .int .i64 x2] := arr_of hcs1
  clear hcs1
  go_wp2
  refine bodyPost_ret (v := .agg #[.int .i64 x0, .int .i64 x1, .int .i64 x2, .bool x3]) (by simp [results, Try.results83, go_sem, u1, yy10, yy11, yy12]) rfl ⟨_, rfl, ?_, ?_⟩
  · refine FrIn.pair (c1 := [_]) (c2 := [_, _, _]) (mid := w.heap.size) ?_ ?_ (by first | omega | (simp [World.setCell]; done) | (simp [World.setCell]; omega)) (by first | omega | (simp [World.setCell]; done) | (simp [World.setCell]; omega))
    · exact FrIn.int w0 (by first | omega | (simp [World.setCell]; done) | (simp [World.setCell]; omega))
    · refine FrIn.pair (c1 := [_, _]) (c2 := [_]) (mid := w91.heap.size) ?_ ?_ (by first | omega | (simp [World.setCell]; done) | (simp [World.setCell]; omega)) (by first | omega | (simp [World.setCell]; done) | (simp [World.setCell]; omega))
      · refine FrIn.pair (c1 := [_]) (c2 := [_]) (mid := w91.heap.size) ?_ ?_ (by first | omega | (simp [World.setCell]; done) | (simp [World.setCell]; omega)) (by first | omega | (simp [World.setCell]; done) | (simp [World.setCell]; omega))
        · exact FrIn.int w1 (by first | omega | (simp [World.setCell]; done) | (simp [World.setCell]; omega))
        · exact FrIn.int w2 (by first | omega | (simp [World.setCell]; done) | (simp [World.setCell]; omega))
      · exact FrIn.bool (by first | omega | (simp [World.setCell]; done) | (simp [World.setCell]; omega))
  · exact (by (repeat' first | refine Below.setCell ?_ (by first | omega | (simp [World.setCell]; done) | (simp [World.setCell]; omega)) _ | refine Below.alloc ?_ (by first | omega | (simp [World.setCell]; done) | (simp [World.setCell]; omega)) _); refine Below.trans ?_ (b1.mono (by first | omega | (simp [World.setCell]; done) | (simp [World.setCell]; omega))); (repeat' first | refine Below.setCell ?_ (by first | omega | (simp [World.setCell]; done) | (simp [World.setCell]; omega)) _ | refine Below.alloc ?_ (by first | omega | (simp [World.setCell]; done) | (simp [World.setCell]; omega)) _); exact Below.refl _ _)

set_option maxHeartbeats 1000000 in
set_option maxRecDepth 100000 in
theorem toActS_any (p : Option Addr) (len cap : Nat) (l : List tAct.D) (w : World) (h : SlRd tAct.n (rd tAct w) w p len cap l) (hz : szT (.slice 120 tAct) l ≤ 1048576) :
    Calls Try.prog 33 #[.slice p len cap] w (RetSl 120 tAct w l) := by
  obtain rfl := h.lens
  rw [szT_slice] at hz
  have hlen : l.length ≤ 1048576 := by omega
  have hmk := run_make_fr Try.prog 46 120 (.agg #[.int .i64 0, .int .i64 0, .int .i64 0, .bool false]) 32 tAct Try.underlying46 (by kernel_rfl) rfl l.length (by omega) (by omega)
  go_enter Try.func33, Try.ntmps33
  go_wp2
  go_loopw [4] (fun i wr => ∃ k : Nat, k ≤ l.length ∧ i = .int .i64 k ∧ Below w.heap.size w wr ∧ FrIn (.slice 120 tAct) w.heap.size wr.heap.size wr [.slice (some ⟨w.heap.size, 0, none⟩) l.length l.length] (l.take k ++ List.replicate (l.length - k) (zeroD tAct))) (fun i _ => l.length - (intOf i).toNat)
  case atStart => exact ⟨0, by omega, rfl, (Below.refl _ _).alloc (Nat.le_refl _) _, (FrIn.made w tAct _ l.length (by simp [maxLen]; omega)).mono (Nat.le_refl _) (by simp) (Nat.le_refl _)⟩
  case round =>
    obtain ⟨k, hk, rfl, hb, hf⟩ := hrel
    by_cases hlt : k < l.length
    · obtain ⟨b, off, rfl, hlb, cs, hcs, hc, hR⟩ := h.2.2.2.2 k hlt
      have hzk := sum_get_le (szT tAct) l k hlt
      obtain ⟨x, hx⟩ : ∃ x, l[k] = x := ⟨_, rfl⟩
      rw [hx] at hR hzk
      have hR0 : rd tAct wr cs x := rd_mono (fun q hq => hb.block q hq) _ _ _ hR
      obtain ⟨x0, ⟨⟨x1, x2⟩, x3⟩⟩ := x
      obtain ⟨_, _, rfl, ⟨rfl, w0⟩, ⟨_, _, rfl, ⟨_, _, rfl, ⟨rfl, w1⟩, ⟨rfl, w2⟩⟩, rfl⟩⟩ := hR
      have c0 : wr.cell? ⟨b, off + k * 4, none⟩ = some (.int .i64 x0) := (hb.cell hlb).trans (by have hh := hc 0 (by simp); rw [show Ty.n tAct = 4 from rfl] at hh; simpa using hh)
      have c1 : wr.cell? ⟨b, off + k * 4 + 1, none⟩ = some (.int .i64 x1) := (hb.cell hlb).trans (by have hh := hc 1 (by simp); rw [show Ty.n tAct = 4 from rfl] at hh; simpa using hh)
      have c2 : wr.cell? ⟨b, off + k * 4 + 2, none⟩ = some (.int .i64 x2) := (hb.cell hlb).trans (by have hh := hc 2 (by simp); rw [show Ty.n tAct = 4 from rfl] at hh; simpa using hh)
      have c3 : wr.cell? ⟨b, off + k * 4 + 3, none⟩ = some (.bool x3) := (hb.cell hlb).trans (by have hh := hc 3 (by simp); rw [show Ty.n tAct = 4 from rfl] at hh; simpa using hh)
      obtain ⟨b', cap', hv, _, hbl, hfz, c, hcl, hcc, _⟩ := hf.at k (by simp; omega)
      simp only [Value.slice.injEq, Option.some.injEq, Addr.mk.injEq, and_true] at hv
      obtain ⟨rfl, -, rfl⟩ := hv
      have HF := Lib.hid hf; have HX := Lib.hid hx
      have e0 : wr.cell? ⟨w.heap.size, k * 4, none⟩ = some (c[0]'(by rw [hcl]; decide)) := by simpa [Ty.n] using hcc 0 (by rw [hcl]; decide)
      have g0 : wr.frozen? ⟨w.heap.size, k * 4, none⟩ = false := hfz _
      have e1 : wr.cell? ⟨w.heap.size, k * 4 + 1, none⟩ = some (c[1]'(by rw [hcl]; decide)) := by simpa [Ty.n] using hcc 1 (by rw [hcl]; decide)
      have g1 : wr.frozen? ⟨w.heap.size, k * 4 + 1, none⟩ = false := hfz _
      have e2 : wr.cell? ⟨w.heap.size, k * 4 + 2, none⟩ = some (c[2]'(by rw [hcl]; decide)) := by simpa [Ty.n] using hcc 2 (by rw [hcl]; decide)
      have g2 : wr.frozen? ⟨w.heap.size, k * 4 + 2, none⟩ = false := hfz _
      have e3 : wr.cell? ⟨w.heap.size, k * 4 + 3, none⟩ = some (c[3]'(by rw [hcl]; decide)) := by simpa [Ty.n] using hcc 3 (by rw [hcl]; decide)
      have g3 : wr.frozen? ⟨w.heap.size, k * 4 + 3, none⟩ = false := hfz _
      clear h hc hcc hfz hf hx
      go_wp2_with fail
      refine (toAct_any _ (x0, ((x1, x2), x3)) _ (by exact hR0) (by omega)).mono ?_
      rintro e w1 ⟨cs1, rfl, f1, b1⟩
      have rr := f1.rd
      obtain ⟨_, _, rhcs, ⟨rfl, rw0⟩, ⟨_, _, rfl, ⟨_, _, rfl, ⟨rfl, rw1⟩, ⟨rfl, rw2⟩⟩, rfl⟩⟩ := rr
      obtain rfl : cs1 = #[.int .i64 x0, .int .i64 x1, .int .i64 x2, .bool x3] := arr_of rhcs
      have e0' : w1.cell? ⟨w.heap.size, k * 4, none⟩ = some (c[0]'(by rw [hcl]; decide)) := (b1.cell hbl).trans e0
      have g0' : w1.frozen? ⟨w.heap.size, k * 4, none⟩ = false := (b1.frozen hbl).trans g0
      have e1' : w1.cell? ⟨w.heap.size, k * 4 + 1, none⟩ = some (c[1]'(by rw [hcl]; decide)) := (b1.cell hbl).trans e1
      have g1' : w1.frozen? ⟨w.heap.size, k * 4 + 1, none⟩ = false := (b1.frozen hbl).trans g1
      have e2' : w1.cell? ⟨w.heap.size, k * 4 + 2, none⟩ = some (c[2]'(by rw [hcl]; decide)) := (b1.cell hbl).trans e2
      have g2' : w1.frozen? ⟨w.heap.size, k * 4 + 2, none⟩ = false := (b1.frozen hbl).trans g2
      have e3' : w1.cell? ⟨w.heap.size, k * 4 + 3, none⟩ = some (c[3]'(by rw [hcl]; decide)) := (b1.cell hbl).trans e3
      have g3' : w1.frozen? ⟨w.heap.size, k * 4 + 3, none⟩ = false := (b1.frozen hbl).trans g3
      clear e0 g0 c0 e1 g1 c1 e2 g2 c2 e3 g3 c3 rhcs
      go_wp2
      go_roundw
      case rel =>
        refine ⟨k + 1, by omega, by go_num, ?_, ?_⟩
        · (repeat' first | refine Below.setCell ?_ (by first | omega | (simp [World.setCell]; done) | (simp [World.setCell]; omega)) _); exact hb.trans (b1.mono hb.size)
        · have h1 := (HF.out.below b1 (Nat.le_refl _)).set k (by simp; omega) hb.size b1.size (x := l[k]) (by rw [HX.out]; exact f1)
          rw [set_zero l (zeroD tAct) k hlt] at h1
          refine FrIn.mono (hi := w1.heap.size) ?_ (Nat.le_refl _) (by first | omega | (simp [World.setCell]; done) | (simp [World.setCell]; omega)) (Nat.le_refl _)
          exact h1
      case measure => simp [intOf]; omega
    · clear h
      go_wp2
      go_ret
      obtain rfl : k = l.length := by omega
      exact ⟨_, _, rfl, by simpa using hf, hb⟩

set_option maxHeartbeats 1000000 in
set_option maxRecDepth 100000 in
theorem szActS_any (p : Option Addr) (len cap : Nat) (l : List tAct.D) (left : Int) (w : World) (h : SlRd tAct.n (rd tAct w) w p len cap l) (h0 : 0 ≤ left) (h2 : left ≤ 9223372036854775807) :
    Calls Try.prog 31 #[.slice p len cap, .int .i64 left] w (RetV (.int .i64 (szR left (szT (.slice 120 tAct) l))) w) := by
  have hm : len ≤ maxLen := Nat.le_trans h.2.1 h.2.2.1
  obtain rfl := h.lens
  unfold maxLen at hm
  have hz : szT (.slice 120 tAct) l = l.length := by rw [szT_slice, sum_zero _ _ (fun x => by simp [szT])]; omega
  rw [hz]
  clear h hz
  by_cases hc : (l.length : Int) ≤ left
  · have hc2 : ¬ (left - l.length < 0) := by omega
    go_enter Try.func31, Try.ntmps31
    go_wp2
    go_ret
    exact ⟨ret_int (by unfold szR; rw [if_pos (by omega)]), Below.refl _ _⟩
  · have hc2 :  (left - l.length < 0) := by omega
    go_enter Try.func31, Try.ntmps31
    go_wp2
    go_ret
    exact ⟨ret_int (by unfold szR; rw [if_neg (by omega)]), Below.refl _ _⟩

theorem szActS_ok (p : Option Addr) (len cap : Nat) (l : List tAct.D) (left : Int) (w : World) (ha : SlRd tAct.n (rd tAct w) w p len cap l) (h0 : 0 ≤ left) (h2 : left ≤ 9223372036854775807) (h : ((szT (.slice 120 tAct) l : Nat) : Int) ≤ left) :
    Calls Try.prog 31 #[.slice p len cap, .int .i64 left] w (RetV (.int .i64 (left - (szT (.slice 120 tAct) l : Nat))) w) := by
  have := szActS_any p len cap l left w ha h0 h2
  rwa [szR_pos h] at this
theorem szActS_no (p : Option Addr) (len cap : Nat) (l : List tAct.D) (left : Int) (w : World) (ha : SlRd tAct.n (rd tAct w) w p len cap l) (h0 : 0 ≤ left) (h2 : left ≤ 9223372036854775807) (h : ¬ ((szT (.slice 120 tAct) l : Nat) : Int) ≤ left) :
    Calls Try.prog 31 #[.slice p len cap, .int .i64 left] w (RetV (.int .i64 (-1)) w) := by
  have := szActS_any p len cap l left w ha h0 h2
  rwa [szR_neg h] at this

set_option maxHeartbeats 1000000 in
set_option maxRecDepth 100000 in
theorem eqAct_any (ca cb : Array Value) (d : tAct.D) (w : World) (ha : rd tAct w ca.toList d) (hb : rd tAct w cb.toList d) :
    Calls Try.prog 86 #[.agg ca, .agg cb] w (RetV (.bool true) w) := by
  obtain ⟨x0, ⟨⟨x1, x2⟩, x3⟩⟩ := d
  obtain ⟨_, _, ahcs, ⟨rfl, aw0⟩, ⟨_, _, rfl, ⟨_, _, rfl, ⟨rfl, aw1⟩, ⟨rfl, aw2⟩⟩, rfl⟩⟩ := ha
  obtain ⟨_, _, bhcs, ⟨rfl, bw0⟩, ⟨_, _, rfl, ⟨_, _, rfl, ⟨rfl, bw1⟩, ⟨rfl, bw2⟩⟩, rfl⟩⟩ := hb
  obtain rfl : ca = #[.int .i64 x0, .int .i64 x1, .int .i64 x2, .bool x3] := arr_of ahcs
  obtain rfl : cb = #[.int .i64 x0, .int .i64 x1, .int .i64 x2, .bool x3] := arr_of bhcs
  clear ahcs bhcs
  go_enter Try.func86, Try.ntmps86
  go_wp2_with fail
  refine (eqIns_any _ _ (x1, x2) _ (by exact ⟨[_], [_], rfl, ⟨rfl, aw1⟩, ⟨rfl, aw2⟩⟩) (by exact ⟨[_], [_], rfl, ⟨rfl, bw1⟩, ⟨rfl, bw2⟩⟩)).mono ?_
  rintro e w91 ⟨rfl, b1⟩
  obtain ⟨u1, v1⟩ := bcell b1
  have y1 := b1.size
  try simp only [World.size_alloc, World.size_setCell] at u1 v1 y1
  have yy10 : w.heap.size < w91.heap.size := (by first | omega | (simp [World.setCell]; done) | (simp [World.setCell]; omega))
  have yy11 : w.heap.size + 1 < w91.heap.size := (by first | omega | (simp [World.setCell]; done) | (simp [World.setCell]; omega))
  go_wp2
  go_ret
  exact ⟨rfl, (by (repeat' first | refine Below.setCell ?_ (by first | omega | (simp [World.setCell]; done) | (simp [World.setCell]; omega)) _ | refine Below.alloc ?_ (by first | omega | (simp [World.setCell]; done) | (simp [World.setCell]; omega)) _); refine Below.trans ?_ (b1.mono (by first | omega | (simp [World.setCell]; done) | (simp [World.setCell]; omega))); (repeat' first | refine Below.setCell ?_ (by first | omega | (simp [World.setCell]; done) | (simp [World.setCell]; omega)) _ | refine Below.alloc ?_ (by first | omega | (simp [World.setCell]; done) | (simp [World.setCell]; omega)) _); exact Below.refl _ _)⟩

set_option maxHeartbeats 1000000 in
set_option maxRecDepth 100000 in
theorem eqActS_any (p q : Option Addr) (len cap len' cap' : Nat) (l : List tAct.D) (w : World) (h : SlRd tAct.n (rd tAct w) w p len cap l) (h' : SlRd tAct.n (rd tAct w) w q len' cap' l) :
    Calls Try.prog 35 #[.slice p len cap, .slice q len' cap'] w (RetV (.bool true) w) := by
  obtain rfl := h.lens
  obtain rfl := h'.lens
  have hmx : l.length ≤ maxLen := by have := h.2.1; have := h.2.2.1; omega
  unfold maxLen at hmx
  go_enter Try.func35, Try.ntmps35
  go_wp2
  go_loopw [5] (fun i wr => ∃ k : Nat, k ≤ l.length ∧ i = .int .i64 k ∧ Below w.heap.size w wr) (fun i _ => l.length - (intOf i).toNat)
  case atStart => exact ⟨0, by omega, rfl, Below.refl _ _⟩
  case round =>
    obtain ⟨k, hk, rfl, hb⟩ := hrel
    by_cases hlt : k < l.length
    · obtain ⟨b, off, rfl, hlb, cs, hcs, hc, hR⟩ := h.2.2.2.2 k hlt
      obtain ⟨b2, off2, rfl, hlb2, cs2, hcs2, hc2, hR2⟩ := h'.2.2.2.2 k hlt
      obtain ⟨x, hx⟩ : ∃ x, l[k] = x := ⟨_, rfl⟩
      rw [hx] at hR hR2
      have hR0 : rd tAct wr.drew cs x := rd_mono (fun q hq => hb.block q hq) _ _ _ hR
      have hR20 : rd tAct wr.drew cs2 x := rd_mono (fun q hq => hb.block q hq) _ _ _ hR2
      obtain ⟨x0, ⟨⟨x1, x2⟩, x3⟩⟩ := x
      obtain ⟨_, _, rfl, ⟨rfl, aw0⟩, ⟨_, _, rfl, ⟨_, _, rfl, ⟨rfl, aw1⟩, ⟨rfl, aw2⟩⟩, rfl⟩⟩ := hR
      obtain ⟨_, _, rfl, ⟨rfl, bw0⟩, ⟨_, _, rfl, ⟨_, _, rfl, ⟨rfl, bw1⟩, ⟨rfl, bw2⟩⟩, rfl⟩⟩ := hR2
      have c0 : wr.cell? ⟨b, off + k * 4, none⟩ = some (.int .i64 x0) := (hb.cell hlb).trans (by have hh := hc 0 (by simp); rw [show Ty.n tAct = 4 from rfl] at hh; simpa using hh)
      have c1 : wr.cell? ⟨b, off + k * 4 + 1, none⟩ = some (.int .i64 x1) := (hb.cell hlb).trans (by have hh := hc 1 (by simp); rw [show Ty.n tAct = 4 from rfl] at hh; simpa using hh)
      have c2 : wr.cell? ⟨b, off + k * 4 + 2, none⟩ = some (.int .i64 x2) := (hb.cell hlb).trans (by have hh := hc 2 (by simp); rw [show Ty.n tAct = 4 from rfl] at hh; simpa using hh)
      have c3 : wr.cell? ⟨b, off + k * 4 + 3, none⟩ = some (.bool x3) := (hb.cell hlb).trans (by have hh := hc 3 (by simp); rw [show Ty.n tAct = 4 from rfl] at hh; simpa using hh)
      have d0 : wr.cell? ⟨b2, off2 + k * 4, none⟩ = some (.int .i64 x0) := (hb.cell hlb2).trans (by have hh := hc2 0 (by simp); rw [show Ty.n tAct = 4 from rfl] at hh; simpa using hh)
      have d1 : wr.cell? ⟨b2, off2 + k * 4 + 1, none⟩ = some (.int .i64 x1) := (hb.cell hlb2).trans (by have hh := hc2 1 (by simp); rw [show Ty.n tAct = 4 from rfl] at hh; simpa using hh)
      have d2 : wr.cell? ⟨b2, off2 + k * 4 + 2, none⟩ = some (.int .i64 x2) := (hb.cell hlb2).trans (by have hh := hc2 2 (by simp); rw [show Ty.n tAct = 4 from rfl] at hh; simpa using hh)
      have d3 : wr.cell? ⟨b2, off2 + k * 4 + 3, none⟩ = some (.bool x3) := (hb.cell hlb2).trans (by have hh := hc2 3 (by simp); rw [show Ty.n tAct = 4 from rfl] at hh; simpa using hh)
      have HR := Lib.hid hR0; have HR2 := Lib.hid hR20
      clear h h' hc hc2 hx hcs hcs2 hR0 hR20
      go_wp2
      go_still_tail 8, (by kernel_rfl)
      change wpList _ _ _ _ _ wr.drew
      have hb2 : Below w.heap.size w wr.drew := hb.drew
      generalize wr.drew = w2 at hb2 HR HR2 ⊢
      go_wp2_with fail
      refine (eqAct_any _ _ (x0, ((x1, x2), x3)) _ (by exact HR.out) (by exact HR2.out)).mono ?_
      rintro e w3 ⟨rfl, b3⟩
      go_wp2
      go_roundw
      case rel => exact ⟨k + 1, by omega, by go_num, hb2.trans (b3.mono hb2.size)⟩
      case measure => simp [intOf]; omega
    · clear h h'
      go_wp2
      go_ret
      exact ⟨rfl, hb⟩

set_option maxHeartbeats 1000000 in
set_option maxRecDepth 100000 in
theorem markActS_any (p : Option Addr) (len cap : Nat) (k0 : Int) (l : List tAct.D) (bl : List Nat) (w : World) (h : rep (.slice 120 tAct) w [.slice p len cap] l bl) (hnd : bl.Nodup) (h0 : 0 ≤ k0) (h1 : k0 + (cnt (.slice 120 tAct) l : Nat) ≤ 1000000000000) :
    Calls Try.prog 43 #[.slice p len cap, .int .i64 k0] w (RetMk (.slice 120 tAct) w [.slice p len cap] (mk (.slice 120 tAct) l k0) bl (k0 + (cnt (.slice 120 tAct) l : Nat))) := by
  obtain ⟨rfl, hmx⟩ := rep_len h
  have HL := Lib.hid (mk_length (e := 120) (t := tAct) l k0)
  have hcn : cnt (.slice 120 tAct) l = l.length * 4 := by rw [cnt_slice]; clear h h1 HL hmx; induction l with
    | nil => rfl
    | cons a m ih => rw [List.map_cons, List.sum_cons, ih, List.length_cons]; show (1 + ((1 + 1) + 1)) + _ = _; omega
  have hct : ∀ k, k ≤ l.length → ((l.take k).map (cnt tAct)).sum = k * 4 := fun k hk => by
    have : ∀ m : List tAct.D, (m.map (cnt tAct)).sum = m.length * 4 := fun m => by induction m with
      | nil => rfl
      | cons a m ih => rw [List.map_cons, List.sum_cons, ih, List.length_cons]; show (1 + ((1 + 1) + 1)) + _ = _; omega
    rw [this, List.length_take, Nat.min_eq_left hk]
  have HCN := Lib.hid hcn; have HCT := Lib.hid hct
  rw [hcn] at h1
  clear hcn hct
  unfold maxLen at hmx
  go_enter Try.func43, Try.ntmps43
  go_wp2
  go_loopw [1, 5] (fun q i wr => ∃ k : Nat, k ≤ l.length ∧ i = .int .i64 k ∧ (∃ kk : Int, q = .int .i64 kk ∧ kk = k0 + k * 4 ∧ 0 ≤ kk ∧ kk ≤ 1000000000000) ∧ Only bl w wr ∧ rep (.slice 120 tAct) wr [.slice p l.length cap] ((mk (.slice 120 tAct) l k0 : List tAct.D).take k ++ l.drop k) bl) (fun _ i _ => l.length - (intOf i).toNat)
  case atStart => exact ⟨0, by omega, rfl, ⟨_, rfl, by simp, by omega, by omega⟩, Only.refl _ _, by simpa using h⟩
  case round =>
    obtain ⟨k, hk, rfl, ⟨kk, rfl, hkk, hk0, hk1⟩, hb, hf⟩ := hrel
    clear h
    by_cases hlt : k < l.length
    · have hkl : k < ((mk (.slice 120 tAct) l k0 : List tAct.D).take k ++ l.drop k).length := by simp only [List.length_append, List.length_take, List.length_drop, HL.out]; omega
      obtain ⟨b, cap', c, bk, hv, hbm, -, hfz, hcl, hc, hR, hU⟩ := rep_lens_all hf hnd k hkl
      simp only [Value.slice.injEq] at hv
      obtain ⟨rfl, -, -⟩ := hv
      have e0 : wr.cell? ⟨b, k * 4, none⟩ = some (c[0]'(by rw [hcl]; decide)) := by simpa [Ty.n] using hc 0 (by rw [hcl]; decide)
      have g0 : wr.frozen? ⟨b, k * 4, none⟩ = false := hfz _
      have e1 : wr.cell? ⟨b, k * 4 + 1, none⟩ = some (c[1]'(by rw [hcl]; decide)) := by simpa [Ty.n] using hc 1 (by rw [hcl]; decide)
      have g1 : wr.frozen? ⟨b, k * 4 + 1, none⟩ = false := hfz _
      have e2 : wr.cell? ⟨b, k * 4 + 2, none⟩ = some (c[2]'(by rw [hcl]; decide)) := by simpa [Ty.n] using hc 2 (by rw [hcl]; decide)
      have g2 : wr.frozen? ⟨b, k * 4 + 2, none⟩ = false := hfz _
      have e3 : wr.cell? ⟨b, k * 4 + 3, none⟩ = some (c[3]'(by rw [hcl]; decide)) := by simpa [Ty.n] using hc 3 (by rw [hcl]; decide)
      have g3 : wr.frozen? ⟨b, k * 4 + 3, none⟩ = false := hfz _
      have hbk : bk = [] := by
        obtain ⟨_, _, _, _, _, rfl, ⟨_, _, rfl⟩, ⟨_, _, _, _, _, rfl, ⟨_, _, _, _, _, rfl, ⟨_, _, rfl⟩, ⟨_, _, rfl⟩⟩, ⟨_, rfl⟩⟩⟩ := hR; rfl
      subst hbk
      have hkub : kk + 4 ≤ 1000000000000 := by omega
      have HU := Lib.hid (hU [.int .i64 (kk), .int .i64 (kk + 1), .int .i64 (kk + 1 + 1), .bool ((kk + 1 + 1 + 1) % 3 == 0)] ((kk), (((kk + 1), (kk + 1 + 1)), ((kk + 1 + 1 + 1) % 3 == 0))) rfl ⟨[_], [_, _, _], [], [], rfl, rfl, ⟨rfl, wf_i64 (by constructor <;> dsimp only <;> omega), rfl⟩, ⟨[_, _], [_], [], [], rfl, rfl, ⟨[_], [_], [], [], rfl, rfl, ⟨rfl, wf_i64 (by constructor <;> dsimp only <;> omega), rfl⟩, ⟨rfl, wf_i64 (by constructor <;> dsimp only <;> omega), rfl⟩⟩, ⟨rfl, rfl⟩⟩⟩)
      have HM := Lib.hid (mk_get (e := 120) (t := tAct) l k0 k hlt (by rw [HL.out]; exact hlt))
      have HK := Lib.hid hkk
      clear hU hc hfz hf hkk hR
      go_wp2
      go_roundw
      case rel =>
        refine ⟨k + 1, by omega, by go_num, ⟨_, rfl, by have := HK.out; omega, by omega, by omega⟩, (by (repeat' refine Only.setCell ?_ hbm _); exact hb), ?_⟩
        have h2 := HU.out
        have h3 := HM.out
        rw [HCT.out k hk] at h3
        have h4 : k0 + ((k * 4 : Nat) : Int) = kk := by have := HK.out; omega
        rw [h4] at h3
        rw [set_mix _ _ _ hlt HL.out _ (h3.trans (by simp only [mk, cnt, Prod.mk.injEq]; refine ⟨?_, ?_⟩ <;> simp [Int.add_assoc] <;> rfl))] at h2
        exact h2
      case measure => simp [intOf]; omega
    · have HK := Lib.hid hkk; clear hkk
      go_wp2
      go_ret
      obtain rfl : k = l.length := by omega
      refine ⟨ret_int (by rw [HCN.out]; have := HK.out; omega), ?_, hb⟩
      have e1 : (mk (.slice 120 tAct) l k0 : List tAct.D).take l.length ++ l.drop l.length = mk (.slice 120 tAct) l k0 := by
        rw [List.drop_length, List.append_nil, List.take_of_length_le (by rw [HL.out]; exact Nat.le_refl _)]
      rw [e1] at hf
      exact hf


end Go.Proofs.Yteejpennjkihaaa
