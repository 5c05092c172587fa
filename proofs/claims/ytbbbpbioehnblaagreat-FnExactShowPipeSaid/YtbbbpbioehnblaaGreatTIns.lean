/- The laws' own helpers over Ins: copy, compare, count, mark, look at the marks. -/
import Derived.Test.YtbbbpbioehnblaaGreatCe
namespace Go.Proofs.YtbbbpbioehnblaaGreat
open Go.ChangeShapes Go.WideShapes Go.ChangeAt Go.RowKit
set_option linter.unusedVariables false
set_option linter.unusedSimpArgs false
theorem fmIns {w : World} {cs : List Value} {x0 : Ty.D tInt} {x1 : Ty.D tInt} (h : rd tIns w cs (x0, x1)) :
    cs = [.int .i64 x0, .int .i64 x1] ∧ (Lit.int .i64 x0).wf = true ∧ (Lit.int .i64 x1).wf = true := by
  obtain ⟨_, _, hcs, ⟨rfl, w0⟩, ⟨rfl, w1⟩⟩ := h
  exact ⟨hcs, w0, w1⟩

set_option maxHeartbeats 1000000 in
set_option maxRecDepth 100000 in
theorem toIns_any (cs : Array Value) (d : tIns.D) (w : World) (h : rd tIns w cs.toList d) (hz : szT tIns d ≤ 1048576) :
    Calls Tryz.prog 161 #[.agg cs] w (RetAg tIns w d) := by
  obtain ⟨x0, x1⟩ := d
  obtain ⟨hcs, w0, w1⟩ := fmIns h
  obtain rfl : cs = #[.int .i64 x0, .int .i64 x1] := arr_of hcs
  clear hz hcs
  go_enter Tryz.func161, Tryz.ntmps161
  go_wp2
  refine bodyPost_ret (v := .agg #[.int .i64 x0, .int .i64 x1]) (by simp [results, Tryz.results161, go_sem]) rfl ⟨_, rfl, ?_, ?_⟩
  · refine FrIn.pair (c1 := [_]) (c2 := [_]) (mid := w.heap.size) ?_ ?_ fcx fcx
    · exact FrIn.int w0 fcx
    · exact FrIn.int w1 fcx
  · exact belx

set_option maxHeartbeats 1000000 in
set_option maxRecDepth 100000 in
theorem toInsS_any (p : Option Addr) (len cap : Nat) (l : List tIns.D) (w : World) (h : SlRd tIns.n (rd tIns w) w p len cap l) (hz : szT (.slice 116 tIns) l ≤ 1048576) :
    Calls Tryz.prog 128 #[.slice p len cap] w (RetSl 116 tIns w l) := by
  obtain rfl := h.lens
  rw [szT_slice] at hz
  have hlen : l.length ≤ 1048576 := by omega
  have hmk := run_make_fr Tryz.prog 50 116 (.agg #[.int .i64 0, .int .i64 0]) 16 tIns Tryz.underlying50 (by kernel_rfl) rfl l.length (by omega) (by omega)
  go_enter Tryz.func128, Tryz.ntmps128
  go_wp2
  go_loopw [4] (fun i wr => ∃ k : Nat, k ≤ l.length ∧ i = .int .i64 k ∧ Below w.heap.size w wr ∧ FrIn (.slice 116 tIns) w.heap.size wr.heap.size wr [.slice (some ⟨w.heap.size, 0, none⟩) l.length l.length] (l.take k ++ List.replicate (l.length - k) (zeroD tIns))) (fun i _ => l.length - (intOf i).toNat)
  case atStart => exact ⟨0, by omega, rfl, (Below.refl _ _).alloc (Nat.le_refl _) _, (FrIn.made w tIns _ l.length (by simp [maxLen]; omega)).mono (Nat.le_refl _) (by simp) (Nat.le_refl _)⟩
  case round =>
    obtain ⟨k, hk, rfl, hb, hf⟩ := hrel
    by_cases hlt : k < l.length
    · obtain ⟨b, off, rfl, hlb, cs, hcs, hc, hR⟩ := h.2.2.2.2 k hlt
      have hzk := sum_get_le (szT tIns) l k hlt
      obtain ⟨x, hx⟩ : ∃ x, l[k] = x := ⟨_, rfl⟩
      rw [hx] at hR hzk
      have hR0 : rd tIns wr cs x := rd_mono (fun q hq => hb.block q hq) _ _ _ hR
      obtain ⟨x0, x1⟩ := x
      obtain ⟨rfl, w0, w1⟩ := fmIns hR
      have c0 : wr.cell? ⟨b, off + k * 2, none⟩ = some (.int .i64 x0) := (hb.cell hlb).trans (by have hh := hc 0 (by simp); rw [show Ty.n tIns = 2 from rfl] at hh; simpa using hh)
      have c1 : wr.cell? ⟨b, off + k * 2 + 1, none⟩ = some (.int .i64 x1) := (hb.cell hlb).trans (by have hh := hc 1 (by simp); rw [show Ty.n tIns = 2 from rfl] at hh; simpa using hh)
      obtain ⟨b', cap', hv, _, hbl, hfz, c, hcl, hcc, _⟩ := hf.at k (by simp; omega)
      simp only [Value.slice.injEq, Option.some.injEq, Addr.mk.injEq, and_true] at hv
      obtain ⟨rfl, -, rfl⟩ := hv
      have HF := Lib.hid hf; have HX := Lib.hid hx
      have e0 : wr.cell? ⟨w.heap.size, k * 2, none⟩ = some (c[0]'(by rw [hcl]; decide)) := by simpa [Ty.n] using hcc 0 (by rw [hcl]; decide)
      have g0 : wr.frozen? ⟨w.heap.size, k * 2, none⟩ = false := hfz _
      have e1 : wr.cell? ⟨w.heap.size, k * 2 + 1, none⟩ = some (c[1]'(by rw [hcl]; decide)) := by simpa [Ty.n] using hcc 1 (by rw [hcl]; decide)
      have g1 : wr.frozen? ⟨w.heap.size, k * 2 + 1, none⟩ = false := hfz _
      clear h hc hcc hfz hf hx
      go_wp2_with fail
      refine (toIns_any _ (x0, x1) _ (by exact hR0) (by omega)).mono ?_
      rintro e w1 ⟨cs1, rfl, f1, b1⟩
      have rr := f1.rd
      obtain ⟨rhcs, rw0, rw1⟩ := fmIns rr
      obtain rfl : cs1 = #[.int .i64 x0, .int .i64 x1] := arr_of rhcs
      have e0' : w1.cell? ⟨w.heap.size, k * 2, none⟩ = some (c[0]'(by rw [hcl]; decide)) := (b1.cell hbl).trans e0
      have g0' : w1.frozen? ⟨w.heap.size, k * 2, none⟩ = false := (b1.frozen hbl).trans g0
      have e1' : w1.cell? ⟨w.heap.size, k * 2 + 1, none⟩ = some (c[1]'(by rw [hcl]; decide)) := (b1.cell hbl).trans e1
      have g1' : w1.frozen? ⟨w.heap.size, k * 2 + 1, none⟩ = false := (b1.frozen hbl).trans g1
      clear e0 g0 c0 e1 g1 c1 rhcs
      go_wp2
      go_roundw
      case rel =>
        refine ⟨k + 1, by omega, by go_num, ?_, ?_⟩
        · (repeat' first | refine Below.setCell ?_ fcx _); exact hb.trans (b1.mono hb.size)
        · have h1 := (HF.out.below b1 (Nat.le_refl _)).set k (by simp; omega) hb.size b1.size (x := l[k]) (by rw [HX.out]; exact f1)
          rw [set_zero l (zeroD tIns) k hlt] at h1
          refine FrIn.mono (hi := w1.heap.size) ?_ (Nat.le_refl _) fcx (Nat.le_refl _)
          exact h1
      case measure => simp [intOf]; omega
    · clear h
      go_wp2
      go_ret
      obtain rfl : k = l.length := by omega
      exact ⟨_, _, rfl, by simpa using hf, hb⟩

set_option maxHeartbeats 1000000 in
set_option maxRecDepth 100000 in
theorem szInsS_any (p : Option Addr) (len cap : Nat) (l : List tIns.D) (left : Int) (w : World) (h : SlRd tIns.n (rd tIns w) w p len cap l) (h0 : 0 ≤ left) (h2 : left ≤ 9223372036854775807) :
    Calls Tryz.prog 120 #[.slice p len cap, .int .i64 left] w (RetV (.int .i64 (szR left (szT (.slice 116 tIns) l))) w) := by
  have hm : len ≤ maxLen := Nat.le_trans h.2.1 h.2.2.1
  obtain rfl := h.lens
  unfold maxLen at hm
  have hz : szT (.slice 116 tIns) l = l.length := by rw [szT_slice, sum_zero _ _ (fun x => by simp [szT])]; omega
  rw [hz]
  clear h hz
  by_cases hc : (l.length : Int) ≤ left
  · have hc2 : ¬ (left - l.length < 0) := by omega
    go_enter Tryz.func120, Tryz.ntmps120
    go_wp2
    go_ret
    exact ⟨ret_int (by unfold szR; rw [if_pos (by omega)]), Below.refl _ _⟩
  · have hc2 :  (left - l.length < 0) := by omega
    go_enter Tryz.func120, Tryz.ntmps120
    go_wp2
    go_ret
    exact ⟨ret_int (by unfold szR; rw [if_neg (by omega)]), Below.refl _ _⟩

theorem szInsS_ok (p : Option Addr) (len cap : Nat) (l : List tIns.D) (left : Int) (w : World) (ha : SlRd tIns.n (rd tIns w) w p len cap l) (h0 : 0 ≤ left) (h2 : left ≤ 9223372036854775807) (h : ((szT (.slice 116 tIns) l : Nat) : Int) ≤ left) :
    Calls Tryz.prog 120 #[.slice p len cap, .int .i64 left] w (RetV (.int .i64 (left - (szT (.slice 116 tIns) l : Nat))) w) := by
  have := szInsS_any p len cap l left w ha h0 h2
  rwa [szR_pos h] at this
theorem szInsS_no (p : Option Addr) (len cap : Nat) (l : List tIns.D) (left : Int) (w : World) (ha : SlRd tIns.n (rd tIns w) w p len cap l) (h0 : 0 ≤ left) (h2 : left ≤ 9223372036854775807) (h : ¬ ((szT (.slice 116 tIns) l : Nat) : Int) ≤ left) :
    Calls Tryz.prog 120 #[.slice p len cap, .int .i64 left] w (RetV (.int .i64 (-1)) w) := by
  have := szInsS_any p len cap l left w ha h0 h2
  rwa [szR_neg h] at this

set_option maxHeartbeats 1000000 in
set_option maxRecDepth 100000 in
theorem eqIns_any (ca cb : Array Value) (d : tIns.D) (w : World) (ha : rd tIns w ca.toList d) (hb : rd tIns w cb.toList d) :
    Calls Tryz.prog 167 #[.agg ca, .agg cb] w (RetV (.bool true) w) := by
  obtain ⟨x0, x1⟩ := d
  obtain ⟨ahcs, aw0, aw1⟩ := fmIns ha
  obtain ⟨bhcs, bw0, bw1⟩ := fmIns hb
  obtain rfl : ca = #[.int .i64 x0, .int .i64 x1] := arr_of ahcs
  obtain rfl : cb = #[.int .i64 x0, .int .i64 x1] := arr_of bhcs
  clear ahcs bhcs
  go_enter Tryz.func167, Tryz.ntmps167
  go_wp2
  go_ret
  exact ⟨rfl, belx⟩

set_option maxHeartbeats 1000000 in
set_option maxRecDepth 100000 in
theorem eqInsS_any (p q : Option Addr) (len cap len' cap' : Nat) (l : List tIns.D) (w : World) (h : SlRd tIns.n (rd tIns w) w p len cap l) (h' : SlRd tIns.n (rd tIns w) w q len' cap' l) :
    Calls Tryz.prog 137 #[.slice p len cap, .slice q len' cap'] w (RetV (.bool true) w) := by
  obtain rfl := h.lens
  obtain rfl := h'.lens
  have hmx : l.length ≤ maxLen := by have := h.2.1; have := h.2.2.1; omega
  unfold maxLen at hmx
  go_enter Tryz.func137, Tryz.ntmps137
  go_wp2
  go_loopw [5] (fun i wr => ∃ k : Nat, k ≤ l.length ∧ i = .int .i64 k ∧ Below w.heap.size w wr) (fun i _ => l.length - (intOf i).toNat)
  case atStart => exact ⟨0, by omega, rfl, Below.refl _ _⟩
  case round =>
    obtain ⟨k, hk, rfl, hb⟩ := hrel
    by_cases hlt : k < l.length
    · obtain ⟨b, off, rfl, hlb, cs, hcs, hc, hR⟩ := h.2.2.2.2 k hlt
      obtain ⟨b2, off2, rfl, hlb2, cs2, hcs2, hc2, hR2⟩ := h'.2.2.2.2 k hlt
      obtain ⟨x, hx⟩ : ∃ x, l[k] = x := ⟨_, rfl⟩
      rw [hx] at hR hR2
      have hR0 : rd tIns wr.drew cs x := rd_mono (fun q hq => hb.block q hq) _ _ _ hR
      have hR20 : rd tIns wr.drew cs2 x := rd_mono (fun q hq => hb.block q hq) _ _ _ hR2
      obtain ⟨x0, x1⟩ := x
      obtain ⟨rfl, aw0, aw1⟩ := fmIns hR
      obtain ⟨rfl, bw0, bw1⟩ := fmIns hR2
      have c0 : wr.cell? ⟨b, off + k * 2, none⟩ = some (.int .i64 x0) := (hb.cell hlb).trans (by have hh := hc 0 (by simp); rw [show Ty.n tIns = 2 from rfl] at hh; simpa using hh)
      have c1 : wr.cell? ⟨b, off + k * 2 + 1, none⟩ = some (.int .i64 x1) := (hb.cell hlb).trans (by have hh := hc 1 (by simp); rw [show Ty.n tIns = 2 from rfl] at hh; simpa using hh)
      have d0 : wr.cell? ⟨b2, off2 + k * 2, none⟩ = some (.int .i64 x0) := (hb.cell hlb2).trans (by have hh := hc2 0 (by simp); rw [show Ty.n tIns = 2 from rfl] at hh; simpa using hh)
      have d1 : wr.cell? ⟨b2, off2 + k * 2 + 1, none⟩ = some (.int .i64 x1) := (hb.cell hlb2).trans (by have hh := hc2 1 (by simp); rw [show Ty.n tIns = 2 from rfl] at hh; simpa using hh)
      have HR := Lib.hid hR0; have HR2 := Lib.hid hR20
      clear h h' hc hc2 hx hcs hcs2 hR0 hR20
      go_wp2
      go_still_tail 8, (by kernel_rfl)
      change wpList _ _ _ _ _ wr.drew
      have hb2 : Below w.heap.size w wr.drew := hb.drew
      generalize wr.drew = w2 at hb2 HR HR2 ⊢
      go_wp2_with fail
      refine (eqIns_any _ _ (x0, x1) _ (by exact HR.out) (by exact HR2.out)).mono ?_
      rintro e w3 ⟨rfl, b3⟩
      go_wp2
      go_roundw
      case rel => exact ⟨k + 1, by omega, by go_num, hb2.trans (b3.mono hb2.size)⟩
      case measure => simp [intOf]; omega
    · clear h h'
      go_wp2
      go_ret
      exact ⟨rfl, hb⟩

end Go.Proofs.YtbbbpbioehnblaaGreat
