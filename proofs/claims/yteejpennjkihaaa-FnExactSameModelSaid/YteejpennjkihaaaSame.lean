/- Are two vectors, operations, models alike? -/
import Derived.Test.YteejpennjkihaaaTOp
import Derived.Test.YteejpennjkihaaaTModel
namespace Go.Proofs.Yteejpennjkihaaa
open Go.ChangeShapes Go.WideShapes Go.ChangeAt Go.RowKit
set_option linter.unusedVariables false
set_option linter.unusedSimpArgs false

instance decOp : DecidableEq tOp.D := inferInstanceAs (DecidableEq (Int × Int × Int × List Int))
instance decModel : DecidableEq tModel.D := inferInstanceAs (DecidableEq (List (Int × Int × Int × List Int)))

set_option maxRecDepth 100000 in
theorem implSameVec_any (p q : Option Addr) (n1 c1 n2 c2 : Nat) (a b : List Int) (w : World) (h : SlRd 1 (rd tInt w) w p n1 c1 a) (h' : SlRd 1 (rd tInt w) w q n2 c2 b) :
    Calls Try.prog 128 #[.slice p n1 c1, .slice q n2 c2] w (RetV (.bool (decide (a = b))) w) := by
  have hm1 : n1 ≤ maxLen := Nat.le_trans h.2.1 h.2.2.1
  have hm2 : n2 ≤ maxLen := Nat.le_trans h'.2.1 h'.2.2.1
  obtain rfl := h.lens
  obtain rfl := h'.lens
  unfold maxLen at hm1 hm2
  by_cases hl : a.length = b.length
  · have HL := Lib.hid hl
    have hle := Nat.le_of_eq hl; have hge := Nat.le_of_eq hl.symm
    have hbb : ((a.length : Int) != (b.length : Int)) = false := by simp [hl]
    clear hl
    go_enter Try.func128, Try.ntmps128
    go_wp2
    go_loopw [5, 13] (fun _ i wr => ∃ k : Nat, k ≤ a.length ∧ i = .int .i64 k ∧ Hid (a.take k = b.take k) ∧ Below w.heap.size w wr) (fun _ i _ => a.length - (intOf i).toNat)
    case atStart => exact ⟨0, by omega, rfl, rfl, Below.refl _ _⟩
    case round =>
      obtain ⟨k, hk, rfl, he, hb⟩ := hrel
      by_cases hlt : k < a.length
      · have hlt2 : k < b.length := by omega
        obtain ⟨b1, o1, rfl, hlb, hc, -, -⟩ := int_at h k hlt
        obtain ⟨b2, o2, rfl, hlb2, hc2, -, -⟩ := int_at h' k hlt2
        have e1 := (hb.cell hlb).trans hc
        have e2 := (hb.cell hlb2).trans hc2
        have HS : Hid (a[k] = b[k] → a.take (k + 1) = b.take (k + 1)) := fun hh => by rw [List.take_succ_eq_append_getElem hlt, List.take_succ_eq_append_getElem hlt2, he.out, hh]
        have HN : Hid (a[k] ≠ b[k] → a ≠ b) := fun hh e => hh (by subst e; rfl)
        clear h h' hc hc2
        generalize a[k] = x at *
        generalize b[k] = y at *
        by_cases hxy : x = y
        · subst hxy
          have HE := Lib.hid (HS.out rfl)
          clear HS HN
          go_wp2
          go_quiet (fail)
          go_wp2
          go_roundw
          case rel => exact ⟨k + 1, by omega, by go_num, HE, below_drewN hb _⟩
          case measure => simp [intOf]; omega
        · have hne := HN.out hxy
          have hb' : (x != y) = true := by simpa using hxy
          have HX := Lib.hid hne
          clear hxy hne
          go_wp2
          go_quiet (fail)
          go_wp2
          go_ret
          exact ⟨ret_bool (by rw [decide_eq_false HX.out]), below_drewN hb _⟩
      · clear h h'
        go_wp2
        go_ret
        refine ⟨ret_bool ?_, hb⟩
        have := he.out
        have hl := HL.out
        rw [List.take_of_length_le (by omega), List.take_of_length_le (by omega)] at this
        rw [decide_eq_true this]
  · have HL := Lib.hid hl
    have hbb : ((a.length : Int) != (b.length : Int)) = true := by simp; omega
    clear hl
    go_enter Try.func128, Try.ntmps128
    go_wp2
    go_ret
    exact ⟨ret_bool (by rw [decide_eq_false (fun e => HL.out (by rw [e]))]), Below.refl _ _⟩

set_option maxRecDepth 100000 in
set_option maxHeartbeats 1000000 in
theorem implSameOp_any (ca cb : Array Value) (x y : tOp.D) (w : World) (ha : rd tOp w ca.toList x) (hb : rd tOp w cb.toList y) :
    Calls Try.prog 99 #[.agg ca, .agg cb] w (RetV (.bool (decide (x = y))) w) := by
  obtain ⟨x0, x1, x2, x3⟩ := x
  obtain ⟨y0, y1, y2, y3⟩ := y
  obtain ⟨_, _, ahcs, ⟨rfl, aw0⟩, _, _, rfl, ⟨rfl, aw1⟩, _, _, rfl, ⟨rfl, aw2⟩, ap, an, aq, rfl, asl⟩ := ha
  obtain ⟨_, _, bhcs, ⟨rfl, bw0⟩, _, _, rfl, ⟨rfl, bw1⟩, _, _, rfl, ⟨rfl, bw2⟩, bp, bn, bq, rfl, bsl⟩ := hb
  obtain rfl : ca = #[.int .i64 x0, .int .i64 x1, .int .i64 x2, .slice ap an aq] := arr_of ahcs
  obtain rfl : cb = #[.int .i64 y0, .int .i64 y1, .int .i64 y2, .slice bp bn bq] := arr_of bhcs
  clear ahcs bhcs aw0 aw1 aw2 bw0 bw1 bw2
  have HS := Lib.hid asl; have HS2 := Lib.hid bsl
  by_cases h0 : x0 = y0
  · subst h0
    by_cases h1 : x1 = y1
    · subst h1
      by_cases h2 : x2 = y2
      · subst h2
        clear asl bsl
        go_enter Try.func99, Try.ntmps99
        go_wp2_with fail
        refine (implSameVec_any _ _ _ _ _ _ x3 y3 _ (by exact SlRd.below (t := tInt) HS.out (((Below.refl _ _).alloc (Nat.le_refl _) _).alloc (by simp) _)) (by exact SlRd.below (t := tInt) HS2.out (((Below.refl _ _).alloc (Nat.le_refl _) _).alloc (by simp) _))).mono ?_
        rintro e w1 ⟨rfl, b1⟩
        go_wp2
        all_goals go_ret
        all_goals exact ⟨ret_bool (by simp_all), Below.trans (((Below.refl _ _).alloc (Nat.le_refl _) _).alloc (by simp) _) (b1.mono (by simp; omega))⟩
      · have hb' : (x2 == y2) = false := by simpa using h2
        have H2 := Lib.hid h2
        clear h2 asl bsl
        go_enter Try.func99, Try.ntmps99
        go_wp2
        go_ret
        exact ⟨ret_bool (by have := H2.out; simp [this]), ((Below.refl _ _).alloc (Nat.le_refl _) _).alloc (by simp) _⟩
    · have hb' : (x1 == y1) = false := by simpa using h1
      have H1 := Lib.hid h1
      clear h1 asl bsl
      go_enter Try.func99, Try.ntmps99
      go_wp2
      go_ret
      exact ⟨ret_bool (by have := H1.out; simp [this]), ((Below.refl _ _).alloc (Nat.le_refl _) _).alloc (by simp) _⟩
  · have hb' : (x0 == y0) = false := by simpa using h0
    have H0 := Lib.hid h0
    clear h0 asl bsl
    go_enter Try.func99, Try.ntmps99
    go_wp2
    go_ret
    exact ⟨ret_bool (by have := H0.out; simp [this]), ((Below.refl _ _).alloc (Nat.le_refl _) _).alloc (by simp) _⟩

set_option maxRecDepth 100000 in
set_option maxHeartbeats 2000000 in
theorem implSameModel_any (ca cb : Array Value) (a b : tModel.D) (w : World) (ha : rd tModel w ca.toList a) (hb : rd tModel w cb.toList b) :
    Calls Try.prog 54 #[.agg ca, .agg cb] w (RetV (.bool (decide (a = b))) w) := by
  obtain ⟨p, n1, c1, ahcs, h⟩ := ha
  obtain ⟨q, n2, c2, bhcs, h'⟩ := hb
  obtain rfl : ca = #[.slice p n1 c1] := arr_of ahcs
  obtain rfl : cb = #[.slice q n2 c2] := arr_of bhcs
  clear ahcs bhcs
  have hm1 : n1 ≤ maxLen := Nat.le_trans h.2.1 h.2.2.1
  have hm2 : n2 ≤ maxLen := Nat.le_trans h'.2.1 h'.2.2.1
  obtain rfl := h.lens
  obtain rfl := h'.lens
  unfold maxLen at hm1 hm2
  by_cases hl : List.length a = List.length b
  · have HL := Lib.hid hl
    have hle := Nat.le_of_eq hl; have hge := Nat.le_of_eq hl.symm
    have hbb : ((List.length a : Int) != (List.length b : Int)) = false := by simp [hl]
    clear hl
    go_enter Try.func54, Try.ntmps54
    go_wp2
    go_loopw [5, 16] (fun _ i wr => ∃ k : Nat, k ≤ List.length a ∧ i = .int .i64 k ∧ Hid (List.take k a = List.take k b) ∧ Below w.heap.size w wr ∧ w.heap.size + 1 < wr.heap.size ∧ wr.cell? ⟨w.heap.size, 0, none⟩ = some (.slice p (List.length a) c1) ∧ wr.cell? ⟨w.heap.size + 1, 0, none⟩ = some (.slice q (List.length b) c2)) (fun _ i _ => List.length a - (intOf i).toNat)
    case atStart => exact ⟨0, by omega, rfl, rfl, ((Below.refl _ _).alloc (Nat.le_refl _) _).alloc (by simp) _, by simp, by simp, by simp⟩
    case round =>
      obtain ⟨k, hk, rfl, he, hb, hsz, x1, x2⟩ := hrel
      by_cases hlt : k < List.length a
      · have hlt2 : k < List.length b := by omega
        obtain ⟨b1, o1, rfl, hlb, cs, hcs, hc, hR⟩ := h.2.2.2.2 k hlt
        obtain ⟨b2, o2, rfl, hlb2, cs2, hcs2, hc2, hR2⟩ := h'.2.2.2.2 k hlt2
        have hR0 : rd tOp wr.drew cs a[k] := rd_mono (fun q hq => hb.block q hq) _ _ _ hR
        have hR20 : rd tOp wr.drew cs2 b[k] := rd_mono (fun q hq => hb.block q hq) _ _ _ hR2
        have HS : Hid (a[k] = b[k] → List.take (k + 1) a = List.take (k + 1) b) := fun hh => by rw [List.take_succ_eq_append_getElem hlt, List.take_succ_eq_append_getElem hlt2, he.out, hh]
        have HN : Hid (a[k] ≠ b[k] → a ≠ b) := fun hh e => hh (by subst e; rfl)
        obtain ⟨x, hx⟩ : ∃ x, a[k] = x := ⟨_, rfl⟩
        obtain ⟨y, hy⟩ : ∃ y, b[k] = y := ⟨_, rfl⟩
        rw [hx] at hR hR0 HS HN
        rw [hy] at hR2 hR20 HS HN
        have HR := Lib.hid hR0; have HR2 := Lib.hid hR20
        obtain ⟨x0, xa, xb, x3⟩ := x
        obtain ⟨y0, ya, yb, y3⟩ := y
        obtain ⟨_, _, rfl, ⟨rfl, _⟩, _, _, rfl, ⟨rfl, _⟩, _, _, rfl, ⟨rfl, _⟩, ap, an, aq, rfl, asl⟩ := hR
        obtain ⟨_, _, rfl, ⟨rfl, _⟩, _, _, rfl, ⟨rfl, _⟩, _, _, rfl, ⟨rfl, _⟩, bp, bn, bq, rfl, bsl⟩ := hR2
        have e10 : wr.cell? ⟨b1, o1 + k * 4, none⟩ = some (.int .i64 x0) := (hb.cell hlb).trans (hc 0 (by simp))
        have e11 : wr.cell? ⟨b1, o1 + k * 4 + 1, none⟩ = some (.int .i64 xa) := (hb.cell hlb).trans (hc 1 (by simp))
        have e12 : wr.cell? ⟨b1, o1 + k * 4 + 2, none⟩ = some (.int .i64 xb) := (hb.cell hlb).trans (hc 2 (by simp))
        have e13 : wr.cell? ⟨b1, o1 + k * 4 + 3, none⟩ = some (.slice ap an aq) := (hb.cell hlb).trans (hc 3 (by simp))
        have e20 : wr.cell? ⟨b2, o2 + k * 4, none⟩ = some (.int .i64 y0) := (hb.cell hlb2).trans (hc2 0 (by simp))
        have e21 : wr.cell? ⟨b2, o2 + k * 4 + 1, none⟩ = some (.int .i64 ya) := (hb.cell hlb2).trans (hc2 1 (by simp))
        have e22 : wr.cell? ⟨b2, o2 + k * 4 + 2, none⟩ = some (.int .i64 yb) := (hb.cell hlb2).trans (hc2 2 (by simp))
        have e23 : wr.cell? ⟨b2, o2 + k * 4 + 3, none⟩ = some (.slice bp bn bq) := (hb.cell hlb2).trans (hc2 3 (by simp))
        clear h h' hc hc2 hx hy hcs hcs2 hR0 hR20 asl bsl
        go_wp2
        go_still_tail 10, (by kernel_rfl)
        change wpList _ _ _ _ _ wr.drew
        have hb2 : Below w.heap.size w wr.drew := hb.drew
        have x1' : wr.drew.cell? ⟨w.heap.size, 0, none⟩ = some (.slice (some ⟨b1, o1, none⟩) (List.length a) c1) := x1
        have x2' : wr.drew.cell? ⟨w.heap.size + 1, 0, none⟩ = some (.slice (some ⟨b2, o2, none⟩) (List.length b) c2) := x2
        have hsz' : w.heap.size + 1 < wr.drew.heap.size := hsz
        clear e10 e11 e12 e13 e20 e21 e22 e23 x1 x2 hsz
        generalize wr.drew = w2 at hb2 HR HR2 x1' x2' hsz' ⊢
        go_wp2_with fail
        refine (implSameOp_any _ _ (x0, xa, xb, x3) (y0, ya, yb, y3) _ (by exact HR.out) (by exact HR2.out)).mono ?_
        rintro e w3 ⟨rfl, b3⟩
        by_cases hxy : ((x0, xa, xb, x3) : tOp.D) = (y0, ya, yb, y3)
        · have HE := Lib.hid (HS.out hxy)
          have hd : decide (((x0, xa, xb, x3) : tOp.D) = (y0, ya, yb, y3)) = true := decide_eq_true hxy
          rw [hd]
          clear hxy hd
          have x1'' := (b3.cell (p := ⟨w.heap.size, 0, none⟩) (by simp; omega)).trans x1'
          have x2'' := (b3.cell (p := ⟨w.heap.size + 1, 0, none⟩) (by simp; omega)).trans x2'
          have hsz2 := b3.size
          clear x1' x2'
          go_wp2
          go_roundw
          case rel => exact ⟨k + 1, by omega, by go_num, HE, hb2.trans (b3.mono hb2.size), by omega, x1'', x2''⟩
          case measure => simp [intOf]; omega
        · have HE := Lib.hid (HN.out hxy)
          have hd : decide (((x0, xa, xb, x3) : tOp.D) = (y0, ya, yb, y3)) = false := decide_eq_false hxy
          rw [hd]
          clear hxy hd x1' x2'
          go_wp2
          go_ret
          exact ⟨ret_bool (by rw [decide_eq_false HE.out]), hb2.trans (b3.mono hb2.size)⟩
      · clear h h'
        go_wp2
        go_ret
        refine ⟨ret_bool ?_, hb⟩
        have := he.out
        have hl := HL.out
        rw [List.take_of_length_le (by omega), List.take_of_length_le (by omega)] at this
        rw [decide_eq_true this]
  · have HL := Lib.hid hl
    have hbb : ((List.length a : Int) != (List.length b : Int)) = true := by simp; omega
    clear hl
    go_enter Try.func54, Try.ntmps54
    go_wp2
    go_ret
    exact ⟨ret_bool (by rw [decide_eq_false (fun e => HL.out (by rw [e]))]), ((Below.refl _ _).alloc (Nat.le_refl _) _).alloc (by simp) _⟩

set_option maxRecDepth 100000 in
theorem specSameVec_any (p q : Option Addr) (n1 c1 n2 c2 : Nat) (a b : List Int) (w : World) (h : SlRd 1 (rd tInt w) w p n1 c1 a) (h' : SlRd 1 (rd tInt w) w q n2 c2 b) :
    Calls Try.prog 126 #[.slice p n1 c1, .slice q n2 c2] w (RetV (.bool (decide (a = b))) w) := by
  have hm1 : n1 ≤ maxLen := Nat.le_trans h.2.1 h.2.2.1
  have hm2 : n2 ≤ maxLen := Nat.le_trans h'.2.1 h'.2.2.1
  obtain rfl := h.lens
  obtain rfl := h'.lens
  unfold maxLen at hm1 hm2
  by_cases hl : a.length = b.length
  · have HL := Lib.hid hl
    have hle := Nat.le_of_eq hl; have hge := Nat.le_of_eq hl.symm
    have hbb : ((a.length : Int) != (b.length : Int)) = false := by simp [hl]
    clear hl
    go_enter Try.func126, Try.ntmps126
    go_wp2
    go_loopw [5] (fun i wr => ∃ k : Nat, k ≤ a.length ∧ i = .int .i64 k ∧ Hid (a.take k = b.take k) ∧ Below w.heap.size w wr) (fun i _ => a.length - (intOf i).toNat)
    case atStart => exact ⟨0, by omega, rfl, rfl, Below.refl _ _⟩
    case round =>
      obtain ⟨k, hk, rfl, he, hb⟩ := hrel
      by_cases hlt : k < a.length
      · have hlt2 : k < b.length := by omega
        obtain ⟨b1, o1, rfl, hlb, hc, -, -⟩ := int_at h k hlt
        obtain ⟨b2, o2, rfl, hlb2, hc2, -, -⟩ := int_at h' k hlt2
        have e1 := (hb.cell hlb).trans hc
        have e2 := (hb.cell hlb2).trans hc2
        have HS : Hid (a[k] = b[k] → a.take (k + 1) = b.take (k + 1)) := fun hh => by rw [List.take_succ_eq_append_getElem hlt, List.take_succ_eq_append_getElem hlt2, he.out, hh]
        have HN : Hid (a[k] ≠ b[k] → a ≠ b) := fun hh e => hh (by subst e; rfl)
        clear h h' hc hc2
        generalize a[k] = x at *
        generalize b[k] = y at *
        by_cases hxy : x = y
        · subst hxy
          have HE := Lib.hid (HS.out rfl)
          clear HS HN
          go_wp2
          go_quiet (fail)
          go_wp2
          go_roundw
          case rel => exact ⟨k + 1, by omega, by go_num, HE, below_drewN hb _⟩
          case measure => simp [intOf]; omega
        · have hne := HN.out hxy
          have hb' : (x != y) = true := by simpa using hxy
          have HX := Lib.hid hne
          clear hxy hne
          go_wp2
          go_quiet (fail)
          go_wp2
          go_ret
          exact ⟨ret_bool (by rw [decide_eq_false HX.out]), below_drewN hb _⟩
      · clear h h'
        go_wp2
        go_ret
        refine ⟨ret_bool ?_, hb⟩
        have := he.out
        have hl := HL.out
        rw [List.take_of_length_le (by omega), List.take_of_length_le (by omega)] at this
        rw [decide_eq_true this]
  · have HL := Lib.hid hl
    have hbb : ((a.length : Int) != (b.length : Int)) = true := by simp; omega
    clear hl
    go_enter Try.func126, Try.ntmps126
    go_wp2
    go_ret
    exact ⟨ret_bool (by rw [decide_eq_false (fun e => HL.out (by rw [e]))]), Below.refl _ _⟩

set_option maxRecDepth 100000 in
set_option maxHeartbeats 1000000 in
theorem specSameOp_any (ca cb : Array Value) (x y : tOp.D) (w : World) (ha : rd tOp w ca.toList x) (hb : rd tOp w cb.toList y) :
    Calls Try.prog 97 #[.agg ca, .agg cb] w (RetV (.bool (decide (x = y))) w) := by
  obtain ⟨x0, x1, x2, x3⟩ := x
  obtain ⟨y0, y1, y2, y3⟩ := y
  obtain ⟨_, _, ahcs, ⟨rfl, aw0⟩, _, _, rfl, ⟨rfl, aw1⟩, _, _, rfl, ⟨rfl, aw2⟩, ap, an, aq, rfl, asl⟩ := ha
  obtain ⟨_, _, bhcs, ⟨rfl, bw0⟩, _, _, rfl, ⟨rfl, bw1⟩, _, _, rfl, ⟨rfl, bw2⟩, bp, bn, bq, rfl, bsl⟩ := hb
  obtain rfl : ca = #[.int .i64 x0, .int .i64 x1, .int .i64 x2, .slice ap an aq] := arr_of ahcs
  obtain rfl : cb = #[.int .i64 y0, .int .i64 y1, .int .i64 y2, .slice bp bn bq] := arr_of bhcs
  clear ahcs bhcs aw0 aw1 aw2 bw0 bw1 bw2
  have HS := Lib.hid asl; have HS2 := Lib.hid bsl
  by_cases h0 : x0 = y0
  · subst h0
    by_cases h1 : x1 = y1
    · subst h1
      by_cases h2 : x2 = y2
      · subst h2
        clear asl bsl
        go_enter Try.func97, Try.ntmps97
        go_wp2_with fail
        refine (specSameVec_any _ _ _ _ _ _ x3 y3 _ (by exact SlRd.below (t := tInt) HS.out (((Below.refl _ _).alloc (Nat.le_refl _) _).alloc (by simp) _)) (by exact SlRd.below (t := tInt) HS2.out (((Below.refl _ _).alloc (Nat.le_refl _) _).alloc (by simp) _))).mono ?_
        rintro e w1 ⟨rfl, b1⟩
        go_wp2
        all_goals go_ret
        all_goals exact ⟨ret_bool (by simp_all), Below.trans (((Below.refl _ _).alloc (Nat.le_refl _) _).alloc (by simp) _) (b1.mono (by simp; omega))⟩
      · have hb' : (x2 == y2) = false := by simpa using h2
        have H2 := Lib.hid h2
        clear h2 asl bsl
        go_enter Try.func97, Try.ntmps97
        go_wp2
        go_ret
        exact ⟨ret_bool (by have := H2.out; simp [this]), ((Below.refl _ _).alloc (Nat.le_refl _) _).alloc (by simp) _⟩
    · have hb' : (x1 == y1) = false := by simpa using h1
      have H1 := Lib.hid h1
      clear h1 asl bsl
      go_enter Try.func97, Try.ntmps97
      go_wp2
      go_ret
      exact ⟨ret_bool (by have := H1.out; simp [this]), ((Below.refl _ _).alloc (Nat.le_refl _) _).alloc (by simp) _⟩
  · have hb' : (x0 == y0) = false := by simpa using h0
    have H0 := Lib.hid h0
    clear h0 asl bsl
    go_enter Try.func97, Try.ntmps97
    go_wp2
    go_ret
    exact ⟨ret_bool (by have := H0.out; simp [this]), ((Below.refl _ _).alloc (Nat.le_refl _) _).alloc (by simp) _⟩

set_option maxRecDepth 100000 in
set_option maxHeartbeats 2000000 in
theorem specSameModel_any (ca cb : Array Value) (a b : tModel.D) (w : World) (ha : rd tModel w ca.toList a) (hb : rd tModel w cb.toList b) :
    Calls Try.prog 52 #[.agg ca, .agg cb] w (RetV (.bool (decide (a = b))) w) := by
  obtain ⟨p, n1, c1, ahcs, h⟩ := ha
  obtain ⟨q, n2, c2, bhcs, h'⟩ := hb
  obtain rfl : ca = #[.slice p n1 c1] := arr_of ahcs
  obtain rfl : cb = #[.slice q n2 c2] := arr_of bhcs
  clear ahcs bhcs
  have hm1 : n1 ≤ maxLen := Nat.le_trans h.2.1 h.2.2.1
  have hm2 : n2 ≤ maxLen := Nat.le_trans h'.2.1 h'.2.2.1
  obtain rfl := h.lens
  obtain rfl := h'.lens
  unfold maxLen at hm1 hm2
  by_cases hl : List.length a = List.length b
  · have HL := Lib.hid hl
    have hle := Nat.le_of_eq hl; have hge := Nat.le_of_eq hl.symm
    have hbb : ((List.length a : Int) != (List.length b : Int)) = false := by simp [hl]
    clear hl
    go_enter Try.func52, Try.ntmps52
    go_wp2
    go_loopw [5] (fun i wr => ∃ k : Nat, k ≤ List.length a ∧ i = .int .i64 k ∧ Hid (List.take k a = List.take k b) ∧ Below w.heap.size w wr ∧ w.heap.size + 1 < wr.heap.size ∧ wr.cell? ⟨w.heap.size, 0, none⟩ = some (.slice p (List.length a) c1) ∧ wr.cell? ⟨w.heap.size + 1, 0, none⟩ = some (.slice q (List.length b) c2)) (fun i _ => List.length a - (intOf i).toNat)
    case atStart => exact ⟨0, by omega, rfl, rfl, ((Below.refl _ _).alloc (Nat.le_refl _) _).alloc (by simp) _, by simp, by simp, by simp⟩
    case round =>
      obtain ⟨k, hk, rfl, he, hb, hsz, x1, x2⟩ := hrel
      by_cases hlt : k < List.length a
      · have hlt2 : k < List.length b := by omega
        obtain ⟨b1, o1, rfl, hlb, cs, hcs, hc, hR⟩ := h.2.2.2.2 k hlt
        obtain ⟨b2, o2, rfl, hlb2, cs2, hcs2, hc2, hR2⟩ := h'.2.2.2.2 k hlt2
        have hR0 : rd tOp wr.drew cs a[k] := rd_mono (fun q hq => hb.block q hq) _ _ _ hR
        have hR20 : rd tOp wr.drew cs2 b[k] := rd_mono (fun q hq => hb.block q hq) _ _ _ hR2
        have HS : Hid (a[k] = b[k] → List.take (k + 1) a = List.take (k + 1) b) := fun hh => by rw [List.take_succ_eq_append_getElem hlt, List.take_succ_eq_append_getElem hlt2, he.out, hh]
        have HN : Hid (a[k] ≠ b[k] → a ≠ b) := fun hh e => hh (by subst e; rfl)
        obtain ⟨x, hx⟩ : ∃ x, a[k] = x := ⟨_, rfl⟩
        obtain ⟨y, hy⟩ : ∃ y, b[k] = y := ⟨_, rfl⟩
        rw [hx] at hR hR0 HS HN
        rw [hy] at hR2 hR20 HS HN
        have HR := Lib.hid hR0; have HR2 := Lib.hid hR20
        obtain ⟨x0, xa, xb, x3⟩ := x
        obtain ⟨y0, ya, yb, y3⟩ := y
        obtain ⟨_, _, rfl, ⟨rfl, _⟩, _, _, rfl, ⟨rfl, _⟩, _, _, rfl, ⟨rfl, _⟩, ap, an, aq, rfl, asl⟩ := hR
        obtain ⟨_, _, rfl, ⟨rfl, _⟩, _, _, rfl, ⟨rfl, _⟩, _, _, rfl, ⟨rfl, _⟩, bp, bn, bq, rfl, bsl⟩ := hR2
        have e10 : wr.cell? ⟨b1, o1 + k * 4, none⟩ = some (.int .i64 x0) := (hb.cell hlb).trans (hc 0 (by simp))
        have e11 : wr.cell? ⟨b1, o1 + k * 4 + 1, none⟩ = some (.int .i64 xa) := (hb.cell hlb).trans (hc 1 (by simp))
        have e12 : wr.cell? ⟨b1, o1 + k * 4 + 2, none⟩ = some (.int .i64 xb) := (hb.cell hlb).trans (hc 2 (by simp))
        have e13 : wr.cell? ⟨b1, o1 + k * 4 + 3, none⟩ = some (.slice ap an aq) := (hb.cell hlb).trans (hc 3 (by simp))
        have e20 : wr.cell? ⟨b2, o2 + k * 4, none⟩ = some (.int .i64 y0) := (hb.cell hlb2).trans (hc2 0 (by simp))
        have e21 : wr.cell? ⟨b2, o2 + k * 4 + 1, none⟩ = some (.int .i64 ya) := (hb.cell hlb2).trans (hc2 1 (by simp))
        have e22 : wr.cell? ⟨b2, o2 + k * 4 + 2, none⟩ = some (.int .i64 yb) := (hb.cell hlb2).trans (hc2 2 (by simp))
        have e23 : wr.cell? ⟨b2, o2 + k * 4 + 3, none⟩ = some (.slice bp bn bq) := (hb.cell hlb2).trans (hc2 3 (by simp))
        clear h h' hc hc2 hx hy hcs hcs2 hR0 hR20 asl bsl
        go_wp2
        go_still_tail 10, (by kernel_rfl)
        change wpList _ _ _ _ _ wr.drew
        have hb2 : Below w.heap.size w wr.drew := hb.drew
        have x1' : wr.drew.cell? ⟨w.heap.size, 0, none⟩ = some (.slice (some ⟨b1, o1, none⟩) (List.length a) c1) := x1
        have x2' : wr.drew.cell? ⟨w.heap.size + 1, 0, none⟩ = some (.slice (some ⟨b2, o2, none⟩) (List.length b) c2) := x2
        have hsz' : w.heap.size + 1 < wr.drew.heap.size := hsz
        clear e10 e11 e12 e13 e20 e21 e22 e23 x1 x2 hsz
        generalize wr.drew = w2 at hb2 HR HR2 x1' x2' hsz' ⊢
        go_wp2_with fail
        refine (specSameOp_any _ _ (x0, xa, xb, x3) (y0, ya, yb, y3) _ (by exact HR.out) (by exact HR2.out)).mono ?_
        rintro e w3 ⟨rfl, b3⟩
        by_cases hxy : ((x0, xa, xb, x3) : tOp.D) = (y0, ya, yb, y3)
        · have HE := Lib.hid (HS.out hxy)
          have hd : decide (((x0, xa, xb, x3) : tOp.D) = (y0, ya, yb, y3)) = true := decide_eq_true hxy
          rw [hd]
          clear hxy hd
          have x1'' := (b3.cell (p := ⟨w.heap.size, 0, none⟩) (by simp; omega)).trans x1'
          have x2'' := (b3.cell (p := ⟨w.heap.size + 1, 0, none⟩) (by simp; omega)).trans x2'
          have hsz2 := b3.size
          clear x1' x2'
          go_wp2
          go_roundw
          case rel => exact ⟨k + 1, by omega, by go_num, HE, hb2.trans (b3.mono hb2.size), by omega, x1'', x2''⟩
          case measure => simp [intOf]; omega
        · have HE := Lib.hid (HN.out hxy)
          have hd : decide (((x0, xa, xb, x3) : tOp.D) = (y0, ya, yb, y3)) = false := decide_eq_false hxy
          rw [hd]
          clear hxy hd x1' x2'
          go_wp2
          go_ret
          exact ⟨ret_bool (by rw [decide_eq_false HE.out]), hb2.trans (b3.mono hb2.size)⟩
      · clear h h'
        go_wp2
        go_ret
        refine ⟨ret_bool ?_, hb⟩
        have := he.out
        have hl := HL.out
        rw [List.take_of_length_le (by omega), List.take_of_length_le (by omega)] at this
        rw [decide_eq_true this]
  · have HL := Lib.hid hl
    have hbb : ((List.length a : Int) != (List.length b : Int)) = true := by simp; omega
    clear hl
    go_enter Try.func52, Try.ntmps52
    go_wp2
    go_ret
    exact ⟨ret_bool (by rw [decide_eq_false (fun e => HL.out (by rw [e]))]), ((Below.refl _ _).alloc (Nat.le_refl _) _).alloc (by simp) _⟩

end Go.Proofs.Yteejpennjkihaaa
