/- The walk of FnExactLostWork: how many turns count for nothing. -/
import Derived.Test.YteejpennjkihaaaTShift
namespace Go.Proofs.Yteejpennjkihaaa
open Go.ChangeShapes Go.WideShapes Go.ChangeAt Go.RowKit
set_option linter.unusedVariables false
set_option linter.unusedSimpArgs false

theorem firstShifts_any (p : Option Addr) (len cap m : Nat) (w : World) (hl : len ≤ cap) (hc : cap ≤ 9223372036854775807) (hm : Hid (m = min len 6)) :
    Calls Try.prog 80 #[.slice p len cap] w fun e w' => e = .returned (.slice p m cap) ∧ w = w' := by
  by_cases h6 : len ≤ 6
  · have h7 : ¬ (6 : Int) < len := by omega
    go_enter Try.func80, Try.ntmps80
    go_wp2
    all_goals go_ret
    all_goals exact ⟨by rw [hm.out, Nat.min_eq_left (by omega)]; first | rfl | (congr 2; omega), rfl⟩
  · have h7 : (6 : Int) < len := by omega
    go_enter Try.func80, Try.ntmps80
    go_wp2
    all_goals go_ret
    all_goals exact ⟨by rw [hm.out, Nat.min_eq_right (by omega)]; first | rfl | (congr 2; omega), rfl⟩

theorem shift_at {w : World} {p : Option Addr} {len cap : Nat} {l : List tShift.D} (h : SlRd tShift.n (rd tShift w) w p len cap l) (k : Nat) (hk : k < l.length) :
    ∃ b off q n c, p = some ⟨b, off, none⟩ ∧ b < w.heap.size ∧ n = l[k].1.length ∧ -9223372036854775808 ≤ l[k].2 ∧ l[k].2 ≤ 9223372036854775807 ∧ w.cell? ⟨b, off + k * 2, none⟩ = some (.slice q n c) ∧ w.cell? ⟨b, off + k * 2 + 1, none⟩ = some (.int .i64 l[k].2) := by
  obtain ⟨b, off, hp, hb, cs, hl, hc, _, _, rfl, ⟨q, n, c, rfl, hs⟩, rfl, hw⟩ := h.2.2.2.2 k hk
  exact ⟨b, off, q, n, c, hp, hb, hs.lens, (i64_of hw).1, (i64_of hw).2, hc 0 (by simp), hc 1 (by simp)⟩

def lostOne (every : Int) (x : tShift.D) : Int := x.1.length - every * max 0 ((x.1.length : Int) / every - max 0 x.2)
def lostSum (every : Int) (l : List tShift.D) : Int := l.foldl (fun s x => s + lostOne every x) 0
theorem lostSum_snoc (e : Int) (l : List tShift.D) (k : Nat) (h : k < l.length) : lostSum e (l.take (k+1)) = lostSum e (l.take k) + lostOne e l[k] := by
  unfold lostSum
  rw [List.take_succ_eq_append_getElem h, List.foldl_append]; rfl

theorem take_min {α : Type} (l : List α) (n : Nat) : l.take (min l.length n) = l.take n := by
  rw [Nat.min_comm, ← List.take_take, List.take_length]

/-- What is left of a shift lies between nought and its turns. -/
theorem lost_bounds (n e lost : Int) (hn : 0 ≤ n) (he : 1 ≤ e) : 0 ≤ n / e ∧ n / e ≤ n ∧ 0 ≤ e * max 0 (n / e - max 0 lost) ∧ e * max 0 (n / e - max 0 lost) ≤ n := by
  have h1 : 0 ≤ n / e := Int.ediv_nonneg hn (by omega)
  have h2 : n / e ≤ n := by
    have := Int.ediv_le_self e hn; exact this
  have h3 : e * (n / e) ≤ n := Int.mul_ediv_self_le (by omega)
  have h4 : max 0 (n / e - max 0 lost) ≤ n / e := by omega
  have h5 : e * max 0 (n / e - max 0 lost) ≤ e * (n / e) := Int.mul_le_mul_of_nonneg_left h4 (by omega)
  exact ⟨h1, h2, Int.mul_nonneg (by omega) (by omega), by omega⟩

theorem lost_step (v n e lost : Int) (hv : 0 ≤ v ∧ v ≤ 1000000000) (hn : 0 ≤ n ∧ n ≤ 1048576) (he : 1 ≤ e) (hl : -9223372036854775808 ≤ lost ∧ lost ≤ 9223372036854775807) :
    wrap64 (v + wrap64 (n - wrap64 (e * if 0 < wrap64 (wrap64 (n / e) - if 0 < lost then lost else 0) then wrap64 (wrap64 (n / e) - if 0 < lost then lost else 0) else 0))) = v + (n - e * max 0 (n / e - max 0 lost)) ∧
    wrap64 (v + n - wrap64 (e * if 0 < wrap64 (wrap64 (n / e) - if 0 < lost then lost else 0) then wrap64 (wrap64 (n / e) - if 0 < lost then lost else 0) else 0)) = v + (n - e * max 0 (n / e - max 0 lost)) := by
  obtain ⟨h1, h2, h3, h4⟩ := lost_bounds n e lost hn.1 he
  have e1 : (if 0 < lost then lost else 0) = max 0 lost := by rw [Int.max_def]; split <;> split <;> omega
  rw [wrap64_id (x := n / e) (by omega) (by omega), e1, wrap64_id (x := n / e - max 0 lost) (by omega) (by omega)]
  have e2 : (if 0 < n / e - max 0 lost then n / e - max 0 lost else 0) = max 0 (n / e - max 0 lost) := by rw [Int.max_def (n := 0) (m := n / e - max 0 lost)]; split <;> split <;> omega
  rw [e2, wrap64_id (x := e * max 0 (n / e - max 0 lost)) (by omega) (by omega)]
  generalize e * max 0 (n / e - max 0 lost) = z at *
  rw [wrap64_id (x := n - z) (by omega) (by omega), wrap64_id (x := v + (n - z)) (by omega) (by omega), wrap64_id (x := v + n - z) (by omega) (by omega)]
  exact ⟨rfl, by omega⟩
set_option maxRecDepth 100000 in
set_option maxHeartbeats 1000000 in
theorem implLostWork_any (p : Option Addr) (len cap : Nat) (l : List tShift.D) (every : Int) (w : World) (h : SlRd tShift.n (rd tShift w) w p len cap l) (hz : szT (.slice 113 tShift) l ≤ 1048576)
   (he : 1 ≤ every) (he2 : every ≤ 9223372036854775807) :
    Calls Try.prog 29 #[.slice p len cap, .int .i64 every] w (RetV (.int .i64 (lostSum every (l.take 6))) w) := by
  have hlen : len ≤ maxLen := Nat.le_trans h.2.1 h.2.2.1
  have hcap := h.2.1
  have hcap2 := h.2.2.1
  obtain rfl := h.lens
  rw [szT_slice] at hz
  unfold maxLen at hlen hcap2
  obtain ⟨m, hm⟩ : ∃ m, m = min l.length 6 := ⟨_, rfl⟩
  have hm1 : m ≤ l.length := by omega
  have hm6 : m ≤ 6 := by omega
  have HM := Lib.hid hm
  clear hm
  go_enter Try.func29, Try.ntmps29
  go_wp2_with fail
  refine (firstShifts_any p l.length cap m _ hcap hcap2 HM).mono ?_
  rintro e w1 ⟨rfl, rfl⟩
  go_wp2
  go_loopw [5, 14] (fun s i wr => ∃ k : Nat, k ≤ m ∧ i = .int .i64 k ∧ (∃ v, s = .int .i64 v ∧ v = lostSum every (l.take k) ∧ 0 ≤ v ∧ v ≤ k * 1048576) ∧ Below w.heap.size w wr) (fun _ i _ => m - (intOf i).toNat)
  case atStart => exact ⟨0, by omega, rfl, ⟨0, rfl, rfl, by omega, by omega⟩, Below.refl _ _⟩
  case round =>
    obtain ⟨k, hk, rfl, ⟨v, rfl, hv, hv0, hv1⟩, hb⟩ := hrel
    by_cases hlt : k < m
    · obtain ⟨b, off, q, n, c, rfl, hlb, hn, hw1, hw2, e1, e2⟩ := shift_at h k (by omega)
      have hsz := sum_get_le (szT tShift) l k (by omega)
      have hsn := lostSum_snoc every l k (by omega)
      have c1 := (hb.cell hlb).trans e1
      have c2 := (hb.cell hlb).trans e2
      obtain ⟨x, hx⟩ : ∃ x, l[k]'(by omega) = x := ⟨_, rfl⟩
      rw [hx] at hn hw1 hw2 c2 hsz hsn
      obtain ⟨picks, lost⟩ := x
      have hn2 : n ≤ 1048576 := by
        have : szT tShift (picks, lost) = picks.length := by show szT tInts picks + 0 = _; rw [szT_ints]; rfl
        simp only at hn; omega
      have HN := Lib.hid hn
      have HV := Lib.hid hv
      have HS := Lib.hid hsn
      have hne : (every == 0) = false := by simp; omega
      clear h e1 e2 hn hv hx hsz hsn
      go_wp2
      go_quiet (fail)
      go_wp2
      go_roundw
      case rel =>
        have hst := lost_step v n every lost ⟨hv0, by omega⟩ ⟨by omega, by omega⟩ he ⟨hw1, hw2⟩
        have hbd := lost_bounds n every lost (by omega) he
        refine ⟨k + 1, by omega, by go_num, ⟨_, rfl, ?_, ?_, ?_⟩, below_drewN (hb.alloc hb.size _) _⟩
        · rw [hst.1, HS.out, HV.out]; have hn' : n = List.length picks := HN.out; congr 1; show _ = ((List.length picks : Int) - every * max 0 ((List.length picks : Int) / every - max 0 lost)); rw [← hn']
        · rw [hst.1]; omega
        · rw [hst.1]; omega
      case measure => simp [intOf]; omega
    · clear h
      go_wp2
      go_ret
      obtain rfl : k = m := by omega
      refine ⟨ret_int ?_, hb⟩
      rw [hv, HM.out, take_min]
set_option maxRecDepth 100000 in
set_option maxHeartbeats 1000000 in
theorem specLostWork_any (p : Option Addr) (len cap : Nat) (l : List tShift.D) (every : Int) (w : World) (h : SlRd tShift.n (rd tShift w) w p len cap l) (hz : szT (.slice 113 tShift) l ≤ 1048576)
   (he : 1 ≤ every) (he2 : every ≤ 9223372036854775807) :
    Calls Try.prog 27 #[.slice p len cap, .int .i64 every] w (RetV (.int .i64 (lostSum every (l.take 6))) w) := by
  have hlen : len ≤ maxLen := Nat.le_trans h.2.1 h.2.2.1
  have hcap := h.2.1
  have hcap2 := h.2.2.1
  obtain rfl := h.lens
  rw [szT_slice] at hz
  unfold maxLen at hlen hcap2
  obtain ⟨m, hm⟩ : ∃ m, m = min l.length 6 := ⟨_, rfl⟩
  have hm1 : m ≤ l.length := by omega
  have hm6 : m ≤ 6 := by omega
  have HM := Lib.hid hm
  clear hm
  go_enter Try.func27, Try.ntmps27
  go_wp2
  go_loopw [5, 6] (fun s i wr => ∃ k : Nat, k ≤ m ∧ i = .int .i64 k ∧ (∃ v, s = .int .i64 v ∧ v = lostSum every (l.take k) ∧ 0 ≤ v ∧ v ≤ k * 1048576) ∧ Below w.heap.size w wr) (fun _ i _ => m - (intOf i).toNat)
  case atStart => exact ⟨0, by omega, rfl, ⟨0, rfl, rfl, by omega, by omega⟩, Below.refl _ _⟩
  case round =>
    obtain ⟨k, hk, rfl, ⟨v, rfl, hv, hv0, hv1⟩, hb⟩ := hrel
    by_cases hlt : k < m
    · obtain ⟨b, off, q, n, c, rfl, hlb, hn, hw1, hw2, e1, e2⟩ := shift_at h k (by omega)
      have hsz := sum_get_le (szT tShift) l k (by omega)
      have hsn := lostSum_snoc every l k (by omega)
      have c1 := (hb.cell hlb).trans e1
      have c2 := (hb.cell hlb).trans e2
      obtain ⟨x, hx⟩ : ∃ x, l[k]'(by omega) = x := ⟨_, rfl⟩
      rw [hx] at hn hw1 hw2 c2 hsz hsn
      obtain ⟨picks, lost⟩ := x
      have hn2 : n ≤ 1048576 := by
        have : szT tShift (picks, lost) = picks.length := by show szT tInts picks + 0 = _; rw [szT_ints]; rfl
        simp only at hn; omega
      have HN := Lib.hid hn
      have HV := Lib.hid hv
      have HS := Lib.hid hsn
      have hne : (every == 0) = false := by simp; omega
      clear h e1 e2 hn hv hx hsz hsn
      have hk6 : k < 6 := by omega
      have hkl : k < l.length := by omega
      go_wp2
      go_quiet (fail)
      go_wp2
      go_roundw
      case rel =>
        have hst := lost_step v n every lost ⟨hv0, by omega⟩ ⟨by omega, by omega⟩ he ⟨hw1, hw2⟩
        have hbd := lost_bounds n every lost (by omega) he
        refine ⟨k + 1, by omega, by go_num, ⟨_, rfl, ?_, ?_, ?_⟩, below_drewN hb _⟩
        · rw [hst.2, HS.out, HV.out]; have hn' : n = List.length picks := HN.out; congr 1; show _ = ((List.length picks : Int) - every * max 0 ((List.length picks : Int) / every - max 0 lost)); rw [← hn']
        · rw [hst.2]; omega
        · rw [hst.2]; omega
      case measure => simp [intOf]; omega
    · clear h
      obtain rfl : k = m := by omega
      have HV := Lib.hid hv
      clear hv
      by_cases hkl : k < l.length
      · have hk6 : ¬ k < 6 := by have := HM.out; omega
        go_wp2
        go_ret
        exact ⟨ret_int (by rw [HV.out, HM.out, take_min]), hb⟩
      · go_wp2
        go_ret
        exact ⟨ret_int (by rw [HV.out, HM.out, take_min]), hb⟩

theorem implLostWork_no (p : Option Addr) (len cap : Nat) (every : Int) (w : World) (he : every < 1) :
    Calls Try.prog 29 #[.slice p len cap, .int .i64 every] w (RetV (.int .i64 0) w) := by
  go_enter Try.func29, Try.ntmps29
  go_wp2
  go_ret
  exact ⟨rfl, Below.refl _ _⟩

set_option maxRecDepth 100000 in
theorem specLostWork_no (p : Option Addr) (len cap : Nat) (every : Int) (w : World) (he : every < 1) (hl : len ≤ 9223372036854775807) :
    Calls Try.prog 27 #[.slice p len cap, .int .i64 every] w (RetV (.int .i64 0) w) := by
  have hg : ¬ 0 < every := by omega
  by_cases h0 : 0 < len
  · go_enter Try.func27, Try.ntmps27
    go_wp2
    go_loopw [5, 6] (fun q i wr => q = .int .i64 0 ∧ i = .int .i64 0 ∧ Below w.heap.size w wr) (fun _ i _ => 0)
    case atStart => exact ⟨rfl, rfl, Below.refl _ _⟩
    case round =>
      obtain ⟨rfl, rfl, hb⟩ := hrel
      go_wp2
      go_ret
      exact ⟨rfl, hb⟩
  · obtain rfl : len = 0 := by omega
    go_enter Try.func27, Try.ntmps27
    go_wp2
    go_loopw [5, 6] (fun q i wr => q = .int .i64 0 ∧ i = .int .i64 0 ∧ Below w.heap.size w wr) (fun _ i _ => 0)
    case atStart => exact ⟨rfl, rfl, Below.refl _ _⟩
    case round =>
      obtain ⟨rfl, rfl, hb⟩ := hrel
      go_wp2
      go_ret
      exact ⟨rfl, hb⟩

set_option maxRecDepth 100000 in
set_option maxHeartbeats 1000000 in
theorem fnExactLostWork_walk (w : World) (p : Option Addr) (len cap : Nat) (l : List tShift.D) (h : SlRd tShift.n (rd tShift w) w p len cap l) (s : Int) (hs : (Lit.int .i64 s).wf = true) :
    Calls Try.prog 6 #[.slice p len cap, .int .i64 s] w fun e w' => e = .returned (.bool true) ∧ Below w.heap.size w w' := by
  have hs2 := i64_of hs
  clear hs
  by_cases hz : szT (.slice 113 tShift) l ≤ 1048576
  · have hll : l.length ≤ 1048576 := by rw [szT_slice] at hz; omega
    obtain ⟨R, hS, hI⟩ : ∃ R : Int, (∀ p c w, SlRd tShift.n (rd tShift w) w p l.length c l → Calls Try.prog 27 #[.slice p l.length c, .int .i64 s] w (RetV (.int .i64 R) w)) ∧
        (∀ p c w, SlRd tShift.n (rd tShift w) w p l.length c l → Calls Try.prog 29 #[.slice p l.length c, .int .i64 s] w (RetV (.int .i64 R) w)) := by
      by_cases he : 1 ≤ s
      · exact ⟨_, fun p c w h => specLostWork_any p _ c l s w h hz he hs2.2, fun p c w h => implLostWork_any p _ c l s w h hz he hs2.2⟩
      · exact ⟨0, fun p c w h => specLostWork_no p _ c s w (by omega) (by omega), fun p c w h => implLostWork_no p _ c s w (by omega)⟩
    have HI := Lib.hid hI
    have HS := Lib.hid hS
    clear hI hS
    go_enter Try.func6, Try.ntmps6
    go_wp2_with fail
    refine (szShiftS_ok _ _ _ l _ _ (by exact h) (by omega) (by omega) (by omega)).mono ?_
    rintro e w1 ⟨rfl, b1⟩
    have hz2 : ¬ ((1048576 : Int) - (szT (.slice 113 tShift) l : Nat) < 0) := by omega
    generalize (1048576 : Int) - (szT (.slice 113 tShift) l : Nat) = lf at hz2 ⊢
    go_wp2_with fail
    refine (toShiftS_any _ _ _ l _ (by exact h.below b1) hz).mono ?_
    rintro e w2 ⟨p2, c2, rfl, f2, b2⟩
    have B2 := b1.trans (b2.mono b1.size)
    go_wp2_with fail
    refine (HS.out _ _ _ (by exact fr_sl f2)).mono ?_
    rintro e w3 ⟨rfl, b3⟩
    have B3 := B2.trans (b3.mono B2.size)
    go_wp2_with fail
    refine (toShiftS_any _ _ _ l _ (by exact h.below B3) hz).mono ?_
    rintro e w4 ⟨p4, c4, rfl, f4, b4⟩
    have B4 := B3.trans (b4.mono B3.size)
    go_wp2_with fail
    refine (HI.out _ _ _ (by exact fr_sl f4)).mono ?_
    rintro e w5 ⟨rfl, b5⟩
    have B5 := B4.trans (b5.mono B4.size)
    go_wp2_with fail
    refine (toShiftS_any _ _ _ l _ (by exact h.below B5) hz).mono ?_
    rintro e w6 ⟨p6, c6, rfl, f6, b6⟩
    have B6 := B5.trans (b6.mono B5.size)
    go_wp2_with fail
    refine (eqShiftS_any _ _ _ _ _ _ l _ (by exact (fr_sl f4).below (b5.trans (b6.mono b5.size))) (by exact fr_sl f6)).mono ?_
    rintro e w7 ⟨rfl, b7⟩
    have B7 := B6.trans (b7.mono B6.size)
    go_wp2
    go_ret
    exact ⟨rfl, B7⟩
  · go_enter Try.func6, Try.ntmps6
    go_wp2_with fail
    refine (szShiftS_no _ _ _ l _ _ (by exact h) (by omega) (by omega) (by omega)).mono ?_
    rintro e w1 ⟨rfl, b1⟩
    go_wp2
    go_ret
    exact ⟨rfl, b1⟩
end Go.Proofs.Yteejpennjkihaaa
