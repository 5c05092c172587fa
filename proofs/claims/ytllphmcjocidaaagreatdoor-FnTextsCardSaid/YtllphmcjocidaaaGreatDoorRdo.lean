/- Numerals and joined words, read back: what is of no program. -/
import Derived.Test.YtllphmcjocidaaaGreatDoorDec1
import Derived.Lib.Atoi
import Derived.Lib.Split
namespace Go.Proofs.YtllphmcjocidaaaGreatDoor
open Go.Lib
set_option linter.unusedVariables false
set_option linter.unusedSimpArgs false
/-- Cut at each byte c. -/
def cutL (c : UInt8) : List UInt8 → List (List UInt8)
  | [] => [[]]
  | b :: l => if b = c then [] :: cutL c l else match cutL c l with
    | w :: ws => (b :: w) :: ws
    | [] => [[b]]
theorem cutL_word {c : UInt8} : {w : List UInt8} → c ∉ w → cutL c w = [w]
  | [], _ => rfl
  | b :: w, h => by
    have h1 : b ≠ c := fun e => h (e ▸ List.mem_cons_self)
    rw [cutL, if_neg h1, cutL_word (w := w) (fun e => h (List.mem_cons_of_mem _ e))]
theorem cutL_app {c : UInt8} {l : List UInt8} : {w : List UInt8} → c ∉ w → cutL c (w ++ c :: l) = w :: cutL c l
  | [], _ => by rw [List.nil_append, cutL, if_pos rfl]
  | b :: w, h => by
    have h1 : b ≠ c := fun e => h (e ▸ List.mem_cons_self)
    rw [List.cons_append, cutL, if_neg h1, cutL_app (w := w) (fun e => h (List.mem_cons_of_mem _ e))]
theorem joinTail_cons (c : UInt8) (y : List UInt8) (r : List (List UInt8)) : joinTail [c] (y :: r) = c :: (y ++ joinTail [c] r) := by simp [joinTail]
theorem cutL_join {c : UInt8} : (ws : List (List UInt8)) → ws ≠ [] → (∀ w ∈ ws, c ∉ w) → cutL c (join ws [c]) = ws
  | [], h, _ => absurd rfl h
  | [w], _, h => by rw [join_one]; exact cutL_word (h w (by simp))
  | w :: y :: r, _, h => by
    rw [join_cons, joinTail_cons, cutL_app (h w (by simp))]
    have := cutL_join (c := c) (y :: r) (by simp) (fun v hv => h v (List.mem_cons_of_mem _ hv))
    rw [join_cons] at this
    rw [this]
theorem idx_no {c : UInt8} : {w : List UInt8} → c ∉ w → index w [c] = -1
  | [], _ => rfl
  | b :: w, h => by
    have h1 : (c == b) = false := by rw [beq_eq_false_iff_ne]; exact fun e => h (e ▸ List.mem_cons_self)
    rw [index, idx_no (w := w) (fun e => h (List.mem_cons_of_mem _ e))]
    simp [List.isPrefixOf, h1]
theorem idx_at {c : UInt8} {l : List UInt8} : {w : List UInt8} → c ∉ w → index (w ++ c :: l) [c] = (w.length : Int)
  | [], _ => by simp [index, List.isPrefixOf]
  | b :: w, h => by
    have h1 : (c == b) = false := by rw [beq_eq_false_iff_ne]; exact fun e => h (e ▸ List.mem_cons_self)
    rw [List.cons_append, index, idx_at (w := w) (fun e => h (List.mem_cons_of_mem _ e))]
    have h2 : ¬ ((w.length : Int) == -1) = true := by rw [beq_iff_eq]; omega
    simp only [List.isPrefixOf, h1, Bool.false_and, Bool.false_eq_true, if_false, if_neg h2, List.length_cons]
    omega
theorem first_at {c : UInt8} : {s : List UInt8} → c ∈ s → ∃ w l, s = w ++ c :: l ∧ c ∉ w
  | [], h => by cases h
  | b :: s, h => by
    by_cases hb : b = c
    · exact ⟨[], s, by rw [hb]; rfl, by simp⟩
    · obtain ⟨w, l, e, hw⟩ := first_at (s := s) ((List.mem_cons.1 h).resolve_left (fun e => hb e.symm))
      exact ⟨b :: w, l, by rw [e]; rfl, fun hc => (List.mem_cons.1 hc).elim (fun e => hb e.symm) hw⟩
theorem splitK_cut {c : UInt8} : (k : Nat) → {s : List UInt8} → s.count c ≤ k → splitK [c] 0 k s = cutL c s
  | k, s, h => by
    by_cases hc : c ∈ s
    · obtain ⟨w, l, rfl, hw⟩ := first_at hc
      have h0 : List.count c w = 0 := List.count_eq_zero.2 hw
      rw [List.count_append, List.count_cons_self, h0] at h
      obtain ⟨k', rfl⟩ : ∃ k', k = k' + 1 := ⟨k - 1, by omega⟩
      have h1 : ¬ (index (w ++ c :: l) [c] == -1) = true := by rw [idx_at hw, beq_iff_eq]; omega
      rw [splitK, if_neg h1, idx_at hw, cutL_app hw]
      have e1 : (w ++ c :: l).take ((w.length : Int).toNat + 0) = w := by simp
      have e2 : (w ++ c :: l).drop ((w.length : Int).toNat + [c].length) = l := by
        rw [Int.toNat_natCast, List.length_singleton, List.drop_append]; simp
      rw [e1, e2, splitK_cut k' (by omega)]
    · have h1 : (index s [c] == -1) = true := by rw [idx_no hc]; rfl
      rw [cutL_word hc]
      cases k with
      | zero => rfl
      | succ k => rw [splitK, if_pos h1]
theorem count_c {c : UInt8} : (n : Nat) → (s : List UInt8) → s.length ≤ n → s.count c ≤ Go.Lib.count s [c]
  | 0, s, h => by
    have : s = [] := List.eq_nil_of_length_eq_zero (by omega)
    subst this; simp
  | n + 1, s, h => by
    by_cases hc : c ∈ s
    · obtain ⟨w, l, rfl, hw⟩ := first_at hc
      have h0 : List.count c w = 0 := List.count_eq_zero.2 hw
      rw [count_hit (by simp) (idx_at hw), List.count_append, List.count_cons_self, h0]
      have e2 : (w ++ c :: l).drop (w.length + [c].length) = l := by
        rw [List.length_singleton, List.drop_append]; simp
      rw [e2]
      have := count_c (c := c) n l (by rw [List.length_append, List.length_cons] at h; omega)
      omega
    · rw [List.count_eq_zero.2 hc]; exact Nat.zero_le _
theorem split_cut (c : UInt8) (s : List UInt8) : Go.Lib.split s [c] = cutL c s := splitK_cut _ (count_c s.length s (Nat.le_refl _))
/-! numerals -/
theorem dig_rec (u : Nat) : decDigits u = if u < 10 then [UInt8.ofNat (48 + u)] else decDigits (u / 10) ++ [UInt8.ofNat (48 + u % 10)] := by
  rw [decDigits]; split <;> simp_all
theorem dig_val {d : Nat} (h : d < 10) : digitVal (UInt8.ofNat (48 + d)) = some d := by
  have e : (UInt8.ofNat (48 + d)).toNat = 48 + d := by rw [UInt8.toNat_ofNat']; omega
  unfold digitVal
  rw [e, if_pos (by omega)]
  congr 1; omega
theorem decFrom_app : (a : List UInt8) → (acc : Nat) → (b : List UInt8) → decFrom acc (a ++ b) = (decFrom acc a).bind fun m => decFrom m b
  | [], acc, b => rfl
  | x :: a, acc, b => by
    rw [List.cons_append, decFrom, decFrom]
    cases digitVal x with
    | none => rfl
    | some d => exact decFrom_app a _ b
theorem decFrom_dig (u : Nat) : decFrom 0 (decDigits u) = some u := by
  induction u using Nat.strongRecOn with
  | _ u ih =>
    rw [dig_rec]
    split
    · rename_i h
      rw [decFrom, dig_val h]; simp [decFrom]
    · rw [decFrom_app, ih (u / 10) (by omega), Option.bind_some, decFrom, dig_val (by omega)]
      simp only [decFrom]
      congr 1; omega
theorem dig_ne (u : Nat) : decDigits u ≠ [] := by
  rw [dig_rec]; split <;> simp
theorem dig_range (u : Nat) : ∀ b ∈ decDigits u, 48 ≤ b.toNat ∧ b.toNat ≤ 57 := by
  induction u using Nat.strongRecOn with
  | _ u ih =>
    intro b hb
    have e : ∀ d, d < 10 → (UInt8.ofNat (48 + d)).toNat = 48 + d := fun d h => by rw [UInt8.toNat_ofNat']; omega
    rw [dig_rec] at hb
    split at hb
    · rename_i h
      rw [List.mem_singleton.1 hb, e u h]; omega
    · rcases List.mem_append.1 hb with hb | hb
      · exact ih (u / 10) (by omega) b hb
      · rw [List.mem_singleton.1 hb, e _ (by omega)]; omega
theorem decNat_dig (u : Nat) : decNat (decDigits u) = some u := by
  unfold decNat
  rw [if_neg (by have := dig_ne u; cases h : decDigits u <;> simp_all), decFrom_dig]
theorem atoi_itoa (n : Int) : atoi (itoa n) = some n := by
  unfold itoa
  split
  · rename_i h
    rw [atoi, if_pos (by decide : ((45 : UInt8) == 45) = true), decNat_dig]
    simp only [Option.map_some]; congr 1; omega
  · rename_i h
    have h1 := dig_range n.toNat
    have h2 := decNat_dig n.toNat
    cases hd : decDigits n.toNat with
    | nil => exact absurd hd (dig_ne _)
    | cons b r =>
      rw [hd] at h1 h2
      have hb := h1 b List.mem_cons_self
      have n45 : ¬ (b == 45) = true := fun e => by rw [beq_iff_eq.1 e] at hb; revert hb; decide
      have n43 : ¬ (b == 43) = true := fun e => by rw [beq_iff_eq.1 e] at hb; revert hb; decide
      rw [atoi, if_neg n45, if_neg n43, h2]
      simp only [Option.map_some]; congr 1; omega
theorem itoa_inj {a b : Int} (h : itoa a = itoa b) : a = b := by
  have h1 := atoi_itoa a
  rw [h, atoi_itoa] at h1
  exact (Option.some.inj h1).symm
theorem decS_inj {a b : Int} (h : decS a = decS b) : a = b := itoa_inj (ofL_inj h)
theorem itoa_pos {n : Int} (h : 0 ≤ n) : ∀ b ∈ itoa n, 48 ≤ b.toNat ∧ b.toNat ≤ 57 := by
  unfold itoa; rw [if_neg (by omega)]; exact dig_range _
theorem itoa_any (n : Int) : ∀ b ∈ itoa n, b = 45 ∨ (48 ≤ b.toNat ∧ b.toNat ≤ 57) := by
  unfold itoa
  split
  · intro b hb
    rcases List.mem_cons.1 hb with h | h
    · exact .inl h
    · exact .inr (dig_range _ b h)
  · exact fun b hb => .inr (dig_range _ b hb)
theorem no_byte {c : UInt8} (n : Int) (h1 : c ≠ 45) (h2 : c.toNat < 48 ∨ 57 < c.toNat) : c ∉ itoa n := fun h => by
  rcases itoa_any n c h with e | e
  · exact h1 e
  · omega
theorem itoa_head {n : Int} (h : 0 ≤ n) : ∃ b r, itoa n = b :: r ∧ b ≠ 45 := by
  have h1 := itoa_pos h
  have h2 : itoa n ≠ [] := by unfold itoa; rw [if_neg (by omega)]; exact dig_ne _
  cases hd : itoa n with
  | nil => exact absurd hd h2
  | cons b r =>
    rw [hd] at h1
    refine ⟨b, r, rfl, fun e => ?_⟩
    have := h1 b List.mem_cons_self
    rw [e] at this; revert this; decide
theorem itoa_ne (n : Int) : itoa n ≠ [] := by
  unfold itoa; split
  · simp
  · exact dig_ne _
theorem plus_cut (q r : Int) : cutL 43 (itoa q ++ 43 :: itoa r) = [itoa q, itoa r] := by
  rw [cutL_app (no_byte q (by decide) (.inl (by decide))), cutL_word (no_byte r (by decide) (.inl (by decide)))]
theorem plus_inj {q r q' r' : Int} (h : itoa q ++ 43 :: itoa r = itoa q' ++ 43 :: itoa r') : q = q' ∧ r = r' := by
  have h1 := plus_cut q r
  rw [h, plus_cut] at h1
  simp only [List.cons.injEq, and_true] at h1
  exact ⟨(itoa_inj h1.1).symm, (itoa_inj h1.2).symm⟩
end Go.Proofs.YtllphmcjocidaaaGreatDoor
