/- Numerals and joined words: what is of no program. -/
import Derived.Test.YtllphmcjocidaaaGreatDoorGr2
import Derived.Lib.ItoaLen
import Derived.Lib.Join
import Derived.Lib.ItoaMem
namespace Go.Proofs.YtllphmcjocidaaaGreatDoor
open Go.ChangeShapes Go.WideShapes Go.ChangeAt Go.RowKit Go.Deep
set_option linter.unusedVariables false
set_option linter.unusedSimpArgs false
def ofL (l : List UInt8) : ByteArray := ⟨l.toArray⟩
theorem ofL_size (l : List UInt8) : (ofL l).size = l.length := by simp [ofL, ByteArray.size]
theorem ofL_app (a b : List UInt8) : ofL a ++ ofL b = ofL (a ++ b) := by
  apply ByteArray.ext; simp [ofL, ByteArray.data_append]
theorem ofL_list (l : List UInt8) : (ofL l).data.toList = l := by simp [ofL]
theorem ofL_data (s : ByteArray) : ofL s.data.toList = s := by cases s; simp [ofL]
theorem ofL_inj {a b : List UInt8} (h : ofL a = ofL b) : a = b := by
  have := congrArg (fun s : ByteArray => s.data.toList) h
  simpa [ofL] using this
theorem ba_size (a b : ByteArray) : (a ++ b).size = a.size + b.size := ByteArray.size_append
theorem ba_list (a b : ByteArray) : (a ++ b).data.toList = a.data.toList ++ b.data.toList := by simp [ByteArray.data_append]
theorem ba_len (a : ByteArray) : a.data.toList.length = a.size := by rw [Array.length_toList]; rfl
theorem app_nil (s : ByteArray) : s ++ (⟨#[]⟩ : ByteArray) = s := by apply ByteArray.ext; simp [ByteArray.data_append]
theorem nil_app (s : ByteArray) : (⟨#[]⟩ : ByteArray) ++ s = s := by apply ByteArray.ext; simp [ByteArray.data_append]
theorem len_max {α : Type} {l : List α} (h : l.length ≤ maxLen) : l.length ≤ 9223372036854775807 := by unfold maxLen at h; omega
def decS (n : Int) : ByteArray := ofL (Go.Lib.itoa n)
theorem decS_size {n : Int} (h : inK .i64 n) : (decS n).size ≤ 21 := by
  unfold decS
  rw [ofL_size]
  exact Go.Lib.itoa_length_le n h.1 h.2
theorem dig_more {u m : Nat} {l : List UInt8} (h : Go.Lib.decDigits u = Go.Lib.decDigits m ++ l) (h10 : ¬ m < 10) : Go.Lib.decDigits u = Go.Lib.decDigits (m / 10) ++ (UInt8.ofNat (48 + m % 10) :: l) := by
  rw [h, Go.Lib.decDigits, dif_neg h10, List.append_assoc]
  rfl
theorem dig_last {u m : Nat} {l : List UInt8} (h : Go.Lib.decDigits u = Go.Lib.decDigits m ++ l) (h10 : m < 10) : Go.Lib.decDigits u = UInt8.ofNat (48 + m % 10) :: l := by
  rw [h, Go.Lib.decDigits, dif_pos h10, Nat.mod_eq_of_lt h10]
  rfl
/-- What has been spelt so far of u's digits, m being what is left. -/
def Dg (u m : Nat) (l : List UInt8) : Prop := if m = 0 then Go.Lib.decDigits u = l else Go.Lib.decDigits u = Go.Lib.decDigits m ++ l
theorem Dg.start {u : Nat} (h : u ≠ 0) : Dg u u [] := by unfold Dg; rw [if_neg h, List.append_nil]
theorem Dg.next {u m : Nat} {l : List UInt8} (h : Dg u m l) (h0 : m ≠ 0) : Dg u (m / 10) (UInt8.ofNat (48 + m % 10) :: l) := by
  unfold Dg at h ⊢
  rw [if_neg h0] at h
  by_cases h10 : m < 10
  · rw [if_pos (by omega)]; exact dig_last h h10
  · rw [if_neg (by omega)]; exact dig_more h h10
theorem Dg.done {u : Nat} {l : List UInt8} (h : Dg u 0 l) : Go.Lib.decDigits u = l := h
theorem Dg.len {u m : Nat} {l : List UInt8} (h : Dg u m l) (hu : u < 18446744073709551616) : l.length ≤ 20 := by
  have h1 := Go.Lib.nDigits_le20 u hu
  rw [← Go.Lib.decDigits_length] at h1
  unfold Dg at h
  split at h
  · rw [← h]; exact h1
  · rw [h, List.length_append] at h1; omega
theorem decS_neg {u : Nat} {n : Int} (h : n = -(u : Int)) (h1 : 1 ≤ u) : decS n = ofL [45] ++ ofL (Go.Lib.decDigits u) := by
  subst h
  unfold decS
  rw [Go.Lib.itoa_neg u h1, ofL_app]
  rfl
theorem decS_pos {u : Nat} {n : Int} (h : n = (u : Int)) : decS n = ofL (Go.Lib.decDigits u) := by
  subst h
  unfold decS
  rw [Go.Lib.itoa_nonneg u]
theorem dig_byte {d : Int} {m : Nat} (h0 : 0 ≤ d) (h9 : d = ((m % 10 : Nat) : Int)) : ofBytesL [IntKind.u8.wrap (48 + d)] = ofL [UInt8.ofNat (48 + m % 10)] := by
  have e : IntKind.u8.wrap (48 + d) = ((48 + m % 10 : Nat) : Int) := by
    rw [wrap_in (by show 0 ≤ _ ∧ _ ≤ 255; omega)]
    omega
  rw [e]
  rfl
theorem tm_pos (k : Nat) : Int.tmod (k : Int) 10 = ((k % 10 : Nat) : Int) := by rw [Int.tmod_eq_emod_of_nonneg (by omega)]; omega
theorem td_pos (k : Nat) : Int.tdiv (k : Int) 10 = ((k / 10 : Nat) : Int) := by rw [Int.tdiv_eq_ediv_of_nonneg (by omega)]; omega
theorem tm_neg (k : Nat) : Int.tmod (-(k : Int)) 10 = -((k % 10 : Nat) : Int) := by rw [Int.neg_tmod, tm_pos]
theorem td_neg (k : Nat) : Int.tdiv (-(k : Int)) 10 = -((k / 10 : Nat) : Int) := by rw [Int.neg_tdiv, td_pos]
/-! ### words that are joined -/
def joinB (xs : List ByteArray) (sep : ByteArray) : ByteArray := ofL (Go.Lib.join (xs.map (fun s : ByteArray => s.data.toList)) sep.data.toList)
theorem joinB_nil (sep : ByteArray) : joinB [] sep = ⟨#[]⟩ := rfl
theorem joinB_one (x sep : ByteArray) : joinB [x] sep = x := by
  unfold joinB
  rw [List.map_cons, List.map_nil, Go.Lib.join_one, ofL_data]
theorem joinTail_app (sep y : List UInt8) (r : List (List UInt8)) : Go.Lib.joinTail sep (r ++ [y]) = Go.Lib.joinTail sep r ++ sep ++ y := by
  unfold Go.Lib.joinTail
  simp [List.append_assoc]
theorem joinB_snoc {xs : List ByteArray} (h : xs ≠ []) (y sep : ByteArray) : joinB (xs ++ [y]) sep = joinB xs sep ++ sep ++ y := by
  obtain ⟨x, r, rfl⟩ := List.exists_cons_of_ne_nil h
  unfold joinB
  rw [List.cons_append, List.map_cons, List.map_cons, Go.Lib.join_cons, Go.Lib.join_cons, List.map_append, List.map_cons, List.map_nil, joinTail_app]
  rw [show sep = ofL sep.data.toList from (ofL_data sep).symm, show y = ofL y.data.toList from (ofL_data y).symm]
  rw [ofL_app, ofL_app, ofL_list, ofL_list]
  simp [List.append_assoc]
theorem joinB_size {B : Nat} {xs : List ByteArray} {sep : ByteArray} (h : ∀ x ∈ xs, x.size ≤ B) : (joinB xs sep).size ≤ xs.length * (B + sep.size) := by
  have e : ∀ l : List ByteArray, (∀ x ∈ l, x.size ≤ B) → (Go.Lib.joinTail sep.data.toList (l.map (fun s : ByteArray => s.data.toList))).length ≤ l.length * (B + sep.size) := by
    intro l
    induction l with
    | nil => intro _; simp [Go.Lib.joinTail]
    | cons y r ih =>
      intro h
      have h1 := ih (fun x hx => h x (List.mem_cons_of_mem _ hx))
      have h2 := h y (by simp)
      rw [Go.Lib.joinTail] at h1 ⊢
      simp only [List.map_cons, List.flatten_cons, List.length_append, ba_len, List.length_cons] at h1 ⊢
      rw [Nat.succ_mul]
      omega
  unfold joinB
  rw [ofL_size]
  cases xs with
  | nil => simp [Go.Lib.join, List.intercalate]
  | cons x r =>
    have h1 := e r (fun y hy => h y (List.mem_cons_of_mem _ hy))
    have h2 := h x (by simp)
    rw [List.map_cons, Go.Lib.join_cons, List.length_append, ba_len, List.length_cons, Nat.succ_mul]
    omega
end Go.Proofs.YtllphmcjocidaaaGreatDoor
