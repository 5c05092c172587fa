/- Dec3: trees, and what they say. -/
import Derived.Test.YtllphmcjocidaaaGreatDoorDec2
import Derived.Test.YtllphmcjocidaaaGreatDoorLoop
namespace Go.Proofs.YtllphmcjocidaaaGreatDoor
open Go.ChangeShapes Go.WideShapes Go.ChangeAt Go.RowKit Go.Deep
set_option linter.unusedVariables false
set_option linter.unusedSimpArgs false
def insW (k : Int) : ByteArray :=
  if k = 1 then ⟨#[114, 101, 99, 118]⟩ else if k = 2 then ⟨#[102, 119, 100]⟩ else if k = 3 then ⟨#[115, 101, 110, 100]⟩ else if k = 4 then ⟨#[114, 101, 99, 118, 103]⟩ else
  if k = 5 then ⟨#[114, 101, 100, 111]⟩ else if k = 6 then ⟨#[98, 119, 100]⟩ else if k = 7 then ⟨#[115, 101, 110, 100, 103]⟩ else if k = 8 then ⟨#[102, 108, 117, 115, 104]⟩ else ⟨#[]⟩
theorem insW_size (k : Int) : (insW k).size ≤ 5 := by
  unfold insW
  repeat' split
  all_goals decide
def sp : ByteArray := ⟨#[32]⟩
theorem sp_size : sp.size = 1 := rfl
def insS (p : Int × Int) : ByteArray := insW p.1 ++ decS p.2
theorem insS_size {p : Int × Int} (h : inK .i64 p.2) : (insS p).size ≤ 26 := by
  have h1 := insW_size p.1
  have h2 := decS_size h
  unfold insS
  rw [ba_size]; omega
def planS (l : List (Int × Int)) : ByteArray := joinB (l.map insS) sp
theorem takeN {α : Type} {l : List α} {k : Nat} (h : k < l.length) : l.take (k + 1) = l.take k ++ [l[k]] := List.take_succ_eq_append_getElem h
theorem planS_size {l : List (Int × Int)} (h : ∀ p ∈ l, inK .i64 p.2) : (planS l).size ≤ l.length * 27 := by
  have := joinB_size (B := 26) (xs := l.map insS) (sep := sp) (fun x hx => by
    obtain ⟨p, hp, rfl⟩ := List.mem_map.1 hx
    exact insS_size (h p hp))
  rw [List.length_map, sp_size] at this
  exact this
theorem planS_next {l : List (Int × Int)} {k : Nat} (h : k < l.length) (h0 : 0 < k) : planS (l.take (k + 1)) = planS (l.take k) ++ sp ++ insW l[k].1 ++ decS l[k].2 := by
  unfold planS
  rw [takeN h, List.map_append, List.map_cons, List.map_nil, joinB_snoc (by simp; constructor; omega; intro e; subst e; simp at h)]
  unfold insS
  rw [← ByteArray.append_assoc]
theorem planS_one {l : List (Int × Int)} (h : 0 < l.length) : planS (l.take 1) = planS (l.take 0) ++ insW l[0].1 ++ decS l[0].2 := by
  unfold planS
  rw [takeN h, List.take_zero, List.nil_append, List.map_cons, List.map_nil, joinB_one, joinB_nil, nil_app]
  rfl
theorem set_next {α : Type} {l : List α} {z : α} {k : Nat} (h : k < l.length) : (l.take k ++ List.replicate (l.length - k) z).set k l[k] = l.take (k + 1) ++ List.replicate (l.length - (k + 1)) z := by
  have e : l.length - k = (l.length - (k + 1)) + 1 := by omega
  have hl : (l.take k).length = k := by rw [List.length_take]; omega
  rw [e, List.replicate_succ, List.set_append_right _ _ (by omega), hl, Nat.sub_self, List.set_cons_zero, takeN h, List.append_assoc]
  rfl
theorem okD_mem {e : TypeId} {t : Ty} {l : List t.D} (h : okD (.slice e t) l) : ∀ x ∈ l, okD t x := h.2
end Go.Proofs.YtllphmcjocidaaaGreatDoor
