/- Zero2: trees, and what they say. -/
import Derived.Test.YtllphmcjocidaaaGreatDoorOps2
namespace Go.Proofs.YtllphmcjocidaaaGreatDoor
open Go.ChangeShapes Go.WideShapes Go.ChangeAt Go.RowKit Go.Deep
set_option linter.unusedVariables false
set_option linter.unusedSimpArgs false
def zeroRows (m : List OpD) : List (List Int) := m.map fun o => List.replicate o.2.2.2.length 0
def zeroG (m : List OpD) : GradsD := if modelB m = true then (zeroRows m, 0, false) else ([], 0, false)
def fitAt (m : List OpD) (g : List (List Int)) (i : Nat) : Bool := decide ((g.getD i []).length = (m.getD i zOp).2.2.2.length)
def fitB (m : List OpD) (g : List (List Int)) : Bool := decide (g.length = m.length) && (List.range m.length).all (fitAt m g)
theorem fitB_iff (m : List OpD) (g : List (List Int)) : fitB m g = true ↔ g.length = m.length ∧ ∀ i, i < m.length → fitAt m g i = true := by
  unfold fitB; simp only [Bool.and_eq_true, decide_eq_true_eq, List.all_eq_true, List.mem_range]
theorem fitAt_iff (m : List OpD) (g : List (List Int)) {i : Nat} (h : i < m.length) (h' : i < g.length) : fitAt m g i = true ↔ g[i].length = m[i].2.2.2.length := by
  unfold fitAt
  rw [getD_at h, getD_at h', decide_eq_true_eq]
theorem fitB_bad {m : List OpD} {g : List (List Int)} {i : Nat} (h : i < m.length) (hb : ¬ fitAt m g i = true) : fitB m g = false := by
  refine Bool.eq_false_iff.2 ?_
  rw [ne_eq, fitB_iff]
  exact fun hh => hb (hh.2 i h)

def swingB (m : List OpD) (s : SwingD) : Bool := modelB m && (decide (0 ≤ s.2) && (fitB m s.1 && s.1.all fun r => r.all fixB))
def ModelP (m : List OpD) : Prop := List.length m ≤ 1000000000 ∧ ∀ o ∈ m, List.length o.2.2.2 ≤ 1000000000
def RowsP (m : List (List Int)) : Prop := List.length m ≤ 1000000000 ∧ ∀ o ∈ m, List.length o ≤ 1000000000
theorem zeroRows_next (m : List OpD) {k : Nat} (h : k < m.length) : (zeroRows m).take k ++ [List.replicate m[k].2.2.2.length 0] = (zeroRows m).take (k + 1) := by
  have h' : k < (zeroRows m).length := by unfold zeroRows; rw [List.length_map]; exact h
  have e : (zeroRows m)[k]'h' = List.replicate m[k].2.2.2.length 0 := List.getElem_map ..
  rw [List.take_succ_eq_append_getElem h', e]
theorem zeroRows_len (m : List OpD) : (zeroRows m).length = m.length := List.length_map _
theorem swingB_iff (m : List OpD) (s : SwingD) : swingB m s = true ↔ modelB m = true ∧ 0 ≤ s.2 ∧ fitB m s.1 = true ∧ (s.1.all fun r => r.all fixB) = true := by
  unfold swingB; simp only [Bool.and_eq_true, decide_eq_true_eq]
theorem swing_f1 {m : List OpD} {s : SwingD} (h : modelB m = false) : false = swingB m s := by unfold swingB; rw [h]; rfl
theorem swing_f2 {m : List OpD} {s : SwingD} (h : s.2 < 0) : false = swingB m s := by
  refine (Bool.eq_false_iff.2 ?_).symm; rw [ne_eq, swingB_iff]; intro hh; omega
theorem swing_f3 {m : List OpD} {s : SwingD} (h : fitB m s.1 = false) : false = swingB m s := by
  refine (Bool.eq_false_iff.2 ?_).symm; rw [ne_eq, swingB_iff, h]; intro hh; exact Bool.noConfusion hh.2.2.1
theorem swing_f4 {m : List OpD} {s : SwingD} (h : (s.1.all fun r => r.all fixB) = false) : false = swingB m s := by
  refine (Bool.eq_false_iff.2 ?_).symm; rw [ne_eq, swingB_iff, h]; intro hh; exact Bool.noConfusion hh.2.2.2
end Go.Proofs.YtllphmcjocidaaaGreatDoor
