/- Stage3: trees, and what they say. -/
import Derived.Test.YtiihghfoeinbbaaZero2
import Derived.Test.YtiihghfoeinbbaaSame3
namespace Go.Proofs.Ytiihghfoeinbbaa
open Go.ChangeShapes Go.WideShapes Go.ChangeAt Go.RowKit Go.Deep
set_option linter.unusedVariables false
set_option linter.unusedSimpArgs false
def inOf (m : List OpD) : Int := if modelB m = true then (m.getD 0 zOp).2.1 else 0
def outOf (m : List OpD) : Int := if modelB m = true then (m.getD (m.length - 1) zOp).2.2.1 else 0
def vecN (v : List Int) (n : Int) : Bool := vecB v && decide ((v.length : Int) = n)
theorem vecN_iff (v : List Int) (n : Int) : vecN v n = true ↔ vecB v = true ∧ (v.length : Int) = n := by unfold vecN; rw [Bool.and_eq_true, decide_eq_true_eq]
def handB (v : List Int) (n : Int) : Bool := decide (v.length = 0) || vecN v n
theorem handB_iff (v : List Int) (n : Int) : handB v n = true ↔ v.length = 0 ∨ vecN v n = true := by unfold handB; rw [Bool.or_eq_true, decide_eq_true_eq]
/-- How many numbers go into operation i, or come out of the last one. -/
def sizeAt (m : List OpD) (i : Nat) : Int := if i < m.length then (m.getD i zOp).2.1 else (m.getD (m.length - 1) zOp).2.2.1
theorem sizeAt_succ {m : List OpD} (h : modelB m = true) {k : Nat} (hk : k < m.length) : sizeAt m (k + 1) = (m.getD k zOp).2.2.1 := by
  unfold sizeAt
  split
  · rename_i h1
    have h2 := ((modelB_iff m).1 h).2.2 (k + 1) h1
    rw [okAt_iff m h1] at h2
    rcases h2.2 with h3 | h3
    · omega
    · rw [getD_at h1, getD_at hk]
      exact h3.symm
  · have : m.length - 1 = k := by omega
    rw [this]
def rowsAt (m : List OpD) (r : List (List Int)) (n : Nat) : Bool := (List.range n).all fun i => vecN (r.getD i []) (sizeAt m i)
theorem rowsAt_iff (m : List OpD) (r : List (List Int)) (n : Nat) : rowsAt m r n = true ↔ ∀ i, i < n → vecN (r.getD i []) (sizeAt m i) = true := by unfold rowsAt; simp only [List.all_eq_true, List.mem_range]
def keptN (m : List OpD) (redo : Bool) : Nat := if redo = true then 1 else m.length + 1
def savedB (m : List OpD) (redo : Bool) (x : Int × List (List Int)) : Bool := decide (x.2.length = keptN m redo) && rowsAt m x.2 (keptN m redo)
theorem savedB_iff (m : List OpD) (redo : Bool) (x : Int × List (List Int)) : savedB m redo x = true ↔ x.2.length = keptN m redo ∧ ∀ i, i < keptN m redo → vecN (x.2.getD i []) (sizeAt m i) = true := by unfold savedB; rw [Bool.and_eq_true, decide_eq_true_eq, rowsAt_iff]
def stageB (s : StageD) : Bool := modelB s.2.2.1 && (decide (0 ≤ s.1 ∧ s.1 ≤ (s.2.1.length : Int)) && (fitB s.2.2.1 s.2.2.2.2.2.2.2.2.2.2.2.1 && (s.2.2.2.2.2.1.all (savedB s.2.2.1 s.2.2.2.2.1) &&
  (handB s.2.2.2.2.2.2.2.1 (inOf s.2.2.1) && (handB s.2.2.2.2.2.2.2.2.2.2.1 (inOf s.2.2.1) && (handB s.2.2.2.2.2.2.2.2.1 (outOf s.2.2.1) && handB s.2.2.2.2.2.2.2.2.2.1 (outOf s.2.2.1)))))))
theorem stageB_iff (s : StageD) : stageB s = true ↔ modelB s.2.2.1 = true ∧ (0 ≤ s.1 ∧ s.1 ≤ (s.2.1.length : Int)) ∧ fitB s.2.2.1 s.2.2.2.2.2.2.2.2.2.2.2.1 = true ∧ s.2.2.2.2.2.1.all (savedB s.2.2.1 s.2.2.2.2.1) = true ∧
  handB s.2.2.2.2.2.2.2.1 (inOf s.2.2.1) = true ∧ handB s.2.2.2.2.2.2.2.2.2.2.1 (inOf s.2.2.1) = true ∧ handB s.2.2.2.2.2.2.2.2.1 (outOf s.2.2.1) = true ∧ handB s.2.2.2.2.2.2.2.2.2.1 (outOf s.2.2.1) = true := by
  unfold stageB; simp only [Bool.and_eq_true, decide_eq_true_eq]
theorem vecN_f {v : List Int} {n : Int} (h : vecB v = false) : false = vecN v n := by unfold vecN; rw [h]; rfl
theorem vecN_t {v : List Int} {n : Int} (h : vecB v = true) : ((v.length : Int) == n) = vecN v n := by unfold vecN; rw [h, Bool.true_and]; rfl
theorem stage_bad {s : StageD} {k : Nat} (hk : k < s.2.2.2.2.2.1.length) (h : ¬ savedB s.2.2.1 s.2.2.2.2.1 (s.2.2.2.2.2.1.getD k (zeroD tSaved)) = true) : false = stageB s := by
  refine (Bool.eq_false_iff.2 fun hh => ?_).symm
  have h4 := ((stageB_iff s).1 hh).2.2.2.1
  rw [List.all_eq_true] at h4
  exact h (h4 _ (by rw [getD_at hk]; exact List.getElem_mem hk))
theorem stash_all {s : StageD} (h : ∀ i, i < s.2.2.2.2.2.1.length → savedB s.2.2.1 s.2.2.2.2.1 (s.2.2.2.2.2.1.getD i (zeroD tSaved)) = true) : s.2.2.2.2.2.1.all (savedB s.2.2.1 s.2.2.2.2.1) = true := by
  rw [List.all_eq_true]
  intro x hx
  obtain ⟨i, hi, rfl⟩ := List.getElem_of_mem hx
  have := h i hi
  rwa [getD_at hi] at this
theorem savedB_of {m : List OpD} {redo : Bool} {x : SavedD} {n : Nat} (hn : n = keptN m redo) : savedB m redo x = true ↔ x.2.length = n ∧ rowsAt m x.2 n = true := by
  unfold savedB; rw [Bool.and_eq_true, decide_eq_true_eq, hn]
theorem stage_eq {s : StageD} (h1 : modelB s.2.2.1 = true) (h2 : 0 ≤ s.1 ∧ s.1 ≤ (s.2.1.length : Int)) (h3 : fitB s.2.2.1 s.2.2.2.2.2.2.2.2.2.2.2.1 = true) (h4 : s.2.2.2.2.2.1.all (savedB s.2.2.1 s.2.2.2.2.1) = true) :
    stageB s = (handB s.2.2.2.2.2.2.2.1 (inOf s.2.2.1) && (handB s.2.2.2.2.2.2.2.2.2.2.1 (inOf s.2.2.1) && (handB s.2.2.2.2.2.2.2.2.1 (outOf s.2.2.1) && handB s.2.2.2.2.2.2.2.2.2.1 (outOf s.2.2.1)))) := by
  unfold stageB; rw [h1, h3, h4]; simp [h2]
theorem stage_no {s : StageD} (h : modelB s.2.2.1 = false ∨ s.1 < 0 ∨ (s.2.1.length : Int) < s.1 ∨ fitB s.2.2.1 s.2.2.2.2.2.2.2.2.2.2.2.1 = false ∨ handB s.2.2.2.2.2.2.2.1 (inOf s.2.2.1) = false ∨ handB s.2.2.2.2.2.2.2.2.2.2.1 (inOf s.2.2.1) = false ∨ handB s.2.2.2.2.2.2.2.2.1 (outOf s.2.2.1) = false) : false = stageB s := by
  refine (Bool.eq_false_iff.2 fun hh => ?_).symm
  obtain ⟨h1, h2, h3, h4, h5, h6, h7, h8⟩ := (stageB_iff s).1 hh
  rcases h with h | h | h | h | h | h | h
  · rw [h] at h1; cases h1
  · omega
  · omega
  · rw [h] at h3; cases h3
  · rw [h] at h5; cases h5
  · rw [h] at h6; cases h6
  · rw [h] at h7; cases h7
theorem stage_yes {s : StageD} (h1 : modelB s.2.2.1 = true) (h2 : 0 ≤ s.1 ∧ s.1 ≤ (s.2.1.length : Int)) (h3 : fitB s.2.2.1 s.2.2.2.2.2.2.2.2.2.2.2.1 = true) (h4 : s.2.2.2.2.2.1.all (savedB s.2.2.1 s.2.2.2.2.1) = true)
    (h5 : handB s.2.2.2.2.2.2.2.1 (inOf s.2.2.1) = true) (h6 : handB s.2.2.2.2.2.2.2.2.2.2.1 (inOf s.2.2.1) = true) (h7 : handB s.2.2.2.2.2.2.2.2.1 (outOf s.2.2.1) = true) : handB s.2.2.2.2.2.2.2.2.2.1 (outOf s.2.2.1) = stageB s := by
  unfold stageB; rw [h1, h3, h4, h5, h6, h7]; simp [h2]
end Go.Proofs.Ytiihghfoeinbbaa
