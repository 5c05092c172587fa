/- Texts of operations, read back: plain law. No program in sight. -/
import Derived.Test.YtllphmcjocidaaaGreatDoorRdo
import Derived.Test.YtllphmcjocidaaaGreatDoorDec4
namespace Go.Proofs.YtllphmcjocidaaaGreatDoor
open Go.Lib
set_option linter.unusedVariables false
set_option linter.unusedSimpArgs false
theorem dash_list : dashB.data.toList = [45] := rfl
theorem plus_list : plusB.data.toList = [43] := rfl
theorem sp_list : sp.data.toList = [32] := rfl
theorem decS_list (n : Int) : (decS n).data.toList = itoa n := ofL_list _
/-- The bytes of a number with a point. -/
def fixL (a : Int) : List UInt8 := if a < 0 then 45 :: (itoa (-a / 65536) ++ 43 :: itoa (-a % 65536)) else itoa (a / 65536) ++ 43 :: itoa (a % 65536)
theorem fixT_list {a : Int} (h : fixB a = true) : (fixT a).data.toList = fixL a := by
  unfold fixT fixL
  rw [if_pos h]
  split
  · rw [ba_list, ba_list, ba_list, dash_list, plus_list, decS_list, decS_list]; simp
  · rw [ba_list, ba_list, plus_list, decS_list, decS_list]; simp
theorem fixL_head {a : Int} (h : ¬ a < 0) : ∃ b r, fixL a = b :: r ∧ b ≠ 45 := by
  obtain ⟨b, r, e, hb⟩ := itoa_head (n := a / 65536) (by omega)
  refine ⟨b, r ++ 43 :: itoa (a % 65536), ?_, hb⟩
  unfold fixL; rw [if_neg h, e]; rfl
theorem fixL_inj {a b : Int} (h : fixL a = fixL b) : a = b := by
  by_cases ha : a < 0
  · by_cases hb : b < 0
    · unfold fixL at h
      rw [if_pos ha, if_pos hb] at h
      obtain ⟨h1, h2⟩ := plus_inj (List.cons.inj h).2
      omega
    · obtain ⟨x, r, e, hx⟩ := fixL_head hb
      rw [e] at h
      unfold fixL at h
      rw [if_pos ha] at h
      exact absurd (List.cons.inj h).1.symm hx
  · by_cases hb : b < 0
    · obtain ⟨x, r, e, hx⟩ := fixL_head ha
      rw [e] at h
      unfold fixL at h
      rw [if_pos hb] at h
      exact absurd (List.cons.inj h).1 hx
    · unfold fixL at h
      rw [if_neg ha, if_neg hb] at h
      obtain ⟨h1, h2⟩ := plus_inj h
      omega
theorem fixT_inj {a b : Int} (ha : fixB a = true) (hb : fixB b = true) (h : fixT a = fixT b) : a = b := by
  have : (fixT a).data.toList = (fixT b).data.toList := by rw [h]
  rw [fixT_list ha, fixT_list hb] at this
  exact fixL_inj this
theorem fixL_no (a : Int) : (32 : UInt8) ∉ fixL a := by
  have h1 : ∀ n, (32 : UInt8) ∉ itoa n := fun n => no_byte n (by decide) (.inl (by decide))
  unfold fixL
  split
  · simp [h1]
  · simp [h1]
theorem opW_no (k : Int) : (32 : UInt8) ∉ (opW k).data.toList := by
  unfold opW
  repeat' split
  all_goals decide
theorem opW_inj {k k' : Int} (h : 1 ≤ k ∧ k ≤ 5) (h' : 1 ≤ k' ∧ k' ≤ 5) (e : opW k = opW k') : k = k' := by
  have hk : k = 1 ∨ k = 2 ∨ k = 3 ∨ k = 4 ∨ k = 5 := by omega
  have hk' : k' = 1 ∨ k' = 2 ∨ k' = 3 ∨ k' = 4 ∨ k' = 5 := by omega
  rcases hk with rfl | rfl | rfl | rfl | rfl <;> rcases hk' with rfl | rfl | rfl | rfl | rfl <;> first | rfl | (exfalso; revert e; decide)
/-- An operation's words. -/
def wordsL (o : OpD) : List (List UInt8) := (opW o.1).data.toList :: itoa o.2.1 :: itoa o.2.2.1 :: o.2.2.2.map fixL
theorem wordsL_no (o : OpD) : ∀ w ∈ wordsL o, (32 : UInt8) ∉ w := by
  intro w hw
  have h1 : ∀ n, (32 : UInt8) ∉ itoa n := fun n => no_byte n (by decide) (.inl (by decide))
  unfold wordsL at hw
  simp only [List.mem_cons, List.mem_map] at hw
  rcases hw with rfl | rfl | rfl | ⟨p, _, rfl⟩
  · exact opW_no _
  · exact h1 _
  · exact h1 _
  · exact fixL_no p
theorem opT_list {o : OpD} (h : opB o = true) : (opT o).data.toList = join (wordsL o) [32] := by
  unfold opT joinB
  rw [if_pos h, ofL_list, sp_list]
  congr 1
  unfold opWs wordsL
  rw [List.take_length, List.map_append, List.map_map]
  have hf : List.map ((fun s : ByteArray => s.data.toList) ∘ fixT) o.2.2.2 = o.2.2.2.map fixL := List.map_congr_left fun p hp => fixT_list (List.all_eq_true.1 ((opB_iff o).1 h).2 p hp)
  rw [hf]
  simp [decS_list]
/-- THE WORDS COME BACK. -/
theorem opT_cut {o : OpD} (h : opB o = true) : cutL 32 (opT o).data.toList = wordsL o := by
  rw [opT_list h]
  exact cutL_join (wordsL o) (by unfold wordsL; simp) (wordsL_no o)
theorem map_fixL_inj : {a b : List Int} → a.map fixL = b.map fixL → a = b
  | [], [], _ => rfl
  | [], _ :: _, h => by simp at h
  | _ :: _, [], h => by simp at h
  | x :: a, y :: b, h => by
    rw [List.map_cons, List.map_cons] at h
    obtain ⟨h1, h2⟩ := List.cons.inj h
    rw [fixL_inj h1, map_fixL_inj h2]
/-- No two operations have one text. -/
theorem opT_inj {o o' : OpD} (h : opB o = true) (h' : opB o' = true) (e : opT o = opT o') : o = o' := by
  have h1 := opT_cut h
  rw [e, opT_cut h'] at h1
  unfold wordsL at h1
  simp only [List.cons.injEq] at h1
  obtain ⟨e1, e2, e3, e4⟩ := h1
  have k := ((opB_iff o).1 h).1
  have k' := ((opB_iff o').1 h').1
  have ew : opW o'.1 = opW o.1 := by
    have := congrArg ofL e1
    rwa [ofL_data, ofL_data] at this
  have f1 : o'.1 = o.1 := opW_inj ⟨k'.1, k'.2.1⟩ ⟨k.1, k.2.1⟩ ew
  obtain ⟨a, b, c, d⟩ := o
  obtain ⟨a', b', c', d'⟩ := o'
  have f2 : b' = b := itoa_inj e2
  have f3 : c' = c := itoa_inj e3
  have f4 : d' = d := map_fixL_inj e4
  dsimp only at f1
  rw [f1, f2, f3, f4]
theorem opT_ne {o : OpD} (h : opB o = true) : opT o ≠ ⟨#[]⟩ := fun e => by
  have h1 := opT_cut h
  rw [e] at h1
  unfold wordsL at h1
  simp [cutL] at h1
end Go.Proofs.YtllphmcjocidaaaGreatDoor
