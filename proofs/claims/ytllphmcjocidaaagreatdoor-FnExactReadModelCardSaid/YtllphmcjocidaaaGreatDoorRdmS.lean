/- ReadModel: what is asked ahead. -/
import Derived.Test.YtllphmcjocidaaaGreatDoorRd6
import Derived.Test.YtllphmcjocidaaaGreatDoorTModel
import Derived.Test.YtllphmcjocidaaaGreatDoorUModel
namespace Go.Proofs.YtllphmcjocidaaaGreatDoor
set_option linter.unusedVariables false
theorem p_ReadModel (s : ByteArray) (hz : (s.size : Int) ≤ 1048576) : s.size ≤ 1048576 ∧ s.size ≤ 1048576 := ⟨by omega, by omega⟩
theorem sum_le40 {α : Type} (f : α → Nat) (B : Nat) : (l : List α) → (∀ x ∈ l, f x ≤ B) → (l.map f).sum ≤ l.length * B
  | [], _ => by simp
  | x :: l, h => by
    have h1 := sum_le40 f B l fun y hy => h y (List.mem_cons_of_mem _ hy)
    have h2 := h x (by simp)
    rw [List.map_cons, List.sum_cons, List.length_cons, Nat.succ_mul]; omega
theorem q_ReadModel (s : ByteArray) (hz : (s.size : Int) ≤ 1048576) : (cntt tModel (rdModel s).1 : Int) ≤ 1000000000 := by
  by_cases h : (rdModel s).2 = true
  · have ho : modelB (rdModel s).1 = true := by
      unfold rdModel at h ⊢
      split at h
      · rename_i hh
        rw [dif_pos hh]
        exact (Classical.choose_spec hh).1
      · cases h
    have hl := ((modelB_iff _).1 ho).2.1
    have h1 : cntt tModel (rdModel s).1 ≤ (rdModel s).1.length * 40 := by
      show cnt (.slice 34 tOp) (rdModel s).1 ≤ _
      rw [cnt_slice]
      refine sum_le40 _ 40 _ fun o ho2 => ?_
      have h1 := opB_len (modelB_ops ho o ho2)
      have h2 := cnt_ints o.2.2.2
      show 1 + (1 + (1 + cnt tInts o.2.2.2)) ≤ 40
      omega
    omega
  · have e : (rdModel s).1 = [] := by
      unfold rdModel at h ⊢
      split at h
      · rename_i hh
        exact absurd rfl h
      · rename_i hh
        rw [dif_neg hh]
    rw [e]; exact (by decide : (((0 : Nat) : Int) ≤ 1000000000))
end Go.Proofs.YtllphmcjocidaaaGreatDoor
