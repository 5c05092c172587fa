/- ReadOp: what is asked ahead. -/
import Derived.Test.YtahggdiafncdhaaDoorRd5
import Derived.Test.YtahggdiafncdhaaDoorTOp
import Derived.Test.YtahggdiafncdhaaDoorUOp
namespace Go.Proofs.YtahggdiafncdhaaDoor
set_option linter.unusedVariables false
theorem p_ReadOp (s : ByteArray) (hz : (s.size : Int) ≤ 1048576) : s.size ≤ 1048576 ∧ s.size ≤ 1048576 := ⟨by omega, by omega⟩
theorem q_ReadOp (s : ByteArray) (hz : (s.size : Int) ≤ 1048576) : (cntt tOp (rdOp s).1 : Int) ≤ 1000000000 := by
  by_cases h : (rdOp s).2 = true
  · have ho : opB (rdOp s).1 = true := by
      unfold rdOp at h ⊢
      split at h
      · rename_i hh
        rw [dif_pos hh]
        exact (Classical.choose_spec hh).1
      · cases h
    have h1 := opB_len ho
    have h2 := cnt_ints (rdOp s).1.2.2.2
    show ((0 + (0 + (0 + cnt tInts (rdOp s).1.2.2.2)) : Nat) : Int) ≤ 1000000000
    omega
  · have e : (rdOp s).1 = zeroD tOp := by
      unfold rdOp at h ⊢
      split at h
      · rename_i hh
        rw [dif_pos hh] at *
        exact absurd rfl h
      · rename_i hh
        rw [dif_neg hh]
    rw [e]; exact (by decide : (((0 : Nat) : Int) ≤ 1000000000))
end Go.Proofs.YtahggdiafncdhaaDoor
