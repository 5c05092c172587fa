/- Rows out of text: what is asked ahead, what comes back. -/
import Derived.Test.YtannonjikfbdhaaRead2
import Derived.Test.YtannonjikfbdhaaCe
namespace Go.Proofs.Ytannonjikfbdhaa
set_option linter.unusedVariables false
theorem p_ReadVec (s : ByteArray) (hz : (s.size : Int) ≤ 1048576) : True ∧ True := ⟨trivial, trivial⟩
theorem readV_len (s : ByteArray) : (readV s).1.length ≤ 200 := by
  unfold readV
  cases h : vecO s 0 with
  | none => exact Nat.zero_le _
  | some q => exact (vecO_b h).1
theorem q_ReadVec (s : ByteArray) (hz : (s.size : Int) ≤ 1048576) : (cnt tInts (readV s).1 : Int) ≤ 1000000000 := by
  have h1 := cnt_ints (readV s).1
  have h2 := readV_len s
  omega
end Go.Proofs.Ytannonjikfbdhaa
