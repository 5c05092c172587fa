/- TrainAlone: what is asked ahead, what comes back. -/
import Derived.Test.YtiihghfoeinbbaaGreatTrain2
import Derived.Test.YtiihghfoeinbbaaGreatTBatch
namespace Go.Proofs.YtiihghfoeinbbaaGreat
open Go.ChangeShapes Go.WideShapes Go.ChangeAt Go.RowKit Go.Deep
set_option linter.unusedVariables false
set_option linter.unusedSimpArgs false
theorem stop_le (B : Nat → Bool) : (n : Nat) → stopB B n ≤ n
  | 0 => Nat.le_refl _
  | n + 1 => by
    show (if _ then _ else _) ≤ _
    split
    · exact Nat.le_refl _
    · exact Nat.le_trans (stop_le B n) (Nat.le_succ n)
theorem p_TrainAlone (d : ModelD) (l : List BatchD) (x : Int) (hz0 : ((szT tModel d : Nat) : Int) ≤ 1048576) (hz1 : ((szT (.slice 96 tBatch) l : Nat) : Int) ≤ 1048576 - (szT tModel d : Nat)) : szT tModel d ≤ 1000000000 ∧ szT tModel d ≤ 1000000000 :=
  ⟨by omega, by omega⟩
def trainP (x : ModelD × (List BatchD × Int)) : ModelD × (List Int × Bool) := taF x.1 x.2.1 x.2.2
theorem q_TrainAlone (d : ModelD) (l : List BatchD) (x : Int) (hz0 : ((szT tModel d : Nat) : Int) ≤ 1048576) (hz1 : ((szT (.slice 96 tBatch) l : Nat) : Int) ≤ 1048576 - (szT tModel d : Nat)) : (cntt tModel (trainP (d, l, x)).1 : Int) ≤ 1000000000 ∧ (cnt tInts (trainP (d, l, x)).2.1 : Int) ≤ 1000000000 := by
  have h1 := cntt_le tModel (trainP (d, l, x)).1 (by decide)
  have h2 : szT tModel (trainP (d, l, x)).1 = szT tModel d := taK_sz d l x _
  have h4 := stop_le (taB d l x) (min l.length 20)
  have h5 : cnt tInts (trainP (d, l, x)).2.1 = stopB (taB d l x) (min l.length 20) := (cnt_ints _).trans (taK_len d l x _)
  exact ⟨by omega, by omega⟩
end Go.Proofs.YtiihghfoeinbbaaGreat
