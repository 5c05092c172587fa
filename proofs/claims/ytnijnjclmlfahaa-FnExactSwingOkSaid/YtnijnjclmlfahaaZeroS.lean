/- Sizes: sums of gradients, zero gradients. -/
import Derived.Test.YtnijnjclmlfahaaZero2
import Derived.Test.YtnijnjclmlfahaaAll2
import Derived.Test.YtnijnjclmlfahaaRingS
import Derived.Test.YtnijnjclmlfahaaTModel
import Derived.Test.YtnijnjclmlfahaaTSwing
namespace Go.Proofs.Ytnijnjclmlfahaa
open Go.ChangeShapes Go.WideShapes Go.ChangeAt Go.RowKit Go.Deep
set_option linter.unusedVariables false
set_option linter.unusedSimpArgs false

theorem modelP_of {m : tModel.D} (h : szT tModel m ≤ 1048576) : ModelP m :=
  have b : LenB tModel m := lenB_of h
  ⟨b.1, fun o ho => (b.2 o ho).2.2.2.1⟩
theorem rowsP_of {e : TypeId} {m : List (List Int)} (h : szT (.slice e tInts) m ≤ 1048576) : RowsP m :=
  have b : LenB (.slice e tInts) m := lenB_of h
  ⟨b.1, fun o ho => (b.2 o ho).1⟩
theorem p_AllTogether (l : List (Ty.D tGrads)) (hz : ((szT (.slice 36 tGrads) l : Nat) : Int) ≤ 1048576) : (List.length l ≤ 1000000000 ∧ ∀ g ∈ (l : List GradsD), GradsB g) ∧ (List.length l ≤ 1000000000 ∧ ∀ g ∈ (l : List GradsD), GradsB g) := by
  have h : szT (.slice 36 tGrads) l ≤ 1048576 := by omega
  have hb : List.length l ≤ 1000000000 ∧ ∀ g ∈ (l : List GradsD), GradsB g :=
    ⟨Nat.le_trans (Nat.le_trans (szT_len (e := 36) (t := tGrads) l) h) (by decide), fun g hg => gradsB_of (Nat.le_trans (szT_mem (e := 36) (t := tGrads) hg) h)⟩
  exact ⟨hb, hb⟩
theorem szT_sumK (l : List tGrads.D) : (k : Nat) → szT tGrads (sumK l k) ≤ szT (.slice 36 tGrads) l
  | 0 => by rw [sumK_0]; exact szT_getD l 0
  | k + 1 => by
    by_cases hk : k + 1 < l.length
    · rw [sumK_next l hk]; exact Nat.le_trans (szT_addGrads _ _) (szT_sumK l k)
    · have : sumK l (k + 1) = sumK l k := by
        unfold sumK
        rw [take_ge (l := l.drop 1) (by rw [List.length_drop]; omega), take_ge (l := l.drop 1) (by rw [List.length_drop]; omega)]
      rw [this]; exact szT_sumK l k
theorem q_AllTogether (l : List (Ty.D tGrads)) (hz : ((szT (.slice 36 tGrads) l : Nat) : Int) ≤ 1048576) : (cntt tGrads (allG l) : Int) ≤ 1000000000 := by
  have h1 := cntt_le tGrads (allG l) (by decide)
  have h2 : szT tGrads (allG l) ≤ szT (.slice 36 tGrads) l := by
    unfold allG
    split
    · exact Nat.zero_le _
    · exact szT_sumK l _
  omega
theorem p_SwingNew (m : Ty.D tModel) (hz : ((szT tModel m : Nat) : Int) ≤ 1048576) : ModelP m ∧ ModelP m := ⟨modelP_of (by omega), modelP_of (by omega)⟩
theorem szT_zeroRows : (m : List OpD) → szT (.slice 111 tInts) (zeroRows m) ≤ szT tModel m
  | [] => Nat.zero_le _
  | o :: m => by
    have h := szT_zeroRows m
    have e1 : szT tModel (o :: m) = (m.length + 1) + (szT tOp o + (List.map (szT tOp) m).sum) := rfl
    have e2 : szT tModel m = m.length + (List.map (szT tOp) m).sum := rfl
    have e3 : szT (.slice 111 tInts) (zeroRows (o :: m)) = ((zeroRows m).length + 1) + (szT tInts (List.replicate o.2.2.2.length 0) + (List.map (szT tInts) (zeroRows m)).sum) := rfl
    have e4 : szT (.slice 111 tInts) (zeroRows m) = (zeroRows m).length + (List.map (szT tInts) (zeroRows m)).sum := rfl
    have e5 : szT tOp o = 0 + (0 + (0 + szT tInts o.2.2.2)) := rfl
    rw [szT_ints] at e5
    rw [szT_ints, List.length_replicate] at e3
    omega
theorem q_SwingNew (m : Ty.D tModel) (hz : ((szT tModel m : Nat) : Int) ≤ 1048576) : (cntt tSwing (((zeroG m).1, 0) : SwingD) : Int) ≤ 1000000000 := by
  have h1 := cntt_le tSwing (((zeroG m).1, 0) : SwingD) (by decide)
  have h2 : szT tSwing (((zeroG m).1, 0) : SwingD) ≤ szT tModel m := by
    unfold zeroG
    split
    · exact szT_zeroRows m
    · exact Nat.zero_le _
  omega
theorem p_SwingOk (m : Ty.D tModel) (s : Ty.D tSwing) (hz : ((szT tModel m : Nat) : Int) ≤ 1048576) (hz1 : ((szT tSwing s : Nat) : Int) ≤ 1048576 - (szT tModel m : Nat)) : (ModelP m ∧ RowsP s.1) ∧ (ModelP m ∧ RowsP s.1) := by
  have h : szT (.slice 111 tInts) s.1 + 0 ≤ 1048576 := by
    have : szT tSwing s = szT (.slice 111 tInts) s.1 + 0 := rfl
    omega
  exact ⟨⟨modelP_of (by omega), rowsP_of (e := 111) h⟩, modelP_of (by omega), rowsP_of (e := 111) h⟩
end Go.Proofs.Ytnijnjclmlfahaa
