/- Seq5: trees, and what they say. -/
import Derived.Test.YtmfpkkbhnmkfdaaGreatSeq4
namespace Go.Proofs.YtmfpkkbhnmkfdaaGreat
open Go.ChangeShapes Go.WideShapes Go.ChangeAt Go.RowKit Go.Deep
set_option linter.unusedVariables false
set_option linter.unusedSimpArgs false
theorem aJP (d x:List Int):(oH d x).1.2.2.length≤36:=by
 unfold oH
 split
 ·rename_i h
  have h1:=(cJ d).1 h.1
  have h2:=(cJ x).1 h.2
  show (nN (uZ d x) d.length).length≤36
  rw [pA (f:=uZ d x) (L:=x.length) (fun i=>gQ _ _)]
  exact Nat.le_trans (Nat.mul_le_mul h1.2.1 h2.2.1) (by decide)
 ·exact Nat.zero_le _
theorem aVK (o:iC) (x d:List Int):(gO o x d).2.1.length≤36:=by
 unfold gO
 split
 ·exact Nat.zero_le _
 ·rename_i h
  rw [Classical.not_not] at h
  have hd:=(cJ _).1 ((bY _ _).1 h.2.2).1
  split
  ·exact aJP d x
  ·split
   ·show d.length≤36;omega
   ·split
    ·exact (by decide:1≤36)
    ·split
     ·exact aJP d x
     ·exact Nat.zero_le _
theorem aFJ (m:List iC) (r:dD) (d:List Int) (n:Nat):(k:Nat)→∀ v ∈ (eC m r d n k).1,List.length v≤36
 | 0=>fun v hv=>by rw [List.eq_of_mem_replicate hv];exact Nat.zero_le _
 | k + 1=>fun v hv=>by
  rcases List.mem_or_eq_of_mem_set hv with h | rfl
  ·exact aFJ m r d n k v h
  ·exact aVK _ _ _
def GB (g:fH):Prop:=g.1.length≤8∧∀ r ∈ g.1,List.length r≤36
theorem GB.ok {g:fH} (h:GB g):iJ g:=⟨Nat.le_trans h.1 (by decide),fun r hr=>Nat.le_trans (h.2 r hr) (by decide)⟩
end Go.Proofs.YtmfpkkbhnmkfdaaGreat
