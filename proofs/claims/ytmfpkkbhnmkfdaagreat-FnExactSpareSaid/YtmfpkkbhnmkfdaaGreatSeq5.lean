/- Seq5: lemmas. No conditions. -/
import Derived.Test.YtmfpkkbhnmkfdaaGreatSeq4
namespace Go.Proofs.YtmfpkkbhnmkfdaaGreat
open Go.ChangeShapes Go.WideShapes Go.ChangeAt Go.RowKit Go.Deep
set_option linter.unusedVariables false
set_option linter.unusedSimpArgs false
theorem aQ7 (d x:List Int):(rN d x).1.2.2.length≤36:=by
 unfold rN
 split
 ·rename_i h
  have h1:=(cT d).1 h.1
  have h2:=(cT x).1 h.2
  show (qZ (zX d x) d.length).length≤36
  rw[tQ (f:=zX d x) (L:=x.length) (fun i=>eM _ _)]
  exact Nat.le_trans (Nat.mul_le_mul h1.2.1 h2.2.1) (by decide)
 ·exact Nat.zero_le _
theorem bEX (o:eV) (x d:List Int):(jB o x d).2.1.length≤36:=by
 unfold jB
 split
 ·exact Nat.zero_le _
 ·rename_i h
  rw[Classical.not_not] at h
  have hd:=(cT _).1 ((cI _ _).1 h.2.2).1
  split
  ·exact aQ7 d x
  ·split
   ·show d.length≤36;omega
   ·split
    ·exact (by decide:1≤36)
    ·split
     ·exact aQ7 d x
     ·exact Nat.zero_le _
theorem aLV (m:List eV) (r:cZ) (d:List Int) (n:Nat):(k:Nat)→∀ v∈(eR m r d n k).1,List.length v≤36
 | 0=>fun v hv=>by rw[List.eq_of_mem_replicate hv];exact Nat.zero_le _
 | k+1=>fun v hv=>by
  rcases List.mem_or_eq_of_mem_set hv with h|rfl
  ·exact aLV m r d n k v h
  ·exact bEX _ _ _
def GB (g:fO):Prop:=g.1.length≤8∧∀ r∈g.1,List.length r≤36
theorem GB.ok {g:fO} (h:GB g):kE g:=⟨Nat.le_trans h.1 (by decide),fun r hr=>Nat.le_trans (h.2 r hr) (by decide)⟩
theorem bP2 {o:eV} (h:opB o=true):o.2.2.2.length≤36:=by
 have h1:=((lE o).1 h).1
 have h2:mT o≤36:=by
  unfold mT
  split
  ·omega
  ·have:=aWF (a:=o.2.1) (b:=o.2.2.1) (by omega) (by omega) (by omega) (by omega)
   split
   ·omega
   ·split
    ·omega
    ·split <;> omega
 omega
theorem bI3 (m:List eV):GB (xM m):=by
 unfold xM
 split
 ·rename_i h
  have hm:=(bY m).1 h
  refine ⟨by show (kG m).length≤8;rw[oD];omega,fun r hr=>?_⟩
  obtain ⟨o,ho,rfl⟩:=List.mem_map.1 (show r∈m.map fun o=>List.replicate o.2.2.2.length 0 from hr)
  obtain ⟨i,hi,rfl⟩:=List.getElem_of_mem ho
  rw[List.length_replicate]
  exact bP2 ((aBS m hi).1 (hm.2.2 i hi)).1
 ·exact ⟨Nat.zero_le _,fun r hr=>by cases hr⟩
end Go.Proofs.YtmfpkkbhnmkfdaaGreat
