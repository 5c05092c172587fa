/- Seq5: lemmas. No conditions. -/
import Derived.Test.YtiihghfoeinbbaaGreatSeq4
namespace Go.Proofs.YtiihghfoeinbbaaGreat
noncomputable section
open Go.ChangeShapes Go.WideShapes Go.ChangeAt Go.RowKit Go.Deep
set_option linter.unusedVariables false
set_option linter.unusedSimpArgs false
theorem aOC (d x:List Int):(qN d x).1.2.2.length≤36:=by
 unfold qN
 split
 ·rename_i h
  have h1:=(cP d).1 h.1
  have h2:=(cP x).1 h.2
  show (pY (xJ d x) d.length).length≤36
  rw[sK (f:=xJ d x) (L:=x.length) (fun i=>fJ _ _)]
  exact Nat.le_trans (Nat.mul_le_mul h1.2.1 h2.2.1) (by decide)
 ·exact Nat.zero_le _
theorem bDI (o:eK) (x d:List Int):(iN o x d).2.1.length≤36:=by
 unfold iN
 split
 ·exact Nat.zero_le _
 ·rename_i h
  rw[Classical.not_not] at h
  have hd:=(cP _).1 ((cF _ _).1 h.2.2).1
  split
  ·exact aOC d x
  ·split
   ·show d.length≤36;omega
   ·split
    ·exact (by decide:1≤36)
    ·split
     ·exact aOC d x
     ·exact Nat.zero_le _
theorem aLC (m:List eK) (r:cV) (d:List Int) (n:Nat):(k:Nat)→∀ v∈(eG m r d n k).1,List.length v≤36
 | 0=>fun v hv=>by rw[List.eq_of_mem_replicate hv];exact Nat.zero_le _
 | k+1=>fun v hv=>by
  rcases List.mem_or_eq_of_mem_set hv with h|rfl
  ·exact aLC m r d n k v h
  ·exact bDI _ _ _
def GB (g:eY):Prop:=g.1.length≤8∧∀ r∈g.1,List.length r≤36
theorem GB.ok {g:eY} (h:GB g):jQ g:=⟨Nat.le_trans h.1 (by decide),fun r hr=>Nat.le_trans (h.2 r hr) (by decide)⟩
theorem bLT {o:eK} (h:opB o=true):o.2.2.2.length≤36:=by
 have h1:=((kL o).1 h).1
 have h2:lW o≤36:=by
  unfold lW
  split
  ·omega
  ·have:=aRE (a:=o.2.1) (b:=o.2.2.1) (by omega) (by omega) (by omega) (by omega)
   split
   ·omega
   ·split
    ·omega
    ·split <;> omega
 omega
theorem bHK (m:List eK):GB (wV m):=by
 unfold wV
 split
 ·rename_i h
  have hm:=(bY m).1 h
  refine ⟨by show (jH m).length≤8;rw[nG];omega,fun r hr=>?_⟩
  obtain ⟨o,ho,rfl⟩:=List.mem_map.1 (show r∈m.map fun o=>List.replicate o.2.2.2.length 0 from hr)
  obtain ⟨i,hi,rfl⟩:=List.getElem_of_mem ho
  rw[List.length_replicate]
  exact bLT ((zO m hi).1 (hm.2.2 i hi)).1
 ·exact ⟨Nat.zero_le _,fun r hr=>by cases hr⟩
end
end Go.Proofs.YtiihghfoeinbbaaGreat
