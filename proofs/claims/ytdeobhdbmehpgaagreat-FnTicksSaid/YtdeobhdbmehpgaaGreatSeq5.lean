/- Seq5: lemmas. No conditions. -/
import Derived.Test.YtdeobhdbmehpgaaGreatSeq4
namespace Go.Proofs.YtdeobhdbmehpgaaGreat
open Go.ChangeShapes Go.WideShapes Go.ChangeAt Go.RowKit Go.Deep
set_option linter.unusedVariables false
set_option linter.unusedSimpArgs false
theorem aOH (d x:List Int):(qP d x).1.2.2.length≤36:=by
 unfold qP
 split
 ·rename_i h
  have h1:=(cL d).1 h.1
  have h2:=(cL x).1 h.2
  show (pV (wW d x) d.length).length≤36
  rw[sM (f:=wW d x) (L:=x.length) (fun i=>fR _ _)]
  exact Nat.le_trans (Nat.mul_le_mul h1.2.1 h2.2.1) (by decide)
 ·exact Nat.zero_le _
theorem bCW (o:dJ) (x d:List Int):(iB o x d).2.1.length≤36:=by
 unfold iB
 split
 ·exact Nat.zero_le _
 ·rename_i h
  rw[Classical.not_not] at h
  have hd:=(cL _).1 ((cE _ _).1 h.2.2).1
  split
  ·exact aOH d x
  ·split
   ·show d.length≤36;omega
   ·split
    ·exact (by decide:1≤36)
    ·split
     ·exact aOH d x
     ·exact Nat.zero_le _
theorem aL4 (m:List dJ) (r:cV) (d:List Int) (n:Nat):(k:Nat)→∀ v∈(eH m r d n k).1,List.length v≤36
 | 0=>fun v hv=>by rw[List.eq_of_mem_replicate hv];exact Nat.zero_le _
 | k+1=>fun v hv=>by
  rcases List.mem_or_eq_of_mem_set hv with h|rfl
  ·exact aL4 m r d n k v h
  ·exact bCW _ _ _
def GB (g:dP):Prop:=g.1.length≤8∧∀ r∈g.1,List.length r≤36
theorem GB.ok {g:dP} (h:GB g):jE g:=⟨Nat.le_trans h.1 (by decide),fun r hr=>Nat.le_trans (h.2 r hr) (by decide)⟩
theorem bLG {o:dJ} (h:opB o=true):o.2.2.2.length≤36:=by
 have h1:=((hK o).1 h).1
 have h2:gC o≤36:=by
  unfold gC
  split
  ·omega
  ·have:=aOW (a:=o.2.1) (b:=o.2.2.1) (by omega) (by omega) (by omega) (by omega)
   split
   ·omega
   ·split
    ·omega
    ·split <;> omega
 omega
theorem bFF (m:List dJ):GB (aF8 m):=by
 unfold aF8
 split
 ·rename_i h
  have hm:=(bR m).1 h
  refine ⟨by show (kP m).length≤8;rw[xB];omega,fun r hr=>?_⟩
  obtain ⟨o,ho,rfl⟩:=List.mem_map.1 (show r∈m.map fun o=>List.replicate o.2.2.2.length 0 from hr)
  obtain ⟨i,hi,rfl⟩:=List.getElem_of_mem ho
  rw[List.length_replicate]
  exact bLG ((wC m hi).1 (hm.2.2 i hi)).1
 ·exact ⟨Nat.zero_le _,fun r hr=>by cases hr⟩
end Go.Proofs.YtdeobhdbmehpgaaGreat
