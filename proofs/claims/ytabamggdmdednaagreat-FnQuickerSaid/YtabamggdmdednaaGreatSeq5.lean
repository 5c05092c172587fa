/- Seq5: lemmas. No conditions. -/
import Derived.Test.YtabamggdmdednaaGreatSeq4
namespace Go.Proofs.YtabamggdmdednaaGreat
open Go.ChangeShapes Go.WideShapes Go.ChangeAt Go.RowKit Go.Deep
set_option linter.unusedVariables false
set_option linter.unusedSimpArgs false
theorem aS5 (d x:List Int):(rQ d x).1.2.2.length≤36:=by
 unfold rQ
 split
 ·rename_i h
  have h1:=(cT d).1 h.1
  have h2:=(cT x).1 h.2
  show (qS (yS d x) d.length).length≤36
  rw[tR (f:=yS d x) (L:=x.length) (fun i=>fL _ _)]
  exact Nat.le_trans (Nat.mul_le_mul h1.2.1 h2.2.1) (by decide)
 ·exact Nat.zero_le _
theorem bIZ (o:dI) (x d:List Int):(iS o x d).2.1.length≤36:=by
 unfold iS
 split
 ·exact Nat.zero_le _
 ·rename_i h
  rw[Classical.not_not] at h
  have hd:=(cT _).1 ((cI _ _).1 h.2.2).1
  split
  ·exact aS5 d x
  ·split
   ·show d.length≤36;omega
   ·split
    ·exact (by decide:1≤36)
    ·split
     ·exact aS5 d x
     ·exact Nat.zero_le _
theorem aMF (m:List dI) (r:cZ) (d:List Int) (n:Nat):(k:Nat)→∀ v∈(eH m r d n k).1,List.length v≤36
 | 0=>fun v hv=>by rw[List.eq_of_mem_replicate hv];exact Nat.zero_le _
 | k+1=>fun v hv=>by
  rcases List.mem_or_eq_of_mem_set hv with h|rfl
  ·exact aMF m r d n k v h
  ·exact bIZ _ _ _
def GB (g:eZ):Prop:=g.1.length≤8∧∀ r∈g.1,List.length r≤36
theorem GB.ok {g:eZ} (h:GB g):jS g:=⟨Nat.le_trans h.1 (by decide),fun r hr=>Nat.le_trans (h.2 r hr) (by decide)⟩
theorem bF1 {o:dI} (h:opB o=true):o.2.2.2.length≤36:=by
 have h1:=((gY o).1 h).1
 have h2:gM o≤36:=by
  unfold gM
  split
  ·omega
  ·have:=aRB (a:=o.2.1) (b:=o.2.2.1) (by omega) (by omega) (by omega) (by omega)
   split
   ·omega
   ·split
    ·omega
    ·split <;> omega
 omega
theorem bL1 (m:List dI):GB (yD m):=by
 unfold yD
 split
 ·rename_i h
  have hm:=(bY m).1 h
  refine ⟨by show (jP m).length≤8;rw[oE];omega,fun r hr=>?_⟩
  obtain ⟨o,ho,rfl⟩:=List.mem_map.1 (show r∈m.map fun o=>List.replicate o.2.2.2.length 0 from hr)
  obtain ⟨i,hi,rfl⟩:=List.getElem_of_mem ho
  rw[List.length_replicate]
  exact bF1 ((xI m hi).1 (hm.2.2 i hi)).1
 ·exact ⟨Nat.zero_le _,fun r hr=>by cases hr⟩
end Go.Proofs.YtabamggdmdednaaGreat
