/- Seq5: lemmas. No conditions. -/
import Derived.Test.YtdeobhdbmehpgaaGreatSeq4
namespace Go.Proofs.YtdeobhdbmehpgaaGreat
open Go.ChangeShapes Go.WideShapes Go.ChangeAt Go.RowKit Go.Deep
set_option linter.unusedVariables false
set_option linter.unusedSimpArgs false
theorem aJM (d x:List Int):(wG d x).1.2.2.length≤36:=by
 unfold wG
 split
 ·rename_i h
  have h1:=(dU d).1 h.1
  have h2:=(dU x).1 h.2
  show (aHX (aD5 d x) d.length).length≤36
  rw[aH3 (f:=aD5 d x) (L:=x.length) (fun i=>nO _ _)]
  exact Nat.le_trans (Nat.mul_le_mul h1.2.1 h2.2.1) (by decide)
 ·exact Nat.zero_le _
theorem aWT (o:dR) (x d:List Int):(kO o x d).2.1.length≤36:=by
 unfold kO
 split
 ·exact Nat.zero_le _
 ·rename_i h
  rw[Classical.not_not] at h
  have hd:=(dU _).1 ((bT _ _).1 h.2.2).1
  split
  ·exact aJM d x
  ·split
   ·show d.length≤36;omega
   ·split
    ·exact (by decide:1≤36)
    ·split
     ·exact aJM d x
     ·exact Nat.zero_le _
theorem aFG (m:List dR) (r:bX) (d:List Int) (n:Nat):(k:Nat)→∀ v∈(gO m r d n k).1,List.length v≤36
 | 0=>fun v hv=>by rw[List.eq_of_mem_replicate hv];exact Nat.zero_le _
 | k+1=>fun v hv=>by
  rcases List.mem_or_eq_of_mem_set hv with h|rfl
  ·exact aFG m r d n k v h
  ·exact aWT _ _ _
def GB (g:iN):Prop:=g.1.length≤8∧∀ r∈g.1,List.length r≤36
theorem GB.ok {g:iN} (h:GB g):qX g:=⟨Nat.le_trans h.1 (by decide),fun r hr=>Nat.le_trans (h.2 r hr) (by decide)⟩
theorem bCJ {o:dR} (h:opB o=true):o.2.2.2.length≤36:=by
 have h1:=((gA o).1 h).1
 have h2:eX o≤36:=by
  unfold eX
  split
  ·omega
  ·have:=aOR (a:=o.2.1) (b:=o.2.2.1) (by omega) (by omega) (by omega) (by omega)
   split
   ·omega
   ·split
    ·omega
    ·split <;> omega
 omega
theorem bA0 (m:List dR):GB (yR m):=by
 unfold yR
 split
 ·rename_i h
  have hm:=(bA m).1 h
  refine ⟨by show (iX m).length≤8;rw[nW];omega,fun r hr=>?_⟩
  obtain ⟨o,ho,rfl⟩:=List.mem_map.1 (show r∈m.map fun o=>List.replicate o.2.2.2.length 0 from hr)
  obtain ⟨i,hi,rfl⟩:=List.getElem_of_mem ho
  rw[List.length_replicate]
  exact bCJ ((sB m hi).1 (hm.2.2 i hi)).1
 ·exact ⟨Nat.zero_le _,fun r hr=>by cases hr⟩
end Go.Proofs.YtdeobhdbmehpgaaGreat
