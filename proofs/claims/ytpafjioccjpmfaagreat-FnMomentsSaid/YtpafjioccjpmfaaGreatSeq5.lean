/- Seq5: lemmas. No conditions. -/
import Derived.Test.YtpafjioccjpmfaaGreatSeq4
namespace Go.Proofs.YtpafjioccjpmfaaGreat
open Go.ChangeShapes Go.WideShapes Go.ChangeAt Go.RowKit Go.Deep
set_option linter.unusedVariables false
set_option linter.unusedSimpArgs false
theorem aOW (d x:List Int):(wV d x).1.2.2.length≤36:=by
 unfold wV
 split
 ·rename_i h
  have h1:=(dB d).1 h.1
  have h2:=(dB x).1 h.2
  show (rG (aA9 d x) d.length).length≤36
  rw[tA (f:=aA9 d x) (L:=x.length) (fun i=>fL _ _)]
  exact Nat.le_trans (Nat.mul_le_mul h1.2.1 h2.2.1) (by decide)
 ·exact Nat.zero_le _
theorem bF7 (o:cZ) (x d:List Int):(mG o x d).2.1.length≤36:=by
 unfold mG
 split
 ·exact Nat.zero_le _
 ·rename_i h
  rw[Classical.not_not] at h
  have hd:=(dB _).1 ((fF _ _).1 h.2.2).1
  split
  ·exact aOW d x
  ·split
   ·show d.length≤36;omega
   ·split
    ·exact (by decide:1≤36)
    ·split
     ·exact aOW d x
     ·exact Nat.zero_le _
theorem aK8 (m:List cZ) (r:dG) (d:List Int) (n:Nat):(k:Nat)→∀ v∈(iD m r d n k).1,List.length v≤36
 | 0=>fun v hv=>by rw[List.eq_of_mem_replicate hv];exact Nat.zero_le _
 | k+1=>fun v hv=>by
  rcases List.mem_or_eq_of_mem_set hv with h|rfl
  ·exact aK8 m r d n k v h
  ·exact bF7 _ _ _
def GB (g:jB):Prop:=g.1.length≤8∧∀ r∈g.1,List.length r≤36
theorem GB.ok {g:jB} (h:GB g):oS g:=⟨Nat.le_trans h.1 (by decide),fun r hr=>Nat.le_trans (h.2 r hr) (by decide)⟩
theorem bAX {o:cZ} (h:opB o=true):o.2.2.2.length≤36:=by
 have h1:=((eH o).1 h).1
 have h2:dZ o≤36:=by
  unfold dZ
  split
  ·omega
  ·have:=aTZ (a:=o.2.1) (b:=o.2.2.1) (by omega) (by omega) (by omega) (by omega)
   split
   ·omega
   ·split
    ·omega
    ·split <;> omega
 omega
theorem bIB (m:List cZ):GB (zD m):=by
 unfold zD
 split
 ·rename_i h
  have hm:=(bM m).1 h
  refine ⟨by show (iQ m).length≤8;rw[oF];omega,fun r hr=>?_⟩
  obtain ⟨o,ho,rfl⟩:=List.mem_map.1 (show r∈m.map fun o=>List.replicate o.2.2.2.length 0 from hr)
  obtain ⟨i,hi,rfl⟩:=List.getElem_of_mem ho
  rw[List.length_replicate]
  exact bAX ((iO m hi).1 (hm.2.2 i hi)).1
 ·exact ⟨Nat.zero_le _,fun r hr=>by cases hr⟩
end Go.Proofs.YtpafjioccjpmfaaGreat
