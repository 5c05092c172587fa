/- Seq5: lemmas. No conditions. -/
import Derived.Test.YtpleleanibgniaaGreatSeq4
namespace Go.Proofs.YtpleleanibgniaaGreat
open Go.ChangeShapes Go.WideShapes Go.ChangeAt Go.RowKit Go.Deep
set_option linter.unusedVariables false
set_option linter.unusedSimpArgs false
theorem aL1 (d x:List Int):(xW d x).1.2.2.length≤36:=by
 unfold xW
 split
 ·rename_i h
  have h1:=(dB d).1 h.1
  have h2:=(dB x).1 h.2
  show (qP (aEJ d x) d.length).length≤36
  rw[sQ (f:=aEJ d x) (L:=x.length) (fun i=>iD _ _)]
  exact Nat.le_trans (Nat.mul_le_mul h1.2.1 h2.2.1) (by decide)
 ·exact Nat.zero_le _
theorem aZK (o:dE) (x d:List Int):(lW o x d).2.1.length≤36:=by
 unfold lW
 split
 ·exact Nat.zero_le _
 ·rename_i h
  rw[Classical.not_not] at h
  have hd:=(dB _).1 ((tO _ _).1 h.2.2).1
  split
  ·exact aL1 d x
  ·split
   ·show d.length≤36;omega
   ·split
    ·exact (by decide:1≤36)
    ·split
     ·exact aL1 d x
     ·exact Nat.zero_le _
theorem aI9 (m:List dE) (r:dT) (d:List Int) (n:Nat):(k:Nat)→∀ v∈(gO m r d n k).1,List.length v≤36
 | 0=>fun v hv=>by rw[List.eq_of_mem_replicate hv];exact Nat.zero_le _
 | k+1=>fun v hv=>by
  rcases List.mem_or_eq_of_mem_set hv with h|rfl
  ·exact aI9 m r d n k v h
  ·exact aZK _ _ _
def GB (g:gK):Prop:=g.1.length≤8∧∀ r∈g.1,List.length r≤36
theorem GB.ok {g:gK} (h:GB g):mD g:=⟨Nat.le_trans h.1 (by decide),fun r hr=>Nat.le_trans (h.2 r hr) (by decide)⟩
theorem aWM {o:dE} (h:opB o=true):o.2.2.2.length≤36:=by
 have h1:=((gG o).1 h).1
 have h2:fG o≤36:=by
  unfold fG
  split
  ·omega
  ·have:=aOS (a:=o.2.1) (b:=o.2.2.1) (by omega) (by omega) (by omega) (by omega)
   split
   ·omega
   ·split
    ·omega
    ·split <;> omega
 omega
theorem bBH (m:List dE):GB (aC0 m):=by
 unfold aC0
 split
 ·rename_i h
  have hm:=(bR m).1 h
  refine ⟨by show (iW m).length≤8;rw[tW];omega,fun r hr=>?_⟩
  obtain ⟨o,ho,rfl⟩:=List.mem_map.1 (show r∈m.map fun o=>List.replicate o.2.2.2.length 0 from hr)
  obtain ⟨i,hi,rfl⟩:=List.getElem_of_mem ho
  rw[List.length_replicate]
  exact aWM ((xB m hi).1 (hm.2.2 i hi)).1
 ·exact ⟨Nat.zero_le _,fun r hr=>by cases hr⟩
end Go.Proofs.YtpleleanibgniaaGreat
