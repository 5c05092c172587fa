/- Core9: lemmas. No conditions. -/
import Derived.Test.YtiihghfoeinbbaaGreatCore8
namespace Go.Proofs.YtiihghfoeinbbaaGreat
open Go.ChangeShapes Go.WideShapes Go.ChangeAt Go.RowKit Go.Deep
set_option linter.unusedVariables false
set_option linter.unusedSimpArgs false
theorem aOG (q:cE):(wF q).2.1.2.length≤6:=by
 unfold wF;split
 ·rename_i h
  have h1:=(nX.1 h.1).2 0 h.2
  exact ((cP _).1 ((kH _).1 h1).1).2.1
 ·exact Nat.zero_le _
theorem bBT (q:cE):bD aM (wF q).1≤bD aM q:=by
 unfold wF;split
 ·show 0+bD (.slice 197 aF) (q.2.drop 1)≤0+bD (.slice 197 aF) q.2
  have:=tU (e:=197) (t:=aF) (List.drop_sublist 1 q.2)
  omega
 ·exact Nat.le_refl _
theorem aV8 (q:cE) (x:cL):bD aM (uQ q x).1≤bD aM q+7:=by
 unfold uQ;split
 ·rename_i h
  show 0+bD (.slice 197 aF) (q.2++[x])≤0+bD (.slice 197 aF) q.2+7
  have h1:=((cP _).1 ((kH _).1 h.2.1).1).2.1
  have e1:bD aF x=0+bD aB x.2:=rfl
  have e2:=eA x.2
  rw[bGR,bGF];omega
 ·exact Nat.le_add_right _ _
theorem bJ2 (s:bC) (m:Int) (x t:List Int):bD aA (zX s m x t)≤bD aA s+100:=by
 unfold zX;split
 ·rename_i h
  unfold bBR at h
  simp only[Bool.and_eq_true] at h
  have hx:=aF4 h.2.1
  have hm:=((bY _).1 ((eJ s).1 h.1).1).2.1
  have h6:=wJ s.2.2.1 x hx s.2.2.1.length
  have hl:=rP s.2.2.1 x s.2.2.1.length
  have hr:bD aH (kE s.2.2.1 x s.2.2.1.length).1≤9+9 * 6:=aP7 (by omega) h6
  have hk:bD aH (aCO s.2.2.2.2.1 (kE s.2.2.1 x s.2.2.1.length).1)≤bD aH (kE s.2.2.1 x s.2.2.1.length).1:=by
   unfold aCO;split
   ·exact tU (List.take_sublist _ _)
   ·exact Nat.le_refl _
  have hy:(bDA s x).length≤6:=aGU h6 _
  rw[gI,gI]
  have e1:=eA (bDA s x)
  have e2:bD oG (s.2.2.2.2.2.1++[(m,aCO s.2.2.2.2.1 (kE s.2.2.1 x s.2.2.1.length).1)])=bD oG s.2.2.2.2.2.1+(1+(0+bD aH (aCO s.2.2.2.2.1 (kE s.2.2.1 x s.2.2.1.length).1))):=by
   rw[show bD oG _=_ from bGR _ _,show bD oG [(m,aCO s.2.2.2.2.1 (kE s.2.2.1 x s.2.2.1.length).1)]=_ from bGF _];rfl
  unfold aWI
  dsimp only
  rw[e2]
  split <;> simp only[List.length_nil] <;> omega
 ·omega
theorem bHH (s:bC) (m:Int):bD aA (sH s m)≤bD aA s+100:=by
 unfold sH;split
 ·rename_i h
  have hm:=((bY _).1 ((eJ s).1 h.1).1).2.1
  have h4:=((eJ s).1 h.1).2.2.2.1
  have hx:((s.2.2.2.2.2.1.getD (dU s.2.2.2.2.2.1 m).toNat (aX aD)).2.getD 0 []).length≤6:=by
   by_cases hi:(dU s.2.2.2.2.2.1 m).toNat<s.2.2.2.2.2.1.length
   ·exact aF4 (aA1 h.1 hi).2
   ·rw[bBV (l:=s.2.2.2.2.2.1) (by omega)];exact Nat.zero_le _
  have h6:=wJ s.2.2.1 _ hx s.2.2.1.length
  have hl:=rP s.2.2.1 ((s.2.2.2.2.2.1.getD (dU s.2.2.2.2.2.1 m).toNat (aX aD)).2.getD 0 []) s.2.2.1.length
  have hr:bD aH (kE s.2.2.1 ((s.2.2.2.2.2.1.getD (dU s.2.2.2.2.2.1 m).toNat (aX aD)).2.getD 0 []) s.2.2.1.length).1≤9+9 * 6:=aP7 (by omega) h6
  rw[gI,gI]
  dsimp only
  omega
 ·omega
theorem bK8 (s:bC) (m:Int) (t:List Int):bD aA (vB s m t)≤bD aA s+100:=by
 unfold vB;split
 ·rename_i h
  unfold bBC at h
  simp only[Bool.and_eq_true] at h
  have hd:(hK s m t).1.length≤6:=aF4 h.2.2.2
  have hb:(qP s.2.2.1 (nB s m) (hK s m t).1).2.1.length≤6:=aWU _ _ _ _ hd _
  have hs:bD oG (s.2.2.2.2.2.1.take (dU s.2.2.2.2.2.1 m).toNat++s.2.2.2.2.2.1.drop ((dU s.2.2.2.2.2.1 m).toNat+1))≤bD oG s.2.2.2.2.2.1:=by
   refine tU ?_
   have h1:(s.2.2.2.2.2.1.drop ((dU s.2.2.2.2.2.1 m).toNat+1)).Sublist (s.2.2.2.2.2.1.drop (dU s.2.2.2.2.2.1 m).toNat):=by
    rw[← List.drop_drop];exact List.drop_sublist _ _
   have h2:=(List.Sublist.refl (s.2.2.2.2.2.1.take (dU s.2.2.2.2.2.1 m).toNat)).append h1
   rwa [List.take_append_drop] at h2
  have hg:=aLI (e:=156) s.2.2.2.2.2.2.2.2.2.2.2.1 (qP s.2.2.1 (nB s m) (hK s m t).1).1
  rw[gI,gI]
  unfold bK0 iA
  dsimp only
  have hg':bD aH (dZ s.2.2.2.2.2.2.2.2.2.2.2.1 (qP s.2.2.1 (nB s m) (hK s m t).1).1)≤bD aH s.2.2.2.2.2.2.2.2.2.2.2.1:=hg
  simp only[List.length_nil]
  have e0:bD aH ([]:cV)=0:=rfl
  rw[e0]
  omega
 ·omega
theorem bJ5 (s:bC) (v:List Int) (h:v.length≤6):bD aA (bJF s v)≤bD aA s+6:=by rw[gI,gI];unfold bJF;dsimp only;omega
theorem bJA (s:bC) (v:List Int) (h:v.length≤6):bD aA (bK7 s v)≤bD aA s+6:=by rw[gI,gI];unfold bK7;dsimp only;omega
theorem bIV (s:bC) (v:List Int) (h:v.length≤6):bD aA (bJW s v)≤bD aA s+6:=by rw[gI,gI];unfold bJW;dsimp only;omega
theorem aTB (s:bC) (v:List Int) (h:v.length≤6):bD aA (aOB s v)≤bD aA s+6:=by rw[gI,gI];unfold aOB;dsimp only;omega
theorem bEB (p:bO) (s:Int):bD aA (kB p s)≤bD aA (iL p s)+110:=by
 unfold kB
 split
 ·have:=bJ5 (iL p s) _ (aOG (p.2.2.1.getD (s - 1).toNat (aX aM)));omega
 split
 ·have:=bJ2 (iL p s) (bJ p s).2 (if s=0 then (p.1.getD (bJ p s).2.toNat (aX aI)).1 else (iL p s).2.2.2.2.2.2.2.1) (p.1.getD (bJ p s).2.toNat (aX aI)).2;omega
 split
 ·have:=bJA (iL p s) [] (Nat.zero_le _);omega
 split
 ·have:=bIV (iL p s) _ (aOG (p.2.2.2.getD s.toNat (aX aM)));omega
 split
 ·have:=bHH (iL p s) (bJ p s).2;omega
 split
 ·have h1:=bK8 (iL p s) (bJ p s).2 (p.1.getD (bJ p s).2.toNat (aX aI)).2
  have h2:=aTB (vB (iL p s) (bJ p s).2 (p.1.getD (bJ p s).2.toNat (aX aI)).2) [] (Nat.zero_le _)
  split <;> omega
 split
 ·have:=aTB (iL p s) [] (Nat.zero_le _);omega
 ·omega
theorem bFS (p:bO) (s:Int):bD aK (wK p s)≤bD aK p.2.2.1+7:=by
 unfold wK
 split
 ·exact aG5 _ (aX aM) _ _ _ fun _=>Nat.le_trans (bBT _) (Nat.le_add_right _ _)
 split
 ·exact aG5 _ (aX aM) _ _ _ fun _=>aV8 _ _
 ·omega
theorem bEE (p:bO) (s:Int):bD aK (wS p s)≤bD aK p.2.2.2+7:=by
 unfold wS
 split
 ·exact aG5 _ (aX aM) _ _ _ fun _=>Nat.le_trans (bBT _) (Nat.le_add_right _ _)
 split
 ·exact aG5 _ (aX aM) _ _ _ fun _=>aV8 _ _
 ·omega
theorem aR7 (p:bO):bD aL p=bD aN p.1+(bD (.slice 126 aA) p.2.1+(bD aK p.2.2.1+bD aK p.2.2.2)):=rfl
theorem bFN (p:bO) (s:Int):bD aL (dQ p s)≤bD aL p+200:=by
 unfold dQ;split
 ·rw[aR7,aR7]
  dsimp only
  have h1:=bFS p s
  have h2:=bEE p s
  have h3:bD aA (wG (kB p s) ((kB p s).1+1))=bD aA (kB p s):=by rw[gI,gI];rfl
  have h4:=bEB p s
  have h5:=aG5 (e:=126) (t:=aA) (wG (kB p s) ((kB p s).1+1)) (aX aA) 110 p.2.1 s.toNat fun _=>by rw[h3];exact h4
  omega
 ·omega
theorem aTY (p:bO):(l m:List Int)→pD p (l++m)=pD (pD p l) m
 | [],_=>rfl
 | s :: l,m=>aTY (dQ p s) l m
theorem bEP (p:bO) (l:List Int) (s:Int):pD p (l++[s])=dQ (pD p l) s:=aTY p l [s]
theorem bAJ (p:bO):(l:List Int)→bD aL (pD p l)≤bD aL p+200 * l.length
 | []=>Nat.le_refl _
 | s :: l=>by
  have h1:=bAJ (dQ p s) l
  have h2:=bFN p s
  show bD aL (pD (dQ p s) l)≤_
  rw[List.length_cons];omega
end Go.Proofs.YtiihghfoeinbbaaGreat
