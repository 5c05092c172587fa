/- Core9: lemmas. No conditions. -/
import Derived.Test.YtmfpkkbhnmkfdaaGreatCore8
namespace Go.Proofs.YtmfpkkbhnmkfdaaGreat
open Go.ChangeShapes Go.WideShapes Go.ChangeAt Go.RowKit Go.Deep
set_option linter.unusedVariables false
set_option linter.unusedSimpArgs false
theorem aPX (q:cH):(xP q).2.1.2.length≤6:=by
 unfold xP;split
 ·rename_i h
  have h1:=(nK.1 h.1).2 0 h.2
  exact ((cT _).1 ((kX _).1 h1).1).2.1
 ·exact Nat.zero_le _
theorem bDL (q:cH):aY aO (xP q).1≤aY aO q:=by
 unfold xP;split
 ·show 0+aY (.slice 161 aF) (q.2.drop 1)≤0+aY (.slice 161 aF) q.2
  have:=vE (e:=161) (t:=aF) (List.drop_sublist 1 q.2)
  omega
 ·exact Nat.le_refl _
theorem aWB (q:cH) (x:cM):aY aO (uZ q x).1≤aY aO q+7:=by
 unfold uZ;split
 ·rename_i h
  show 0+aY (.slice 161 aF) (q.2++[x])≤0+aY (.slice 161 aF) q.2+7
  have h1:=((cT _).1 ((kX _).1 h.2.1).1).2.1
  have e1:aY aF x=0+aY aB x.2:=rfl
  have e2:=gZ x.2
  rw[bJ9,bLD];omega
 ·exact Nat.le_add_right _ _
theorem bMG (s:bC) (m:Int) (x t:List Int):aY aA (aBX s m x t)≤aY aA s+100:=by
 unfold aBX;split
 ·rename_i h
  unfold bDC at h
  simp only[Bool.and_eq_true] at h
  have hx:=aGC h.2.1
  have hm:=((bY _).1 ((eW s).1 h.1).1).2.1
  have h6:=yA s.2.2.1 x hx s.2.2.1.length
  have hl:=tF s.2.2.1 x s.2.2.1.length
  have hr:aY aJ (kW s.2.2.1 x s.2.2.1.length).1≤9+9 * 6:=aQJ (by omega) h6
  have hk:aY aJ (aDJ s.2.2.2.2.1 (kW s.2.2.1 x s.2.2.1.length).1)≤aY aJ (kW s.2.2.1 x s.2.2.1.length).1:=by
   unfold aDJ;split
   ·exact vE (List.take_sublist _ _)
   ·exact Nat.le_refl _
  have hy:(bEU s x).length≤6:=aHI h6 _
  rw[fR,fR]
  have e1:=gZ (bEU s x)
  have e2:aY pK (s.2.2.2.2.2.1++[(m,aDJ s.2.2.2.2.1 (kW s.2.2.1 x s.2.2.1.length).1)])=aY pK s.2.2.2.2.2.1+(1+(0+aY aJ (aDJ s.2.2.2.2.1 (kW s.2.2.1 x s.2.2.1.length).1))):=by
   rw[show aY pK _=_ from bJ9 _ _,show aY pK [(m,aDJ s.2.2.2.2.1 (kW s.2.2.1 x s.2.2.1.length).1)]=_ from bLD _];rfl
  unfold aYM
  dsimp only
  rw[e2]
  split <;> simp only[List.length_nil] <;> omega
 ·omega
theorem bJE (s:bC) (m:Int):aY aA (sE s m)≤aY aA s+100:=by
 unfold sE;split
 ·rename_i h
  have hm:=((bY _).1 ((eW s).1 h.1).1).2.1
  have h4:=((eW s).1 h.1).2.2.2.1
  have hx:((s.2.2.2.2.2.1.getD (eH s.2.2.2.2.2.1 m).toNat (aX aD)).2.getD 0 []).length≤6:=by
   by_cases hi:(eH s.2.2.2.2.2.1 m).toNat<s.2.2.2.2.2.1.length
   ·exact aGC (aAW h.1 hi).2
   ·rw[aDE (l:=s.2.2.2.2.2.1) (by omega)];exact Nat.zero_le _
  have h6:=yA s.2.2.1 _ hx s.2.2.1.length
  have hl:=tF s.2.2.1 ((s.2.2.2.2.2.1.getD (eH s.2.2.2.2.2.1 m).toNat (aX aD)).2.getD 0 []) s.2.2.1.length
  have hr:aY aJ (kW s.2.2.1 ((s.2.2.2.2.2.1.getD (eH s.2.2.2.2.2.1 m).toNat (aX aD)).2.getD 0 []) s.2.2.1.length).1≤9+9 * 6:=aQJ (by omega) h6
  rw[fR,fR]
  dsimp only
  omega
 ·omega
theorem bLI (s:bC) (m:Int) (t:List Int):aY aA (wD s m t)≤aY aA s+100:=by
 unfold wD;split
 ·rename_i h
  unfold bC6 at h
  simp only[Bool.and_eq_true] at h
  have hd:(iK s m t).1.length≤6:=aGC h.2.2.2
  have hb:(rJ s.2.2.1 (nV s m) (iK s m t).1).2.1.length≤6:=aZY _ _ _ _ hd _
  have hs:aY pK (s.2.2.2.2.2.1.take (eH s.2.2.2.2.2.1 m).toNat++s.2.2.2.2.2.1.drop ((eH s.2.2.2.2.2.1 m).toNat+1))≤aY pK s.2.2.2.2.2.1:=by
   refine vE ?_
   have h1:(s.2.2.2.2.2.1.drop ((eH s.2.2.2.2.2.1 m).toNat+1)).Sublist (s.2.2.2.2.2.1.drop (eH s.2.2.2.2.2.1 m).toNat):=by
    rw[← List.drop_drop];exact List.drop_sublist _ _
   have h2:=(List.Sublist.refl (s.2.2.2.2.2.1.take (eH s.2.2.2.2.2.1 m).toNat)).append h1
   rwa [List.take_append_drop] at h2
  have hg:=aKT (e:=188) s.2.2.2.2.2.2.2.2.2.2.2.1 (rJ s.2.2.1 (nV s m) (iK s m t).1).1
  rw[fR,fR]
  unfold bLK iX
  dsimp only
  have hg':aY aJ (eG s.2.2.2.2.2.2.2.2.2.2.2.1 (rJ s.2.2.1 (nV s m) (iK s m t).1).1)≤aY aJ s.2.2.2.2.2.2.2.2.2.2.2.1:=hg
  simp only[List.length_nil]
  have e0:aY aJ ([]:cZ)=0:=rfl
  rw[e0]
  omega
 ·omega
theorem bM7 (s:bC) (v:List Int) (h:v.length≤6):aY aA (bLS s v)≤aY aA s+6:=by rw[fR,fR];unfold bLS;dsimp only;omega
theorem bML (s:bC) (v:List Int) (h:v.length≤6):aY aA (bN0 s v)≤aY aA s+6:=by rw[fR,fR];unfold bN0;dsimp only;omega
theorem bMZ (s:bC) (v:List Int) (h:v.length≤6):aY aA (bLU s v)≤aY aA s+6:=by rw[fR,fR];unfold bLU;dsimp only;omega
theorem aWL (s:bC) (v:List Int) (h:v.length≤6):aY aA (aQ8 s v)≤aY aA s+6:=by rw[fR,fR];unfold aQ8;dsimp only;omega
theorem bG1 (p:bF) (s:Int):aY aA (kR p s)≤aY aA (jA p s)+110:=by
 unfold kR
 split
 ·have:=bM7 (jA p s) _ (aPX (p.2.2.1.getD (s - 1).toNat (aX aO)));omega
 split
 ·have:=bMG (jA p s) (bM p s).2 (if s=0 then (p.1.getD (bM p s).2.toNat (aX aI)).1 else (jA p s).2.2.2.2.2.2.2.1) (p.1.getD (bM p s).2.toNat (aX aI)).2;omega
 split
 ·have:=bML (jA p s) [] (Nat.zero_le _);omega
 split
 ·have:=bMZ (jA p s) _ (aPX (p.2.2.2.getD s.toNat (aX aO)));omega
 split
 ·have:=bJE (jA p s) (bM p s).2;omega
 split
 ·have h1:=bLI (jA p s) (bM p s).2 (p.1.getD (bM p s).2.toNat (aX aI)).2
  have h2:=aWL (wD (jA p s) (bM p s).2 (p.1.getD (bM p s).2.toNat (aX aI)).2) [] (Nat.zero_le _)
  split <;> omega
 split
 ·have:=aWL (jA p s) [] (Nat.zero_le _);omega
 ·omega
theorem bJS (p:bF) (s:Int):aY aL (wW p s)≤aY aL p.2.2.1+7:=by
 unfold wW
 split
 ·exact aHH _ (aX aO) _ _ _ fun _=>Nat.le_trans (bDL _) (Nat.le_add_right _ _)
 split
 ·exact aHH _ (aX aO) _ _ _ fun _=>aWB _ _
 ·omega
theorem bIT (p:bF) (s:Int):aY aL (xH p s)≤aY aL p.2.2.2+7:=by
 unfold xH
 split
 ·exact aHH _ (aX aO) _ _ _ fun _=>Nat.le_trans (bDL _) (Nat.le_add_right _ _)
 split
 ·exact aHH _ (aX aO) _ _ _ fun _=>aWB _ _
 ·omega
theorem tE (p:bF):aY aG p=aY aM p.1+(aY (.slice 121 aA) p.2.1+(aY aL p.2.2.1+aY aL p.2.2.2)):=rfl
theorem bKU (p:bF) (s:Int):aY aG (fY p s)≤aY aG p+200:=by
 unfold fY;split
 ·rw[tE,tE]
  dsimp only
  have h1:=bJS p s
  have h2:=bIT p s
  have h3:aY aA (xE (kR p s) ((kR p s).1+1))=aY aA (kR p s):=by rw[fR,fR];rfl
  have h4:=bG1 p s
  have h5:=aHH (e:=121) (t:=aA) (xE (kR p s) ((kR p s).1+1)) (aX aA) 110 p.2.1 s.toNat fun _=>by rw[h3];exact h4
  omega
 ·omega
theorem aUU (p:bF):(l m:List Int)→uP p (l++m)=uP (uP p l) m
 | [],_=>rfl
 | s :: l,m=>aUU (fY p s) l m
theorem bH1 (p:bF) (l:List Int) (s:Int):uP p (l++[s])=fY (uP p l) s:=aUU p l [s]
theorem aS0 (p:bF):(l:List Int)→aY aG (uP p l)≤aY aG p+200 * l.length
 | []=>Nat.le_refl _
 | s :: l=>by
  have h1:=aS0 (fY p s) l
  have h2:=bKU p s
  show aY aG (uP (fY p s) l)≤_
  rw[List.length_cons];omega
end Go.Proofs.YtmfpkkbhnmkfdaaGreat
