/- Core9: lemmas. No conditions. -/
import Derived.Test.YtabamggdmdednaaGreatCore8
namespace Go.Proofs.YtabamggdmdednaaGreat
open Go.ChangeShapes Go.WideShapes Go.ChangeAt Go.RowKit Go.Deep
set_option linter.unusedVariables false
set_option linter.unusedSimpArgs false
theorem aR0 (q:cG):(yG q).2.1.2.length≤6:=by
 unfold yG;split
 ·rename_i h
  have h1:=(nJ.1 h.1).2 0 h.2
  exact ((cT _).1 ((kS _).1 h1).1).2.1
 ·exact Nat.zero_le _
theorem bES (q:cG):bM aN (yG q).1≤bM aN q:=by
 unfold yG;split
 ·show 0+bM (.slice 110 aH) (q.2.drop 1)≤0+bM (.slice 110 aH) q.2
  have:=vF (e:=110) (t:=aH) (List.drop_sublist 1 q.2)
  omega
 ·exact Nat.le_refl _
theorem aWQ (q:cG) (x:cP):bM aN (vH q x).1≤bM aN q+7:=by
 unfold vH;split
 ·rename_i h
  show 0+bM (.slice 110 aH) (q.2++[x])≤0+bM (.slice 110 aH) q.2+7
  have h1:=((cT _).1 ((kS _).1 h.2.1).1).2.1
  have e1:bM aH x=0+bM aB x.2:=rfl
  have e2:=gO x.2
  rw[bLQ,bLR];omega
 ·exact Nat.le_add_right _ _
theorem bOV (s:bC) (m:Int) (x t:List Int):bM aA (aCQ s m x t)≤bM aA s+100:=by
 unfold aCQ;split
 ·rename_i h
  unfold bFW at h
  simp only[Bool.and_eq_true] at h
  have hx:=aI1 h.2.1
  have hm:=((bY _).1 ((eJ s).1 h.1).1).2.1
  have h6:=yA s.2.2.1 x hx s.2.2.1.length
  have hl:=tE s.2.2.1 x s.2.2.1.length
  have hr:bM aL (kN s.2.2.1 x s.2.2.1.length).1≤9+9 * 6:=aSE (by omega) h6
  have hk:bM aL (aEH s.2.2.2.2.1 (kN s.2.2.1 x s.2.2.1.length).1)≤bM aL (kN s.2.2.1 x s.2.2.1.length).1:=by
   unfold aEH;split
   ·exact vF (List.take_sublist _ _)
   ·exact Nat.le_refl _
  have hy:(bIR s x).length≤6:=aJU h6 _
  rw[fN,fN]
  have e1:=gO (bIR s x)
  have e2:bM pI (s.2.2.2.2.2.1++[(m,aEH s.2.2.2.2.1 (kN s.2.2.1 x s.2.2.1.length).1)])=bM pI s.2.2.2.2.2.1+(1+(0+bM aL (aEH s.2.2.2.2.1 (kN s.2.2.1 x s.2.2.1.length).1))):=by
   rw[show bM pI _=_ from bLQ _ _,show bM pI [(m,aEH s.2.2.2.2.1 (kN s.2.2.1 x s.2.2.1.length).1)]=_ from bLR _];rfl
  unfold bAW
  dsimp only
  rw[e2]
  split <;> simp only[List.length_nil] <;> omega
 ·omega
theorem bLS (s:bC) (m:Int):bM aA (uQ s m)≤bM aA s+100:=by
 unfold uQ;split
 ·rename_i h
  have hm:=((bY _).1 ((eJ s).1 h.1).1).2.1
  have h4:=((eJ s).1 h.1).2.2.2.1
  have hx:((s.2.2.2.2.2.1.getD (dX s.2.2.2.2.2.1 m).toNat (aW aF)).2.getD 0 []).length≤6:=by
   by_cases hi:(dX s.2.2.2.2.2.1 m).toNat<s.2.2.2.2.2.1.length
   ·exact aI1 (aBL h.1 hi).2
   ·rw[aH6 (l:=s.2.2.2.2.2.1) (by omega)];exact Nat.zero_le _
  have h6:=yA s.2.2.1 _ hx s.2.2.1.length
  have hl:=tE s.2.2.1 ((s.2.2.2.2.2.1.getD (dX s.2.2.2.2.2.1 m).toNat (aW aF)).2.getD 0 []) s.2.2.1.length
  have hr:bM aL (kN s.2.2.1 ((s.2.2.2.2.2.1.getD (dX s.2.2.2.2.2.1 m).toNat (aW aF)).2.getD 0 []) s.2.2.1.length).1≤9+9 * 6:=aSE (by omega) h6
  rw[fN,fN]
  dsimp only
  omega
 ·omega
theorem bO5 (s:bC) (m:Int) (t:List Int):bM aA (xC s m t)≤bM aA s+100:=by
 unfold xC;split
 ·rename_i h
  unfold bFG at h
  simp only[Bool.and_eq_true] at h
  have hd:(iC s m t).1.length≤6:=aI1 h.2.2.2
  have hb:(rS s.2.2.1 (nX s m) (iC s m t).1).2.1.length≤6:=bCE _ _ _ _ hd _
  have hs:bM pI (s.2.2.2.2.2.1.take (dX s.2.2.2.2.2.1 m).toNat++s.2.2.2.2.2.1.drop ((dX s.2.2.2.2.2.1 m).toNat+1))≤bM pI s.2.2.2.2.2.1:=by
   refine vF ?_
   have h1:(s.2.2.2.2.2.1.drop ((dX s.2.2.2.2.2.1 m).toNat+1)).Sublist (s.2.2.2.2.2.1.drop (dX s.2.2.2.2.2.1 m).toNat):=by
    rw[← List.drop_drop];exact List.drop_sublist _ _
   have h2:=(List.Sublist.refl (s.2.2.2.2.2.1.take (dX s.2.2.2.2.2.1 m).toNat)).append h1
   rwa [List.take_append_drop] at h2
  have hg:=aLL (e:=119) s.2.2.2.2.2.2.2.2.2.2.2.1 (rS s.2.2.1 (nX s m) (iC s m t).1).1
  rw[fN,fN]
  unfold bOP iJ
  dsimp only
  have hg':bM aL (eC s.2.2.2.2.2.2.2.2.2.2.2.1 (rS s.2.2.1 (nX s m) (iC s m t).1).1)≤bM aL s.2.2.2.2.2.2.2.2.2.2.2.1:=hg
  simp only[List.length_nil]
  have e0:bM aL ([]:cZ)=0:=rfl
  rw[e0]
  omega
 ·omega
theorem bP4 (s:bC) (v:List Int) (h:v.length≤6):bM aA (bP8 s v)≤bM aA s+6:=by rw[fN,fN];unfold bP8;dsimp only;omega
theorem bO6 (s:bC) (v:List Int) (h:v.length≤6):bM aA (bOW s v)≤bM aA s+6:=by rw[fN,fN];unfold bOW;dsimp only;omega
theorem bP6 (s:bC) (v:List Int) (h:v.length≤6):bM aA (bOU s v)≤bM aA s+6:=by rw[fN,fN];unfold bOU;dsimp only;omega
theorem aZ9 (s:bC) (v:List Int) (h:v.length≤6):bM aA (aRC s v)≤bM aA s+6:=by rw[fN,fN];unfold aRC;dsimp only;omega
theorem bJ7 (p:bE) (s:Int):bM aA (kI p s)≤bM aA (iR p s)+110:=by
 unfold kI
 split
 ·have:=bP4 (iR p s) _ (aR0 (p.2.2.1.getD (s - 1).toNat (aW aN)));omega
 split
 ·have:=bOV (iR p s) (bQ p s).2 (if s=0 then (p.1.getD (bQ p s).2.toNat (aW aO)).1 else (iR p s).2.2.2.2.2.2.2.1) (p.1.getD (bQ p s).2.toNat (aW aO)).2;omega
 split
 ·have:=bO6 (iR p s) [] (Nat.zero_le _);omega
 split
 ·have:=bP6 (iR p s) _ (aR0 (p.2.2.2.getD s.toNat (aW aN)));omega
 split
 ·have:=bLS (iR p s) (bQ p s).2;omega
 split
 ·have h1:=bO5 (iR p s) (bQ p s).2 (p.1.getD (bQ p s).2.toNat (aW aO)).2
  have h2:=aZ9 (xC (iR p s) (bQ p s).2 (p.1.getD (bQ p s).2.toNat (aW aO)).2) [] (Nat.zero_le _)
  split <;> omega
 split
 ·have:=aZ9 (iR p s) [] (Nat.zero_le _);omega
 ·omega
theorem bL4 (p:bE) (s:Int):bM aM (yC p s)≤bM aM p.2.2.1+7:=by
 unfold yC
 split
 ·exact aJK _ (aW aN) _ _ _ fun _=>Nat.le_trans (bES _) (Nat.le_add_right _ _)
 split
 ·exact aJK _ (aW aN) _ _ _ fun _=>aWQ _ _
 ·omega
theorem bMS (p:bE) (s:Int):bM aM (xS p s)≤bM aM p.2.2.2+7:=by
 unfold xS
 split
 ·exact aJK _ (aW aN) _ _ _ fun _=>Nat.le_trans (bES _) (Nat.le_add_right _ _)
 split
 ·exact aJK _ (aW aN) _ _ _ fun _=>aWQ _ _
 ·omega
theorem wV (p:bE):bM aJ p=bM aG p.1+(bM (.slice 55 aA) p.2.1+(bM aM p.2.2.1+bM aM p.2.2.2)):=rfl
theorem bNO (p:bE) (s:Int):bM aJ (fI p s)≤bM aJ p+200:=by
 unfold fI;split
 ·rw[wV,wV]
  dsimp only
  have h1:=bL4 p s
  have h2:=bMS p s
  have h3:bM aA (yL (kI p s) ((kI p s).1+1))=bM aA (kI p s):=by rw[fN,fN];rfl
  have h4:=bJ7 p s
  have h5:=aJK (e:=55) (t:=aA) (yL (kI p s) ((kI p s).1+1)) (aW aA) 110 p.2.1 s.toNat fun _=>by rw[h3];exact h4
  omega
 ·omega
theorem aY5 (p:bE):(l m:List Int)→uW p (l++m)=uW (uW p l) m
 | [],_=>rfl
 | s :: l,m=>aY5 (fI p s) l m
theorem bLM (p:bE) (l:List Int) (s:Int):uW p (l++[s])=fI (uW p l) s:=aY5 p l [s]
theorem aU9 (p:bE):(l:List Int)→bM aJ (uW p l)≤bM aJ p+200 * l.length
 | []=>Nat.le_refl _
 | s :: l=>by
  have h1:=aU9 (fI p s) l
  have h2:=bNO p s
  show bM aJ (uW (fI p s) l)≤_
  rw[List.length_cons];omega
end Go.Proofs.YtabamggdmdednaaGreat
