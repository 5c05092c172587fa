/- Core9: lemmas. No conditions. -/
import Derived.Test.YtdeobhdbmehpgaaGreatCore8
namespace Go.Proofs.YtdeobhdbmehpgaaGreat
open Go.ChangeShapes Go.WideShapes Go.ChangeAt Go.RowKit Go.Deep
set_option linter.unusedVariables false
set_option linter.unusedSimpArgs false
theorem aOZ (q:bX):(wJ q).2.1.2.length≤6:=by
 unfold wJ;split
 ·rename_i h
  have h1:=(mM.1 h.1).2 0 h.2
  exact ((cL _).1 ((jV _).1 h1).1).2.1
 ·exact Nat.zero_le _
theorem bBP (q:bX):bQ aL (wJ q).1≤bQ aL q:=by
 unfold wJ;split
 ·show 0+bQ (.slice 125 aF) (q.2.drop 1)≤0+bQ (.slice 125 aF) q.2
  have:=qA (e:=125) (t:=aF) (List.drop_sublist 1 q.2)
  omega
 ·exact Nat.le_refl _
theorem aUL (q:bX) (x:cC):bQ aL (tV q x).1≤bQ aL q+7:=by
 unfold tV;split
 ·rename_i h
  show 0+bQ (.slice 125 aF) (q.2++[x])≤0+bQ (.slice 125 aF) q.2+7
  have h1:=((cL _).1 ((jV _).1 h.2.1).1).2.1
  have e1:bQ aF x=0+bQ aB x.2:=rfl
  have e2:=gV x.2
  rw[aWO,aXV];omega
 ·exact Nat.le_add_right _ _
theorem bL8 (s:bA) (m:Int) (x t:List Int):bQ aA (yU s m x t)≤bQ aA s+100:=by
 unfold yU;split
 ·rename_i h
  unfold bAO at h
  simp only[Bool.and_eq_true] at h
  have hx:=aFS h.2.1
  have hm:=((bR _).1 ((eI s).1 h.1).1).2.1
  have h6:=wB s.2.2.1 x hx s.2.2.1.length
  have hl:=sH s.2.2.1 x s.2.2.1.length
  have hr:bQ aI (jO s.2.2.1 x s.2.2.1.length).1≤9+9 * 6:=aP5 (by omega) h6
  have hk:bQ aI (aCD s.2.2.2.2.1 (jO s.2.2.1 x s.2.2.1.length).1)≤bQ aI (jO s.2.2.1 x s.2.2.1.length).1:=by
   unfold aCD;split
   ·exact qA (List.take_sublist _ _)
   ·exact Nat.le_refl _
  have hy:(bDR s x).length≤6:=aHB h6 _
  rw[fP,fP]
  have e1:=gV (bDR s x)
  have e2:bQ uC (s.2.2.2.2.2.1++[(m,aCD s.2.2.2.2.1 (jO s.2.2.1 x s.2.2.1.length).1)])=bQ uC s.2.2.2.2.2.1+(1+(0+bQ aI (aCD s.2.2.2.2.1 (jO s.2.2.1 x s.2.2.1.length).1))):=by
   rw[show bQ uC _=_ from aWO _ _,show bQ uC [(m,aCD s.2.2.2.2.1 (jO s.2.2.1 x s.2.2.1.length).1)]=_ from aXV _];rfl
  unfold aWX
  dsimp only
  rw[e2]
  split <;> simp only[List.length_nil] <;> omega
 ·omega
theorem bFG (s:bA) (m:Int):bQ aA (rH s m)≤bQ aA s+100:=by
 unfold rH;split
 ·rename_i h
  have hm:=((bR _).1 ((eI s).1 h.1).1).2.1
  have h4:=((eI s).1 h.1).2.2.2.1
  have hx:((s.2.2.2.2.2.1.getD (dU s.2.2.2.2.2.1 m).toNat (aV aD)).2.getD 0 []).length≤6:=by
   by_cases hi:(dU s.2.2.2.2.2.1 m).toNat<s.2.2.2.2.2.1.length
   ·exact aFS (zL h.1 hi).2
   ·rw[bBU (l:=s.2.2.2.2.2.1) (by omega)];exact Nat.zero_le _
  have h6:=wB s.2.2.1 _ hx s.2.2.1.length
  have hl:=sH s.2.2.1 ((s.2.2.2.2.2.1.getD (dU s.2.2.2.2.2.1 m).toNat (aV aD)).2.getD 0 []) s.2.2.1.length
  have hr:bQ aI (jO s.2.2.1 ((s.2.2.2.2.2.1.getD (dU s.2.2.2.2.2.1 m).toNat (aV aD)).2.getD 0 []) s.2.2.1.length).1≤9+9 * 6:=aP5 (by omega) h6
  rw[fP,fP]
  dsimp only
  omega
 ·omega
theorem bKA (s:bA) (m:Int) (t:List Int):bQ aA (uH s m t)≤bQ aA s+100:=by
 unfold uH;split
 ·rename_i h
  unfold bC3 at h
  simp only[Bool.and_eq_true] at h
  have hd:(gP s m t).1.length≤6:=aFS h.2.2.2
  have hb:(qO s.2.2.1 (mT s m) (gP s m t).1).2.1.length≤6:=aX7 _ _ _ _ hd _
  have hs:bQ uC (s.2.2.2.2.2.1.take (dU s.2.2.2.2.2.1 m).toNat++s.2.2.2.2.2.1.drop ((dU s.2.2.2.2.2.1 m).toNat+1))≤bQ uC s.2.2.2.2.2.1:=by
   refine qA ?_
   have h1:(s.2.2.2.2.2.1.drop ((dU s.2.2.2.2.2.1 m).toNat+1)).Sublist (s.2.2.2.2.2.1.drop (dU s.2.2.2.2.2.1 m).toNat):=by
    rw[← List.drop_drop];exact List.drop_sublist _ _
   have h2:=(List.Sublist.refl (s.2.2.2.2.2.1.take (dU s.2.2.2.2.2.1 m).toNat)).append h1
   rwa [List.take_append_drop] at h2
  have hg:=aJ6 (e:=112) s.2.2.2.2.2.2.2.2.2.2.2.1 (qO s.2.2.1 (mT s m) (gP s m t).1).1
  rw[fP,fP]
  unfold bL5 gX
  dsimp only
  have hg':bQ aI (eA s.2.2.2.2.2.2.2.2.2.2.2.1 (qO s.2.2.1 (mT s m) (gP s m t).1).1)≤bQ aI s.2.2.2.2.2.2.2.2.2.2.2.1:=hg
  simp only[List.length_nil]
  have e0:bQ aI ([]:cV)=0:=rfl
  rw[e0]
  omega
 ·omega
theorem bJ8 (s:bA) (v:List Int) (h:v.length≤6):bQ aA (bJ1 s v)≤bQ aA s+6:=by rw[fP,fP];unfold bJ1;dsimp only;omega
theorem bKY (s:bA) (v:List Int) (h:v.length≤6):bQ aA (bJN s v)≤bQ aA s+6:=by rw[fP,fP];unfold bJN;dsimp only;omega
theorem bKI (s:bA) (v:List Int) (h:v.length≤6):bQ aA (bK4 s v)≤bQ aA s+6:=by rw[fP,fP];unfold bK4;dsimp only;omega
theorem aTN (s:bA) (v:List Int) (h:v.length≤6):bQ aA (aO6 s v)≤bQ aA s+6:=by rw[fP,fP];unfold aO6;dsimp only;omega
theorem bEH (p:aY) (s:Int):bQ aA (jM p s)≤bQ aA (hZ p s)+110:=by
 unfold jM
 split
 ·have:=bJ8 (hZ p s) _ (aOZ (p.2.2.1.getD (s - 1).toNat (aV aL)));omega
 split
 ·have:=bL8 (hZ p s) (bL p s).2 (if s=0 then (p.1.getD (bL p s).2.toNat (aV aM)).1 else (hZ p s).2.2.2.2.2.2.2.1) (p.1.getD (bL p s).2.toNat (aV aM)).2;omega
 split
 ·have:=bKY (hZ p s) [] (Nat.zero_le _);omega
 split
 ·have:=bKI (hZ p s) _ (aOZ (p.2.2.2.getD s.toNat (aV aL)));omega
 split
 ·have:=bFG (hZ p s) (bL p s).2;omega
 split
 ·have h1:=bKA (hZ p s) (bL p s).2 (p.1.getD (bL p s).2.toNat (aV aM)).2
  have h2:=aTN (uH (hZ p s) (bL p s).2 (p.1.getD (bL p s).2.toNat (aV aM)).2) [] (Nat.zero_le _)
  split <;> omega
 split
 ·have:=aTN (hZ p s) [] (Nat.zero_le _);omega
 ·omega
theorem bFB (p:aY) (s:Int):bQ aG (wG p s)≤bQ aG p.2.2.1+7:=by
 unfold wG
 split
 ·exact aD3 _ (aV aL) _ _ _ fun _=>Nat.le_trans (bBP _) (Nat.le_add_right _ _)
 split
 ·exact aD3 _ (aV aL) _ _ _ fun _=>aUL _ _
 ·omega
theorem bF1 (p:aY) (s:Int):bQ aG (wL p s)≤bQ aG p.2.2.2+7:=by
 unfold wL
 split
 ·exact aD3 _ (aV aL) _ _ _ fun _=>Nat.le_trans (bBP _) (Nat.le_add_right _ _)
 split
 ·exact aD3 _ (aV aL) _ _ _ fun _=>aUL _ _
 ·omega
theorem qL (p:aY):bQ aC p=bQ aN p.1+(bQ (.slice 38 aA) p.2.1+(bQ aG p.2.2.1+bQ aG p.2.2.2)):=rfl
theorem aVR (p:aY) (s:Int):bQ aC (eR p s)≤bQ aC p+200:=by
 unfold eR;split
 ·rw[qL,qL]
  dsimp only
  have h1:=bFB p s
  have h2:=bF1 p s
  have h3:bQ aA (wA (jM p s) ((jM p s).1+1))=bQ aA (jM p s):=by rw[fP,fP];rfl
  have h4:=bEH p s
  have h5:=aD3 (e:=38) (t:=aA) (wA (jM p s) ((jM p s).1+1)) (aV aA) 110 p.2.1 s.toNat fun _=>by rw[h3];exact h4
  omega
 ·omega
theorem aSU (p:aY):(l m:List Int)→wM p (l++m)=wM (wM p l) m
 | [],_=>rfl
 | s :: l,m=>aSU (eR p s) l m
theorem aTZ (p:aY) (l:List Int) (s:Int):wM p (l++[s])=eR (wM p l) s:=aSU p l [s]
theorem aRV (p:aY):(l:List Int)→bQ aC (wM p l)≤bQ aC p+200 * l.length
 | []=>Nat.le_refl _
 | s :: l=>by
  have h1:=aRV (eR p s) l
  have h2:=aVR p s
  show bQ aC (wM (eR p s) l)≤_
  rw[List.length_cons];omega
end Go.Proofs.YtdeobhdbmehpgaaGreat
