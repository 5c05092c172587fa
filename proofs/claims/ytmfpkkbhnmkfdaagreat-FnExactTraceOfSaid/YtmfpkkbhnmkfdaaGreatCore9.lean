/- Core9: trees, and what they say. -/
import Derived.Test.YtmfpkkbhnmkfdaaGreatCore8
namespace Go.Proofs.YtmfpkkbhnmkfdaaGreat
open Go.ChangeShapes Go.WideShapes Go.ChangeAt Go.RowKit Go.Deep
set_option linter.unusedVariables false
set_option linter.unusedSimpArgs false
theorem aJJ (q:bZ):(sN q).2.1.2.length≤6:=by
 unfold sN;split
 ·rename_i h
  have h1:=(mH.1 h.1).2 0 h.2
  exact ((cJ _).1 ((jD _).1 h1).1).2.1
 ·exact Nat.zero_le _
theorem aTT (q:bZ):aW aE (sN q).1≤aW aE q:=by
 unfold sN;split
 ·show 0 + aW (.slice 161 aD) (q.2.drop 1)≤0 + aW (.slice 161 aD) q.2
  have:=vW (e:=161) (t:=aD) (List.drop_sublist 1 q.2)
  omega
 ·exact Nat.le_refl _
theorem aQ3 (q:bZ) (x:cE):aW aE (qV q x).1≤aW aE q + 7:=by
 unfold qV;split
 ·rename_i h
  show 0 + aW (.slice 161 aD) (q.2 ++ [x])≤0 + aW (.slice 161 aD) q.2 + 7
  have h1:=((cJ _).1 ((jD _).1 h.2.1).1).2.1
  have e1:aW aD x = 0 + aW aB x.2:=rfl
  have e2:=dK x.2
  rw [aZY,aZV];omega
 ·exact Nat.le_add_right _ _
theorem bCB (s:bA) (m:Int) (x t:List Int):aW aA (xE s m x t)≤aW aA s + 100:=by
 unfold xE;split
 ·rename_i h
  unfold aUV at h
  simp only [Bool.and_eq_true] at h
  have hx:=aC4 h.2.1
  have hm:=((cK _).1 ((eF s).1 h.1).1).2.1
  have h6:=tA s.2.2.1 x hx s.2.2.1.length
  have hl:=oY s.2.2.1 x s.2.2.1.length
  have hr:aW aG (jC s.2.2.1 x s.2.2.1.length).1≤9 + 9 * 6:=aV0 (by omega) h6
  have hk:aW aG (yW s.2.2.2.2.1 (jC s.2.2.1 x s.2.2.1.length).1)≤aW aG (jC s.2.2.1 x s.2.2.1.length).1:=by
   unfold yW;split
   ·exact vW (List.take_sublist _ _)
   ·exact Nat.le_refl _
  have hy:(aXM s x).length≤6:=aC6 h6 _
  rw [gZ,gZ]
  have e1:=dK (aXM s x)
  have e2:aW xA (s.2.2.2.2.2.1 ++ [(m,yW s.2.2.2.2.1 (jC s.2.2.1 x s.2.2.1.length).1)]) = aW xA s.2.2.2.2.2.1 + (1 + (0 + aW aG (yW s.2.2.2.2.1 (jC s.2.2.1 x s.2.2.1.length).1))):=by
   rw [show aW xA _ = _ from aZY _ _,show aW xA [(m,yW s.2.2.2.2.1 (jC s.2.2.1 x s.2.2.1.length).1)] = _ from aZV _];rfl
  unfold aTJ
  dsimp only
  rw [e2]
  split <;> simp only [List.length_nil] <;> omega
 ·omega
theorem aZS (s:bA) (m:Int):aW aA (qL s m)≤aW aA s + 100:=by
 unfold qL;split
 ·rename_i h
  have hm:=((cK _).1 ((eF s).1 h.1).1).2.1
  have h4:=((eF s).1 h.1).2.2.2.1
  have hx:((s.2.2.2.2.2.1.getD (dR s.2.2.2.2.2.1 m).toNat (aS aC)).2.getD 0 []).length≤6:=by
   by_cases hi:(dR s.2.2.2.2.2.1 m).toNat < s.2.2.2.2.2.1.length
   ·exact aC4 (wF h.1 hi).2
   ·rw [aU3 (l:=s.2.2.2.2.2.1) (by omega)];exact Nat.zero_le _
  have h6:=tA s.2.2.1 _ hx s.2.2.1.length
  have hl:=oY s.2.2.1 ((s.2.2.2.2.2.1.getD (dR s.2.2.2.2.2.1 m).toNat (aS aC)).2.getD 0 []) s.2.2.1.length
  have hr:aW aG (jC s.2.2.1 ((s.2.2.2.2.2.1.getD (dR s.2.2.2.2.2.1 m).toNat (aS aC)).2.getD 0 []) s.2.2.1.length).1≤9 + 9 * 6:=aV0 (by omega) h6
  rw [gZ,gZ]
  dsimp only
  omega
 ·omega
theorem bBZ (s:bA) (m:Int) (t:List Int):aW aA (sD s m t)≤aW aA s + 100:=by
 unfold sD;split
 ·rename_i h
  unfold aUL at h
  simp only [Bool.and_eq_true] at h
  have hd:(gC s m t).1.length≤6:=aC4 h.2.2.2
  have hb:(oG s.2.2.1 (lP s m) (gC s m t).1).2.1.length≤6:=aRH _ _ _ _ hd _
  have hs:aW xA (s.2.2.2.2.2.1.take (dR s.2.2.2.2.2.1 m).toNat ++ s.2.2.2.2.2.1.drop ((dR s.2.2.2.2.2.1 m).toNat + 1))≤aW xA s.2.2.2.2.2.1:=by
   refine vW ?_
   have h1:(s.2.2.2.2.2.1.drop ((dR s.2.2.2.2.2.1 m).toNat + 1)).Sublist (s.2.2.2.2.2.1.drop (dR s.2.2.2.2.2.1 m).toNat):=by
    rw [← List.drop_drop];exact List.drop_sublist _ _
   have h2:=(List.Sublist.refl (s.2.2.2.2.2.1.take (dR s.2.2.2.2.2.1 m).toNat)).append h1
   rwa [List.take_append_drop] at h2
  have hg:=aEU (e:=188) s.2.2.2.2.2.2.2.2.2.2.2.1 (oG s.2.2.1 (lP s m) (gC s m t).1).1
  rw [gZ,gZ]
  unfold bCA gK
  dsimp only
  have hg':aW aG (dQ s.2.2.2.2.2.2.2.2.2.2.2.1 (oG s.2.2.1 (lP s m) (gC s m t).1).1)≤aW aG s.2.2.2.2.2.2.2.2.2.2.2.1:=hg
  simp only [List.length_nil]
  have e0:aW aG ([]:dD) = 0:=rfl
  rw [e0]
  omega
 ·omega
theorem bBD (s:bA) (v:List Int) (h:v.length≤6):aW aA (bC0 s v)≤aW aA s + 6:=by rw [gZ,gZ];unfold bC0;dsimp only;omega
theorem bBW (s:bA) (v:List Int) (h:v.length≤6):aW aA (bC3 s v)≤aW aA s + 6:=by rw [gZ,gZ];unfold bC3;dsimp only;omega
theorem bBK (s:bA) (v:List Int) (h:v.length≤6):aW aA (bB7 s v)≤aW aA s + 6:=by rw [gZ,gZ];unfold bB7;dsimp only;omega
theorem aOS (s:bA) (v:List Int) (h:v.length≤6):aW aA (aJ9 s v)≤aW aA s + 6:=by rw [gZ,gZ];unfold aJ9;dsimp only;omega
theorem aXN (p:bL) (s:Int):aW aA (iU p s)≤aW aA (gN p s) + 110:=by
 unfold iU
 split
 ·have:=bBD (gN p s) _ (aJJ (p.2.2.1.getD (s - 1).toNat (aS aE)));omega
 split
 ·have:=bCB (gN p s) (bE p s).2 (if s = 0 then (p.1.getD (bE p s).2.toNat (aS aI)).1 else (gN p s).2.2.2.2.2.2.2.1) (p.1.getD (bE p s).2.toNat (aS aI)).2;omega
 split
 ·have:=bBW (gN p s) [] (Nat.zero_le _);omega
 split
 ·have:=bBK (gN p s) _ (aJJ (p.2.2.2.getD s.toNat (aS aE)));omega
 split
 ·have:=aZS (gN p s) (bE p s).2;omega
 split
 ·have h1:=bBZ (gN p s) (bE p s).2 (p.1.getD (bE p s).2.toNat (aS aI)).2
  have h2:=aOS (sD (gN p s) (bE p s).2 (p.1.getD (bE p s).2.toNat (aS aI)).2) [] (Nat.zero_le _)
  split <;> omega
 split
 ·have:=aOS (gN p s) [] (Nat.zero_le _);omega
 ·omega
theorem aZD (p:bL) (s:Int):aW aH (tF p s)≤aW aH p.2.2.1 + 7:=by
 unfold tF
 split
 ·exact aCL _ (aS aE) _ _ _ fun _=>Nat.le_trans (aTT _) (Nat.le_add_right _ _)
 split
 ·exact aCL _ (aS aE) _ _ _ fun _=>aQ3 _ _
 ·omega
theorem bAP (p:bL) (s:Int):aW aH (sQ p s)≤aW aH p.2.2.2 + 7:=by
 unfold sQ
 split
 ·exact aCL _ (aS aE) _ _ _ fun _=>Nat.le_trans (aTT _) (Nat.le_add_right _ _)
 split
 ·exact aCL _ (aS aE) _ _ _ fun _=>aQ3 _ _
 ·omega
theorem aY1 (p:bL):aW aF p = aW aX p.1 + (aW (.slice 121 aA) p.2.1 + (aW aH p.2.2.1 + aW aH p.2.2.2)):=rfl
theorem aZT (p:bL) (s:Int):aW aF (eT p s)≤aW aF p + 200:=by
 unfold eT;split
 ·rw [aY1,aY1]
  dsimp only
  have h1:=aZD p s
  have h2:=bAP p s
  have h3:aW aA (tE (iU p s) ((iU p s).1 + 1)) = aW aA (iU p s):=by rw [gZ,gZ];rfl
  have h4:=aXN p s
  have h5:=aCL (e:=121) (t:=aA) (tE (iU p s) ((iU p s).1 + 1)) (aS aA) 110 p.2.1 s.toNat fun _=>by rw [h3];exact h4
  omega
 ·omega
theorem aP2 (p:bL):(l m:List Int)→nO p (l ++ m) = nO (nO p l) m
 | [],_=>rfl
 | s :: l,m=>aP2 (eT p s) l m
theorem bAX (p:bL) (l:List Int) (s:Int):nO p (l ++ [s]) = eT (nO p l) s:=aP2 p l [s]
theorem aUY (p:bL):(l:List Int)→aW aF (nO p l)≤aW aF p + 200 * l.length
 | []=>Nat.le_refl _
 | s :: l=>by
  have h1:=aUY (eT p s) l
  have h2:=aZT p s
  show aW aF (nO (eT p s) l)≤_
  rw [List.length_cons];omega
end Go.Proofs.YtmfpkkbhnmkfdaaGreat
