/- Core9: lemmas. No conditions. -/
import Derived.Test.YtpleleanibgniaaGreatCore8
namespace Go.Proofs.YtpleleanibgniaaGreat
open Go.ChangeShapes Go.WideShapes Go.ChangeAt Go.RowKit Go.Deep
set_option linter.unusedVariables false
set_option linter.unusedSimpArgs false
theorem aL6 (q:cS):(uG q).2.1.2.length≤6:=by
 unfold uG;split
 ·rename_i h
  have h1:=(nT.1 h.1).2 0 h.2
  exact ((dB _).1 ((jW _).1 h1).1).2.1
 ·exact Nat.zero_le _
theorem aWW (q:cS):bW aN (uG q).1≤bW aN q:=by
 unfold uG;split
 ·show 0+bW (.slice 105 aI) (q.2.drop 1)≤0+bW (.slice 105 aI) q.2
  have:=qT (e:=105) (t:=aI) (List.drop_sublist 1 q.2)
  omega
 ·exact Nat.le_refl _
theorem aPI (q:cS) (x:dW):bW aN (qS q x).1≤bW aN q+7:=by
 unfold qS;split
 ·rename_i h
  show 0+bW (.slice 105 aI) (q.2++[x])≤0+bW (.slice 105 aI) q.2+7
  have h1:=((dB _).1 ((jW _).1 h.2.1).1).2.1
  have e1:bW aI x=0+bW aB x.2:=rfl
  have e2:=fT x.2
  rw[aZZ,bBE];omega
 ·exact Nat.le_add_right _ _
theorem bDR (s:bC) (m:Int) (x t:List Int):bW aA (yH s m x t)≤bW aA s+100:=by
 unfold yH;split
 ·rename_i h
  unfold aV9 at h
  simp only[Bool.and_eq_true] at h
  have hx:=aFP h.2.1
  have hm:=((bR _).1 ((fY s).1 h.1).1).2.1
  have h6:=zF s.2.2.1 x hx s.2.2.1.length
  have hl:=wC s.2.2.1 x s.2.2.1.length
  have hr:bW aP (jZ s.2.2.1 x s.2.2.1.length).1≤9+9 * 6:=aMG (by omega) h6
  have hk:bW aP (aA4 s.2.2.2.2.1 (jZ s.2.2.1 x s.2.2.1.length).1)≤bW aP (jZ s.2.2.1 x s.2.2.1.length).1:=by
   unfold aA4;split
   ·exact qT (List.take_sublist _ _)
   ·exact Nat.le_refl _
  have hy:(aXX s x).length≤6:=aKG h6 _
  rw[fD,fD]
  have e1:=fT (aXX s x)
  have e2:bW uV (s.2.2.2.2.2.1++[(m,aA4 s.2.2.2.2.1 (jZ s.2.2.1 x s.2.2.1.length).1)])=bW uV s.2.2.2.2.2.1+(1+(0+bW aP (aA4 s.2.2.2.2.1 (jZ s.2.2.1 x s.2.2.1.length).1))):=by
   rw[show bW uV _=_ from aZZ _ _,show bW uV [(m,aA4 s.2.2.2.2.1 (jZ s.2.2.1 x s.2.2.1.length).1)]=_ from bBE _];rfl
  unfold aUX
  dsimp only
  rw[e2]
  split <;> simp only[List.length_nil] <;> omega
 ·omega
theorem bCB (s:bC) (m:Int):bW aA (oW s m)≤bW aA s+100:=by
 unfold oW;split
 ·rename_i h
  have hm:=((bR _).1 ((fY s).1 h.1).1).2.1
  have h4:=((fY s).1 h.1).2.2.2.1
  have hx:((s.2.2.2.2.2.1.getD (eG s.2.2.2.2.2.1 m).toNat (aS aM)).2.getD 0 []).length≤6:=by
   by_cases hi:(eG s.2.2.2.2.2.1 m).toNat<s.2.2.2.2.2.1.length
   ·exact aFP (aF7 h.1 hi).2
   ·rw[aWB (l:=s.2.2.2.2.2.1) (by omega)];exact Nat.zero_le _
  have h6:=zF s.2.2.1 _ hx s.2.2.1.length
  have hl:=wC s.2.2.1 ((s.2.2.2.2.2.1.getD (eG s.2.2.2.2.2.1 m).toNat (aS aM)).2.getD 0 []) s.2.2.1.length
  have hr:bW aP (jZ s.2.2.1 ((s.2.2.2.2.2.1.getD (eG s.2.2.2.2.2.1 m).toNat (aS aM)).2.getD 0 []) s.2.2.1.length).1≤9+9 * 6:=aMG (by omega) h6
  rw[fD,fD]
  dsimp only
  omega
 ·omega
theorem bEX (s:bC) (m:Int) (t:List Int):bW aA (uT s m t)≤bW aA s+100:=by
 unfold uT;split
 ·rename_i h
  unfold aWS at h
  simp only[Bool.and_eq_true] at h
  have hd:(jU s m t).1.length≤6:=aFP h.2.2.2
  have hb:(tL s.2.2.1 (tH s m) (jU s m t).1).2.1.length≤6:=aS6 _ _ _ _ hd _
  have hs:bW uV (s.2.2.2.2.2.1.take (eG s.2.2.2.2.2.1 m).toNat++s.2.2.2.2.2.1.drop ((eG s.2.2.2.2.2.1 m).toNat+1))≤bW uV s.2.2.2.2.2.1:=by
   refine qT ?_
   have h1:(s.2.2.2.2.2.1.drop ((eG s.2.2.2.2.2.1 m).toNat+1)).Sublist (s.2.2.2.2.2.1.drop (eG s.2.2.2.2.2.1 m).toNat):=by
    rw[← List.drop_drop];exact List.drop_sublist _ _
   have h2:=(List.Sublist.refl (s.2.2.2.2.2.1.take (eG s.2.2.2.2.2.1 m).toNat)).append h1
   rwa [List.take_append_drop] at h2
  have hg:=aHI (e:=124) s.2.2.2.2.2.2.2.2.2.2.2.1 (tL s.2.2.1 (tH s m) (jU s m t).1).1
  rw[fD,fD]
  unfold bFQ lI
  dsimp only
  have hg':bW aP (fB s.2.2.2.2.2.2.2.2.2.2.2.1 (tL s.2.2.1 (tH s m) (jU s m t).1).1)≤bW aP s.2.2.2.2.2.2.2.2.2.2.2.1:=hg
  simp only[List.length_nil]
  have e0:bW aP ([]:dT)=0:=rfl
  rw[e0]
  omega
 ·omega
theorem bDM (s:bC) (v:List Int) (h:v.length≤6):bW aA (bF0 s v)≤bW aA s+6:=by rw[fD,fD];unfold bF0;dsimp only;omega
theorem bFS (s:bC) (v:List Int) (h:v.length≤6):bW aA (bDT s v)≤bW aA s+6:=by rw[fD,fD];unfold bDT;dsimp only;omega
theorem bDO (s:bC) (v:List Int) (h:v.length≤6):bW aA (bDN s v)≤bW aA s+6:=by rw[fD,fD];unfold bDN;dsimp only;omega
theorem aQX (s:bC) (v:List Int) (h:v.length≤6):bW aA (aLP s v)≤bW aA s+6:=by rw[fD,fD];unfold aLP;dsimp only;omega
theorem aXC (p:bI) (s:Int):bW aA (eR p s)≤bW aA (fA p s)+110:=by
 unfold eR
 split
 ·have:=bDM (fA p s) _ (aL6 (p.2.2.1.getD (s - 1).toNat (aS aN)));omega
 split
 ·have:=bDR (fA p s) (aZ p s).2 (if s=0 then (p.1.getD (aZ p s).2.toNat (aS aQ)).1 else (fA p s).2.2.2.2.2.2.2.1) (p.1.getD (aZ p s).2.toNat (aS aQ)).2;omega
 split
 ·have:=bFS (fA p s) [] (Nat.zero_le _);omega
 split
 ·have:=bDO (fA p s) _ (aL6 (p.2.2.2.getD s.toNat (aS aN)));omega
 split
 ·have:=bCB (fA p s) (aZ p s).2;omega
 split
 ·have h1:=bEX (fA p s) (aZ p s).2 (p.1.getD (aZ p s).2.toNat (aS aQ)).2
  have h2:=aQX (uT (fA p s) (aZ p s).2 (p.1.getD (aZ p s).2.toNat (aS aQ)).2) [] (Nat.zero_le _)
  split <;> omega
 split
 ·have:=aQX (fA p s) [] (Nat.zero_le _);omega
 ·omega
theorem bB2 (p:bI) (s:Int):bW aH (nC p s)≤bW aH p.2.2.1+7:=by
 unfold nC
 split
 ·exact aDM _ (aS aN) _ _ _ fun _=>Nat.le_trans (aWW _) (Nat.le_add_right _ _)
 split
 ·exact aDM _ (aS aN) _ _ _ fun _=>aPI _ _
 ·omega
theorem bD3 (p:bI) (s:Int):bW aH (nM p s)≤bW aH p.2.2.2+7:=by
 unfold nM
 split
 ·exact aDM _ (aS aN) _ _ _ fun _=>Nat.le_trans (aWW _) (Nat.le_add_right _ _)
 split
 ·exact aDM _ (aS aN) _ _ _ fun _=>aPI _ _
 ·omega
theorem aHL (p:bI):bW aO p=bW aF p.1+(bW (.slice 50 aA) p.2.1+(bW aH p.2.2.1+bW aH p.2.2.2)):=rfl
theorem bD4 (p:bI) (s:Int):bW aO (dP p s)≤bW aO p+200:=by
 unfold dP;split
 ·rw[aHL,aHL]
  dsimp only
  have h1:=bB2 p s
  have h2:=bD3 p s
  have h3:bW aA (rE (eR p s) ((eR p s).1+1))=bW aA (eR p s):=by rw[fD,fD];rfl
  have h4:=aXC p s
  have h5:=aDM (e:=50) (t:=aA) (rE (eR p s) ((eR p s).1+1)) (aS aA) 110 p.2.1 s.toNat fun _=>by rw[h3];exact h4
  omega
 ·omega
theorem aP0 (p:bI):(l m:List Int)→lO p (l++m)=lO (lO p l) m
 | [],_=>rfl
 | s :: l,m=>aP0 (dP p s) l m
theorem bB6 (p:bI) (l:List Int) (s:Int):lO p (l++[s])=dP (lO p l) s:=aP0 p l [s]
theorem aNK (p:bI):(l:List Int)→bW aO (lO p l)≤bW aO p+200 * l.length
 | []=>Nat.le_refl _
 | s :: l=>by
  have h1:=aNK (dP p s) l
  have h2:=bD4 p s
  show bW aO (lO (dP p s) l)≤_
  rw[List.length_cons];omega
end Go.Proofs.YtpleleanibgniaaGreat
