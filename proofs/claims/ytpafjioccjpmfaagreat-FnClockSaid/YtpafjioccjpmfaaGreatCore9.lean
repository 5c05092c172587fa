/- Core9: lemmas. No conditions. -/
import Derived.Test.YtpafjioccjpmfaaGreatCore8
namespace Go.Proofs.YtpafjioccjpmfaaGreat
open Go.ChangeShapes Go.WideShapes Go.ChangeAt Go.RowKit Go.Deep
set_option linter.unusedVariables false
set_option linter.unusedSimpArgs false
theorem aQ2 (q:cY):(qU q).2.1.2.length≤6:=by
 unfold qU;split
 ·rename_i h
  have h1:=(mJ.1 h.1).2 0 h.2
  exact ((dB _).1 ((jR _).1 h1).1).2.1
 ·exact Nat.zero_le _
theorem bBW (q:cY):bS aM (qU q).1≤bS aM q:=by
 unfold qU;split
 ·show 0+bS (.slice 115 aI) (q.2.drop 1)≤0+bS (.slice 115 aI) q.2
  have:=uQ (e:=115) (t:=aI) (List.drop_sublist 1 q.2)
  omega
 ·exact Nat.le_refl _
theorem aTY (q:cY) (x:eS):bS aM (oN q x).1≤bS aM q+7:=by
 unfold oN;split
 ·rename_i h
  show 0+bS (.slice 115 aI) (q.2++[x])≤0+bS (.slice 115 aI) q.2+7
  have h1:=((dB _).1 ((jR _).1 h.2.1).1).2.1
  have e1:bS aI x=0+bS aB x.2:=rfl
  have e2:=gN x.2
  rw[bJZ,bG8];omega
 ·exact Nat.le_add_right _ _
theorem bLS (s:bG) (m:Int) (x t:List Int):bS aA (sQ s m x t)≤bS aA s+100:=by
 unfold sQ;split
 ·rename_i h
  unfold aUS at h
  simp only[Bool.and_eq_true] at h
  have hx:=aJ2 h.2.1
  have hm:=((bM _).1 ((cD s).1 h.1).1).2.1
  have h6:=aC0 s.2.2.1 x hx s.2.2.1.length
  have hl:=qK s.2.2.1 x s.2.2.1.length
  have hr:bS aO (jC s.2.2.1 x s.2.2.1.length).1≤9+9 * 6:=aSR (by omega) h6
  have hk:bS aO (zH s.2.2.2.2.1 (jC s.2.2.1 x s.2.2.1.length).1)≤bS aO (jC s.2.2.1 x s.2.2.1.length).1:=by
   unfold zH;split
   ·exact uQ (List.take_sublist _ _)
   ·exact Nat.le_refl _
  have hy:(aO5 s x).length≤6:=aPA h6 _
  rw[fN,fN]
  have e1:=gN (aO5 s x)
  have e2:bS qX (s.2.2.2.2.2.1++[(m,zH s.2.2.2.2.1 (jC s.2.2.1 x s.2.2.1.length).1)])=bS qX s.2.2.2.2.2.1+(1+(0+bS aO (zH s.2.2.2.2.1 (jC s.2.2.1 x s.2.2.1.length).1))):=by
   rw[show bS qX _=_ from bJZ _ _,show bS qX [(m,zH s.2.2.2.2.1 (jC s.2.2.1 x s.2.2.1.length).1)]=_ from bG8 _];rfl
  unfold aNM
  dsimp only
  rw[e2]
  split <;> simp only[List.length_nil] <;> omega
 ·omega
theorem bK7 (s:bG) (m:Int):bS aA (oK s m)≤bS aA s+100:=by
 unfold oK;split
 ·rename_i h
  have hm:=((bM _).1 ((cD s).1 h.1).1).2.1
  have h4:=((cD s).1 h.1).2.2.2.1
  have hx:((s.2.2.2.2.2.1.getD (eE s.2.2.2.2.2.1 m).toNat (aP aL)).2.getD 0 []).length≤6:=by
   by_cases hi:(eE s.2.2.2.2.2.1 m).toNat<s.2.2.2.2.2.1.length
   ·exact aJ2 (aID h.1 hi).2
   ·rw[aBV (l:=s.2.2.2.2.2.1) (by omega)];exact Nat.zero_le _
  have h6:=aC0 s.2.2.1 _ hx s.2.2.1.length
  have hl:=qK s.2.2.1 ((s.2.2.2.2.2.1.getD (eE s.2.2.2.2.2.1 m).toNat (aP aL)).2.getD 0 []) s.2.2.1.length
  have hr:bS aO (jC s.2.2.1 ((s.2.2.2.2.2.1.getD (eE s.2.2.2.2.2.1 m).toNat (aP aL)).2.getD 0 []) s.2.2.1.length).1≤9+9 * 6:=aSR (by omega) h6
  rw[fN,fN]
  dsimp only
  omega
 ·omega
theorem bLG (s:bG) (m:Int) (t:List Int):bS aA (oI s m t)≤bS aA s+100:=by
 unfold oI;split
 ·rename_i h
  unfold aIH at h
  simp only[Bool.and_eq_true] at h
  have hd:(kD s m t).1.length≤6:=aJ2 h.2.2.2
  have hb:(oP s.2.2.1 (rJ s m) (kD s m t).1).2.1.length≤6:=aX3 _ _ _ _ hd _
  have hs:bS qX (s.2.2.2.2.2.1.take (eE s.2.2.2.2.2.1 m).toNat++s.2.2.2.2.2.1.drop ((eE s.2.2.2.2.2.1 m).toNat+1))≤bS qX s.2.2.2.2.2.1:=by
   refine uQ ?_
   have h1:(s.2.2.2.2.2.1.drop ((eE s.2.2.2.2.2.1 m).toNat+1)).Sublist (s.2.2.2.2.2.1.drop (eE s.2.2.2.2.2.1 m).toNat):=by
    rw[← List.drop_drop];exact List.drop_sublist _ _
   have h2:=(List.Sublist.refl (s.2.2.2.2.2.1.take (eE s.2.2.2.2.2.1 m).toNat)).append h1
   rwa [List.take_append_drop] at h2
  have hg:=aL5 (e:=134) s.2.2.2.2.2.2.2.2.2.2.2.1 (oP s.2.2.1 (rJ s m) (kD s m t).1).1
  rw[fN,fN]
  unfold aU4 nU
  dsimp only
  have hg':bS aO (eY s.2.2.2.2.2.2.2.2.2.2.2.1 (oP s.2.2.1 (rJ s m) (kD s m t).1).1)≤bS aO s.2.2.2.2.2.2.2.2.2.2.2.1:=hg
  simp only[List.length_nil]
  have e0:bS aO ([]:dG)=0:=rfl
  rw[e0]
  omega
 ·omega
theorem bM0 (s:bG) (v:List Int) (h:v.length≤6):bS aA (aUL s v)≤bS aA s+6:=by rw[fN,fN];unfold aUL;dsimp only;omega
theorem bL2 (s:bG) (v:List Int) (h:v.length≤6):bS aA (aWX s v)≤bS aA s+6:=by rw[fN,fN];unfold aWX;dsimp only;omega
theorem bMH (s:bG) (v:List Int) (h:v.length≤6):bS aA (aWA s v)≤bS aA s+6:=by rw[fN,fN];unfold aWA;dsimp only;omega
theorem aV4 (s:bG) (v:List Int) (h:v.length≤6):bS aA (wZ s v)≤bS aA s+6:=by rw[fN,fN];unfold wZ;dsimp only;omega
theorem bE8 (p:bF) (s:Int):bS aA (cS p s)≤bS aA (fW p s)+110:=by
 unfold cS
 split
 ·have:=bM0 (fW p s) _ (aQ2 (p.2.2.1.getD (s - 1).toNat (aP aM)));omega
 split
 ·have:=bLS (fW p s) (aV p s).2 (if s=0 then (p.1.getD (aV p s).2.toNat (aP aQ)).1 else (fW p s).2.2.2.2.2.2.2.1) (p.1.getD (aV p s).2.toNat (aP aQ)).2;omega
 split
 ·have:=bL2 (fW p s) [] (Nat.zero_le _);omega
 split
 ·have:=bMH (fW p s) _ (aQ2 (p.2.2.2.getD s.toNat (aP aM)));omega
 split
 ·have:=bK7 (fW p s) (aV p s).2;omega
 split
 ·have h1:=bLG (fW p s) (aV p s).2 (p.1.getD (aV p s).2.toNat (aP aQ)).2
  have h2:=aV4 (oI (fW p s) (aV p s).2 (p.1.getD (aV p s).2.toNat (aP aQ)).2) [] (Nat.zero_le _)
  split <;> omega
 split
 ·have:=aV4 (fW p s) [] (Nat.zero_le _);omega
 ·omega
theorem bG4 (p:bF) (s:Int):bS aU (eX p s)≤bS aU p.2.2.1+7:=by
 unfold eX
 split
 ·exact aH4 _ (aP aM) _ _ _ fun _=>Nat.le_trans (bBW _) (Nat.le_add_right _ _)
 split
 ·exact aH4 _ (aP aM) _ _ _ fun _=>aTY _ _
 ·omega
theorem bJK (p:bF) (s:Int):bS aU (eZ p s)≤bS aU p.2.2.2+7:=by
 unfold eZ
 split
 ·exact aH4 _ (aP aM) _ _ _ fun _=>Nat.le_trans (bBW _) (Nat.le_add_right _ _)
 split
 ·exact aH4 _ (aP aM) _ _ _ fun _=>aTY _ _
 ·omega
theorem xY (p:bF):bS aK p=bS aF p.1+(bS (.slice 66 aA) p.2.1+(bS aU p.2.2.1+bS aU p.2.2.2)):=rfl
theorem bI8 (p:bF) (s:Int):bS aK (bR p s)≤bS aK p+200:=by
 unfold bR;split
 ·rw[xY,xY]
  dsimp only
  have h1:=bG4 p s
  have h2:=bJK p s
  have h3:bS aA (jJ (cS p s) ((cS p s).1+1))=bS aA (cS p s):=by rw[fN,fN];rfl
  have h4:=bE8 p s
  have h5:=aH4 (e:=66) (t:=aA) (jJ (cS p s) ((cS p s).1+1)) (aP aA) 110 p.2.1 s.toNat fun _=>by rw[h3];exact h4
  omega
 ·omega
theorem aLP (p:bF):(l m:List Int)→hK p (l++m)=hK (hK p l) m
 | [],_=>rfl
 | s :: l,m=>aLP (bR p s) l m
theorem aMR (p:bF) (l:List Int) (s:Int):hK p (l++[s])=bR (hK p l) s:=aLP p l [s]
theorem aIW (p:bF):(l:List Int)→bS aK (hK p l)≤bS aK p+200 * l.length
 | []=>Nat.le_refl _
 | s :: l=>by
  have h1:=aIW (bR p s) l
  have h2:=bI8 p s
  show bS aK (hK (bR p s) l)≤_
  rw[List.length_cons];omega
end Go.Proofs.YtpafjioccjpmfaaGreat
