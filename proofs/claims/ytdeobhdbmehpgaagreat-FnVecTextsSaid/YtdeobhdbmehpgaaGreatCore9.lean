/- Core9: lemmas. No conditions. -/
import Derived.Test.YtdeobhdbmehpgaaGreatCore8
namespace Go.Proofs.YtdeobhdbmehpgaaGreat
open Go.ChangeShapes Go.WideShapes Go.ChangeAt Go.RowKit Go.Deep
set_option linter.unusedVariables false
set_option linter.unusedSimpArgs false
theorem bCC (s:aM) (m:Int) (x t:List Int):eB aB (aH9 s m x t)≤eB aB s+100:=by
 unfold aH9;split
 ·rename_i h
  unfold aU9 at h
  simp only[Bool.and_eq_true] at h
  have hx:=aEW h.2.1
  have hm:=((bA _).1 ((bV s).1 h.1).1).2.1
  have h6:=xN s.2.2.1 x hx s.2.2.1.length
  have hl:=vR s.2.2.1 x s.2.2.1.length
  have hr:eB aE (jG s.2.2.1 x s.2.2.1.length).1≤9+9 * 6:=aLI (by omega) h6
  have hk:eB aE (yS s.2.2.2.2.1 (jG s.2.2.1 x s.2.2.1.length).1)≤eB aE (jG s.2.2.1 x s.2.2.1.length).1:=by
   unfold yS;split
   ·exact aE4 (List.take_sublist _ _)
   ·exact Nat.le_refl _
  have hy:(aXE s x).length≤6:=aK3 h6 _
  rw[kQ,kQ]
  have e1:=kP (aXE s x)
  have e2:eB tF (s.2.2.2.2.2.1++[(m,yS s.2.2.2.2.1 (jG s.2.2.1 x s.2.2.1.length).1)])=eB tF s.2.2.2.2.2.1+(1+(0+eB aE (yS s.2.2.2.2.1 (jG s.2.2.1 x s.2.2.1.length).1))):=by
   rw[show eB tF _=_ from bDM _ _,show eB tF [(m,yS s.2.2.2.2.1 (jG s.2.2.1 x s.2.2.1.length).1)]=_ from bDU _];rfl
  unfold aRI
  dsimp only
  rw[e2]
  split <;> simp only[List.length_nil] <;> omega
 ·omega
theorem aYZ (s:aM) (m:Int):eB aB (uP s m)≤eB aB s+100:=by
 unfold uP;split
 ·rename_i h
  have hm:=((bA _).1 ((bV s).1 h.1).1).2.1
  have h4:=((bV s).1 h.1).2.2.2.1
  have hx:((s.2.2.2.2.2.1.getD (dT s.2.2.2.2.2.1 m).toNat (bG aC)).2.getD 0 []).length≤6:=by
   by_cases hi:(dT s.2.2.2.2.2.1 m).toNat<s.2.2.2.2.2.1.length
   ·exact aEW (aE0 h.1 hi).2
   ·rw[aTC (l:=s.2.2.2.2.2.1) (by omega)];exact Nat.zero_le _
  have h6:=xN s.2.2.1 _ hx s.2.2.1.length
  have hl:=vR s.2.2.1 ((s.2.2.2.2.2.1.getD (dT s.2.2.2.2.2.1 m).toNat (bG aC)).2.getD 0 []) s.2.2.1.length
  have hr:eB aE (jG s.2.2.1 ((s.2.2.2.2.2.1.getD (dT s.2.2.2.2.2.1 m).toNat (bG aC)).2.getD 0 []) s.2.2.1.length).1≤9+9 * 6:=aLI (by omega) h6
  rw[kQ,kQ]
  dsimp only
  omega
 ·omega
theorem bAU (s:aM) (m:Int) (t:List Int):eB aB (aCW s m t)≤eB aB s+100:=by
 unfold aCW;split
 ·rename_i h
  unfold aNR at h
  simp only[Bool.and_eq_true] at h
  have hd:(iO s m t).1.length≤6:=aEW h.2.2.2
  have hb:(rT s.2.2.1 (lN s m) (iO s m t).1).2.1.length≤6:=aR4 _ _ _ _ hd _
  have hs:eB tF (s.2.2.2.2.2.1.take (dT s.2.2.2.2.2.1 m).toNat++s.2.2.2.2.2.1.drop ((dT s.2.2.2.2.2.1 m).toNat+1))≤eB tF s.2.2.2.2.2.1:=by
   refine aE4 ?_
   have h1:(s.2.2.2.2.2.1.drop ((dT s.2.2.2.2.2.1 m).toNat+1)).Sublist (s.2.2.2.2.2.1.drop (dT s.2.2.2.2.2.1 m).toNat):=by
    rw[← List.drop_drop];exact List.drop_sublist _ _
   have h2:=(List.Sublist.refl (s.2.2.2.2.2.1.take (dT s.2.2.2.2.2.1 m).toNat)).append h1
   rwa [List.take_append_drop] at h2
  have hg:=aHO (e:=112) s.2.2.2.2.2.2.2.2.2.2.2.1 (rT s.2.2.1 (lN s m) (iO s m t).1).1
  rw[kQ,kQ]
  unfold bC0 lD
  dsimp only
  have hg':eB aE (fN s.2.2.2.2.2.2.2.2.2.2.2.1 (rT s.2.2.1 (lN s m) (iO s m t).1).1)≤eB aE s.2.2.2.2.2.2.2.2.2.2.2.1:=hg
  simp only[List.length_nil]
  have e0:eB aE ([]:bX)=0:=rfl
  rw[e0]
  omega
 ·omega
theorem bBW (s:aM) (v:List Int) (h:v.length≤6):eB aB (bBU s v)≤eB aB s+6:=by rw[kQ,kQ];unfold bBU;dsimp only;omega
end Go.Proofs.YtdeobhdbmehpgaaGreat
