/- Read9: lemmas. No conditions. -/
import Derived.Test.YtlabadaccldkaaaGreatRead8
namespace Go.Proofs.YtlabadaccldkaaaGreat
open Go.ChangeShapes Go.WideShapes Go.ChangeAt Go.RowKit Go.Deep
set_option linter.unusedVariables false
set_option linter.unusedSimpArgs false
theorem aVP {s:ByteArray} {p:Int} {q:List Int × Int} (h:yS s p=some q):p+8≤q.2:=by
 unfold yS at h
 split at h
 ·rename_i n hn
  have hp:=kF hn
  split at h
  ·have:=aI0 s n.toNat (p+8) (by omega) (by omega) q h;omega
  ·cases h
 ·cases h
theorem iL {s:ByteArray} {p:Nat} {v:List Int} (hv:gV v=true) (h:gW s p (cC v)):fI s p=(v,((p+(cC v).size:Nat):Int)):=by
 unfold fI;rw[aF7 hv h];rfl
theorem pI {s:ByteArray} {p:Nat} {v:List Int} {n:Int} (hv:gV v=true) (h:gW s p (cC v)) (hn:(v.length:Int)=n):jP s n p=(v,((p+(cC v).size:Nat):Int)):=by
 unfold jP
 rw[iL hv h,if_neg]
 rintro (h1|h1)
 ·have h2:((p+(cC v).size:Nat):Int)<0:=h1
  omega
 ·exact h1 hn
theorem iA {α:Type} {s:ByteArray} {f:Int→α × Int} {g:α→List ByteArray} {P:α→Prop} (hf:∀ (a:α) (p:Nat),P a→gW s p (cK ⟨#[]⟩ (g a))→f p=(a,((p+(cK ⟨#[]⟩ (g a)).size:Nat):Int))) :
  (l:List α)→(p:Nat)→(∀ a∈l,P a)→gW s p (cK ⟨#[]⟩ (l.flatMap g))→cU f l.length p=(l,((p+(cK ⟨#[]⟩ (l.flatMap g)).size:Nat):Int))
 | [],p,_,_=>rfl
 | x :: l,p,hP,h=>by
  rw[List.flatMap_cons,iW] at h ⊢
  obtain ⟨h1,h2⟩:=bJ.1 h
  rw[List.length_cons,lD f _ (Int.natCast_nonneg p),hf x p (hP x List.mem_cons_self) h1]
  dsimp only
  rw[iA hf l _ (fun a ha=>hP a (List.mem_cons_of_mem _ ha)) h2,cA,Nat.add_assoc]
theorem pM {s:ByteArray} {p:Nat} {l:eT} (hl:l.length≤20) (hv:∀ v∈l,gV v=true) (h:gW s p (cK ⟨#[]⟩ (dN l))):cX s p=(l,((p+(cK ⟨#[]⟩ (dN l)).size:Nat):Int)):=by
 unfold dN at h ⊢
 rw[eD,aSB] at h ⊢
 obtain ⟨h1,h2⟩:=bJ.1 h
 have hz:=aDI (n:=(l.length:Int)) (by omega)
 unfold cX nQ
 rw[rT h1 (by omega)]
 dsimp only
 rw[Int.toNat_natCast,show min l.length 100=l.length by omega,show (p:Int)+8=((p+(fP (l.length:Int)).size:Nat):Int) by rw[hz];omega,
  iA (P:=fun v=>gV v=true) (fun a p ha h=>?_) l _ hv h2,cA,Nat.add_assoc]
 rw[gC,fF] at h ⊢
 exact iL ha h
theorem aPS {s:ByteArray} (a:jR) (p:Nat) (ha:gV [a.1,a.2]=true) (h:gW s p (cK ⟨#[]⟩ (mA a))):aEE s p=(a,((p+(cK ⟨#[]⟩ (mA a)).size:Nat):Int)):=by
 unfold mA at h ⊢
 rw[gC,fF] at h ⊢
 unfold aEE
 rw[pI (n:=2) ha h rfl];rfl
theorem aSE {s:ByteArray} (a:jT) (p:Nat) (ha:gV [a.1,a.2.1,a.2.2.1]=true∧gV a.2.2.2=true) (h:gW s p (cK ⟨#[]⟩ (xF a))):opQ s p=(a,((p+(cK ⟨#[]⟩ (xF a)).size:Nat):Int)):=by
 unfold xF at h ⊢
 rw[eD,gC,fF] at h ⊢
 obtain ⟨h1,h2⟩:=bJ.1 h
 unfold opQ
 rw[pI (n:=3) ha.1 h1 rfl]
 dsimp only
 rw[iL ha.2 h2,cA,Nat.add_assoc];rfl
theorem aPV {s:ByteArray} (a:fO) (p:Nat) (ha:gV [a.1]=true∧a.2.length≤20∧∀ v∈a.2,gV v=true) (h:gW s p (cK ⟨#[]⟩ (jL a))):aES s p=(a,((p+(cK ⟨#[]⟩ (jL a)).size:Nat):Int)):=by
 unfold jL at h ⊢
 rw[eD] at h ⊢
 obtain ⟨h1,h2⟩:=bJ.1 h
 unfold aES
 rw[pI (n:=1) ha.1 h1 rfl]
 dsimp only
 rw[pM ha.2.1 ha.2.2 h2,cA,Nat.add_assoc];rfl
theorem aNH (x:bA):cK ⟨#[]⟩ (dB x)=cC (kM x)++(cK ⟨#[]⟩ (x.2.1.flatMap mA)++(cK ⟨#[]⟩ (x.2.2.1.flatMap xF)++(cK ⟨#[]⟩ (x.2.2.2.2.2.1.flatMap jL)++(cK ⟨#[]⟩ (dN x.2.2.2.2.2.2.1)++(cC x.2.2.2.2.2.2.2.1++(cC x.2.2.2.2.2.2.2.2.1++(cC x.2.2.2.2.2.2.2.2.2.1++(cC x.2.2.2.2.2.2.2.2.2.2.1++cK ⟨#[]⟩ (dN x.2.2.2.2.2.2.2.2.2.2.2.1))))))))):=by
 unfold dB uR
 simp only[iW,eD,gC,fF,List.cons_append,List.nil_append]
theorem aGK {s:ByteArray} {p:Nat} {x:bA} (hx:yD x) (h:gW s p (cK ⟨#[]⟩ (dB x))):dT s p=(x,((p+(cK ⟨#[]⟩ (dB x)).size:Nat):Int)):=by
 obtain ⟨f0,f1,f2,f3,f4,f5,f6,f7,f8,f9⟩:=aE7 hx
 have hm:=(cB _).1 ((dA x).1 hx.1.1).1
 have hl:=hx.1
 rw[aNH] at h ⊢
 obtain ⟨h0,h⟩:=bJ.1 h
 obtain ⟨h1,h⟩:=bJ.1 h
 obtain ⟨h2,h⟩:=bJ.1 h
 obtain ⟨h3,h⟩:=bJ.1 h
 obtain ⟨h4,h⟩:=bJ.1 h
 obtain ⟨h5,h⟩:=bJ.1 h
 obtain ⟨h6,h⟩:=bJ.1 h
 obtain ⟨h7,h⟩:=bJ.1 h
 obtain ⟨h8,h9⟩:=bJ.1 h
 unfold dT
 rw[pI (n:=8) f0 h0 rfl]
 dsimp only
 rw[show min ((kM x).getD 5 0).toNat 100=x.2.1.length from Nat.min_eq_left hl.2.1,iA aPS x.2.1 _ f1 h1]
 unfold K1Q
 dsimp only
 rw[show min ((kM x).getD 6 0).toNat 8=x.2.2.1.length from Nat.min_eq_left hm.2.1,iA aSE x.2.2.1 _ f2 h2]
 unfold K2Q
 dsimp only
 rw[show min ((kM x).getD 7 0).toNat 5=x.2.2.2.2.2.1.length from Nat.min_eq_left hl.2.2.1,iA aPV x.2.2.2.2.2.1 _ f3 h3]
 unfold K3Q aHP
 dsimp only
 rw[pM f4.1 f4.2 h4]
 dsimp only
 rw[iL f5 h5]
 dsimp only
 rw[iL f6 h6]
 dsimp only
 rw[iL f7 h7]
 dsimp only
 rw[iL f8 h8]
 dsimp only
 rw[pM f9.1 f9.2 h9]
 dsimp only
 simp only[cA,Nat.add_assoc]
 show ((_,_,_,decide (b01 _=1),decide (b01 _=1),_,_,_,_,_,_,_,_,decide (b01 _=1)),_)=_
 rw[aFX,aFX,aFX]
 rfl
def MoR {α:Type} (f:fA→α × fA):Prop:=∀ r,(r.2.2=true→(f r).2.2.2=true)∧@LE.le Int _ r.2.1 (f r).2.2.1
theorem aO0 (lo hi:Int):MoR (fun r=>fM r lo hi):=fun r=>by
 show (r.2.2=true→(fM r lo hi).2.2.2=true)∧@LE.le Int _ r.2.1 (fM r lo hi).2.2.1
 unfold fM
 split
 ·rename_i n hn
  split at hn
  ·cases hn
  ·rename_i hb
   split
   ·exact ⟨fun h=>absurd h hb,by show r.2.1≤r.2.1+8;omega⟩
   ·exact ⟨fun _=>rfl,Int.le_refl _⟩
 ·exact ⟨fun _=>rfl,Int.le_refl _⟩
theorem aOA:(k:Nat)→MoR (jG k)
 | 0=>fun r=>⟨fun h=>h,Int.le_refl _⟩
 | k+1=>fun r=>by
  cases hb:r.2.2 with
  | true=>rw[kR _ hb];exact ⟨fun _=>hb,Int.le_refl _⟩
  | false =>
   rw[uO _ hb]
   have h1:=aO0 (-1000000000000) 1000000000000 r
   have h2:=aOA k (fM r (-1000000000000) 1000000000000).2
   exact ⟨fun h=>(by cases h),Int.le_trans h1.2 h2.2⟩
theorem xO {α β:Type} {f:fA→α × fA} {g:fA→β × fA} (hf:MoR f) (hg:MoR g) (r:fA):(r.2.2=true→(g (f r).2).2.2.2=true)∧@LE.le Int _ r.2.1 (g (f r).2).2.2.1 :=
 ⟨fun h=>(hg _).1 ((hf r).1 h),Int.le_trans (hf r).2 (hg _).2⟩
theorem wT:MoR eB:=fun r=>xO (aO0 0 200) (aOA (fM r 0 200).1.toNat) r
theorem aHR (n:Int):MoR (fun r=>bP r n):=fun r=>by
 have h:=wT r
 show (r.2.2=true→(bP r n).2.2.2=true)∧@LE.le Int _ r.2.1 (bP r n).2.2.1
 unfold bP
 split
 ·exact h
 ·exact ⟨fun _=>rfl,h.2⟩
theorem xZ {α:Type} {f:fA→α × fA} (hf:MoR f):(k:Nat)→MoR (dG f k)
 | 0=>fun r=>⟨fun h=>h,Int.le_refl _⟩
 | k+1=>fun r=>by
  cases hb:r.2.2 with
  | true=>rw[iJ _ _ hb];exact ⟨fun _=>hb,Int.le_refl _⟩
  | false =>
   rw[iT _ _ hb]
   exact ⟨fun h=>(by cases h),Int.le_trans (hf r).2 (xZ hf k _).2⟩
theorem aG9:MoR iP:=fun r=>xO (aO0 0 20) (xZ wT (fM r 0 20).1.toNat) r
theorem aW3:MoR aAJ:=fun r=>aHR 2 r
theorem aWF:MoR opF:=fun r=>xO (aHR 3) wT r
theorem aW1:MoR aA2:=fun r=>xO (aHR 1) aG9 r
theorem aSA (r:fA):((bP r 8).2.2.2=true→(eH r).2.2.2=true)∧@LE.le Int _ (bP r 8).2.2.1 (eH r).2.2.1:=by
 have h1:=xZ aW3 ((bP r 8).1.getD 5 0).toNat (bP r 8).2
 unfold eH K1 K2 K3 aTR
 generalize dG aAJ ((bP r 8).1.getD 5 0).toNat (bP r 8).2=A at h1 ⊢
 have h2:=xZ aWF ((bP r 8).1.getD 6 0).toNat A.2
 generalize dG opF ((bP r 8).1.getD 6 0).toNat A.2=B at h2 ⊢
 have h3:=xZ aW1 ((bP r 8).1.getD 7 0).toNat B.2
 generalize dG aA2 ((bP r 8).1.getD 7 0).toNat B.2=C at h3 ⊢
 have h4:=aG9 C.2
 have h5:=wT (iP C.2).2
 have h6:=wT (eB (iP C.2).2).2
 have h7:=wT (eB (eB (iP C.2).2).2).2
 have h8:=wT (eB (eB (eB (iP C.2).2).2).2).2
 have h9:=aG9 (eB (eB (eB (eB (iP C.2).2).2).2).2).2
 exact ⟨fun h=>h9.1 (h8.1 (h7.1 (h6.1 (h5.1 (h4.1 (h3.1 (h2.1 (h1.1 h)))))))),Int.le_trans h1.2 (Int.le_trans h2.2 (Int.le_trans h3.2 (Int.le_trans h4.2 (Int.le_trans h5.2 (Int.le_trans h6.2 (Int.le_trans h7.2 (Int.le_trans h8.2 h9.2)))))))⟩
theorem aS3 {s:ByteArray} {p:Nat} (h:(eH (lW s p)).2.2.2=false):(p:Int)+8≤(eH (lW s p)).2.2.1:=by
 have h1:=aSA (lW s p)
 have h2:(bP (lW s p) 8).2.2.2=false:=by
  cases hb:(bP (lW s p) 8).2.2.2 with
  | true=>rw[h1.1 hb] at h;cases h
  | false=>rfl
 refine Int.le_trans ?_ h1.2
 unfold bP at h2 ⊢
 split at h2
 ·rename_i h3
  rw[if_pos h3]
  have h4:=aFP s p
  cases hv:yS s p with
  | none=>rw[hv] at h4;exact absurd (h4.symm.trans h2) (by decide)
  | some q=>rw[hv] at h4;have h5:=aVP hv;rw[show eB (lW s p)=_ from h4];exact h5
 ·cases h2
theorem aLU {x:bA} (h:¬ dF x=⟨#[]⟩):yD x∧dF x=cK ⟨#[]⟩ (dB x):=by
 unfold dF at h ⊢
 split at h
 ·rename_i h1;rw[if_pos h1];exact ⟨h1,rfl⟩
 ·exact absurd rfl h
theorem aJC {s:ByteArray} {p:Nat} {x:bA} (hx:yD x) (h:gW s p (cK ⟨#[]⟩ (dB x))):kI s p=(x,((p+(cK ⟨#[]⟩ (dB x)).size:Nat):Int)):=by
 have h1:=aGK hx h
 have e:dF x=cK ⟨#[]⟩ (dB x):=by unfold dF;rw[if_pos (show vM x∧(kG x).all gV=true from hx)]
 rw[← aE3 (by rw[h1];exact Int.natCast_nonneg _) (by rw[h1];show dF x=s.extract (p:Int).toNat ((p+(cK ⟨#[]⟩ (dB x)).size:Nat):Int).toNat;rw[Int.toNat_natCast,Int.toNat_natCast,aSG h,e]),h1]
theorem aRI {r:fA} (h:lM r):lM (eH r).2∧(eH r).2.1=r.1:=by
 have h0:=jF 8 h
 have h1:=vI (fun r h=>aRV h) ((bP r 8).1.getD 5 0).toNat h0.1
 have h2:=vI (fun r h=>aV7 h) ((bP r 8).1.getD 6 0).toNat h1.1
 have h3:=vI (fun r h=>aT7 h) ((bP r 8).1.getD 7 0).toNat h2.1
 have h4:=aBT h3.1
 have h5:=jJ h4.1
 have h6:=jJ h5.1
 have h7:=jJ h6.1
 have h8:=jJ h7.1
 have h9:=aBT h8.1
 exact ⟨h9.1,h9.2.trans (h8.2.trans (h7.2.trans (h6.2.trans (h5.2.trans (h4.2.trans (h3.2.trans (h2.2.trans (h1.2.trans h0.2))))))))⟩
end Go.Proofs.YtlabadaccldkaaaGreat
