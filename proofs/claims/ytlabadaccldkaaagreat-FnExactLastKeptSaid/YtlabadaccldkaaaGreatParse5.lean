/- Parse5: lemmas. No conditions. -/
import Derived.Test.YtlabadaccldkaaaGreatRead2
import Derived.Test.YtlabadaccldkaaaGreatShow3
namespace Go.Proofs.YtlabadaccldkaaaGreat
open Go.ChangeShapes Go.WideShapes Go.ChangeAt Go.RowKit Go.Deep
set_option linter.unusedVariables false
set_option linter.unusedSimpArgs false
theorem eD (x:ByteArray) (l:List ByteArray):cK ⟨#[]⟩ (x :: l)=x++cK ⟨#[]⟩ l:=by
 show cK (⟨#[]⟩++x) l=_
 rw[fF,mN]
theorem iW (a b:List ByteArray):cK ⟨#[]⟩ (a++b)=cK ⟨#[]⟩ a++cK ⟨#[]⟩ b:=by rw[jZ,mN]
def gW (s:ByteArray) (p:Nat) (t:ByteArray):Prop:=p+t.size≤s.size∧∀ i,i<t.size→s.data[p+i]?=t.data[i]?
theorem bJ {s:ByteArray} {p:Nat} {a b:ByteArray}:gW s p (a++b)↔gW s p a∧gW s (p+a.size) b:=by
 unfold gW
 rw[cA]
 constructor
 ·rintro ⟨h1,h2⟩
  refine ⟨⟨by omega,fun i hi=>?_⟩,by omega,fun i hi=>?_⟩
  ·rw[h2 i (by omega),ByteArray.data_append,Array.getElem?_append_left hi]
  ·rw[show p+a.size+i=p+(a.size+i) by omega,h2 (a.size+i) (by omega),ByteArray.data_append,Array.getElem?_append_right (by show a.data.size≤_;exact Nat.le_add_right _ _)]
   congr 1
   show a.data.size+i - a.data.size=i
   omega
 ·rintro ⟨⟨h1,h2⟩,h3,h4⟩
  refine ⟨by omega,fun i hi=>?_⟩
  by_cases hia:i<a.size
  ·rw[h2 i hia,ByteArray.data_append,Array.getElem?_append_left hia]
  ·have:=h4 (i - a.size) (by omega)
   rw[show p+a.size+(i - a.size)=p+i by omega] at this
   rw[this,ByteArray.data_append,Array.getElem?_append_right (by show a.data.size≤_;exact Nat.le_of_not_lt hia)]
   rfl
theorem aSG {s:ByteArray} {p:Nat} {t:ByteArray} (h:gW s p t):s.extract p (p+t.size)=t:=by
 apply ByteArray.ext
 apply Array.ext_getElem?
 intro i
 rw[ByteArray.data_extract,Array.getElem?_extract]
 have hs:s.data.size=s.size:=rfl
 have ht:t.data.size=t.size:=rfl
 split
 ·exact h.2 i (by omega)
 ·rw[Array.getElem?_eq_none (by have:=h.1;omega)]
theorem aDR {s t:ByteArray} {p i:Nat} (h:gW s p t) (hi:i<t.size):cV s ((p+i:Nat):Int)=cV t (i:Int):=by
 unfold cV
 rw[Int.toNat_natCast,Int.toNat_natCast,h.2 i hi]
theorem aLD {s:ByteArray} {a k:Nat} (h:a+k<s.size):cV (s.extract a s.size) (k:Int)=cV s ((a+k:Nat):Int):=by
 unfold cV
 rw[Int.toNat_natCast,Int.toNat_natCast,ByteArray.data_extract,Array.getElem?_extract,if_pos]
 have hs:s.data.size=s.size:=rfl
 omega
theorem aMN {m:Int} (h:0≤m∧m<72057594037927936):(qU m).size=7:=by unfold qU;rw[if_pos h,yA,uI]
theorem aQY {m:Int} (h:0≤m∧m<72057594037927936) {k:Nat} (hk:k<7):cV (qU m) (k:Int)=hi m (6 - k) % 256:=by
 have e:∀ z:Int,((UInt8.ofNat (z % 256).toNat).toNat:Int)=z % 256:=fun z=>by
  have h1:(z % 256).toNat<256:=by omega
  rw[UInt8.toNat_ofNat',Nat.mod_eq_of_lt h1];omega
 unfold qU cV
 rw[if_pos h,Int.toNat_natCast]
 have:k=0∨k=1∨k=2∨k=3∨k=4∨k=5∨k=6:=by omega
 rcases this with rfl|rfl|rfl|rfl|rfl|rfl|rfl <;> exact e _
theorem aVL {m:Int} (h:0≤m∧m<72057594037927936) {t:ByteArray} (ht:∀ k:Nat,k<7→cV t (k:Int)=cV (qU m) (k:Int)):rdN t 7=m:=by
 have b:∀ k:Nat,k<7→cV t (k:Int)=hi m (6 - k) % 256:=fun k hk=>(ht k hk).trans (aQY h hk)
 have b0:=b 0 (by decide);have b1:=b 1 (by decide);have b2:=b 2 (by decide);have b3:=b 3 (by decide);have b4:=b 4 (by decide);have b5:=b 5 (by decide);have b6:=b 6 (by decide)
 simp only[rdN]
 simp only[hi,Nat.sub_zero,Nat.reduceSub] at b0 b1 b2 b3 b4 b5 b6
 rw[b0,b1,b2,b3,b4,b5,b6]
 omega
theorem aDI {n:Int} (h:-72057594037927936<n∧n<72057594037927936):(fP n).size=8:=by
 unfold fP
 split
 ·rw[cA,aMN (by omega)];rfl
 ·rw[cA,aMN (by omega)];rfl
theorem rT {s:ByteArray} {p:Nat} {n:Int} (h:gW s p (fP n)) (hn:-72057594037927936<n∧n<72057594037927936):gX s p=some n:=by
 have hz:=aDI hn
 have h8:(p:Int)+8≤s.size:=by have:=h.1;omega
 have e1:((p:Int)+1).toNat=p+1:=by omega
 have tail:∀ (c:UInt8) (m:Int),fP n=(⟨#[c]⟩:ByteArray)++qU m→0≤m∧m<72057594037927936→cV s p=(c.toNat:Int)∧rdN (s.extract ((p:Int)+1).toNat s.size) 7=m:=fun c m he hm=>by
  rw[he] at h
  obtain ⟨ha,hb⟩:=bJ.1 h
  refine ⟨aDR (i:=0) ha Nat.zero_lt_one,aVL hm fun k hk=>?_⟩
  rw[e1,aLD (by omega)]
  exact aDR hb (by rw[aMN hm];exact hk)
 by_cases h0:n<0
 ·obtain ⟨t1,t2⟩:=tail 45 (-n) (by unfold fP;rw[if_pos h0]) (by omega)
  rw[aH4 (by omega) h8 t1 (by rw[t2];omega),t2]
  congr 1;omega
 ·obtain ⟨t1,t2⟩:=tail 43 n (by unfold fP;rw[if_neg h0]) (by omega)
  rw[aGQ (by omega) h8 t1,t2]
theorem aQC (s:ByteArray) (l:List Int):rE s l=s++cK ⟨#[]⟩ (l.map fP):=by
 rw[← mN];unfold rE cK;rw[List.foldl_map]
theorem aOU {n:Int} (h:gG n=true):-72057594037927936<n∧n<72057594037927936:=by have:=(oD n).1 h;omega
theorem aDM {s:ByteArray}:(l:List Int)→(p:Nat)→l.all gG=true→gW s p (cK ⟨#[]⟩ (l.map fP))→nN s l.length p=some (l,((p+(cK ⟨#[]⟩ (l.map fP)).size:Nat):Int))
 | [],p,_,_=>rfl
 | x :: l,p,ha,h=>by
  rw[List.map_cons,eD] at h ⊢
  rw[List.all_cons,Bool.and_eq_true] at ha
  obtain ⟨h1,h2⟩:=bJ.1 h
  have hx:=rT h1 (aOU ha.1)
  have hz:=aDI (aOU ha.1)
  rw[hz] at h2
  have ih:=aDM l (p+8) ha.2 h2
  rw[List.length_cons,nN,hx]
  dsimp only
  rw[if_pos ha.1,show (p:Int)+8=((p+8:Nat):Int) by omega,ih,cA,hz,Option.map_some,Nat.add_assoc]
theorem aUI {v:List Int} (h:gV v=true):cC v=fP v.length++cK ⟨#[]⟩ (v.map fP):=by
 unfold gV at h
 rw[Bool.and_eq_true,decide_eq_true_eq] at h
 unfold cC
 rw[if_pos h,aQC]
theorem aF7 {s:ByteArray} {p:Nat} {v:List Int} (hv:gV v=true) (h:gW s p (cC v)):yS s p=some (v,((p+(cC v).size:Nat):Int)):=by
 rw[aUI hv] at h ⊢
 unfold gV at hv
 rw[Bool.and_eq_true,decide_eq_true_eq] at hv
 obtain ⟨h1,h2⟩:=bJ.1 h
 have hb:-72057594037927936<(v.length:Int)∧(v.length:Int)<72057594037927936:=by omega
 have hz:=aDI hb
 rw[hz] at h2
 unfold yS
 rw[rT h1 hb]
 dsimp only
 rw[if_pos (by omega),Int.toNat_natCast,show (p:Int)+8=((p+8:Nat):Int) by omega,aDM v (p+8) hv.2 h2,cA,hz,Nat.add_assoc]
def lW (s:ByteArray) (p:Nat):fA:=(s,(p:Int),false)
theorem iK {s:ByteArray} {p:Nat} {v:List Int} (hv:gV v=true) (h:gW s p (cC v)):eB (lW s p)=(v,lW s (p+(cC v).size)):=by
 have h1:=aFP s p
 rw[aF7 hv h] at h1
 exact h1
theorem aPP {s:ByteArray} {p:Nat} {n lo hi:Int} (h:gW s p (fP n)) (hn:-72057594037927936<n∧n<72057594037927936) (h1:lo≤n) (h2:n≤hi):fM (lW s p) lo hi=(n,lW s (p+(fP n).size)):=by
 have:=aD4 (rT h hn) h1 h2
 rw[aDI hn]
 exact this.symm
def bP (r:fA) (n:Int):List Int × fA:=if ((eB r).1.length:Int)=n then eB r else (List.replicate n.toNat 0,((eB r).2.1,(eB r).2.2.1,true))
theorem kE {s:ByteArray} {p:Nat} {v:List Int} {n:Int} (hv:gV v=true) (h:gW s p (cC v)) (hn:(v.length:Int)=n):bP (lW s p) n=(v,lW s (p+(cC v).size)):=by
 unfold bP;rw[iK hv h,if_pos hn]
theorem lU {r:fA} {n:Int} (h:0≤n):((bP r n).1.length:Int)=n:=by
 unfold bP
 split
 ·assumption
 ·rw[List.length_replicate];omega
theorem jF {r:fA} (n:Int) (h:lM r):lM (bP r n).2∧(bP r n).2.1=r.1:=by
 have h1:=jJ h
 unfold bP
 split
 ·exact h1
 ·exact ⟨h1.1,h1.2⟩
def dG {α:Type} (f:fA→α × fA):Nat→fA→List α × fA
 | 0,r=>([],r)
 | k+1,r=>if r.2.2=true then ([],r) else ((f r).1 :: (dG f k (f r).2).1,(dG f k (f r).2).2)
theorem iJ {α:Type} (f:fA→α × fA) (k:Nat) {r:fA} (h:r.2.2=true):dG f k r=([],r):=by
 cases k with
 | zero=>rfl
 | succ k=>unfold dG;rw[if_pos h]
theorem iT {α:Type} (f:fA→α × fA) (k:Nat) {r:fA} (h:r.2.2=false):dG f (k+1) r=((f r).1 :: (dG f k (f r).2).1,(dG f k (f r).2).2):=by
 rw[dG,if_neg (by rw[h];simp)]
theorem hN {α:Type} {f:fA→α × fA} {g:α→List ByteArray} {P:α→Prop} {s:ByteArray} (hf:∀ a p,P a→gW s p (cK ⟨#[]⟩ (g a))→f (lW s p)=(a,lW s (p+(cK ⟨#[]⟩ (g a)).size))) :
  (l:List α)→(p:Nat)→(∀ a∈l,P a)→gW s p (cK ⟨#[]⟩ (l.flatMap g))→dG f l.length (lW s p)=(l,lW s (p+(cK ⟨#[]⟩ (l.flatMap g)).size))
 | [],p,_,_=>rfl
 | x :: l,p,hP,h=>by
  rw[List.flatMap_cons,iW] at h ⊢
  obtain ⟨h1,h2⟩:=bJ.1 h
  rw[List.length_cons,iT f _ rfl,hf x p (hP x List.mem_cons_self) h1]
  dsimp only
  rw[hN hf l _ (fun a ha=>hP a (List.mem_cons_of_mem _ ha)) h2,cA,Nat.add_assoc]
def iP (r:fA):eT × fA:=dG eB (fM r 0 20).1.toNat (fM r 0 20).2
theorem aSB {α β:Type} (f:α→β) (l:List α):l.map f=l.flatMap fun a=>[f a]:=by induction l with
 | nil=>rfl
 | cons a l ih=>rw[List.map_cons,List.flatMap_cons,ih];rfl
theorem xD {s:ByteArray} {p:Nat} {l:eT} (hl:l.length≤20) (hv:∀ v∈l,gV v=true) (h:gW s p (cK ⟨#[]⟩ (dN l))):iP (lW s p)=(l,lW s (p+(cK ⟨#[]⟩ (dN l)).size)):=by
 unfold dN at h ⊢
 rw[eD,aSB] at h ⊢
 obtain ⟨h1,h2⟩:=bJ.1 h
 unfold iP
 rw[aPP h1 (by omega) (by omega) (by omega)]
 dsimp only
 rw[Int.toNat_natCast,hN (P:=fun v=>gV v=true) (fun a p ha h=>?_) l _ hv h2,cA,Nat.add_assoc]
 rw[gC,fF] at h ⊢
 exact iK ha h
def aAJ (r:fA):jR × fA:=(((bP r 2).1.getD 0 0,(bP r 2).1.getD 1 0),(bP r 2).2)
def opF (r:fA):jT × fA:=(((bP r 3).1.getD 0 0,(bP r 3).1.getD 1 0,(bP r 3).1.getD 2 0,(eB (bP r 3).2).1),(eB (bP r 3).2).2)
def aA2 (r:fA):fO × fA:=(((bP r 1).1.getD 0 0,(iP (bP r 1).2).1),(iP (bP r 1).2).2)
theorem aPL {s:ByteArray} (a:jR) (p:Nat) (ha:gV [a.1,a.2]=true) (h:gW s p (cK ⟨#[]⟩ (mA a))):aAJ (lW s p)=(a,lW s (p+(cK ⟨#[]⟩ (mA a)).size)):=by
 unfold mA at h ⊢
 rw[gC,fF] at h ⊢
 unfold aAJ
 rw[kE (n:=2) ha h rfl];rfl
theorem aSW {s:ByteArray} (a:jT) (p:Nat) (ha:gV [a.1,a.2.1,a.2.2.1]=true∧gV a.2.2.2=true) (h:gW s p (cK ⟨#[]⟩ (xF a))):opF (lW s p)=(a,lW s (p+(cK ⟨#[]⟩ (xF a)).size)):=by
 unfold xF at h ⊢
 rw[eD,gC,fF] at h ⊢
 obtain ⟨h1,h2⟩:=bJ.1 h
 unfold opF
 rw[kE (n:=3) ha.1 h1 rfl]
 dsimp only
 rw[iK ha.2 h2,cA,Nat.add_assoc];rfl
theorem aP6 {s:ByteArray} (a:fO) (p:Nat) (ha:gV [a.1]=true∧a.2.length≤20∧∀ v∈a.2,gV v=true) (h:gW s p (cK ⟨#[]⟩ (jL a))):aA2 (lW s p)=(a,lW s (p+(cK ⟨#[]⟩ (jL a)).size)):=by
 unfold jL at h ⊢
 rw[eD] at h ⊢
 obtain ⟨h1,h2⟩:=bJ.1 h
 unfold aA2
 rw[kE (n:=1) ha.1 h1 rfl]
 dsimp only
 rw[xD ha.2.1 ha.2.2 h2,cA,Nat.add_assoc];rfl
def aTR (h:List Int) (a:List jR) (b:List jT) (c:List fO) (r:fA):bA × fA :=
 ((h.getD 0 0,a,b,decide (h.getD 1 0=1),decide (h.getD 2 0=1),c,(iP r).1,(eB (iP r).2).1,(eB (eB (iP r).2).2).1,(eB (eB (eB (iP r).2).2).2).1,(eB (eB (eB (eB (iP r).2).2).2).2).1,
  (iP (eB (eB (eB (eB (iP r).2).2).2).2).2).1,h.getD 3 0,decide (h.getD 4 0=1)),(iP (eB (eB (eB (eB (iP r).2).2).2).2).2).2)
def K3 (h:List Int) (a:List jR) (b:List jT) (acc:List fO) (q:List fO × fA):bA × fA:=aTR h a b (acc++q.1) q.2
def K2 (h:List Int) (a:List jR) (acc:List jT) (q:List jT × fA):bA × fA:=K3 h a (acc++q.1) [] (dG aA2 (h.getD 7 0).toNat q.2)
def K1 (h:List Int) (acc:List jR) (q:List jR × fA):bA × fA:=K2 h (acc++q.1) [] (dG opF (h.getD 6 0).toNat q.2)
def eH (r:fA):bA × fA:=K1 (bP r 8).1 [] (dG aAJ ((bP r 8).1.getD 5 0).toNat (bP r 8).2)
def yD (x:bA):Prop:=vM x∧(kG x).all gV=true
theorem aE7 {x:bA} (h:yD x):gV (kM x)=true∧(∀ i∈x.2.1,gV [i.1,i.2]=true)∧(∀ o∈x.2.2.1,gV [o.1,o.2.1,o.2.2.1]=true∧gV o.2.2.2=true) ∧
  (∀ a∈x.2.2.2.2.2.1,gV [a.1]=true∧a.2.length≤20∧∀ v∈a.2,gV v=true)∧(x.2.2.2.2.2.2.1.length≤20∧∀ v∈x.2.2.2.2.2.2.1,gV v=true) ∧
  gV x.2.2.2.2.2.2.2.1=true∧gV x.2.2.2.2.2.2.2.2.1=true∧gV x.2.2.2.2.2.2.2.2.2.1=true∧gV x.2.2.2.2.2.2.2.2.2.2.1=true ∧
  (x.2.2.2.2.2.2.2.2.2.2.2.1.length≤20∧∀ v∈x.2.2.2.2.2.2.2.2.2.2.2.1,gV v=true):=by
 obtain ⟨hl,ha⟩:=h
 have hm:=((dA x).1 hl.1).1
 have hm8:=(cB _).1 hm
 have hg:=((jU _ _).1 ((dA x).1 hl.1).2.2.1).1
 have hkp:=yH hl.1
 have hop:=aTG hm
 have hh:=aLP hl
 rw[List.all_eq_true] at ha
 unfold kG at ha
 have q:∀ v,v∈kG x→gV v=true:=ha
 have m1:∀ v,v∈[[x.1,x.2.2.2.2.2.2.2.2.2.2.2.2.1],x.2.2.2.2.2.2.2.1,x.2.2.2.2.2.2.2.2.1,x.2.2.2.2.2.2.2.2.2.1,x.2.2.2.2.2.2.2.2.2.2.1]→gV v=true:=fun v hv=>ha v (List.mem_append_left _ hv)
 refine ⟨by rw[hh];exact m1 _ (by simp),fun i hi=>ha _ (by simp only[List.mem_append,List.mem_flatMap];exact .inr (.inl ⟨i,hi,by simp⟩)),fun o ho=>⟨hop o ho,ha _ (by simp only[List.mem_append,List.mem_flatMap];exact .inr (.inr (.inl ⟨o,ho,by simp⟩)))⟩,fun a hs=>⟨ha _ (by simp only[List.mem_append,List.mem_flatMap];exact .inr (.inr (.inr (.inl ⟨a,hs,by simp⟩)))),by have:=hkp a hs;omega,fun v hv=>ha _ (by simp only[List.mem_append,List.mem_flatMap];exact .inr (.inr (.inr (.inl ⟨a,hs,List.mem_cons_of_mem _ hv⟩))))⟩,
  ⟨hl.2.2.2,fun v hv=>ha _ (by simp only[List.mem_append];exact .inr (.inr (.inr (.inr (.inl hv)))))⟩,m1 _ (by simp),m1 _ (by simp),m1 _ (by simp),m1 _ (by simp),by omega,fun v hv=>ha _ (by simp only[List.mem_append];exact .inr (.inr (.inr (.inr (.inr hv)))))⟩
theorem aFX (b:Bool):decide (b01 b=1)=b:=by cases b <;> rfl
theorem aL5 {s:ByteArray} {p:Nat} {x:bA} (hx:yD x) (h:gW s p (cK ⟨#[]⟩ (dB x))):eH (lW s p)=(x,lW s (p+(cK ⟨#[]⟩ (dB x)).size)):=by
 obtain ⟨f0,f1,f2,f3,f4,f5,f6,f7,f8,f9⟩:=aE7 hx
 have e:cK ⟨#[]⟩ (dB x)=cC (kM x)++(cK ⟨#[]⟩ (x.2.1.flatMap mA)++(cK ⟨#[]⟩ (x.2.2.1.flatMap xF)++(cK ⟨#[]⟩ (x.2.2.2.2.2.1.flatMap jL)++(cK ⟨#[]⟩ (dN x.2.2.2.2.2.2.1)++(cC x.2.2.2.2.2.2.2.1++(cC x.2.2.2.2.2.2.2.2.1++(cC x.2.2.2.2.2.2.2.2.2.1++(cC x.2.2.2.2.2.2.2.2.2.2.1++cK ⟨#[]⟩ (dN x.2.2.2.2.2.2.2.2.2.2.2.1))))))))):=by
  unfold dB uR
  simp only[iW,eD,gC,fF,List.cons_append,List.nil_append]
 rw[e] at h ⊢
 obtain ⟨h0,h⟩:=bJ.1 h
 obtain ⟨h1,h⟩:=bJ.1 h
 obtain ⟨h2,h⟩:=bJ.1 h
 obtain ⟨h3,h⟩:=bJ.1 h
 obtain ⟨h4,h⟩:=bJ.1 h
 obtain ⟨h5,h⟩:=bJ.1 h
 obtain ⟨h6,h⟩:=bJ.1 h
 obtain ⟨h7,h⟩:=bJ.1 h
 obtain ⟨h8,h9⟩:=bJ.1 h
 unfold eH
 rw[kE (n:=8) f0 h0 rfl]
 dsimp only
 rw[show ((kM x).getD 5 0).toNat=x.2.1.length from rfl,hN aPL x.2.1 _ f1 h1]
 unfold K1
 dsimp only
 rw[show ((kM x).getD 6 0).toNat=x.2.2.1.length from rfl,hN aSW x.2.2.1 _ f2 h2]
 unfold K2
 dsimp only
 rw[show ((kM x).getD 7 0).toNat=x.2.2.2.2.2.1.length from rfl,hN aP6 x.2.2.2.2.2.1 _ f3 h3]
 unfold K3 aTR
 dsimp only
 rw[xD f4.1 f4.2 h4]
 dsimp only
 rw[iK f5 h5]
 dsimp only
 rw[iK f6 h6]
 dsimp only
 rw[iK f7 h7]
 dsimp only
 rw[iK f8 h8]
 dsimp only
 rw[xD f9.1 f9.2 h9]
 dsimp only
 simp only[cA,Nat.add_assoc]
 show ((_,_,_,decide (b01 _=1),decide (b01 _=1),_,_,_,_,_,_,_,_,decide (b01 _=1)),_)=_
 rw[aFX,aFX,aFX]
 rfl
end Go.Proofs.YtlabadaccldkaaaGreat
