/- Parse5: lemmas. No conditions. -/
import Derived.Test.YtdeobhdbmehpgaaGreatRead2
import Derived.Test.YtdeobhdbmehpgaaGreatShow3
namespace Go.Proofs.YtdeobhdbmehpgaaGreat
open Go.ChangeShapes Go.WideShapes Go.ChangeAt Go.RowKit Go.Deep
set_option linter.unusedVariables false
set_option linter.unusedSimpArgs false
theorem lM (x:ByteArray) (l:List ByteArray):gS ⟨#[]⟩ (x :: l)=x++gS ⟨#[]⟩ l:=by
 show gS (⟨#[]⟩++x) l=_
 rw[tQ,qJ]
theorem aNW (a b:List ByteArray):gS ⟨#[]⟩ (a++b)=gS ⟨#[]⟩ a++gS ⟨#[]⟩ b:=by rw[xZ,qJ]
def nE (s:ByteArray) (p:Nat) (t:ByteArray):Prop:=p+t.size≤s.size∧∀ i,i<t.size→s.data[p+i]?=t.data[i]?
theorem dB {s:ByteArray} {p:Nat} {a b:ByteArray}:nE s p (a++b)↔nE s p a∧nE s (p+a.size) b:=by
 unfold nE
 rw[dE]
 constructor
 ·rintro ⟨h1,h2⟩
  refine ⟨⟨by omega,fun i hi=>?_⟩,by omega,fun i hi=>?_⟩
  ·rw[h2 i (by omega),ByteArray.data_append,Array.getElem?_append_left hi]
  ·rw[show p+a.size+i=p+(a.size+i) by omega,h2 (a.size+i) (by omega),ByteArray.data_append,Array.getElem?_append_right (by show a.data.size≤_;exact Nat.le_add_right _ _)]
   congr 1
   show a.data.size+i - a.data.size=i
   omega
 ·rintro ⟨⟨h1,h2⟩,h3,h4⟩
  refine ⟨by omega,fun i hi=>?_⟩
  by_cases hia:i<a.size
  ·rw[h2 i hia,ByteArray.data_append,Array.getElem?_append_left hia]
  ·have:=h4 (i - a.size) (by omega)
   rw[show p+a.size+(i - a.size)=p+i by omega] at this
   rw[this,ByteArray.data_append,Array.getElem?_append_right (by show a.data.size≤_;exact Nat.le_of_not_lt hia)]
   rfl
theorem aMC {s:ByteArray} {p:Nat} {t:ByteArray} (h:nE s p t):s.extract p (p+t.size)=t:=by
 apply ByteArray.ext
 apply Array.ext_getElem?
 intro i
 rw[ByteArray.data_extract,Array.getElem?_extract]
 have hs:s.data.size=s.size:=rfl
 have ht:t.data.size=t.size:=rfl
 split
 ·exact h.2 i (by omega)
 ·rw[Array.getElem?_eq_none (by have:=h.1;omega)]
theorem aGE {s t:ByteArray} {p i:Nat} (h:nE s p t) (hi:i<t.size):cD s ((p+i:Nat):Int)=cD t (i:Int):=by
 unfold cD
 rw[Int.toNat_natCast,Int.toNat_natCast,h.2 i hi]
theorem aDZ {s:ByteArray} {a k:Nat} (h:a+k<s.size):cD (s.extract a s.size) (k:Int)=cD s ((a+k:Nat):Int):=by
 unfold cD
 rw[Int.toNat_natCast,Int.toNat_natCast,ByteArray.data_extract,Array.getElem?_extract,if_pos]
 have hs:s.data.size=s.size:=rfl
 omega
theorem aA8 {m:Int} (h:0≤m∧m<72057594037927936):(pS m).size=7:=by unfold pS;rw[if_pos h,aBQ,wJ]
theorem aOU {m:Int} (h:0≤m∧m<72057594037927936) {k:Nat} (hk:k<7):cD (pS m) (k:Int)=hi m (6 - k) % 256:=by
 have e:∀ z:Int,((UInt8.ofNat (z % 256).toNat).toNat:Int)=z % 256:=fun z=>by
  have h1:(z % 256).toNat<256:=by omega
  rw[UInt8.toNat_ofNat',Nat.mod_eq_of_lt h1];omega
 unfold pS cD
 rw[if_pos h,Int.toNat_natCast]
 have:k=0∨k=1∨k=2∨k=3∨k=4∨k=5∨k=6:=by omega
 rcases this with rfl|rfl|rfl|rfl|rfl|rfl|rfl <;> exact e _
theorem bDN {m:Int} (h:0≤m∧m<72057594037927936) {t:ByteArray} (ht:∀ k:Nat,k<7→cD t (k:Int)=cD (pS m) (k:Int)):rdN t 7=m:=by
 have b:∀ k:Nat,k<7→cD t (k:Int)=hi m (6 - k) % 256:=fun k hk=>(ht k hk).trans (aOU h hk)
 have b0:=b 0 (by decide);have b1:=b 1 (by decide);have b2:=b 2 (by decide);have b3:=b 3 (by decide);have b4:=b 4 (by decide);have b5:=b 5 (by decide);have b6:=b 6 (by decide)
 simp only[rdN]
 simp only[hi,Nat.sub_zero,Nat.reduceSub] at b0 b1 b2 b3 b4 b5 b6
 rw[b0,b1,b2,b3,b4,b5,b6]
 omega
theorem aLY {n:Int} (h:-72057594037927936<n∧n<72057594037927936):(eQ n).size=8:=by
 unfold eQ
 split
 ·rw[dE,aA8 (by omega)];rfl
 ·rw[dE,aA8 (by omega)];rfl
theorem yX {s:ByteArray} {p:Nat} {n:Int} (h:nE s p (eQ n)) (hn:-72057594037927936<n∧n<72057594037927936):jI s p=some n:=by
 have hz:=aLY hn
 have h8:(p:Int)+8≤s.size:=by have:=h.1;omega
 have e1:((p:Int)+1).toNat=p+1:=by omega
 have tail:∀ (c:UInt8) (m:Int),eQ n=(⟨#[c]⟩:ByteArray)++pS m→0≤m∧m<72057594037927936→cD s p=(c.toNat:Int)∧rdN (s.extract ((p:Int)+1).toNat s.size) 7=m:=fun c m he hm=>by
  rw[he] at h
  obtain ⟨ha,hb⟩:=dB.1 h
  refine ⟨aGE (i:=0) ha Nat.zero_lt_one,bDN hm fun k hk=>?_⟩
  rw[e1,aDZ (by omega)]
  exact aGE hb (by rw[aA8 hm];exact hk)
 by_cases h0:n<0
 ·obtain ⟨t1,t2⟩:=tail 45 (-n) (by unfold eQ;rw[if_pos h0]) (by omega)
  rw[aU7 (by omega) h8 t1 (by rw[t2];omega),t2]
  congr 1;omega
 ·obtain ⟨t1,t2⟩:=tail 43 n (by unfold eQ;rw[if_neg h0]) (by omega)
  rw[aU0 (by omega) h8 t1,t2]
theorem aVH (s:ByteArray) (l:List Int):sI s l=s++gS ⟨#[]⟩ (l.map eQ):=by
 rw[← qJ];unfold sI gS;rw[List.foldl_map]
theorem aUB {n:Int} (h:iE n=true):-72057594037927936<n∧n<72057594037927936:=by have:=(oL n).1 h;omega
theorem aFA {s:ByteArray}:(l:List Int)→(p:Nat)→l.all iE=true→nE s p (gS ⟨#[]⟩ (l.map eQ))→yM s l.length p=some (l,((p+(gS ⟨#[]⟩ (l.map eQ)).size:Nat):Int))
 | [],p,_,_=>rfl
 | x :: l,p,ha,h=>by
  rw[List.map_cons,lM] at h ⊢
  rw[List.all_cons,Bool.and_eq_true] at ha
  obtain ⟨h1,h2⟩:=dB.1 h
  have hx:=yX h1 (aUB ha.1)
  have hz:=aLY (aUB ha.1)
  rw[hz] at h2
  have ih:=aFA l (p+8) ha.2 h2
  rw[List.length_cons,yM,hx]
  dsimp only
  rw[if_pos ha.1,show (p:Int)+8=((p+8:Nat):Int) by omega,ih,dE,hz,Option.map_some,Nat.add_assoc]
theorem aTL {v:List Int} (h:mN v=true):cP v=eQ v.length++gS ⟨#[]⟩ (v.map eQ):=by
 unfold mN at h
 rw[Bool.and_eq_true,decide_eq_true_eq] at h
 unfold cP
 rw[if_pos h,aVH]
theorem aJ3 {s:ByteArray} {p:Nat} {v:List Int} (hv:mN v=true) (h:nE s p (cP v)):aM3 s p=some (v,((p+(cP v).size:Nat):Int)):=by
 rw[aTL hv] at h ⊢
 unfold mN at hv
 rw[Bool.and_eq_true,decide_eq_true_eq] at hv
 obtain ⟨h1,h2⟩:=dB.1 h
 have hb:-72057594037927936<(v.length:Int)∧(v.length:Int)<72057594037927936:=by omega
 have hz:=aLY hb
 rw[hz] at h2
 unfold aM3
 rw[yX h1 hb]
 dsimp only
 rw[if_pos (by omega),Int.toNat_natCast,show (p:Int)+8=((p+8:Nat):Int) by omega,aFA v (p+8) hv.2 h2,dE,hz,Nat.add_assoc]
def yL (s:ByteArray) (p:Nat):kG:=(s,(p:Int),false)
theorem lZ {s:ByteArray} {p:Nat} {v:List Int} (hv:mN v=true) (h:nE s p (cP v)):gT (yL s p)=(v,yL s (p+(cP v).size)):=by
 have h1:=aJV s p
 rw[aJ3 hv h] at h1
 exact h1
theorem aX4 {s:ByteArray} {p:Nat} {n lo hi:Int} (h:nE s p (eQ n)) (hn:-72057594037927936<n∧n<72057594037927936) (h1:lo≤n) (h2:n≤hi):gR (yL s p) lo hi=(n,yL s (p+(eQ n).size)):=by
 have:=aF8 (yX h hn) h1 h2
 rw[aLY hn]
 exact this.symm
def dL (r:kG) (n:Int):List Int × kG:=if ((gT r).1.length:Int)=n then gT r else (List.replicate n.toNat 0,((gT r).2.1,(gT r).2.2.1,true))
theorem tV {s:ByteArray} {p:Nat} {v:List Int} {n:Int} (hv:mN v=true) (h:nE s p (cP v)) (hn:(v.length:Int)=n):dL (yL s p) n=(v,yL s (p+(cP v).size)):=by
 unfold dL;rw[lZ hv h,if_pos hn]
theorem yH {r:kG} {n:Int} (h:0≤n):((dL r n).1.length:Int)=n:=by
 unfold dL
 split
 ·assumption
 ·rw[List.length_replicate];omega
theorem qG {r:kG} (n:Int) (h:rQ r):rQ (dL r n).2∧(dL r n).2.1=r.1:=by
 have h1:=nQ h
 unfold dL
 split
 ·exact h1
 ·exact ⟨h1.1,h1.2⟩
def gE {α:Type} (f:kG→α × kG):Nat→kG→List α × kG
 | 0,r=>([],r)
 | k+1,r=>if r.2.2=true then ([],r) else ((f r).1 :: (gE f k (f r).2).1,(gE f k (f r).2).2)
theorem rX {α:Type} (f:kG→α × kG) (k:Nat) {r:kG} (h:r.2.2=true):gE f k r=([],r):=by
 cases k with
 | zero=>rfl
 | succ k=>unfold gE;rw[if_pos h]
theorem sC {α:Type} (f:kG→α × kG) (k:Nat) {r:kG} (h:r.2.2=false):gE f (k+1) r=((f r).1 :: (gE f k (f r).2).1,(gE f k (f r).2).2):=by
 rw[gE,if_neg (by rw[h];simp)]
theorem oX {α:Type} {f:kG→α × kG} {g:α→List ByteArray} {P:α→Prop} {s:ByteArray} (hf:∀ a p,P a→nE s p (gS ⟨#[]⟩ (g a))→f (yL s p)=(a,yL s (p+(gS ⟨#[]⟩ (g a)).size))) :
  (l:List α)→(p:Nat)→(∀ a∈l,P a)→nE s p (gS ⟨#[]⟩ (l.flatMap g))→gE f l.length (yL s p)=(l,yL s (p+(gS ⟨#[]⟩ (l.flatMap g)).size))
 | [],p,_,_=>rfl
 | x :: l,p,hP,h=>by
  rw[List.flatMap_cons,aNW] at h ⊢
  obtain ⟨h1,h2⟩:=dB.1 h
  rw[List.length_cons,sC f _ rfl,hf x p (hP x List.mem_cons_self) h1]
  dsimp only
  rw[oX hf l _ (fun a ha=>hP a (List.mem_cons_of_mem _ ha)) h2,dE,Nat.add_assoc]
def lJ (r:kG):bX × kG:=gE gT (gR r 0 20).1.toNat (gR r 0 20).2
theorem bD5 {α β:Type} (f:α→β) (l:List α):l.map f=l.flatMap fun a=>[f a]:=by induction l with
 | nil=>rfl
 | cons a l ih=>rw[List.map_cons,List.flatMap_cons,ih];rfl
theorem zT {s:ByteArray} {p:Nat} {l:bX} (hl:l.length≤20) (hv:∀ v∈l,mN v=true) (h:nE s p (gS ⟨#[]⟩ (dN l))):lJ (yL s p)=(l,yL s (p+(gS ⟨#[]⟩ (dN l)).size)):=by
 unfold dN at h ⊢
 rw[lM,bD5] at h ⊢
 obtain ⟨h1,h2⟩:=dB.1 h
 unfold lJ
 rw[aX4 h1 (by omega) (by omega) (by omega)]
 dsimp only
 rw[Int.toNat_natCast,oX (P:=fun v=>mN v=true) (fun a p ha h=>?_) l _ hv h2,dE,Nat.add_assoc]
 rw[aAX,tQ] at h ⊢
 exact lZ ha h
def aGA (r:kG):eY × kG:=(((dL r 2).1.getD 0 0,(dL r 2).1.getD 1 0),(dL r 2).2)
def opF (r:kG):dR × kG:=(((dL r 3).1.getD 0 0,(dL r 3).1.getD 1 0,(dL r 3).1.getD 2 0,(gT (dL r 3).2).1),(gT (dL r 3).2).2)
def aGO (r:kG):dQ × kG:=(((dL r 1).1.getD 0 0,(lJ (dL r 1).2).1),(lJ (dL r 1).2).2)
theorem aVN {s:ByteArray} (a:eY) (p:Nat) (ha:mN [a.1,a.2]=true) (h:nE s p (gS ⟨#[]⟩ (pE a))):aGA (yL s p)=(a,yL s (p+(gS ⟨#[]⟩ (pE a)).size)):=by
 unfold pE at h ⊢
 rw[aAX,tQ] at h ⊢
 unfold aGA
 rw[tV (n:=2) ha h rfl];rfl
theorem aYV {s:ByteArray} (a:dR) (p:Nat) (ha:mN [a.1,a.2.1,a.2.2.1]=true∧mN a.2.2.2=true) (h:nE s p (gS ⟨#[]⟩ (opP a))):opF (yL s p)=(a,yL s (p+(gS ⟨#[]⟩ (opP a)).size)):=by
 unfold opP at h ⊢
 rw[lM,aAX,tQ] at h ⊢
 obtain ⟨h1,h2⟩:=dB.1 h
 unfold opF
 rw[tV (n:=3) ha.1 h1 rfl]
 dsimp only
 rw[lZ ha.2 h2,dE,Nat.add_assoc];rfl
theorem aUN {s:ByteArray} (a:dQ) (p:Nat) (ha:mN [a.1]=true∧a.2.length≤20∧∀ v∈a.2,mN v=true) (h:nE s p (gS ⟨#[]⟩ (lH a))):aGO (yL s p)=(a,yL s (p+(gS ⟨#[]⟩ (lH a)).size)):=by
 unfold lH at h ⊢
 rw[lM] at h ⊢
 obtain ⟨h1,h2⟩:=dB.1 h
 unfold aGO
 rw[tV (n:=1) ha.1 h1 rfl]
 dsimp only
 rw[zT ha.2.1 ha.2.2 h2,dE,Nat.add_assoc];rfl
def bDV (h:List Int) (a:List eY) (b:List dR) (c:List dQ) (r:kG):aM × kG :=
 ((h.getD 0 0,a,b,decide (h.getD 1 0=1),decide (h.getD 2 0=1),c,(lJ r).1,(gT (lJ r).2).1,(gT (gT (lJ r).2).2).1,(gT (gT (gT (lJ r).2).2).2).1,(gT (gT (gT (gT (lJ r).2).2).2).2).1,
  (lJ (gT (gT (gT (gT (lJ r).2).2).2).2).2).1,h.getD 3 0,decide (h.getD 4 0=1)),(lJ (gT (gT (gT (gT (lJ r).2).2).2).2).2).2)
def K3 (h:List Int) (a:List eY) (b:List dR) (acc:List dQ) (q:List dQ × kG):aM × kG:=bDV h a b (acc++q.1) q.2
def K2 (h:List Int) (a:List eY) (acc:List dR) (q:List dR × kG):aM × kG:=K3 h a (acc++q.1) [] (gE aGO (h.getD 7 0).toNat q.2)
def K1 (h:List Int) (acc:List eY) (q:List eY × kG):aM × kG:=K2 h (acc++q.1) [] (gE opF (h.getD 6 0).toNat q.2)
def fE (r:kG):aM × kG:=K1 (dL r 8).1 [] (gE aGA ((dL r 8).1.getD 5 0).toNat (dL r 8).2)
def bD0 (x:aM):Prop:=aAI x∧(kZ x).all mN=true
theorem bAE {x:aM} (h:bD0 x):mN (nU x)=true∧(∀ i∈x.2.1,mN [i.1,i.2]=true)∧(∀ o∈x.2.2.1,mN [o.1,o.2.1,o.2.2.1]=true∧mN o.2.2.2=true) ∧
  (∀ a∈x.2.2.2.2.2.1,mN [a.1]=true∧a.2.length≤20∧∀ v∈a.2,mN v=true)∧(x.2.2.2.2.2.2.1.length≤20∧∀ v∈x.2.2.2.2.2.2.1,mN v=true) ∧
  mN x.2.2.2.2.2.2.2.1=true∧mN x.2.2.2.2.2.2.2.2.1=true∧mN x.2.2.2.2.2.2.2.2.2.1=true∧mN x.2.2.2.2.2.2.2.2.2.2.1=true ∧
  (x.2.2.2.2.2.2.2.2.2.2.2.1.length≤20∧∀ v∈x.2.2.2.2.2.2.2.2.2.2.2.1,mN v=true):=by
 obtain ⟨hl,ha⟩:=h
 have hm:=((bV x).1 hl.1).1
 have hm8:=(bA _).1 hm
 have hg:=((iS _ _).1 ((bV x).1 hl.1).2.2.1).1
 have hkp:=aB3 hl.1
 have hop:=aZQ hm
 have hh:=aMY hl
 rw[List.all_eq_true] at ha
 unfold kZ at ha
 have q:∀ v,v∈kZ x→mN v=true:=ha
 have m1:∀ v,v∈[[x.1,x.2.2.2.2.2.2.2.2.2.2.2.2.1],x.2.2.2.2.2.2.2.1,x.2.2.2.2.2.2.2.2.1,x.2.2.2.2.2.2.2.2.2.1,x.2.2.2.2.2.2.2.2.2.2.1]→mN v=true:=fun v hv=>ha v (List.mem_append_left _ hv)
 refine ⟨by rw[hh];exact m1 _ (by simp),fun i hi=>ha _ (by simp only[List.mem_append,List.mem_flatMap];exact .inr (.inl ⟨i,hi,by simp⟩)),fun o ho=>⟨hop o ho,ha _ (by simp only[List.mem_append,List.mem_flatMap];exact .inr (.inr (.inl ⟨o,ho,by simp⟩)))⟩,fun a hs=>⟨ha _ (by simp only[List.mem_append,List.mem_flatMap];exact .inr (.inr (.inr (.inl ⟨a,hs,by simp⟩)))),by have:=hkp a hs;omega,fun v hv=>ha _ (by simp only[List.mem_append,List.mem_flatMap];exact .inr (.inr (.inr (.inl ⟨a,hs,List.mem_cons_of_mem _ hv⟩))))⟩,
  ⟨hl.2.2.2,fun v hv=>ha _ (by simp only[List.mem_append];exact .inr (.inr (.inr (.inr (.inl hv)))))⟩,m1 _ (by simp),m1 _ (by simp),m1 _ (by simp),m1 _ (by simp),by omega,fun v hv=>ha _ (by simp only[List.mem_append];exact .inr (.inr (.inr (.inr (.inr hv)))))⟩
theorem aXX (b:Bool):decide (b01 b=1)=b:=by cases b <;> rfl
theorem aOY {s:ByteArray} {p:Nat} {x:aM} (hx:bD0 x) (h:nE s p (gS ⟨#[]⟩ (fW x))):fE (yL s p)=(x,yL s (p+(gS ⟨#[]⟩ (fW x)).size)):=by
 obtain ⟨f0,f1,f2,f3,f4,f5,f6,f7,f8,f9⟩:=bAE hx
 have e:gS ⟨#[]⟩ (fW x)=cP (nU x)++(gS ⟨#[]⟩ (x.2.1.flatMap pE)++(gS ⟨#[]⟩ (x.2.2.1.flatMap opP)++(gS ⟨#[]⟩ (x.2.2.2.2.2.1.flatMap lH)++(gS ⟨#[]⟩ (dN x.2.2.2.2.2.2.1)++(cP x.2.2.2.2.2.2.2.1++(cP x.2.2.2.2.2.2.2.2.1++(cP x.2.2.2.2.2.2.2.2.2.1++(cP x.2.2.2.2.2.2.2.2.2.2.1++gS ⟨#[]⟩ (dN x.2.2.2.2.2.2.2.2.2.2.2.1))))))))):=by
  unfold fW zY
  simp only[aNW,lM,aAX,tQ,List.cons_append,List.nil_append]
 rw[e] at h ⊢
 obtain ⟨h0,h⟩:=dB.1 h
 obtain ⟨h1,h⟩:=dB.1 h
 obtain ⟨h2,h⟩:=dB.1 h
 obtain ⟨h3,h⟩:=dB.1 h
 obtain ⟨h4,h⟩:=dB.1 h
 obtain ⟨h5,h⟩:=dB.1 h
 obtain ⟨h6,h⟩:=dB.1 h
 obtain ⟨h7,h⟩:=dB.1 h
 obtain ⟨h8,h9⟩:=dB.1 h
 unfold fE
 rw[tV (n:=8) f0 h0 rfl]
 dsimp only
 rw[show ((nU x).getD 5 0).toNat=x.2.1.length from rfl,oX aVN x.2.1 _ f1 h1]
 unfold K1
 dsimp only
 rw[show ((nU x).getD 6 0).toNat=x.2.2.1.length from rfl,oX aYV x.2.2.1 _ f2 h2]
 unfold K2
 dsimp only
 rw[show ((nU x).getD 7 0).toNat=x.2.2.2.2.2.1.length from rfl,oX aUN x.2.2.2.2.2.1 _ f3 h3]
 unfold K3 bDV
 dsimp only
 rw[zT f4.1 f4.2 h4]
 dsimp only
 rw[lZ f5 h5]
 dsimp only
 rw[lZ f6 h6]
 dsimp only
 rw[lZ f7 h7]
 dsimp only
 rw[lZ f8 h8]
 dsimp only
 rw[zT f9.1 f9.2 h9]
 dsimp only
 simp only[dE,Nat.add_assoc]
 show ((_,_,_,decide (b01 _=1),decide (b01 _=1),_,_,_,_,_,_,_,_,decide (b01 _=1)),_)=_
 rw[aXX,aXX,aXX]
 rfl
end Go.Proofs.YtdeobhdbmehpgaaGreat
