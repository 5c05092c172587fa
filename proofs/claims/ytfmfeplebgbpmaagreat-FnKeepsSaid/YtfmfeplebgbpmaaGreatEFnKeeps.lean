/- EFnKeeps: lemmas. No conditions. -/
import Derived.Test.YtfmfeplebgbpmaaGreatRead2
namespace Go.Proofs.YtfmfeplebgbpmaaGreat
open Go.ChangeShapes Go.WideShapes Go.ChangeAt Go.RowKit Go.Deep
set_option linter.unusedVariables false
set_option linter.unusedSimpArgs false
theorem aAR (x:ByteArray) (l:List ByteArray):lZ ⟨#[]⟩ (x::l)=x++lZ ⟨#[]⟩ l:=by
 show lZ (⟨#[]⟩++x) l=_
 rw[yP,aDO]
theorem aE3 (a b:List ByteArray):lZ ⟨#[]⟩ (a++b)=lZ ⟨#[]⟩ a++lZ ⟨#[]⟩ b:=by rw[zU,aDO]
def aFF (s:ByteArray) (p:Nat) (t:ByteArray):Prop:=p+t.size<=s.size/\∀i,i<t.size->s.data[p+i]?=t.data[i]?
theorem kP {s:ByteArray} {p:Nat} {a b:ByteArray}:aFF s p (a++b)↔aFF s p a/\aFF s (p+a.size) b:=by
 unfold aFF
 rw[jH]
 constructor
 ·rintro⟨h1,h2⟩
  refine⟨⟨by omega,fun i hi=>?_⟩,by omega,fun i hi=>?_⟩
  ·rw[h2 i (by omega),ByteArray.data_append,Array.getElem?_append_left hi]
  ·rw[show p+a.size+i=p+(a.size+i) by omega,h2 (a.size+i) (by omega),ByteArray.data_append,Array.getElem?_append_right (by show a.data.size<=_;exact Nat.le_add_right _ _)]
   congr 1
   show a.data.size+i - a.data.size=i
   omega
 ·rintro⟨⟨h1,h2⟩,h3,h4⟩
  refine⟨by omega,fun i hi=>?_⟩
  by_cases H9:i<a.size
  ·rw[h2 i H9,ByteArray.data_append,Array.getElem?_append_left H9]
  ·have:=h4 (i - a.size) (by omega)
   rw[show p+a.size+(i - a.size)=p+i by omega] at this
   rw[this,ByteArray.data_append,Array.getElem?_append_right (by show a.data.size<=_;exact Nat.le_of_not_lt H9)]
   rfl
theorem bER {s t:ByteArray} {p i:Nat} (h:aFF s p t) (hi:i<t.size):lD s ((p+i:Nat):Int)=lD t (i:Int):=by
 unfold lD
 rw[Int.toNat_natCast,Int.toNat_natCast,h.2 i hi]
theorem bPO {s:ByteArray} {a k:Nat} (h:a+k<s.size):lD (s.extract a s.size) (k:Int)=lD s ((a+k:Nat):Int):=by
 unfold lD
 rw[Int.toNat_natCast,Int.toNat_natCast,ByteArray.data_extract,Array.getElem?_extract,if_pos]
 have hs:s.data.size=s.size:=rfl
 omega
theorem bVN {m:Int} (h:0<=m/\m<72057594037927936):(aNF m).size=7:=by unfold aNF;rw[if_pos h,aV2,aQD]
theorem cFK {m:Int} (h:0<=m/\m<72057594037927936) {k:Nat} (hk:k<7):lD (aNF m) (k:Int)=hi m (6 - k) % 256:=by
 have e:∀z:Int,((UInt8.ofNat (z % 256).toNat).toNat:Int)=z % 256:=fun z=>by
  have h1:(z % 256).toNat<256:=by omega
  rw[UInt8.toNat_ofNat',Nat.mod_eq_of_lt h1];omega
 unfold aNF lD
 rw[if_pos h,Int.toNat_natCast]
 have:k=0\/k=1\/k=2\/k=3\/k=4\/k=5\/k=6:=by omega
 rcases this with rfl|rfl|rfl|rfl|rfl|rfl|rfl<;>exact e _
theorem cKE {m:Int} (h:0<=m/\m<72057594037927936) {t:ByteArray} (ht:∀k:Nat,k<7->lD t (k:Int)=lD (aNF m) (k:Int)):rdN t 7=m:=by
 have b:∀k:Nat,k<7->lD t (k:Int)=hi m (6 - k) % 256:=fun k hk=>(ht k hk).trans (cFK h hk)
 have b0:=b 0 (by decide);have b1:=b 1 (by decide);have b2:=b 2 (by decide);have b3:=b 3 (by decide);have b4:=b 4 (by decide);have b5:=b 5 (by decide);have b6:=b 6 (by decide)
 simp only[rdN]
 simp only[hi,Nat.sub_zero,Nat.reduceSub] at b0 b1 b2 b3 b4 b5 b6
 rw[b0,b1,b2,b3,b4,b5,b6]
 omega
theorem bMV {n:Int} (h:-72057594037927936<n/\n<72057594037927936):(sW n).size=8:=by
 unfold sW
 split
 ·rw[jH,bVN (by omega)];rfl
 ·rw[jH,bVN (by omega)];rfl
theorem aT4 {s:ByteArray} {p:Nat} {n:Int} (h:aFF s p (sW n)) (hn:-72057594037927936<n/\n<72057594037927936):aAV s p=some n:=by
 have hz:=bMV hn
 have h8:(p:Int)+8<=s.size:=by have:=h.1;omega
 have e1:((p:Int)+1).toNat=p+1:=by omega
 have tail:∀(c:UInt8) (m:Int),sW n=(⟨#[c]⟩:ByteArray)++aNF m->0<=m/\m<72057594037927936->lD s p=(c.toNat:Int)/\rdN (s.extract ((p:Int)+1).toNat s.size) 7=m:=fun c m he hm=>by
  rw[he] at h
  obtain⟨ha,hb⟩:=kP.1 h
  refine⟨bER (i:=0) ha Nat.zero_lt_one,cKE hm fun k hk=>?_⟩
  rw[e1,bPO (by omega)]
  exact bER hb (by rw[bVN hm];exact hk)
 by_cases h0:n<0
 ·obtain⟨t1,t2⟩:=tail 45 (-n) (by unfold sW;rw[if_pos h0]) (by omega)
  rw[bWY (by omega) h8 t1 (by rw[t2];omega),t2]
  congr 1;omega
 ·obtain⟨t1,t2⟩:=tail 43 n (by unfold sW;rw[if_neg h0]) (by omega)
  rw[bX3 (by omega) h8 t1,t2]
theorem cA4 (s:ByteArray) (l:List Int):aKM s l=s++lZ ⟨#[]⟩ (l.map sW):=by
 rw[<-aDO];unfold aKM lZ;rw[List.foldl_map]
theorem bY6 {n:Int} (h:mD n=true):-72057594037927936<n/\n<72057594037927936:=by have:=(aG3 n).1 h;omega
theorem bDD {s:ByteArray}:(l:List Int)->(p:Nat)->l.all mD=true->aFF s p (lZ ⟨#[]⟩ (l.map sW))->aRY s l.length p=some (l,((p+(lZ ⟨#[]⟩ (l.map sW)).size:Nat):Int))
 | [],p,_,_=>rfl
 | x::l,p,ha,h=>by
  rw[List.map_cons,aAR] at h⊢
  rw[List.all_cons,Bool.and_eq_true] at ha
  obtain⟨h1,h2⟩:=kP.1 h
  have hx:=aT4 h1 (bY6 ha.1)
  have hz:=bMV (bY6 ha.1)
  rw[hz] at h2
  have ih:=bDD l (p+8) ha.2 h2
  rw[List.length_cons,aRY,hx]
  dsimp only
  rw[if_pos ha.1,show(p:Int)+8=((p+8:Nat):Int) by omega,ih,jH,hz,Option.map_some,Nat.add_assoc]
theorem cGU {v:List Int} (h:yX v=true):gR v=sW v.length++lZ ⟨#[]⟩ (v.map sW):=by
 unfold yX at h
 rw[Bool.and_eq_true,decide_eq_true_eq] at h
 unfold gR
 rw[if_pos h,cA4]
theorem cAT {s:ByteArray} {p:Nat} {v:List Int} (hv:yX v=true) (h:aFF s p (gR v)):bTY s p=some (v,((p+(gR v).size:Nat):Int)):=by
 rw[cGU hv] at h⊢
 unfold yX at hv
 rw[Bool.and_eq_true,decide_eq_true_eq] at hv
 obtain⟨h1,h2⟩:=kP.1 h
 have hb:-72057594037927936<(v.length:Int)/\(v.length:Int)<72057594037927936:=by omega
 have hz:=bMV hb
 rw[hz] at h2
 unfold bTY
 rw[aT4 h1 hb]
 dsimp only
 rw[if_pos (by omega),Int.toNat_natCast,show(p:Int)+8=((p+8:Nat):Int) by omega,bDD v (p+8) hv.2 h2,jH,hz,Nat.add_assoc]
def atR (s:ByteArray) (p:Nat):qL:=(s,(p:Int),false)
theorem vS {s:ByteArray} {p:Nat} {v:List Int} (hv:yX v=true) (h:aFF s p (gR v)):oA (atR s p)=(v,atR s (p+(gR v).size)):=by
 have h1:=bK4 s p
 rw[cAT hv h] at h1
 exact h1
theorem cAW {s:ByteArray} {p:Nat} {n lo hi:Int} (h:aFF s p (sW n)) (hn:-72057594037927936<n/\n<72057594037927936) (h1:lo<=n) (h2:n<=hi):sG (atR s p) lo hi=(n,atR s (p+(sW n).size)):=by
 have:=bFT (aT4 h hn) h1 h2
 rw[bMV hn]
 exact this.symm
def eS (r:qL) (n:Int):List Int×qL:=if((oA r).1.length:Int)=n then oA r else(List.replicate n.toNat 0,((oA r).2.1,(oA r).2.2.1,true))
theorem aAP {s:ByteArray} {p:Nat} {v:List Int} {n:Int} (hv:yX v=true) (h:aFF s p (gR v)) (hn:(v.length:Int)=n):eS (atR s p) n=(v,atR s (p+(gR v).size)):=by
 unfold eS;rw[vS hv h,if_pos hn]
theorem aCD {r:qL} {n:Int} (h:0<=n):((eS r n).1.length:Int)=n:=by
 unfold eS
 split
 ·assumption
 ·rw[List.length_replicate];omega
theorem yN {r:qL} (n:Int) (h:RdP r):RdP (eS r n).2/\(eS r n).2.1=r.1:=by
 have h1:=zE h
 unfold eS
 split
 ·exact h1
 ·exact⟨h1.1,h1.2⟩
def kG {α:Type} (f:qL->α×qL):Nat->qL->List α×qL
 | 0,r=>([],r)
 | k+1,r=>if r.2.2=true then([],r) else((f r).1::(kG f k (f r).2).1,(kG f k (f r).2).2)
theorem vT {α:Type} (f:qL->α×qL) (k:Nat) {r:qL} (h:r.2.2=true):kG f k r=([],r):=by
 cases k with
 | zero=>rfl
 | succ k=>unfold kG;rw[if_pos h]
theorem xK {α:Type} (f:qL->α×qL) (k:Nat) {r:qL} (h:r.2.2=false):kG f (k+1) r=((f r).1::(kG f k (f r).2).1,(kG f k (f r).2).2):=by
 rw[kG,if_neg (by rw[h];simp)]
theorem vJ {α:Type} {f:qL->α×qL} {g:α->List ByteArray} {P:α->Prop} {s:ByteArray} (hf:∀a p,P a->aFF s p (lZ ⟨#[]⟩ (g a))->f (atR s p)=(a,atR s (p+(lZ ⟨#[]⟩ (g a)).size))) :
  (l:List α)->(p:Nat)->(∀a∈l,P a)->aFF s p (lZ ⟨#[]⟩ (l.flatMap g))->kG f l.length (atR s p)=(l,atR s (p+(lZ ⟨#[]⟩ (l.flatMap g)).size))
 | [],p,_,_=>rfl
 | x::l,p,hP,h=>by
  rw[List.flatMap_cons,aE3] at h⊢
  obtain⟨h1,h2⟩:=kP.1 h
  rw[List.length_cons,xK f _ rfl,hf x p (hP x List.mem_cons_self) h1]
  dsimp only
  rw[vJ hf l _ (fun a ha=>hP a (List.mem_cons_of_mem _ ha)) h2,jH,Nat.add_assoc]
def xP (r:qL):cT×qL:=kG oA (sG r 0 20).1.toNat (sG r 0 20).2
theorem cKV {α β:Type} (f:α->β) (l:List α):l.map f=l.flatMap fun a=>[f a]:=by induction l with
 | nil=>rfl
 | cons a l ih=>rw[List.map_cons,List.flatMap_cons,ih];rfl
theorem aU3 {s:ByteArray} {p:Nat} {l:cT} (hl:l.length<=20) (hv:∀v∈l,yX v=true) (h:aFF s p (lZ ⟨#[]⟩ (nP l))):xP (atR s p)=(l,atR s (p+(lZ ⟨#[]⟩ (nP l)).size)):=by
 unfold nP at h⊢
 rw[aAR,cKV] at h⊢
 obtain⟨h1,h2⟩:=kP.1 h
 unfold xP
 rw[cAW h1 (by omega) (by omega) (by omega)]
 dsimp only
 rw[Int.toNat_natCast,vJ (P:=fun v=>yX v=true) (fun a p ha h=>?_) l _ hv h2,jH,Nat.add_assoc]
 rw[aDL,yP] at h⊢
 exact vS ha h
def aXE (r:qL):eP×qL:=(((eS r 2).1.getD 0 0,(eS r 2).1.getD 1 0),(eS r 2).2)
def opF (r:qL):fP×qL:=(((eS r 3).1.getD 0 0,(eS r 3).1.getD 1 0,(eS r 3).1.getD 2 0,(oA (eS r 3).2).1),(oA (eS r 3).2).2)
def aYZ (r:qL):eC×qL:=(((eS r 1).1.getD 0 0,(xP (eS r 1).2).1),(xP (eS r 1).2).2)
theorem bYZ {s:ByteArray} (a:eP) (p:Nat) (ha:yX [a.1,a.2]=true) (h:aFF s p (lZ ⟨#[]⟩ (aEI a))):aXE (atR s p)=(a,atR s (p+(lZ ⟨#[]⟩ (aEI a)).size)):=by
 unfold aEI at h⊢
 rw[aDL,yP] at h⊢
 unfold aXE
 rw[aAP (n:=2) ha h rfl];rfl
theorem cCQ {s:ByteArray} (a:fP) (p:Nat) (ha:yX [a.1,a.2.1,a.2.2.1]=true/\yX a.2.2.2=true) (h:aFF s p (lZ ⟨#[]⟩ (opP a))):opF (atR s p)=(a,atR s (p+(lZ ⟨#[]⟩ (opP a)).size)):=by
 unfold opP at h⊢
 rw[aAR,aDL,yP] at h⊢
 obtain⟨h1,h2⟩:=kP.1 h
 unfold opF
 rw[aAP (n:=3) ha.1 h1 rfl]
 dsimp only
 rw[vS ha.2 h2,jH,Nat.add_assoc];rfl
theorem bYV {s:ByteArray} (a:eC) (p:Nat) (ha:yX [a.1]=true/\a.2.length<=20/\∀v∈a.2,yX v=true) (h:aFF s p (lZ ⟨#[]⟩ (aAH a))):aYZ (atR s p)=(a,atR s (p+(lZ ⟨#[]⟩ (aAH a)).size)):=by
 unfold aAH at h⊢
 rw[aAR] at h⊢
 obtain⟨h1,h2⟩:=kP.1 h
 unfold aYZ
 rw[aAP (n:=1) ha.1 h1 rfl]
 dsimp only
 rw[aU3 ha.2.1 ha.2.2 h2,jH,Nat.add_assoc];rfl
def cGN (h:List Int) (a:List eP) (b:List fP) (c:List eC) (r:qL):aR×qL :=
 ((h.getD 0 0,a,b,decide (h.getD 1 0=1),decide (h.getD 2 0=1),c,(xP r).1,(oA (xP r).2).1,(oA (oA (xP r).2).2).1,(oA (oA (oA (xP r).2).2).2).1,(oA (oA (oA (oA (xP r).2).2).2).2).1,
  (xP (oA (oA (oA (oA (xP r).2).2).2).2).2).1,h.getD 3 0,decide (h.getD 4 0=1)),(xP (oA (oA (oA (oA (xP r).2).2).2).2).2).2)
def K3 (h:List Int) (a:List eP) (b:List fP) (acc:List eC) (q:List eC×qL):aR×qL:=cGN h a b (acc++q.1) q.2
def K2 (h:List Int) (a:List eP) (acc:List fP) (q:List fP×qL):aR×qL:=K3 h a (acc++q.1) [] (kG aYZ (h.getD 7 0).toNat q.2)
def K1 (h:List Int) (acc:List eP) (q:List eP×qL):aR×qL:=K2 h (acc++q.1) [] (kG opF (h.getD 6 0).toNat q.2)
def pL (r:qL):aR×qL:=K1 (eS r 8).1 [] (kG aXE ((eS r 8).1.getD 5 0).toNat (eS r 8).2)
def cAS (x:aR):Prop:=aTH x/\(aAM x).all yX=true
theorem cDV {x:aR} (h:cAS x):yX (aAS x)=true/\(∀i∈x.2.1,yX [i.1,i.2]=true)/\(∀o∈x.2.2.1,yX [o.1,o.2.1,o.2.2.1]=true/\yX o.2.2.2=true) /\
  (∀a∈x.2.2.2.2.2.1,yX [a.1]=true/\a.2.length<=20/\∀v∈a.2,yX v=true)/\(x.2.2.2.2.2.2.1.length<=20/\∀v∈x.2.2.2.2.2.2.1,yX v=true) /\
  yX x.2.2.2.2.2.2.2.1=true/\yX x.2.2.2.2.2.2.2.2.1=true/\yX x.2.2.2.2.2.2.2.2.2.1=true/\yX x.2.2.2.2.2.2.2.2.2.2.1=true /\
  (x.2.2.2.2.2.2.2.2.2.2.2.1.length<=20/\∀v∈x.2.2.2.2.2.2.2.2.2.2.2.1,yX v=true):=by
 obtain⟨hl,ha⟩:=h
 have hm:=((cA x).1 hl.1).1
 have L0:=(bO _).1 hm
 have hg:=((xH _ _).1 ((cA x).1 hl.1).2.2.1).1
 have Bg:=aV9 hl.1
 have hop:=cCA hm
 have hh:=bFJ hl
 rw[List.all_eq_true] at ha
 unfold aAM at ha
 have q:∀v,v∈aAM x->yX v=true:=ha
 have m1:∀v,v∈[[x.1,x.2.2.2.2.2.2.2.2.2.2.2.2.1],x.2.2.2.2.2.2.2.1,x.2.2.2.2.2.2.2.2.1,x.2.2.2.2.2.2.2.2.2.1,x.2.2.2.2.2.2.2.2.2.2.1]->yX v=true:=fun v hv=>ha v (List.mem_append_left _ hv)
 refine⟨by rw[hh];exact m1 _ (by simp),fun i hi=>ha _ (by simp only[List.mem_append,List.mem_flatMap];exact .inr (.inl ⟨i,hi,by simp⟩)),fun o ho=>⟨hop o ho,ha _ (by simp only[List.mem_append,List.mem_flatMap];exact .inr (.inr (.inl ⟨o,ho,by simp⟩)))⟩,fun a hs=>⟨ha _ (by simp only[List.mem_append,List.mem_flatMap];exact .inr (.inr (.inr (.inl ⟨a,hs,by simp⟩)))),by have:=Bg a hs;omega,fun v hv=>ha _ (by simp only[List.mem_append,List.mem_flatMap];exact .inr (.inr (.inr (.inl ⟨a,hs,List.mem_cons_of_mem _ hv⟩))))⟩,
  ⟨hl.2.2.2,fun v hv=>ha _ (by simp only[List.mem_append];exact .inr (.inr (.inr (.inr (.inl hv)))))⟩,m1 _ (by simp),m1 _ (by simp),m1 _ (by simp),m1 _ (by simp),by omega,fun v hv=>ha _ (by simp only[List.mem_append];exact .inr (.inr (.inr (.inr (.inr hv)))))⟩
theorem cCV (b:Bool):decide (b01 b=1)=b:=by cases b<;>rfl
theorem bPG {s:ByteArray} {p:Nat} {x:aR} (hx:cAS x) (h:aFF s p (lZ ⟨#[]⟩ (lT x))):pL (atR s p)=(x,atR s (p+(lZ ⟨#[]⟩ (lT x)).size)):=by
 obtain⟨f0,f1,f2,f3,f4,f5,f6,f7,f8,f9⟩:=cDV hx
 have e:lZ ⟨#[]⟩ (lT x)=gR (aAS x)++(lZ ⟨#[]⟩ (x.2.1.flatMap aEI)++(lZ ⟨#[]⟩ (x.2.2.1.flatMap opP)++(lZ ⟨#[]⟩ (x.2.2.2.2.2.1.flatMap aAH)++(lZ ⟨#[]⟩ (nP x.2.2.2.2.2.2.1)++(gR x.2.2.2.2.2.2.2.1++(gR x.2.2.2.2.2.2.2.2.1++(gR x.2.2.2.2.2.2.2.2.2.1++(gR x.2.2.2.2.2.2.2.2.2.2.1++lZ ⟨#[]⟩ (nP x.2.2.2.2.2.2.2.2.2.2.2.1))))))))):=by
  unfold lT aIR
  simp only[aE3,aAR,aDL,yP,List.cons_append,List.nil_append]
 rw[e] at h⊢
 obtain⟨h0,h⟩:=kP.1 h
 obtain⟨h1,h⟩:=kP.1 h
 obtain⟨h2,h⟩:=kP.1 h
 obtain⟨h3,h⟩:=kP.1 h
 obtain⟨h4,h⟩:=kP.1 h
 obtain⟨h5,h⟩:=kP.1 h
 obtain⟨h6,h⟩:=kP.1 h
 obtain⟨h7,h⟩:=kP.1 h
 obtain⟨h8,h9⟩:=kP.1 h
 unfold pL
 rw[aAP (n:=8) f0 h0 rfl]
 dsimp only
 rw[show((aAS x).getD 5 0).toNat=x.2.1.length from rfl,vJ bYZ x.2.1 _ f1 h1]
 unfold K1
 dsimp only
 rw[show((aAS x).getD 6 0).toNat=x.2.2.1.length from rfl,vJ cCQ x.2.2.1 _ f2 h2]
 unfold K2
 dsimp only
 rw[show((aAS x).getD 7 0).toNat=x.2.2.2.2.2.1.length from rfl,vJ bYV x.2.2.2.2.2.1 _ f3 h3]
 unfold K3 cGN
 dsimp only
 rw[aU3 f4.1 f4.2 h4]
 dsimp only
 rw[vS f5 h5]
 dsimp only
 rw[vS f6 h6]
 dsimp only
 rw[vS f7 h7]
 dsimp only
 rw[vS f8 h8]
 dsimp only
 rw[aU3 f9.1 f9.2 h9]
 dsimp only
 simp only[jH,Nat.add_assoc]
 show((_,_,_,decide (b01 _=1),decide (b01 _=1),_,_,_,_,_,_,_,_,decide (b01 _=1)),_)=_
 rw[cCV,cCV,cCV]
 rfl
set_option maxRecDepth 100000
theorem bQ8:(k:Nat)->(r:qL)->∀v∈(yU k r).1,-1000000000000<=v/\v<=1000000000000
 | 0,r,v,h=>by cases h
 | k+1,r,v,h=>by
  cases hb:r.2.2 with
  | true=>rw[aB5 _ hb] at h;cases h
  | false =>
   rw[aO0 _ hb] at h
   rcases List.mem_cons.1 h with rfl|h
   ·have:=bU9 r (-1000000000000) 1000000000000;omega
   ·exact bQ8 k _ v h
theorem aK0 {r:qL} {n:Int} {i:Nat}:-1000000000000<=(eS r n).1.getD i 0/\(eS r n).1.getD i 0<=1000000000000:=by
 by_cases h:i<(eS r n).1.length
 ·rw[aP h]
  have hm:=List.getElem_mem h
  generalize (eS r n).1[i]=v at hm
  unfold eS at hm
  split at hm
  ·exact bQ8 _ _ _ hm
  ·rw[List.eq_of_mem_replicate hm];omega
 ·rw[List.getD_eq_getElem?_getD,List.getElem?_eq_none (by omega)];exact⟨by decide,by decide⟩
theorem aRI {α:Type} {f:qL->α×qL} (hf:∀r,RdP r->RdP (f r).2/\(f r).2.1=r.1):(k:Nat)->{r:qL}->RdP r->RdP (kG f k r).2/\(kG f k r).2.1=r.1
 | 0,r,h=>⟨h,rfl⟩
 | k+1,r,h=>by
  cases hb:r.2.2 with
  | true=>rw[vT _ _ hb];exact⟨h,rfl⟩
  | false =>
   rw[xK _ _ hb]
   have h1:=hf r h
   have h2:=aRI hf k h1.1
   exact⟨h2.1,h2.2.trans h1.2⟩
theorem bCE {r:qL} (h:RdP r):RdP (xP r).2/\(xP r).2.1=r.1:=by
 have h1:=aYS h 0 20
 have h2:=aRI (f:=oA) (fun r h=>zE h) (sG r 0 20).1.toNat h1.1
 exact⟨h2.1,h2.2.trans h1.2⟩
theorem cDG {r:qL} (h:RdP r):RdP (aXE r).2/\(aXE r).2.1=r.1:=yN 2 h
theorem cIW {r:qL} (h:RdP r):RdP (opF r).2/\(opF r).2.1=r.1:=by
 have h1:=yN 3 h
 have h2:=zE h1.1
 exact⟨h2.1,h2.2.trans h1.2⟩
theorem cCC {r:qL} (h:RdP r):RdP (aYZ r).2/\(aYZ r).2.1=r.1:=by
 have h1:=yN 1 h
 have h2:=bCE h1.1
 exact⟨h2.1,h2.2.trans h1.2⟩
noncomputable def vL:Con:=⟨100,(.cMV aC4 tI),(.cMV aA aC4),[.box 151 ⟨true,aC4,[]⟩,.val ⟨false,tI,[]⟩],[⟨false,aA,[2]⟩],false,none,
 ((fun x=>RdP x.1/\0<=x.2/\x.2<=100):(((ByteArray)×(Int×Bool))×Int)->Prop),
 ((fun x=>eS x.1 x.2):(((ByteArray)×(Int×Bool))×Int)->(bX×((ByteArray)×(Int×Bool))))⟩
def aN0:T:=nC (fQ aY) <| cK (iU 1) <| rX .neq bM (iX aY) 3 (.cMW (.rep 3 tI 8) (iX aY) <| uR (.cMV aA aY) [dY,aXV aA aY 1 1,aXV aA aY 2 1,bD]) aZ
theorem aEZ:Con.Holds Tryz.prog vL:=tk ⟨[],[]⟩ aN0 (aC wW aH) fun(x:((ByteArray)×(Int×Bool))×Int) hx hp=>by
 dsimp only [vL] at hx hp⊢
 obtain⟨r,n⟩:=x
 obtain⟨h1,h2,h3⟩:RdP r/\0<=n/\n<=100:=hp
 delta aN0 rK;refine dR ?_
 refine dQ ?_
 refine⟨h1,fun _ _=>⟨fun h=>?_,fun h=>?_⟩⟩
 ·(repeat' first|intro _|(with_reducible apply And.intro))
  all_goals first|omega|skip
  unfold eS;rw[if_neg h];rfl
 ·unfold eS;rw[if_pos h]
noncomputable def aEK:Con:=⟨194,aC4,(.cMV aF aC4),[.box 151 ⟨true,aC4,[]⟩],[⟨false,aF,[2]⟩],false,none,
 ((fun x=>RdP x):((ByteArray)×(Int×Bool))->Prop),
 ((fun x=>xP x):((ByteArray)×(Int×Bool))->(cT×((ByteArray)×(Int×Bool))))⟩
def aN5:T:=mI 0 (aC2 aY) bJ aN 20 <| xF (pH .str pM) (pH .str pM) [aN,cL aY 1 1,cL aY 2 1,fY aY 3 1,qC] <| xA tI tI (gZ .str pM 2) (cB aY 1) <| jL 3 (bD7 (sF pM 3 2) <| jL 4 (gQ 1 aY [sF pM 1 2,sF pM 2 2,sF pM 3 2] <| gD 253 aA (iU 5) <| eF (wE aA 24) aF aF (aAB .str pM 4 2) 6 <| gF (gZ .str pM 2) 0 (pH .str pM) [cM,aXV aA aY 1 5,aXV aA aY 2 5,aTR aA aY 3 5,cY]) (bGJ aF aY [aAB .str pM 4 2,sF pM 1 2,sF pM 2 2,sF pM 3 2])) (bGJ aF aY [aAB .str pM 4 2,sF pM 1 2,sF pM 2 2,sF pM 3 2])
theorem bBU:Con.Holds Tryz.prog aEK:=tk ⟨[(2989,1002,iZ 8 6++[.tm 5 0,.on 3,.bx 1 0,.bx 1 1,.bx 1 2,.sl 2])],[(2981,7005,[23],[])]⟩ aN5 (aC aIC (aC wW aH)) fun(x:(ByteArray)×(Int×Bool)) hx hp=>by
 dsimp only [aEK] at hx hp⊢
 have hp:RdP x:=hp
 delta aN5 wS rK;refine dR ?_
 have h1:=aYS hp 0 20
 have hb:=bU9 x 0 20
 refine⟨hp,fun _=>?_⟩
 refine⟨fun t=>∃k:Nat,t.1=(k:Int)/\(k:Int)<=(sG x 0 20).1/\List.length t.2.2.2.2<=k/\RdP (t.2.1,t.2.2.1,t.2.2.2.1)/\xP x=(t.2.2.2.2++(kG oA ((sG x 0 20).1.toNat - k) (t.2.1,t.2.2.1,t.2.2.2.1)).1,(kG oA ((sG x 0 20).1.toNat - k) (t.2.1,t.2.2.1,t.2.2.2.1)).2),fun t=>((sG x 0 20).1 - (t.1:Int)).toNat,⟨0,rfl,by omega,Nat.le_refl _,h1.1,rfl⟩,fun t _ hI=>?_⟩
 obtain⟨i,s,p,b,acc⟩:Int×(ByteArray×(Int×(Bool×cT))):=t
 obtain⟨k,rfl,hk,hl,hP,hv⟩:=hI
 dsimp only at hk hl hP hv⊢
 generalize hn:(sG x 0 20).1=n at hb hk hv⊢
 constructor
 ·intro hlt
  rw[decide_eq_true_eq] at hlt
  constructor
  ·intro hb2
   obtain rfl:b=false:=by simpa using hb2
   have Mv:=zE hP
   obtain⟨m,hm⟩:∃m,n.toNat - k=m+1:=⟨n.toNat - k - 1,by omega⟩
   rw[hm,xK oA m rfl] at hv
   (refine dQ ?_;try with_reducible exact True.intro)
   (repeat' first|intro _|(with_reducible apply And.intro))
   all_goals first|omega|exact hP|(unfold maxLen;omega)|skip
   refine⟨k+1,rfl,by omega,Nat.succ_le_succ hl,Mv.1,?_⟩
   rw[show n.toNat - (k+1)=m by omega,hv]
   simp
  ·intro hb2
   obtain rfl:b=true:=by simpa using hb2
   rw[vT _ _ rfl] at hv
   rw[hv];simp
 ·intro hge
  rw[decide_eq_false_iff_not] at hge
  rw[show n.toNat - k=0 by omega] at hv
  rw[hv];simp[kG]
noncomputable def aCN:Con:=⟨102,aC4,(.cMV aB aC4),[.box 151 ⟨true,aC4,[]⟩],[⟨true,aB,[0,1,1,0,0,1,1,1,1,1,1,1,0,0]⟩],false,none,
 ((fun x=>RdP x):((ByteArray)×(Int×Bool))->Prop),
 ((fun x=>pL x):((ByteArray)×(Int×Bool))->(aR×((ByteArray)×(Int×Bool))))⟩
def aK7:T:=mU 0 aY bJ 8 <| lE 3 1 aN 3 1 aN <| lE 3 1 bF 3 1 bF <| sS .eql fF bF <| lE 3 1 aA2 3 1 aA2 <| sS .eql cM bF <| lE 3 1 aP7 3 1 aP7 <| lE 3 1 aMI 3 1 aMI <| sS .eql eM bF <| oQ (sA bI) (sA bI) aJO (gE 1) <| lE 3 1 aCV 3 1 aCV <| cX (gZ bI aY 15) 17 18 (qP (gV bI 4 15) 19 (mU 0 aY (gV bI 2 15) 2 <| lE 3 20 aN 3 20 aN <| lE 3 20 bF 3 20 bF <| mF (rZ 159 aU) tI tI 22 24 <| eF tK bI bI (dA bI 15) 25 <| gF (gZ bI aY 15) 0 (sA bI) [.Z 27,tJ,gE 20]) <| oQ (sA aG) (sA aG) aXQ (gV bI 2 15) <| lE 3 1 uJ 3 1 uJ <| cX (gZ aG aY 20) 22 23 (qP (gV aG 4 20) 24 (mU 0 aY (gV aG 2 20) 3 <| wI (gE 25) <| lE 3 25 aN 3 25 aN <| lE 3 25 bF 3 25 bF <| lE 3 25 aA2 3 25 aA2 <| vA (rZ 243 bK) bK [.Z 28,.Z 30,aL2,iU 26] <| eF (aIM 243 bK) aG aG (dA aG 20) 33 <| gF (gZ aG aY 20) 0 (sA aG) [aEL,aLC,gE 26]) <| oQ aET aET aL7 (gV aG 2 20) <| lE 3 1 sV 3 1 sV <| cX (gZ aS aY 25) 27 28 (qP (gV aS 4 25) 29 (dF 0 aY (gV aS 2 25) bF <| aBK (gE 30) <| lE 3 30 aN 3 30 aN <| vC sC aF aQC (mX aF 31) <| sE aJ aS aS (dA aS 25) 34 <| gF (gZ aS aY 25) 0 aET [.Z 36,aEL,mK aF 31]) <| eK 2 (gV aS 2 25) 1 (mK aF 30) <| eK 1 (gE 31) 1 (gE 32) <| eK 1 (gE 33) 2 (gE 34) <| aA7 aB aY aB [eG,dA bI 15,dA aG 20,cQ,cU,dA aS 25,mX aF 30,iU 31,iU 32,iU 33,iU 34,mX aF 35,cO,dK] (mK aF 35)) <| eK 2 (gV aS 2 25) 1 (mK aF 29) <| eK 1 (gE 30) 1 (gE 31) <| eK 1 (gE 32) 2 (gE 33) <| aA7 aB aY aB [eG,dA bI 15,dA aG 20,cQ,cU,dA aS 25,mX aF 29,iU 30,iU 31,iU 32,iU 33,mX aF 34,cO,dK] (mK aF 34)) <| oQ aET aET aL7 (gV aG 2 20) <| lE 3 1 sV 3 1 sV <| cX (gZ aS aY 24) 26 27 (qP (gV aS 4 24) 28 (dF 0 aY (gV aS 2 24) bF <| aBK (gE 29) <| lE 3 29 aN 3 29 aN <| vC sC aF aL2 (mX aF 30) <| sE aJ aS aS (dA aS 24) 33 <| gF (gZ aS aY 24) 0 aET [aEL,aLC,mK aF 30]) <| eK 2 (gV aS 2 24) 1 (mK aF 29) <| eK 1 (gE 30) 1 (gE 31) <| eK 1 (gE 32) 2 (gE 33) <| aA7 aB aY aB [eG,dA bI 15,dA aG 20,cQ,cU,dA aS 24,mX aF 29,iU 30,iU 31,iU 32,iU 33,mX aF 34,cO,dK] (mK aF 34)) <| eK 2 (gV aS 2 24) 1 (mK aF 28) <| eK 1 (gE 29) 1 (gE 30) <| eK 1 (gE 31) 2 (gE 32) <| aA7 aB aY aB [eG,dA bI 15,dA aG 20,cQ,cU,dA aS 24,mX aF 28,iU 29,iU 30,iU 31,iU 32,mX aF 33,cO,dK] (mK aF 33)) <| oQ (sA aG) (sA aG) aXQ (gV bI 2 15) <| lE 3 1 uJ 3 1 uJ <| cX (gZ aG aY 19) 21 22 (qP (gV aG 4 19) 23 (mU 0 aY (gV aG 2 19) 3 <| wI (gE 24) <| lE 3 24 aN 3 24 aN <| lE 3 24 bF 3 24 bF <| lE 3 24 aA2 3 24 aA2 <| vA (rZ 243 bK) bK [.Z 27,aG9,aEM,iU 25] <| eF (aIM 243 bK) aG aG (dA aG 19) 32 <| gF (gZ aG aY 19) 0 (sA aG) [aLC,aQC,gE 25]) <| oQ aET aET aL7 (gV aG 2 19) <| lE 3 1 sV 3 1 sV <| cX (gZ aS aY 24) 26 27 (qP (gV aS 4 24) 28 (dF 0 aY (gV aS 2 24) bF <| aBK (gE 29) <| lE 3 29 aN 3 29 aN <| vC sC aF aL2 (mX aF 30) <| sE aJ aS aS (dA aS 24) 33 <| gF (gZ aS aY 24) 0 aET [aEL,aLC,mK aF 30]) <| eK 2 (gV aS 2 24) 1 (mK aF 29) <| eK 1 (gE 30) 1 (gE 31) <| eK 1 (gE 32) 2 (gE 33) <| aA7 aB aY aB [eG,dA bI 15,dA aG 19,cQ,cU,dA aS 24,mX aF 29,iU 30,iU 31,iU 32,iU 33,mX aF 34,cO,dK] (mK aF 34)) <| eK 2 (gV aS 2 24) 1 (mK aF 28) <| eK 1 (gE 29) 1 (gE 30) <| eK 1 (gE 31) 2 (gE 32) <| aA7 aB aY aB [eG,dA bI 15,dA aG 19,cQ,cU,dA aS 24,mX aF 28,iU 29,iU 30,iU 31,iU 32,mX aF 33,cO,dK] (mK aF 33)) <| oQ aET aET aL7 (gV aG 2 19) <| lE 3 1 sV 3 1 sV <| cX (gZ aS aY 23) 25 26 (qP (gV aS 4 23) 27 (dF 0 aY (gV aS 2 23) bF <| aBK (gE 28) <| lE 3 28 aN 3 28 aN <| vC sC aF aEM (mX aF 29) <| sE aJ aS aS (dA aS 23) 32 <| gF (gZ aS aY 23) 0 aET [aLC,aQC,mK aF 29]) <| eK 2 (gV aS 2 23) 1 (mK aF 28) <| eK 1 (gE 29) 1 (gE 30) <| eK 1 (gE 31) 2 (gE 32) <| aA7 aB aY aB [eG,dA bI 15,dA aG 19,cQ,cU,dA aS 23,mX aF 28,iU 29,iU 30,iU 31,iU 32,mX aF 33,cO,dK] (mK aF 33)) <| eK 2 (gV aS 2 23) 1 (mK aF 27) <| eK 1 (gE 28) 1 (gE 29) <| eK 1 (gE 30) 2 (gE 31) <| aA7 aB aY aB [eG,dA bI 15,dA aG 19,cQ,cU,dA aS 23,mX aF 27,iU 28,iU 29,iU 30,iU 31,mX aF 32,cO,dK] (mK aF 32)
set_option maxHeartbeats 4000000 in
theorem aXU:Con.Holds Tryz.prog aCN:=tk ⟨[(2985,1015,iZ 37 23++iZ 21 19++[.dr 17,.dr 16,.dr 22,.dr 18]++iZ 15 13++[.tm 5 0,.sl 23,.bx 1 0,.bx 1 1,.bx 1 2]),(2975,5020,iZ 49 38++[.dr 5,.tm 7 0,.sl 24,.bx 1 0,.bx 1 1,.bx 1 2]),(2965,21025,iZ 77 66++[.dr 7,.tm 10 0,.sl 25,.bx 1 0,.bx 1 1,.bx 1 2]),(2965,9024,iZ 77 66++[.dr 7,.tm 10 0,.sl 25,.bx 1 0,.bx 1 1,.bx 1 2]),(2975,2019,iZ 49 38++[.dr 5,.tm 7 0,.sl 24,.bx 1 0,.bx 1 1,.bx 1 2]),(2965,10024,iZ 77 66++[.dr 7,.tm 10 0,.sl 25,.bx 1 0,.bx 1 1,.bx 1 2]),(2965,4023,iZ 77 66++[.dr 7,.tm 10 0,.sl 25,.bx 1 0,.bx 1 1,.bx 1 2])],[(2963,29027,[],[33]),(2953,117032,[],[33]),(2953,57031,[],[33]),(2963,14026,[],[33]),(2953,58031,[],[33]),(2953,28030,[],[33])]⟩ aK7 (aC aEZ (aC wW (aC bBU aH))) fun(x:(ByteArray)×(Int×Bool)) hx hp=>by
 dsimp only [aCN] at hx hp⊢
 have hp:RdP x:=hp
 delta aK7 vL rK aEK;refine dR ?_
 have h8:=aCD (r:=x) (show 0<=(8:Int) by decide)
 have hP:=yN 8 hp
 have n5:=aK0 (r:=x) (n:=8) (i:=5)
 have n6:=aK0 (r:=x) (n:=8) (i:=6)
 have n7:=aK0 (r:=x) (n:=8) (i:=7)
 have hv0:pL x=K1 (eS x 8).1 [] (kG aXE ((eS x 8).1.getD 5 0).toNat (eS x 8).2):=rfl
 simp only[dzx,Int.reduceToNat]
 generalize (eS x 8).1=H at *
 generalize (eS x 8).2=r0 at *
 (repeat' first|intro _|(with_reducible apply And.intro))
 all_goals first|omega|exact hp|skip
 have z5:H.getD 5 (aK tI)=H.getD 5 0:=rfl
 have z6:H.getD 6 (aK tI)=H.getD 6 0:=rfl
 have z7:H.getD 7 (aK tI)=H.getD 7 0:=rfl
 rw[z5,z6,z7]
 refine⟨fun t=>∃k:Nat,t.1=(k:Int)/\(t.2.1:List eP).length=k/\(k:Int)<=max 0 (H.getD 5 0)/\RdP t.2.2/\pL x=K1 H t.2.1 (kG aXE ((H.getD 5 0).toNat - k) t.2.2),fun t=>(H.getD 5 0 - (t.1:Int)).toNat,⟨0,rfl,rfl,by omega,hP.1,hv0⟩,fun t _ hI=>?_⟩
 obtain⟨i,a1,r1⟩:Int×(List eP×qL):=t
 obtain⟨k1,rfl,hl,hk,Ag,Ac⟩:=hI
 dsimp only at hl hk Ag Ac⊢
 refine⟨by omega,fun _=>⟨by omega,fun _=>⟨fun hlt=>⟨fun hb=>?_,fun hb=>?_⟩,fun hge=>?_⟩⟩⟩
 ·obtain⟨m,hm⟩:∃m,(H.getD 5 0).toNat - k1=m+1:=⟨(H.getD 5 0).toNat - k1 - 1,by omega⟩
  rw[hm,xK aXE m hb] at Ac
  have hs1:=aCD (r:=r1) (show 0<=(2:Int) by decide)
  have hp1:=yN 2 Ag
  (repeat' first|intro _|(with_reducible apply And.intro))
  all_goals first|omega|exact Ag|exact hp1.1|(unfold maxLen;omega)|skip
  refine⟨k1+1,rfl,by(first|omega|(simp only[List.length_append,List.length_cons,List.length_nil];omega)),by omega,(cDG Ag).1,?_⟩
  rw[show(H.getD 5 0).toNat - (k1+1)=m by omega,Ac]
  show K1 H a1 ((aXE r1).1::_,_)=K1 H (a1++[(aXE r1).1]) _
  unfold K1;simp only[List.append_assoc,List.singleton_append];rfl
 all_goals
  have D0:pL x=K2 H a1 [] (kG opF (H.getD 6 0).toNat r1):=by
   first|rw[vT aXE _ hb] at Ac|rw[show(H.getD 5 0).toNat - k1=0 by omega] at Ac
   rw[Ac];unfold K1;simp only[List.append_nil,kG]
  clear Ac
  refine⟨fun t=>∃k:Nat,t.1=(k:Int)/\(t.2.1:List fP).length=k/\(k:Int)<=max 0 (H.getD 6 0)/\RdP t.2.2/\pL x=K2 H a1 t.2.1 (kG opF ((H.getD 6 0).toNat - k) t.2.2),fun t=>(H.getD 6 0 - (t.1:Int)).toNat,⟨0,rfl,rfl,by omega,Ag,D0⟩,fun t _ hI=>?_⟩
  obtain⟨i,a2,r2⟩:Int×(List fP×qL):=t
  obtain⟨k2,rfl,hl,hk,A4,Ak⟩:=hI
  dsimp only at hl hk A4 Ak⊢
  refine⟨by omega,fun _=>⟨by omega,fun _=>⟨fun hlt=>⟨fun hb=>?_,fun hb=>?_⟩,fun hge=>?_⟩⟩⟩
  ·obtain⟨m,hm⟩:∃m,(H.getD 6 0).toNat - k2=m+1:=⟨(H.getD 6 0).toNat - k2 - 1,by omega⟩
   rw[hm,xK opF m hb] at Ak
   have hs1:=aCD (r:=r2) (show 0<=(3:Int) by decide)
   have hp1:=yN 3 A4
   (repeat' first|intro _|(with_reducible apply And.intro))
   all_goals first|omega|exact A4|exact hp1.1|(unfold maxLen;omega)|skip
   refine⟨k2+1,rfl,by(first|omega|(simp only[List.length_append,List.length_cons,List.length_nil];omega)),by omega,(cIW A4).1,?_⟩
   rw[show(H.getD 6 0).toNat - (k2+1)=m by omega,Ak]
   show K2 H a1 a2 ((opF r2).1::_,_)=K2 H a1 (a2++[(opF r2).1]) _
   unfold K2;simp only[List.append_assoc,List.singleton_append];rfl
  all_goals
   have Dz:pL x=K3 H a1 a2 [] (kG aYZ (H.getD 7 0).toNat r2):=by
    first|rw[vT opF _ hb] at Ak|rw[show(H.getD 6 0).toNat - k2=0 by omega] at Ak
    rw[Ak];unfold K2;simp only[List.append_nil,kG]
   clear Ak
   refine⟨fun t=>∃k:Nat,t.1=(k:Int)/\(t.2.1:List eC).length=k/\(k:Int)<=max 0 (H.getD 7 0)/\RdP t.2.2/\pL x=K3 H a1 a2 t.2.1 (kG aYZ ((H.getD 7 0).toNat - k) t.2.2),fun t=>(H.getD 7 0 - (t.1:Int)).toNat,⟨0,rfl,rfl,by omega,A4,Dz⟩,fun t _ hI=>?_⟩
   obtain⟨i,a3,r3⟩:Int×(List eC×qL):=t
   obtain⟨k3,rfl,hl,hk,A3,Aj⟩:=hI
   dsimp only at hl hk A3 Aj⊢
   refine⟨by omega,fun _=>⟨by omega,fun _=>⟨fun hlt=>⟨fun hb=>?_,fun hb=>?_⟩,fun hge=>?_⟩⟩⟩
   ·obtain⟨m,hm⟩:∃m,(H.getD 7 0).toNat - k3=m+1:=⟨(H.getD 7 0).toNat - k3 - 1,by omega⟩
    rw[hm,xK aYZ m hb] at Aj
    have hs1:=aCD (r:=r3) (show 0<=(1:Int) by decide)
    have hp1:=yN 1 A3
    (repeat' first|intro _|(with_reducible apply And.intro))
    all_goals first|omega|exact A3|exact hp1.1|(unfold maxLen;omega)|skip
    refine⟨k3+1,rfl,by(first|omega|(simp only[List.length_append,List.length_cons,List.length_nil];omega)),by omega,(cCC A3).1,?_⟩
    rw[show(H.getD 7 0).toNat - (k3+1)=m by omega,Aj]
    show K3 H a1 a2 a3 ((aYZ r3).1::_,_)=K3 H a1 a2 (a3++[(aYZ r3).1]) _
    unfold K3;simp only[List.append_assoc,List.singleton_append];rfl
   all_goals
    have Dy:pL x=cGN H a1 a2 a3 r3:=by
     first|rw[vT aYZ _ hb] at Aj|rw[show(H.getD 7 0).toNat - k3=0 by omega] at Aj
     rw[Aj];unfold K3;simp only[List.append_nil,kG]
    clear Aj
    have p1:=bCE A3
    have p2:=zE p1.1
    have p3:=zE p2.1
    have p4:=zE p3.1
    have p5:=zE p4.1
    (repeat' first|intro _|(with_reducible apply And.intro))
    all_goals first|exact A3|exact p1.1|exact p2.1|exact p3.1|exact p4.1|exact p5.1|(rw[Dy];rfl)
theorem cLH {s:ByteArray} {p:Int} {q:List Int×Int} (h:bTY s p=some q):p+8<=q.2:=by
 unfold bTY at h
 split at h
 ·rename_i n hn
  have hp:=aTE hn
  split at h
  ·have:=bWJ s n.toNat (p+8) (by omega) (by omega) q h;omega
  ·cases h
 ·cases h
def MoR {α:Type} (f:qL->α×qL):Prop:=∀r,(r.2.2=true->(f r).2.2.2=true)/\@LE.le Int _ r.2.1 (f r).2.2.1
theorem bVI (lo hi:Int):MoR (fun r=>sG r lo hi):=fun r=>by
 show(r.2.2=true->(sG r lo hi).2.2.2=true)/\@LE.le Int _ r.2.1 (sG r lo hi).2.2.1
 unfold sG
 split
 ·rename_i n hn
  split at hn
  ·cases hn
  ·rename_i hb
   split
   ·exact⟨fun h=>absurd h hb,by show r.2.1<=r.2.1+8;omega⟩
   ·exact⟨fun _=>rfl,Int.le_refl _⟩
 ·exact⟨fun _=>rfl,Int.le_refl _⟩
theorem bX7:(k:Nat)->MoR (yU k)
 | 0=>fun r=>⟨fun h=>h,Int.le_refl _⟩
 | k+1=>fun r=>by
  cases hb:r.2.2 with
  | true=>rw[aB5 _ hb];exact⟨fun _=>hb,Int.le_refl _⟩
  | false =>
   rw[aO0 _ hb]
   have h1:=bVI (-1000000000000) 1000000000000 r
   have h2:=bX7 k (sG r (-1000000000000) 1000000000000).2
   exact⟨fun h=>(by cases h),Int.le_trans h1.2 h2.2⟩
theorem aWW {α β:Type} {f:qL->α×qL} {g:qL->β×qL} (hf:MoR f) (hg:MoR g) (r:qL):(r.2.2=true->(g (f r).2).2.2.2=true)/\@LE.le Int _ r.2.1 (g (f r).2).2.2.1 :=
 ⟨fun h=>(hg _).1 ((hf r).1 h),Int.le_trans (hf r).2 (hg _).2⟩
theorem aTK:MoR oA:=fun r=>aWW (bVI 0 200) (bX7 (sG r 0 200).1.toNat) r
theorem bN1 (n:Int):MoR (fun r=>eS r n):=fun r=>by
 have h:=aTK r
 show(r.2.2=true->(eS r n).2.2.2=true)/\@LE.le Int _ r.2.1 (eS r n).2.2.1
 unfold eS
 split
 ·exact h
 ·exact⟨fun _=>rfl,h.2⟩
theorem aW8 {α:Type} {f:qL->α×qL} (hf:MoR f):(k:Nat)->MoR (kG f k)
 | 0=>fun r=>⟨fun h=>h,Int.le_refl _⟩
 | k+1=>fun r=>by
  cases hb:r.2.2 with
  | true=>rw[vT _ _ hb];exact⟨fun _=>hb,Int.le_refl _⟩
  | false =>
   rw[xK _ _ hb]
   exact⟨fun h=>(by cases h),Int.le_trans (hf r).2 (aW8 hf k _).2⟩
theorem bNC:MoR xP:=fun r=>aWW (bVI 0 20) (aW8 aTK (sG r 0 20).1.toNat) r
theorem cJT:MoR aXE:=fun r=>bN1 2 r
theorem cLU:MoR opF:=fun r=>aWW (bN1 3) aTK r
theorem cKA:MoR aYZ:=fun r=>aWW (bN1 1) bNC r
theorem cFJ (r:qL):((eS r 8).2.2.2=true->(pL r).2.2.2=true)/\@LE.le Int _ (eS r 8).2.2.1 (pL r).2.2.1:=by
 have h1:=aW8 cJT ((eS r 8).1.getD 5 0).toNat (eS r 8).2
 unfold pL K1 K2 K3 cGN
 generalize kG aXE ((eS r 8).1.getD 5 0).toNat (eS r 8).2=A at h1⊢
 have h2:=aW8 cLU ((eS r 8).1.getD 6 0).toNat A.2
 generalize kG opF ((eS r 8).1.getD 6 0).toNat A.2=B at h2⊢
 have h3:=aW8 cKA ((eS r 8).1.getD 7 0).toNat B.2
 generalize kG aYZ ((eS r 8).1.getD 7 0).toNat B.2=C at h3⊢
 have h4:=bNC C.2
 have h5:=aTK (xP C.2).2
 have h6:=aTK (oA (xP C.2).2).2
 have h7:=aTK (oA (oA (xP C.2).2).2).2
 have h8:=aTK (oA (oA (oA (xP C.2).2).2).2).2
 have h9:=bNC (oA (oA (oA (oA (xP C.2).2).2).2).2).2
 exact⟨fun h=>h9.1 (h8.1 (h7.1 (h6.1 (h5.1 (h4.1 (h3.1 (h2.1 (h1.1 h)))))))),Int.le_trans h1.2 (Int.le_trans h2.2 (Int.le_trans h3.2 (Int.le_trans h4.2 (Int.le_trans h5.2 (Int.le_trans h6.2 (Int.le_trans h7.2 (Int.le_trans h8.2 h9.2)))))))⟩
theorem cCS {s:ByteArray} {p:Nat} (h:(pL (atR s p)).2.2.2=false):(p:Int)+8<=(pL (atR s p)).2.2.1:=by
 have h1:=cFJ (atR s p)
 have h2:(eS (atR s p) 8).2.2.2=false:=by
  cases hb:(eS (atR s p) 8).2.2.2 with
  | true=>rw[h1.1 hb] at h;cases h
  | false=>rfl
 refine Int.le_trans ?_ h1.2
 unfold eS at h2⊢
 split at h2
 ·rename_i h3
  rw[if_pos h3]
  have h4:=bK4 s p
  cases hv:bTY s p with
  | none=>rw[hv] at h4;exact absurd (h4.symm.trans h2) (by decide)
  | some q=>rw[hv] at h4;have h5:=cLH hv;rw[show oA (atR s p)=_ from h4];exact h5
 ·cases h2
theorem bW2 {x:aR} (h:¬mE x=⟨#[]⟩):cAS x/\mE x=lZ ⟨#[]⟩ (lT x):=by
 unfold mE at h⊢
 split at h
 ·rename_i h1;rw[if_pos h1];exact⟨h1,rfl⟩
 ·exact absurd rfl h
theorem cBS {r:qL} (h:RdP r):RdP (pL r).2/\(pL r).2.1=r.1:=by
 have h0:=yN 8 h
 have h1:=aRI (fun r h=>cDG h) ((eS r 8).1.getD 5 0).toNat h0.1
 have h2:=aRI (fun r h=>cIW h) ((eS r 8).1.getD 6 0).toNat h1.1
 have h3:=aRI (fun r h=>cCC h) ((eS r 8).1.getD 7 0).toNat h2.1
 have h4:=bCE h3.1
 have h5:=zE h4.1
 have h6:=zE h5.1
 have h7:=zE h6.1
 have h8:=zE h7.1
 have h9:=bCE h8.1
 exact⟨h9.1,h9.2.trans (h8.2.trans (h7.2.trans (h6.2.trans (h5.2.trans (h4.2.trans (h3.2.trans (h2.2.trans (h1.2.trans h0.2))))))))⟩
def itF (r:qL):cP×qL:=(((eS r 1).1.getD 0 0,(oA (eS r 1).2).1),(oA (eS r 1).2).2)
def KU (h:List Int) (acc:List cP) (q:List cP×qL):bE×qL:=((h.getD 0 0,acc++q.1),q.2)
def aEF (r:qL):bE×qL:=KU (eS r 2).1 [] (kG itF ((eS r 2).1.getD 1 0).toNat (eS r 2).2)
theorem cJA {r:qL} (h:RdP r):RdP (itF r).2/\(itF r).2.1=r.1:=by
 have h1:=yN 1 h
 have h2:=zE h1.1
 exact⟨h2.1,h2.2.trans h1.2⟩
theorem bGC {r:qL} (h:RdP r):RdP (aEF r).2/\(aEF r).2.1=r.1:=by
 have h0:=yN 2 h
 have h1:=aRI (fun r h=>cJA h) ((eS r 2).1.getD 1 0).toNat h0.1
 exact⟨h1.1,h1.2.trans h0.2⟩
def cA0 (q:bE):Prop:=yX [q.1,(q.2.length:Int)]=true/\q.2.length<=5/\∀a∈q.2,yX [a.1]=true/\yX a.2=true
theorem cEC {s:ByteArray} (a:cP) (p:Nat) (ha:yX [a.1]=true/\yX a.2=true) (h:aFF s p (lZ ⟨#[]⟩ (itP a))):itF (atR s p)=(a,atR s (p+(lZ ⟨#[]⟩ (itP a)).size)):=by
 unfold itP at h⊢
 rw[aAR,aDL,yP] at h⊢
 obtain⟨h1,h2⟩:=kP.1 h
 unfold itF
 rw[aAP (n:=1) ha.1 h1 rfl]
 dsimp only
 rw[vS ha.2 h2,jH,Nat.add_assoc];rfl
theorem bAK {s:ByteArray} {p:Nat} {q:bE} (hq:cA0 q) (h:aFF s p (lZ ⟨#[]⟩ (sD q))):aEF (atR s p)=(q,atR s (p+(lZ ⟨#[]⟩ (sD q)).size)):=by
 unfold sD at h⊢
 rw[aAR] at h⊢
 obtain⟨h1,h2⟩:=kP.1 h
 unfold aEF
 rw[aAP (n:=2) hq.1 h1 rfl]
 dsimp only
 rw[show([q.1,(q.2.length:Int)].getD 1 0).toNat=q.2.length from Int.toNat_natCast _,vJ cEC q.2 _ hq.2.2 h2,jH,Nat.add_assoc];rfl
noncomputable def aCO:Con:=⟨103,aC4,(.cMV aD aC4),[.box 151 ⟨true,aC4,[]⟩],[⟨true,aD,[0,1]⟩],false,none,
 ((fun x=>RdP x):((ByteArray)×(Int×Bool))->Prop),
 ((fun x=>aEF x):((ByteArray)×(Int×Bool))->(bE×((ByteArray)×(Int×Bool))))⟩
def aKJ:T:=mU 0 aY bJ 2 <| lE 3 1 aN 3 1 aN <| oQ (sA bQ) (sA bQ) (.nl 249 aM) (gE 1) <| lE 3 1 bF 3 1 bF <| cX (gZ bQ aY 4) 6 7 (qP (gV bQ 4 4) 8 (dF 0 aY (gV bQ 2 4) bF <| wI (gE 9) <| lE 3 9 aN 3 9 aN <| vC (rZ 249 aM) aA fE (iU 10) <| tH 249 aM bQ bQ (dA bQ 4) 13 <| gF (gZ bQ aY 4) 0 (sA bQ) [fC,dK,gE 10]) <| jB aD aY (aF0 bQ eG (dA bQ 4)) (gV bQ 2 4)) <| jB aD aY (aF0 bQ eG (dA bQ 4)) (gV bQ 2 4)
set_option maxHeartbeats 4000000 in
set_option maxRecDepth 100000 in
theorem aYE:Con.Holds Tryz.prog aCO:=tk ⟨[(2989,1004,iZ 13 8++[.tm 5 0,.sl 7,.bx 1 0,.bx 1 1,.bx 1 2])],[(2977,7011,[],[9])]⟩ aKJ (aC aEZ (aC wW aH)) fun(x:(ByteArray)×(Int×Bool)) hx hp=>by
 dsimp only [aCO] at hx hp⊢
 have hp:RdP x:=hp
 delta aKJ vL rK;refine dR ?_
 have h8:=aCD (r:=x) (show 0<=(2:Int) by decide)
 have hP:=yN 2 hp
 have n5:=aK0 (r:=x) (n:=2) (i:=1)
 have hv0:aEF x=KU (eS x 2).1 [] (kG itF ((eS x 2).1.getD 1 0).toNat (eS x 2).2):=rfl
 simp only[dzx,Int.reduceToNat]
 generalize (eS x 2).1=H at *
 generalize (eS x 2).2=r0 at *
 (repeat' first|intro _|(with_reducible apply And.intro))
 all_goals first|omega|exact hp|skip
 have z5:H.getD 1 (aK tI)=H.getD 1 0:=rfl
 rw[z5]
 refine⟨fun t=>∃k:Nat,t.1=(k:Int)/\(t.2.1:List cP).length=k/\(k:Int)<=max 0 (H.getD 1 0)/\RdP t.2.2/\aEF x=KU H t.2.1 (kG itF ((H.getD 1 0).toNat - k) t.2.2),fun t=>(H.getD 1 0 - (t.1:Int)).toNat,⟨0,rfl,rfl,by omega,hP.1,hv0⟩,fun t _ hI=>?_⟩
 obtain⟨i,a1,r1⟩:Int×(List cP×qL):=t
 obtain⟨k1,rfl,hl,hk,Ag,Ac⟩:=hI
 dsimp only at hl hk Ag Ac⊢
 refine⟨by omega,fun _=>⟨by omega,fun _=>⟨fun hlt=>⟨fun hb=>?_,fun hb=>?_⟩,fun hge=>?_⟩⟩⟩
 ·obtain⟨m,hm⟩:∃m,(H.getD 1 0).toNat - k1=m+1:=⟨(H.getD 1 0).toNat - k1 - 1,by omega⟩
  rw[hm,xK itF m hb] at Ac
  have hs1:=aCD (r:=r1) (show 0<=(1:Int) by decide)
  have hp1:=yN 1 Ag
  (repeat' first|intro _|(with_reducible apply And.intro))
  all_goals first|omega|exact Ag|exact hp1.1|(unfold maxLen;omega)|skip
  refine⟨k1+1,rfl,by(first|omega|(simp only[List.length_append,List.length_cons,List.length_nil];omega)),by omega,(cJA Ag).1,?_⟩
  rw[show(H.getD 1 0).toNat - (k1+1)=m by omega,Ac]
  show KU H a1 ((itF r1).1::_,_)=KU H (a1++[(itF r1).1]) _
  unfold KU;simp only[List.append_assoc,List.singleton_append];rfl
 all_goals
  first|rw[vT itF _ hb] at Ac|rw[show(H.getD 1 0).toNat - k1=0 by omega] at Ac
  rw[Ac];unfold KU;simp only[List.append_nil,kG];rfl
def aNR (r:qL):bT×qL:=(((oA r).1,(oA (oA r).2).1),(oA (oA r).2).2)
def qqF (r:qL):(bE×bE)×qL:=(((aEF r).1,(aEF (aEF r).2).1),(aEF (aEF r).2).2)
def P3 (a:List bT) (b:List aR) (ca cb:List bE) (q:List (bE×bE)×qL):aW×qL:=((a,b,ca++q.1.map Prod.fst,cb++q.1.map Prod.snd),q.2)
def P2 (h:List Int) (a:List bT) (acc:List aR) (q:List aR×qL):aW×qL:=P3 a (acc++q.1) [] [] (kG qqF (h.getD 1 0 - 1).toNat q.2)
def P1 (h:List Int) (acc:List bT) (q:List bT×qL):aW×qL:=P2 h (acc++q.1) [] (kG pL (h.getD 1 0).toNat q.2)
def aZN (r:qL):aW×qL:=P1 (eS r 2).1 [] (kG aNR ((eS r 2).1.getD 0 0).toNat (eS r 2).2)
def cCK:aW:=aK aE
noncomputable def bDO (s:ByteArray):aW×Bool:=if(aZN (atR s 0)).2.2.2=true\/s=⟨#[]⟩\/¬pR (aZN (atR s 0)).1=s then(cCK,false) else((aZN (atR s 0)).1,true)
def qqP (q:bE×bE):List ByteArray:=sD q.1++sD q.2
def aZ8 (a b:List bE):List (bE×bE):=(List.range a.length).map fun i=>(a.getD i (aK aD),b.getD i (aK aD))
theorem bPS {α:Type} (z:α) (a:List α):(List.range a.length).map (fun i=>a.getD i z)=a:=by
 apply List.ext_getElem
 ·rw[List.length_map,List.length_range]
 ·intro i h1 h2
  rw[List.getElem_map,List.getElem_range,aP h2]
theorem cMJ (a b:List bE):(aZ8 a b).map Prod.fst=a:=by
 unfold aZ8;rw[List.map_map];exact bPS _ a
theorem cM2 {a b:List bE} (h:a.length=b.length):(aZ8 a b).map Prod.snd=b:=by
 unfold aZ8;rw[List.map_map,h];exact bPS _ b
theorem cKB (a b:List bE):(List.range a.length).flatMap (qsP a b)=(aZ8 a b).flatMap qqP:=by
 unfold aZ8;rw[List.flatMap_map];rfl
theorem cBA:(l:List aR)->(∀a∈l,mE a=lZ ⟨#[]⟩ (lT a))->lZ ⟨#[]⟩ (l.flatMap stP)=lZ ⟨#[]⟩ (l.flatMap lT)
 | [],_=>rfl
 | x::l,h=>by
  rw[List.flatMap_cons,List.flatMap_cons,aE3,aE3,cBA l fun a ha=>h a (List.mem_cons_of_mem _ ha)]
  congr 1
  show lZ ⟨#[]⟩ [mE x]=_
  rw[aDL,yP,h x List.mem_cons_self]
theorem bYN {q:bE} (h:mR q=true):cA0 q:=by
 have h1:=kW.1 h
 refine⟨bP7 (by omega) (by omega),by omega,fun a ha=>?_⟩
 obtain⟨i,hi,rfl⟩:=List.getElem_of_mem ha
 have h2:=(oR _).1 (h1.2 i hi)
 rw[aP hi] at h2
 exact⟨cIS (by omega),aG0 h2.1⟩
theorem bT9 {s:ByteArray} (a:bT) (p:Nat) (ha:yX a.1=true/\yX a.2=true) (h:aFF s p (lZ ⟨#[]⟩ (uX a))):aNR (atR s p)=(a,atR s (p+(lZ ⟨#[]⟩ (uX a)).size)):=by
 unfold uX at h⊢
 rw[aAR,aDL,yP] at h⊢
 obtain⟨h1,h2⟩:=kP.1 h
 unfold aNR
 rw[vS ha.1 h1]
 dsimp only
 rw[vS ha.2 h2,jH,Nat.add_assoc]
theorem cDQ {s:ByteArray} (a:bE×bE) (p:Nat) (ha:cA0 a.1/\cA0 a.2) (h:aFF s p (lZ ⟨#[]⟩ (qqP a))):qqF (atR s p)=(a,atR s (p+(lZ ⟨#[]⟩ (qqP a)).size)):=by
 unfold qqP at h⊢
 rw[aE3] at h⊢
 obtain⟨h1,h2⟩:=kP.1 h
 unfold qqF
 rw[bAK ha.1 h1]
 dsimp only
 rw[bAK ha.2 h2,jH,Nat.add_assoc]
theorem bZL {x:aW} (hs:∀a∈x.2.1,mE a=lZ ⟨#[]⟩ (lT a)):lZ ⟨#[]⟩ (aAU x)=gR [(x.1.length:Int),(x.2.1.length:Int)]++(lZ ⟨#[]⟩ (x.1.flatMap uX)++(lZ ⟨#[]⟩ (x.2.1.flatMap lT)++lZ ⟨#[]⟩ ((aZ8 x.2.2.1 x.2.2.2).flatMap qqP))):=by
 unfold aAU
 rw[cKB,aE3,aE3,aE3,cBA _ hs,aDL,yP]
theorem bZ8 {x:aW} (h:nQ x=true):(∀a∈x.1,yX a.1=true/\yX a.2=true)/\(∀a∈aZ8 x.2.2.1 x.2.2.2,cA0 a.1/\cA0 a.2)/\yX [(x.1.length:Int),(x.2.1.length:Int)]=true/\(aZ8 x.2.2.1 x.2.2.2).length+1=x.2.1.length/\x.2.2.1.length=x.2.2.2.length/\x.1.length<=5/\x.2.1.length<=4:=by
 obtain⟨q1,q2,q3,q4⟩:=kW.1 h
 refine⟨fun a ha=>?_,fun a ha=>?_,bP7 (by omega) (by omega),?_,by omega,by omega,by omega⟩
 ·obtain⟨i,hi,rfl⟩:=List.getElem_of_mem ha
  have h2:=q2 i hi
  rw[aP hi] at h2
  exact⟨aG0 h2.1,aG0 h2.2⟩
 ·unfold aZ8 at ha
  obtain⟨i,hi,rfl⟩:=List.mem_map.1 ha
  have h2:=q3 i (List.mem_range.1 hi)
  exact⟨bYN h2.1,bYN h2.2⟩
 ·unfold aZ8;rw[List.length_map,List.length_range];omega
theorem bV6 {s:ByteArray} {x:aW} (hb:nQ x=true) (hs:∀a∈x.2.1,cAS a/\mE a=lZ ⟨#[]⟩ (lT a)) (h:aFF s 0 (lZ ⟨#[]⟩ (aAU x))):aZN (atR s 0)=(x,atR s (0+(lZ ⟨#[]⟩ (aAU x)).size)):=by
 obtain⟨f1,f3,f0,fz,fe,_,_⟩:=bZ8 hb
 rw[bZL fun a ha=>(hs a ha).2] at h⊢
 obtain⟨h0,h⟩:=kP.1 h
 obtain⟨h1,h⟩:=kP.1 h
 obtain⟨h2,h3⟩:=kP.1 h
 unfold aZN
 rw[aAP (n:=2) f0 h0 rfl]
 dsimp only
 rw[show([(x.1.length:Int),(x.2.1.length:Int)].getD 0 0).toNat=x.1.length from Int.toNat_natCast _,vJ bT9 x.1 _ f1 h1]
 unfold P1
 dsimp only
 rw[show([(x.1.length:Int),(x.2.1.length:Int)].getD 1 0).toNat=x.2.1.length from Int.toNat_natCast _,vJ (P:=cAS) (fun a p ha h=>bPG ha h) x.2.1 _ (fun a ha=>(hs a ha).1) h2]
 unfold P2
 dsimp only
 rw[show([(x.1.length:Int),(x.2.1.length:Int)].getD 1 0 - 1).toNat=(aZ8 x.2.2.1 x.2.2.2).length from by show((x.2.1.length:Int) - 1).toNat=_;omega,vJ cDQ (aZ8 x.2.2.1 x.2.2.2) _ f3 h3]
 unfold P3
 dsimp only
 rw[cMJ,cM2 fe]
 simp only[List.nil_append,jH,Nat.add_assoc]
theorem bYW {s:ByteArray} {x:aW} (h:pR x=s) (hs:¬s=⟨#[]⟩):nQ x=true/\(∀a∈x.2.1,cAS a/\mE a=lZ ⟨#[]⟩ (lT a))/\lZ ⟨#[]⟩ (aAU x)=s:=by
 unfold pR at h
 split at h
 ·rename_i h1
  refine⟨h1.1,fun a ha=>bW2 fun he=>?_,h⟩
  have h2:=List.all_eq_true.1 h1.2.1 a ha
  unfold isE at h2
  rw[he] at h2
  exact absurd h2 (by decide)
 ·exact absurd h.symm hs
theorem cEA (s:ByteArray):aFF s 0 s:=⟨by omega,fun i _=>by rw[Nat.zero_add]⟩
theorem cG1 {r:qL} (h:RdP r):RdP (aNR r).2/\(aNR r).2.1=r.1:=by
 have h1:=zE h
 have h2:=zE h1.1
 exact⟨h2.1,h2.2.trans h1.2⟩
theorem cMI {r:qL} (h:RdP r):RdP (qqF r).2/\(qqF r).2.1=r.1:=by
 have h1:=bGC h
 have h2:=bGC h1.1
 exact⟨h2.1,h2.2.trans h1.2⟩
theorem bZA {r:qL} (hP:RdP r) (hb:r.2.2=false) (h:(pL r).2.2.2=false):@LE.le Int _ (r.2.1+8) (pL r).2.2.1:=by
 obtain⟨s,q,b⟩:=r
 obtain⟨h0,h1⟩:=hP
 dsimp only at h0 h1 hb
 subst hb
 obtain⟨n,hn⟩:=Int.eq_ofNat_of_zero_le h0
 have e:((s,(q,false)):qL)=atR s n:=by rw[hn];rfl
 rw[e] at h⊢
 have h2:=cCS h
 have e2:(atR s n).2.1=(n:Int):=rfl
 rw[e2]
 exact h2
theorem bWL {s:ByteArray} {V:aW×qL} (h:aZN (atR s 0)=V):bDO s=if V.2.2.2=true\/s=⟨#[]⟩\/¬pR V.1=s then(cCK,false) else(V.1,true):=by unfold bDO;rw[h]
theorem cLV (s:ByteArray):RdP (atR s 0):=⟨by show(0:Int)<=((0:Nat):Int);omega,by show((0:Nat):Int)<=s.size;omega⟩
noncomputable def aLD:Con:=⟨23,.str,(.cMV aE .bool),[.val ⟨false,.str,[]⟩],[⟨true,aE,[2,2,2,2]⟩,⟨false,.bool,[0]⟩],false,none,
 ((fun x=>x.size<=100000000):(ByteArray)->Prop),
 ((fun x=>bDO x):(ByteArray)->(aW×Bool))⟩
def aUX:T:=mU 0 aY (oH aY (xR bJ aX)) 2 <| oQ (sA aO) (sA aO) mZ (gE 1) <| lE 3 1 aN 3 1 aN <| cX (gZ aO aY 2) 4 5 (qP (gV aO 4 2) 6 (eK 1 (gV aO 2 2) 1 (gE 7) <| jM (rZ 138 aL) aA aA (iU 7) (iU 8) <| eF (aIM 138 aL) aO aO (dA aO 2) 9 <| gF (gZ aO aY 2) 0 (sA aO) [cO,cI,gE 8]) <| oQ (sA bV) (sA bV) (.nl 142 aB) (gV aO 2 2) <| lE 3 1 bF 3 1 bF <| cX (gZ bV aY 7) 9 10 (qP (gV bV 4 7) 11 (aBK (gV bV 2 7) <| gD 142 aB (mX aB 12) <| eF (.cN2 142 aB 248) bV bV (dA bV 7) 13 <| gF (gZ bV aY 7) 0 (sA bV) [fC,dK,mK aB 12]) <| xF aEW aEW [bF,dN,dN,gV bV 2 7] <| lE 3 1 bF 3 1 bF <| mH dJ 12 14 15 (qP (fY dJ 5 12) 16 (eK 3 (fY dJ 3 12) 3 (mK aD 17) <| gD 147 aD (mX aD 17) <| tH 147 aD aI aI (cL dJ 1 12) 19 <| gD 147 aD (mX aD 18) <| tH 147 aD aI aI (cL dJ 2 12) 21 <| gF (cB dJ 12) 0 aEW [aD9,qJ,qS,mK aD 18]) <| .ite (fY dJ 5 12) (lW aE (oH aE (pE mZ aB dN dN)) aX) <| xU aH4 .str bJ iQ <| yW 17 aE .bool aE (pE mZ aB dN dN) aX <| aPB 4 aE (uY (dA aO 2) (dA bV 7) dJ 1 12 (cL dJ 2 12)) aMN 18 0 <| yW 19 aE .bool aE (pE mZ aB dN dN) aX <| lW aE (oH aE (uY (dA aO 2) (dA bV 7) dJ 1 12 (cL dJ 2 12))) bD) <| .ite (fY dJ 5 12) (lW aE (oH aE (pE mZ aB dN dN)) aX) <| xU aH4 .str bJ iQ <| yW 16 aE .bool aE (pE mZ aB dN dN) aX <| aPB 4 aE (uY (dA aO 2) (dA bV 7) dJ 1 12 (cL dJ 2 12)) aMN 17 0 <| yW 18 aE .bool aE (pE mZ aB dN dN) aX <| lW aE (oH aE (uY (dA aO 2) (dA bV 7) dJ 1 12 (cL dJ 2 12))) bD) <| xF aEW aEW [bF,dN,dN,gV bV 2 7] <| lE 3 1 bF 3 1 bF <| mH dJ 11 13 14 (qP (fY dJ 5 11) 15 (eK 3 (fY dJ 3 11) 3 (mK aD 16) <| gD 147 aD (mX aD 16) <| tH 147 aD aI aI (cL dJ 1 11) 18 <| gD 147 aD (mX aD 17) <| tH 147 aD aI aI (cL dJ 2 11) 20 <| gF (cB dJ 11) 0 aEW [qS,kA,wX,mK aD 17]) <| .ite (fY dJ 5 11) (lW aE (oH aE (pE mZ aB dN dN)) aX) <| xU aH4 .str bJ iQ <| yW 16 aE .bool aE (pE mZ aB dN dN) aX <| aPB 4 aE (uY (dA aO 2) (dA bV 7) dJ 1 11 (cL dJ 2 11)) aMN 17 0 <| yW 18 aE .bool aE (pE mZ aB dN dN) aX <| lW aE (oH aE (uY (dA aO 2) (dA bV 7) dJ 1 11 (cL dJ 2 11))) bD) <| .ite (fY dJ 5 11) (lW aE (oH aE (pE mZ aB dN dN)) aX) <| xU aH4 .str bJ iQ <| yW 15 aE .bool aE (pE mZ aB dN dN) aX <| aPB 4 aE (uY (dA aO 2) (dA bV 7) dJ 1 11 (cL dJ 2 11)) aMN 16 0 <| yW 17 aE .bool aE (pE mZ aB dN dN) aX <| lW aE (oH aE (uY (dA aO 2) (dA bV 7) dJ 1 11 (cL dJ 2 11))) bD) <| oQ (sA bV) (sA bV) (.nl 142 aB) (gV aO 2 2) <| lE 3 1 bF 3 1 bF <| cX (gZ bV aY 6) 8 9 (qP (gV bV 4 6) 10 (aBK (gV bV 2 6) <| gD 142 aB (mX aB 11) <| eF (.cN2 142 aB 248) bV bV (dA bV 6) 12 <| gF (gZ bV aY 6) 0 (sA bV) [dK,eM,mK aB 11]) <| xF aEW aEW [bF,dN,dN,gV bV 2 6] <| lE 3 1 bF 3 1 bF <| mH dJ 11 13 14 (qP (fY dJ 5 11) 15 (eK 3 (fY dJ 3 11) 3 (mK aD 16) <| gD 147 aD (mX aD 16) <| tH 147 aD aI aI (cL dJ 1 11) 18 <| gD 147 aD (mX aD 17) <| tH 147 aD aI aI (cL dJ 2 11) 20 <| gF (cB dJ 11) 0 aEW [qS,kA,wX,mK aD 17]) <| .ite (fY dJ 5 11) (lW aE (oH aE (pE mZ aB dN dN)) aX) <| xU aH4 .str bJ iQ <| yW 16 aE .bool aE (pE mZ aB dN dN) aX <| aPB 4 aE (uY (dA aO 2) (dA bV 6) dJ 1 11 (cL dJ 2 11)) aMN 17 0 <| yW 18 aE .bool aE (pE mZ aB dN dN) aX <| lW aE (oH aE (uY (dA aO 2) (dA bV 6) dJ 1 11 (cL dJ 2 11))) bD) <| .ite (fY dJ 5 11) (lW aE (oH aE (pE mZ aB dN dN)) aX) <| xU aH4 .str bJ iQ <| yW 15 aE .bool aE (pE mZ aB dN dN) aX <| aPB 4 aE (uY (dA aO 2) (dA bV 6) dJ 1 11 (cL dJ 2 11)) aMN 16 0 <| yW 17 aE .bool aE (pE mZ aB dN dN) aX <| lW aE (oH aE (uY (dA aO 2) (dA bV 6) dJ 1 11 (cL dJ 2 11))) bD) <| xF aEW aEW [bF,dN,dN,gV bV 2 6] <| lE 3 1 bF 3 1 bF <| mH dJ 10 12 13 (qP (fY dJ 5 10) 14 (eK 3 (fY dJ 3 10) 3 (mK aD 15) <| gD 147 aD (mX aD 15) <| tH 147 aD aI aI (cL dJ 1 10) 17 <| gD 147 aD (mX aD 16) <| tH 147 aD aI aI (cL dJ 2 10) 19 <| gF (cB dJ 10) 0 aEW [wX,nJ,qJ,mK aD 16]) <| .ite (fY dJ 5 10) (lW aE (oH aE (pE mZ aB dN dN)) aX) <| xU aH4 .str bJ iQ <| yW 15 aE .bool aE (pE mZ aB dN dN) aX <| aPB 4 aE (uY (dA aO 2) (dA bV 6) dJ 1 10 (cL dJ 2 10)) aMN 16 0 <| yW 17 aE .bool aE (pE mZ aB dN dN) aX <| lW aE (oH aE (uY (dA aO 2) (dA bV 6) dJ 1 10 (cL dJ 2 10))) bD) <| .ite (fY dJ 5 10) (lW aE (oH aE (pE mZ aB dN dN)) aX) <| xU aH4 .str bJ iQ <| yW 14 aE .bool aE (pE mZ aB dN dN) aX <| aPB 4 aE (uY (dA aO 2) (dA bV 6) dJ 1 10 (cL dJ 2 10)) aMN 15 0 <| yW 16 aE .bool aE (pE mZ aB dN dN) aX <| lW aE (oH aE (uY (dA aO 2) (dA bV 6) dJ 1 10 (cL dJ 2 10))) bD
set_option maxHeartbeats 8000000 in
set_option maxRecDepth 100000 in
theorem bMG:Con.Holds Tryz.prog aLD:=tk ⟨[(2987,1002,iZ 19 14++[.tm 7 0,.sl 13,.bx 6 0,.bx 6 1,.bx 6 2]),(2977,5007,iZ 31 20++[.dr 7,.tm 10 0,.sl 14,.bx 6 0,.bx 6 1,.bx 6 2]),(2967,21012,iZ 57 46++[.dr 10,.tm 11 0,.sl 15,.sl 16,.bx 6 0,.bx 6 1,.bx 6 2]),(2967,9011,iZ 57 46++[.dr 10,.tm 11 0,.sl 15,.sl 16,.bx 6 0,.bx 6 1,.bx 6 2]),(2977,2006,iZ 31 20++[.dr 7,.tm 10 0,.sl 14,.bx 6 0,.bx 6 1,.bx 6 2]),(2967,10011,iZ 57 46++[.dr 10,.tm 11 0,.sl 15,.sl 16,.bx 6 0,.bx 6 1,.bx 6 2]),(2967,4010,iZ 57 46++[.dr 10,.tm 11 0,.sl 15,.sl 16,.bx 6 0,.bx 6 1,.bx 6 2])],[(2975,7009,[],[17,18])]⟩ aUX (aC aEZ (aC wW (aC aXU (aC aYE (aC aL8 aH))))) fun(x:ByteArray) hx hp=>by
 dsimp only [aLD] at hx hp⊢
 have hz:x.size<=100000000:=hp
 have hp0:=cLV x
 delta aUX vL rK aCN aCO aBN;refine dR ?_
 have e0:((x,((0:Int),false)):qL)=atR x 0:=rfl
 rw[e0]
 have h8:=aCD (r:=atR x 0) (show 0<=(2:Int) by decide)
 have hP:=yN 2 hp0
 have n0:=aK0 (r:=atR x 0) (n:=2) (i:=0)
 have n1:=aK0 (r:=atR x 0) (n:=2) (i:=1)
 have hv0:aZN (atR x 0)=P1 (eS (atR x 0) 2).1 [] (kG aNR ((eS (atR x 0) 2).1.getD 0 0).toNat (eS (atR x 0) 2).2):=rfl
 have hx0:(atR x 0).1=x:=rfl
 obtain⟨W,hW⟩:∃W,W=aZN (atR x 0):=⟨_,rfl⟩
 have hI:=bWL hW.symm
 rw[<-hW] at hv0
 clear hW
 simp only[dzx,Int.reduceToNat]
 generalize atR x 0=ra at *
 generalize (eS ra 2).1=H at *
 generalize (eS ra 2).2=r0 at *
 (repeat' first|intro _|(with_reducible apply And.intro))
 all_goals first|omega|exact hp0|skip
 have z0:H.getD 0 (aK tI)=H.getD 0 0:=rfl
 have z1:H.getD 1 (aK tI)=H.getD 1 0:=rfl
 rw[z0,z1]
 refine⟨fun t=>∃k:Nat,t.1=(k:Int)/\(t.2.1:List bT).length=k/\(k:Int)<=max 0 (H.getD 0 0)/\RdP t.2.2/\t.2.2.1=x/\W=P1 H t.2.1 (kG aNR ((H.getD 0 0).toNat - k) t.2.2),fun t=>(H.getD 0 0 - (t.1:Int)).toNat,⟨0,rfl,rfl,by omega,hP.1,hP.2.trans hx0,hv0⟩,fun t _ hJ=>?_⟩
 obtain⟨i,a1,r1⟩:Int×(List bT×qL):=t
 obtain⟨k1,rfl,hl,hk,Ag,hx1,Ac⟩:=hJ
 dsimp only at hl hk Ag hx1 Ac⊢
 refine⟨by omega,fun _=>⟨by omega,fun _=>⟨fun hlt=>⟨fun hb=>?_,fun hb=>?_⟩,fun hge=>?_⟩⟩⟩
 ·obtain⟨m,hm⟩:∃m,(H.getD 0 0).toNat - k1=m+1:=⟨(H.getD 0 0).toNat - k1 - 1,by omega⟩
  rw[hm,xK aNR m hb] at Ac
  have hp1:=zE Ag
  have A6:=cG1 Ag
  (repeat' first|intro _|(with_reducible apply And.intro))
  all_goals first|omega|exact Ag|exact hp1.1|(unfold maxLen;omega)|skip
  refine⟨k1+1,rfl,by(first|omega|(simp only[List.length_append,List.length_cons,List.length_nil];omega)),by omega,A6.1,A6.2.trans hx1,?_⟩
  rw[show(H.getD 0 0).toNat - (k1+1)=m by omega,Ac]
  show P1 H a1 ((aNR r1).1::_,_)=P1 H (a1++[(aNR r1).1]) _
  unfold P1;simp only[List.append_assoc,List.singleton_append];rfl
 all_goals
  have D0:W=P2 H a1 [] (kG pL (H.getD 1 0).toNat r1):=by
   first|rw[vT aNR _ hb] at Ac|rw[show(H.getD 0 0).toNat - k1=0 by omega] at Ac
   rw[Ac];unfold P1;simp only[List.append_nil,kG]
  clear Ac
  refine⟨fun t=>∃k:Nat,t.1=(k:Int)/\(t.2.1:List aR).length=k/\((k:Int)<=max 0 (H.getD 1 0)/\8 * k<=x.size+8/\(t.2.2.2.2=false->8 * (k:Int)<=t.2.2.2.1))/\RdP t.2.2/\t.2.2.1=x/\W=P2 H a1 t.2.1 (kG pL ((H.getD 1 0).toNat - k) t.2.2),fun t=>(H.getD 1 0 - (t.1:Int)).toNat,
   ⟨0,rfl,rfl,⟨by omega,by omega,fun _=>Ag.1⟩,Ag,hx1,D0⟩,fun t _ hJ=>?_⟩
  obtain⟨i,a2,r2⟩:Int×(List aR×qL):=t
  obtain⟨k2,rfl,hl2,⟨hk2,hs2,hs3⟩,A4,hx2,Ak⟩:=hJ
  dsimp only at hl2 hk2 hs2 hs3 A4 hx2 Ak⊢
  refine⟨by omega,fun _=>⟨by omega,fun _=>⟨fun hlt=>⟨fun hb=>?_,fun hb=>?_⟩,fun hge=>?_⟩⟩⟩
  ·obtain⟨m,hm⟩:∃m,(H.getD 1 0).toNat - k2=m+1:=⟨(H.getD 1 0).toNat - k2 - 1,by omega⟩
   rw[hm,xK pL m hb] at Ak
   have A6:=cBS A4
   have M4:=fun h=>bZA A4 hb h
   have q1:=hs3 hb
   have q2:r2.2.1<=(r2.1.size:Int):=A4.2
   rw[hx2] at q2
   (repeat' first|intro _|(with_reducible apply And.intro))
   all_goals first|omega|exact A4|(unfold maxLen;omega)|skip
   refine⟨k2+1,rfl,by(first|omega|(simp only[List.length_append,List.length_cons,List.length_nil];omega)),⟨by omega,by omega,fun h=>by have h4:=M4 h;exact Int.le_trans (by omega) h4⟩,A6.1,A6.2.trans hx2,?_⟩
   rw[show(H.getD 1 0).toNat - (k2+1)=m by omega,Ak]
   show P2 H a1 a2 ((pL r2).1::_,_)=P2 H a1 (a2++[(pL r2).1]) _
   unfold P2;simp only[List.append_assoc,List.singleton_append]
  all_goals
   have Dz:W=P3 a1 a2 [] [] (kG qqF (H.getD 1 0 - 1).toNat r2):=by
    first|rw[vT pL _ hb] at Ak|rw[show(H.getD 1 0).toNat - k2=0 by omega] at Ak
    rw[Ak];unfold P2;simp only[List.append_nil,kG]
   clear Ak
   refine⟨fun t=>∃k:Nat,t.1=(k:Int)+1/\(t.2.1:List bE).length=k/\(t.2.2.1:List bE).length=k/\(k:Int)<=max 0 (H.getD 1 0 - 1)/\RdP t.2.2.2/\t.2.2.2.1=x/\W=P3 a1 a2 t.2.1 t.2.2.1 (kG qqF ((H.getD 1 0 - 1).toNat - k) t.2.2.2),fun t=>(H.getD 1 0 - (t.1:Int)).toNat,
    ⟨0,rfl,rfl,rfl,by omega,A4,hx2,Dz⟩,fun t _ hJ=>?_⟩
   obtain⟨i,c1,c2,r3⟩:Int×(List bE×(List bE×qL)):=t
   obtain⟨k3,rfl,Cl,hl4,hk3,A3,hx3,Aj⟩:=hJ
   dsimp only at Cl hl4 hk3 A3 hx3 Aj⊢
   refine⟨by omega,fun _=>⟨by omega,fun _=>⟨fun hlt=>⟨fun hb=>?_,fun hb=>?_⟩,fun hge=>?_⟩⟩⟩
   ·obtain⟨m,hm⟩:∃m,(H.getD 1 0 - 1).toNat - k3=m+1:=⟨(H.getD 1 0 - 1).toNat - k3 - 1,by omega⟩
    rw[hm,xK qqF m hb] at Aj
    have hp1:=bGC A3
    have A6:=cMI A3
    (repeat' first|intro _|(with_reducible apply And.intro))
    all_goals first|omega|exact A3|exact hp1.1|(unfold maxLen;omega)|skip
    refine⟨k3+1,rfl,by(first|omega|(simp only[List.length_append,List.length_cons,List.length_nil];omega)),by(first|omega|(simp only[List.length_append,List.length_cons,List.length_nil];omega)),by omega,A6.1,A6.2.trans hx3,?_⟩
    rw[show(H.getD 1 0 - 1).toNat - (k3+1)=m by omega,Aj]
    show P3 a1 a2 c1 c2 ((qqF r3).1::_,_)=P3 a1 a2 (c1++[(qqF r3).1.1]) (c2++[(qqF r3).1.2]) _
    unfold P3;simp only[List.append_assoc,List.singleton_append,List.map_cons];rfl
   all_goals
    have Dy:W=((a1,a2,c1,c2),r3):=by
     first|rw[vT qqF _ hb] at Aj|rw[show(H.getD 1 0 - 1).toNat - k3=0 by omega] at Aj
     rw[Aj];unfold P3;simp only[List.append_nil,kG,List.map_nil]
    clear Aj
    rw[Dy] at hI
    rw[hI]
    refine⟨fun h=>?_,fun h=>⟨fun h2=>?_,fun h2 _=>⟨fun h3=>?_,fun h3=>?_⟩⟩⟩
    ·rw[if_pos (.inl h)];rfl
    ·rw[if_pos (.inr (.inl (by first|exact h2|exact Classical.not_not.1 h2)))];rfl
    ·rw[if_pos (.inr (.inr (by first|exact h3|exact Classical.not_not.1 h3)))];rfl
    ·rw[if_neg (fun hh=>hh.elim (fun a=>Bool.noConfusion (a.symm.trans h)) (fun hh=>hh.elim h2 (fun a=>a (by first|exact h3|exact Classical.not_not.1 h3))))]
theorem cI9 {p:aW} (h:¬pR p=⟨#[]⟩):bDO (pR p)=(p,true):=by
 obtain⟨f1,f2,f3⟩:=bYW rfl h
 have h1:=bV6 (s:=pR p) f1 f2 (by rw[f3];exact cEA _)
 rw[bWL h1,if_neg]
 dsimp only
 rintro(h2|h2|h2)
 ·cases h2
 ·exact h h2
 ·exact h2 rfl
theorem cGV {s:ByteArray} (h:(bDO s).2=true):pR (bDO s).1=s:=by
 unfold bDO at h⊢
 split at h
 ·cases h
 ·rename_i h2
  rw[if_neg h2]
  exact Classical.not_not.1 fun he=>h2 (.inr (.inr he))
noncomputable section
set_option maxRecDepth 100000
def bN5:Con:=⟨33,(.cMV aNA tI),tI,[.val ⟨false,aNA,[]⟩,.val ⟨false,tI,[]⟩],[⟨false,tI,[0]⟩],false,none,
 ((fun x=>0<=x.2/\x.2<=1000/\x.1.length<=1048576):(bX×Int)->Prop),
 ((fun _=>aK tI):(bX×Int)->(Int))⟩
def cFO:T:=gL 5 jV (fQ aV) <| cX (iX aV) 1 2 (bZ 5 jV aV (fQ aV) (iX aV) <| aGX .u8 .i64 3 aD7) <| mL pY (iX aV) 37 <| gL 5 jV (fQ aV) <| mL pY dY 11 <| lR jT eG 5 <| mL aDA cQ 256 <| cF 7
theorem cE1:Rl bN5 (fun x r=>0<=r/\r<=255:(bX×Int)->(Int)->Prop):=rk false ⟨[],[]⟩ cFO aH fun(x:bX×Int) hx hp=>by
 dsimp only [bN5] at hx hp⊢
 obtain⟨l,i⟩:=x
 obtain⟨h1,h2,h3⟩:0<=i/\i<=1000/\List.length l<=1048576:=hp
 have hel:=hx.1.2
 delta cFO;refine dR ?_
 refine dQ ?_
 refine fun _=>⟨fun hlt=>⟨⟨h1,hlt⟩,fun _ _=>?_⟩,fun hge=>?_⟩
 ·have hk:i.toNat<List.length l:=by omega
  have hb:(0:Int)<=(l[i.toNat]:Int)/\(l[i.toNat]:Int)<=255:=hel _ (List.getElem_mem hk)
  rw[aP hk,aBD (by show(-9223372036854775808:Int)<=_/\_<=(9223372036854775807:Int);omega)]
  exact hb
 ·have hz:=tmB (a:=i * 37+(List.length l:Int) * 11) (n:=256) (by omega) (by omega)
  (repeat' first|intro _|(with_reducible apply And.intro))
  all_goals first|omega|skip
def cKU:(bX×Int)->(Int):=Classical.choose cE1
def cB5:Con:={ bN5 with fn:=cKU }
theorem cL4:Con.Holds Tryz.prog cB5:=(Classical.choose_spec cE1).2
def aRC:Con:=⟨27,(.cMV aNA tI),aA,[.val ⟨false,aNA,[]⟩,.val ⟨false,tI,[]⟩],[⟨false,aA,[2]⟩],false,none,
 ((fun x=>x.1.length<=1048576):(bX×Int)->Prop),
 ((fun _=>aK aA):(bX×Int)->(List Int))⟩
def bJM:T:=pX aM aA bA <| xA tI tI (kV 1) (fX 60) <| jL 2 (aD8 (iX aV) aN 3 (dF 0 aV (fQ aV) (kV 1) <| fR aDA dY (iX aV) <| kO 3 tI 5 <| lS 3 8 aA aA (iA 1) 6 <| eJ aA 1 0 aA cM cY) (iA 1)) (iA 1)
theorem bKM:Rl aRC (fun x r=>List.length r<=60:(bX×Int)->(List Int)->Prop):=rk false ⟨[(2991,1001,[.dr 7,.tm 6 0,.on 5,.sl 1])],[]⟩ bJM (aC cL4 aH) fun(x:bX×Int) hx hp=>by
 dsimp only [aRC] at hx hp⊢
 obtain⟨l,n⟩:=x
 have h3:List.length l<=1048576:=hp
 delta bJM cB5 bN5;refine dR ?_
 refine dQ ?_
 refine⟨fun s=>∃k:Nat,k<=60/\s.1=(k:Int)/\List.length s.2=k,fun s=>60 - (s.1:Int).toNat,⟨0,Nat.zero_le _,rfl,rfl⟩,fun s _ hI=>?_⟩
 obtain⟨j,acc⟩:=s
 obtain⟨k,hk,e1,e2⟩:=hI
 change Int at j
 change j=(k:Int) at e1
 subst e1
 change List.length acc=k at e2
 try dsimp only
 try refine dQ ?_
 refine⟨fun hlt=>⟨fun h0=>⟨⟨by omega,by omega,h3⟩,fun _=>⟨by omega,fun _ _=>⟨⟨by omega,by unfold maxLen;omega⟩,fun _=>⟨by omega,fun _=>⟨⟨k+1,by omega,rfl,by first|omega|(rw[List.length_append,e2];rfl)⟩,by omega⟩⟩⟩⟩⟩,fun _=>by omega⟩,fun _=>by omega⟩
def bK6:(bX×Int)->(List Int):=Classical.choose bKM
def bJD:Con:={ aRC with fn:=bK6 }
theorem cAI:Con.Holds Tryz.prog bJD:=(Classical.choose_spec bKM).2
end
set_option maxRecDepth 100000
theorem txt_iff {p:aW} (h:KP p):pR p=⟨#[]⟩↔nQ p=false:=by
 constructor
 ·intro he
  cases hb:nQ p with
  | false=>rfl
  | true=>exact absurd he (cI2 hb h.all)
 ·intro hb
  unfold pR
  rw[if_neg (by rw[hb];intro hh;cases hh.1)]
noncomputable def bM1:Con:=⟨29,(.cMV aE aA),aE,[.val ⟨true,aE,[]⟩,.val ⟨false,aA,[]⟩],[⟨true,aE,[0,0,0,0]⟩],true,none,
 ((fun x=>bC aE x.1<=100000000):(aW×bX)->Prop),
 ((fun x=>aCL x.1 (List.take 2000 x.2)):(aW×bX)->(aW))⟩
def t_s_Run:T:=.call 0 (.p1 aE aA (.Z 0)) <|.loop (.cMV tI aE) (.cMX tI aE (.ci .i64 0) (.Z 1)) <|
 .cMW (.cMZ 3 tI) (prA (.cMV aE aA) 1 (.Z 0)) <|
 .cMW (.cmp .lss .i64) (.cMX tI tI (.p1 tI aE (.Z 2)) (.Z 3)) <|
 .ite (.Z 4) (
  .cMW (.cmp .lss .i64) (.cMX tI tI (.p1 tI aE (.Z 2)) (.ci .i64 2000)) <|
  .ite (.Z 5) (
   .cMW (.cN0 3 tI) (.cMX aA tI (prA (.cMV aE aA) 1 (.Z 0)) (.p1 tI aE (.Z 2))) <|
   .call 1 (.cMX aE tI (prA (.cMV tI aE) 1 (.Z 2)) (.Z 6)) <|
   .cMW (.ar .add .i64) (.cMX tI tI (.p1 tI aE (.Z 2)) (.ci .i64 1)) <|
   .cMY 0 (.cMX tI aE (.Z 8) (.Z 7))) (
   .ret (prA (.cMV tI aE) 1 (.Z 2)))) (
  .ret (prA (.cMV tI aE) 1 (.Z 2)))
theorem h_s_Run:Con.Holds Tryz.prog bM1:=tk ⟨[(2991,1002,[.dr 8,.dr 7,.dr 2,.dr 0,.tm 6 0,.sl 7,.nb 7,.sl 8,.nq 8,.nb 8,.sl 9,.nq 9,.nb 9,.sl 10,.nq 10,.nb 10])],[(2983,7006,[],[7,8,9,10])]⟩ t_s_Run (aC aPT (aC bD0 aH)) fun(x:aW×bX) hx hp=>by
 dsimp only [bM1] at hx hp⊢
 obtain⟨p,l⟩:=x
 have hp:bC aE p<=100000000:=hp
 delta t_s_Run aDW aOU;refine dR ?_
 refine dQ ?_
 refine⟨by omega,fun _=>?_⟩
 have hfin:∀k,(k=min 2000 (List.length l))->aCL p (List.take k l)=aCL p (List.take 2000 l):=fun k hk=>by
  subst hk
  by_cases h:List.length l<=2000
  ·rw[Nat.min_eq_right h,List.take_length,List.take_of_length_le h]
  ·rw[Nat.min_eq_left (by omega)]
 refine eY (fun k=>((k:Int),aCL p (List.take k l))) (min 2000 (List.length l)) rfl fun I μ k hk _ go=>?_
 dsimp only
 refine dQ ?_
 have hz:=bC4 (p:=p) l k (by omega) hp
 by_cases hk':k<List.length l
 ·simp only[aP hk']
  (repeat' first|intro _|(refine go _ ?_ ?_ ?_)|(refine go _ ?_ ?_)|(with_reducible apply And.intro))
  all_goals first|omega|exact hz|(rw[aQ1 hk'];rfl)|exact hfin _ (by omega)|skip
 ·(repeat' first|intro _|(refine go _ ?_ ?_ ?_)|(refine go _ ?_ ?_)|(with_reducible apply And.intro))
  all_goals first|omega|exact hfin _ (by omega)|skip
noncomputable def rF:Con:=⟨4,(.slice 5 (.int .u8)),.bool,[.val ⟨false,(.slice 5 (.int .u8)),[]⟩],[⟨false,.bool,[0]⟩],false,none,
 ((fun _=>True):(List Int)->Prop),
 ((fun _=>true):(List Int)->(Bool))⟩
def t_w_FnKeeps:T:=.call 0 (.Z 0) <|.ite (.Z 1) (.ret (.cb true)) (.call 1 (.Z 0) <|.call 2 (.Z 2) <|.call 3 (.Z 3) <|
 .cMW (.seq true) (.cMX .str .str (.Z 3) (.cs ⟨#[]⟩)) <|
 .call 4 (.Z 2) <|
 .cMW (.eqv true .bool) (.cMX .bool .bool (.Z 5) (.Z 6)) <|
 .ite (.Z 7) (
  .ret (.cb false)) (
  .cMW (.seq true) (.cMX .str .str (.Z 3) (.cs ⟨#[]⟩)) <|
  .cMW (.eqv true .bool) (.cMX .bool .bool (prA (.cMV aE .bool) 1 (.Z 4)) (.Z 8)) <|
  .ite (.Z 9) (
   .ret (.cb false)) (
   .ite (prA (.cMV aE .bool) 1 (.Z 4)) (
    .call 5 (.cMX aE aE (.p1 aE .bool (.Z 4)) (.Z 2)) <|
    .cMW .not (.Z 10) <|
    .ite (.Z 11) (
     .ret (.cb false)) (
     .call 6 (.Z 0) <|
     .call 3 (.Z 12) <|
     .ite (prA (.cMV aE .bool) 1 (.Z 13)) (
      .call 2 (.p1 aE .bool (.Z 13)) <|
      .cMW (.seq true) (.cMX .str .str (.Z 14) (.Z 12)) <|
      .ite (.Z 15) (
       .ret (.cb false)) (
       .cMW (.cMZ 142 aB) (pjA aE 1 (.Z 2)) <|
       .call 7 (.cMX (.slice 5 (.int .u8)) tI (.Z 0) (.Z 16)) <|
       .cMW .not (prA (.cMV aE .bool) 1 (.Z 4)) <|
       .ite (.Z 18) (
        .ret (.cb true)) (
        .call 8 (.cMX aE aA (.p1 aE .bool (.Z 4)) (.Z 17)) <|
        .call 9 (.cMX aE aA (.Z 2) (.Z 17)) <|
        .call 5 (.cMX aE aE (.Z 19) (.Z 20)) <|
        .ret (.Z 21)))) (
      .cMW (.cMZ 142 aB) (pjA aE 1 (.Z 2)) <|
      .call 7 (.cMX (.slice 5 (.int .u8)) tI (.Z 0) (.Z 14)) <|
      .cMW .not (prA (.cMV aE .bool) 1 (.Z 4)) <|
      .ite (.Z 16) (
       .ret (.cb true)) (
       .call 8 (.cMX aE aA (.p1 aE .bool (.Z 4)) (.Z 15)) <|
       .call 9 (.cMX aE aA (.Z 2) (.Z 15)) <|
       .call 5 (.cMX aE aE (.Z 17) (.Z 18)) <|
       .ret (.Z 19))))) (
    .call 6 (.Z 0) <|
    .call 3 (.Z 10) <|
    .ite (prA (.cMV aE .bool) 1 (.Z 11)) (
     .call 2 (.p1 aE .bool (.Z 11)) <|
     .cMW (.seq true) (.cMX .str .str (.Z 12) (.Z 10)) <|
     .ite (.Z 13) (
      .ret (.cb false)) (
      .cMW (.cMZ 142 aB) (pjA aE 1 (.Z 2)) <|
      .call 7 (.cMX (.slice 5 (.int .u8)) tI (.Z 0) (.Z 14)) <|
      .cMW .not (prA (.cMV aE .bool) 1 (.Z 4)) <|
      .ite (.Z 16) (
       .ret (.cb true)) (
       .call 8 (.cMX aE aA (.p1 aE .bool (.Z 4)) (.Z 15)) <|
       .call 9 (.cMX aE aA (.Z 2) (.Z 15)) <|
       .call 5 (.cMX aE aE (.Z 17) (.Z 18)) <|
       .ret (.Z 19)))) (
     .cMW (.cMZ 142 aB) (pjA aE 1 (.Z 2)) <|
     .call 7 (.cMX (.slice 5 (.int .u8)) tI (.Z 0) (.Z 12)) <|
     .cMW .not (prA (.cMV aE .bool) 1 (.Z 4)) <|
     .ite (.Z 14) (
      .ret (.cb true)) (
      .call 8 (.cMX aE aA (.p1 aE .bool (.Z 4)) (.Z 13)) <|
      .call 9 (.cMX aE aA (.Z 2) (.Z 13)) <|
      .call 5 (.cMX aE aE (.Z 15) (.Z 16)) <|
      .ret (.Z 17)))))))
set_option maxHeartbeats 1000000 in
theorem h_w_FnKeeps:Con.Holds Tryz.prog rF:=tk ⟨[],[(2969,168018,[],[24]),(2969,72016,[],[24]),(2969,80016,[],[24]),(2969,32014,[],[24])]⟩ t_w_FnKeeps (aC cGZ (aC aXL (aC aL8 (aC bMG (aC aL1 (aC bMM (aC aYG (aC cAI (aC cGO (aC h_s_Run aH)))))))))) fun(x:List Int) hx hp=>by
 dsimp only [rF] at hx hp⊢
 delta t_w_FnKeeps bO1 aKC yL aBN aLD aD1 aLL aKO yM bJD aRC bM0 bM1;refine dR ?_
 refine dQ ?_
 refine⟨fun _=>trivial,fun hb0=>⟨by omega,fun _ _=>?_⟩⟩
 have hx':List.length x<=1048576:=by omega
 have q:=(aXJ x hx hx').2
 have qr:=(aY0 x hx hx').2
 generalize yE x=p at q⊢
 generalize yC x=t at qr⊢
 obtain⟨z1,kp⟩:=q
 try dsimp only at z1 kp qr⊢
 have e60:(pR p).size<=60000:=by
  unfold pR
  split
  ·rename_i h;exact h.2.2
  ·exact Nat.zero_le _
 have ht:=txt_iff kp
 have hc:=fun h=>cGV (s:=t) h
 generalize bK6 (x,((List.length p.2.1:Nat):Int))=l
 have hq:eqB (aCL p (List.take 2000 l)) (aCL p (List.take 2000 l))=true:=qW.2 rfl
 have hT:(bDO t).2=true->¬(decide (pR (bDO t).1=t) != true)=true:=fun h=>by rw[decide_eq_true (hc h)];decide
 have hF:¬false=true:=by decide
 refine⟨by omega,fun _=>?_⟩
 cases hb:nQ p with
 | true =>
  have hne:¬pR p=⟨#[]⟩:=fun h=>by rw[ht.1 h] at hb;cases hb
  have hA:aES Ty.bool (false != true) true=true:=by decide
  have hB:aES Ty.bool true (false != true)=true:=by decide
  have hE:eqB p p=true:=qW.2 rfl
  rw[cI9 hne,decide_eq_false hne]
  dsimp only
  (repeat' first|intro _|(with_reducible apply And.intro))
  all_goals first|omega|exact hq|exact True.intro|exact absurd hA (by with_reducible assumption)|exact absurd hB (by with_reducible assumption)|exact Bool.noConfusion (show false=true by with_reducible assumption)|exact absurd (hc (by with_reducible assumption)) (by with_reducible assumption)|exact Bool.noConfusion (hE.symm.trans (by with_reducible assumption))|skip
 | false =>
  have he:pR p=⟨#[]⟩:=ht.2 hb
  have Cg:bDO (⟨#[]⟩:ByteArray)=(cCK,false):=by unfold bDO;rw[if_pos (.inr (.inl rfl))]
  have hA:aES Ty.bool (true != true) false=true:=by decide
  have hB:aES Ty.bool false (true != true)=true:=by decide
  rw[he,Cg,decide_eq_true rfl]
  dsimp only
  (repeat' first|intro _|(with_reducible apply And.intro))
  all_goals first|omega|exact True.intro|exact absurd hA (by with_reducible assumption)|exact absurd hB (by with_reducible assumption)|exact Bool.noConfusion (show false=true by with_reducible assumption)|exact absurd (hc (by with_reducible assumption)) (by with_reducible assumption)|skip
theorem fnKeeps_walk (w:World) (p0:Option Addr) (len0 cap0:Nat) (l0:List (Ty.D (.int .u8))) (h0:tC (Ty.n (.int .u8)) (rd (.int .u8) w) w p0 len0 cap0 l0) :
  Calls Tryz.prog 4 #[.slice p0 len0 cap0] w fun e w'=>e = .returned (.bool true)/\Below w.heap.size w w':=by
 have hA:iD w rF.ams [.slice p0 len0 cap0] (gA (rF.ams.map (·.mv.t)) (SV.as _ ⟨rF.argTy,l0⟩)):=by
  have e:SV.as (dI (rF.ams.map (·.mv.t))) ⟨rF.argTy,l0⟩=l0:=SV.as_self _ _
  rw[e]
  exact(iD.cons rfl rfl (tC.toRd (e:=5) h0) iD.nil)
 have hg:=h_w_FnKeeps.givesL rfl (x:=l0) trivial (kS.okD (kS.of_rd (tC.toRd (e:=5) h0))) hA rfl (bGH _)
 have e:SV.as (dI (rF.rms.map (·.t))) ⟨rF.resTy,rF.fn l0⟩=true:=SV.as_self _ _
 rw[e] at hg
 refine hg.mono fun e w' hh=>?_
 clear hg
 obtain⟨rs,bl,he,ho,hn,hb,bel⟩:=hh
 obtain⟨r0,rs0,b0,bb0,rfl,rfl,k0,ho⟩:=aK9.inv ho
 obtain⟨rfl,rfl⟩:=ho
 have e0:=k0.bool
 exact⟨he.trans (congrArg (fun l=>Ending.returned (bC0 l)) (congr (congrArg List.cons e0) rfl)),bel⟩
end Go.Proofs.YtfmfeplebgbpmaaGreat
