/- Read2: lemmas. No conditions. -/
import Derived.Test.YtfmfeplebgbpmaaGreatPrgC
namespace Go.Proofs.YtfmfeplebgbpmaaGreat
open Go.ChangeShapes Go.WideShapes Go.ChangeAt Go.RowKit Go.Deep
set_option linter.unusedVariables false
set_option linter.unusedSimpArgs false
theorem bWV {n:Int} {i:Nat} {m:Int} (h:(aC0 n)[i]?=some m):m=(i:Int):=by
 unfold aC0 at h
 rw[List.getElem?_map] at h
 obtain⟨j,hj,e⟩:=Option.map_eq_some_iff.1 h
 have:=List.getElem?_eq_some_iff.1 hj
 obtain⟨h1,h2⟩:=this
 rw[List.getElem_range] at h2
 omega
theorem cDC {n m:Int} (h:0<=m/\m<n):m∈aC0 n:=by
 unfold aC0
 exact List.mem_map.2 ⟨m.toNat,List.mem_range.2 (by omega),by omega⟩
theorem bNY {κ m mi:Int} {pl:List eP} {k:Nat} (he:mOf κ pl=aC0 mi) (hk:k<pl.length) (hi:pl[k]=(κ,m)):((mOf κ (pl.take k)).length:Int)=m:=by
 have e1:pl=(pl.take k++[pl[k]])++pl.drop (k+1):=by rw[oT hk,List.take_append_drop]
 have h1:(mOf κ pl)[(mOf κ (pl.take k)).length]?=some m:=by
  conv=>lhs;lhs;rw[e1]
  rw[aHN,aHN,hi,bCN,if_pos rfl,List.append_assoc,List.getElem?_append_right (Nat.le_refl _),Nat.sub_self];rfl
 rw[he] at h1
 exact(bWV h1).symm
theorem cK7 {κ m mi:Int} {pl:List eP} {k:Nat} (he:mOf κ pl=aC0 mi) (hm:(κ,m)∈pl.take k):m<((mOf κ (pl.take k)).length:Int):=by
 have h1:=bNU.2 hm
 obtain⟨i,hi,e⟩:=List.mem_iff_getElem.1 h1
 have h2:(mOf κ pl)[i]?=some m:=by
  conv=>lhs;lhs;rw[<-List.take_append_drop k pl]
  rw[aHN,List.getElem?_append_left hi,List.getElem?_eq_getElem hi,e]
 rw[he] at h2
 have:=bWV h2
 omega
structure PTm (P:aW) (n:Nat) (tm:Nat->eP->Int):Prop where
 inc:∀s,s<n->∀a b (hb:b<(uU P s).length) (hab:a<b),tm s ((uU P s)[a]'(Nat.lt_trans hab hb))<tm s (uU P s)[b]
 x1:∀s,s+1<n->∀m:Int,0<=m->m<(P.1.length:Int)->tm s (3,m)<tm (s+1) (1,m)
 x3:∀s,s+1<n->∀m:Int,0<=m->m+1<(P.1.length:Int)->tm (s+1) (1,m)<tm s (3,m+1)
 x4:∀s,s+1<n->∀m:Int,0<=m->m<(P.1.length:Int)->tm (s+1) (7,m)<tm s (4,m)
 x7:∀s,s+1<n->∀m:Int,0<=m->m+1<(P.1.length:Int)->tm s (4,m)<tm (s+1) (7,m+1)
 x8:∀s t,s<n->t<n->∀i:eP,1<=i.1/\i.1<8->0<=i.2/\i.2<(P.1.length:Int)->∀m,tm s i<tm t (8,m)
 o1:∀s,s+1<n->mOf 1 (uU P (s+1))=aC0 (P.1.length:Int)
 o3:∀s,s+1<n->mOf 3 (uU P s)=aC0 (P.1.length:Int)
 o4:∀s,s+1<n->mOf 4 (uU P s)=aC0 (P.1.length:Int)
 o7:∀s,s+1<n->mOf 7 (uU P (s+1))=aC0 (P.1.length:Int)
theorem cJ1 (U:Nat->Prop) (f:Nat->Int):(N:Nat)->(∃s,s<N/\U s)->∃s,s<N/\U s/\∀t,t<N->U t->f s<=f t
 | 0,⟨s,h,_⟩=>absurd h (Nat.not_lt_zero _)
 | N+1,h=>by
  by_cases hN:∃s,s<N/\U s
  ·obtain⟨s,h1,h2,h3⟩:=cJ1 U f N hN
   by_cases hu:U N/\f N<f s
   ·refine⟨N,by omega,hu.1,fun t ht hU=>?_⟩
    rcases Nat.lt_or_eq_of_le (Nat.le_of_lt_succ ht) with h|rfl
    ·have:=h3 t h hU;omega
    ·exact Int.le_refl _
   ·refine⟨s,by omega,h2,fun t ht hU=>?_⟩
    rcases Nat.lt_or_eq_of_le (Nat.le_of_lt_succ ht) with h|rfl
    ·exact h3 t h hU
    ·exact Int.not_lt.1 fun hh=>hu ⟨hU,hh⟩
  ·obtain⟨s,h1,h2⟩:=h
   have:s=N:=by
    rcases Nat.lt_or_eq_of_le (Nat.le_of_lt_succ h1) with h|h
    ·exact absurd ⟨s,h,h2⟩ hN
    ·exact h
   subst this
   refine⟨s,by omega,h2,fun t ht hU=>?_⟩
   rcases Nat.lt_or_eq_of_le (Nat.le_of_lt_succ ht) with h|rfl
   ·exact absurd ⟨t,h,hU⟩ hN
   ·exact Int.le_refl _
section
variable {P p:aW} {n:Nat} {ops:Nat->List fP} {redo:Nat->Bool} {caps:Nat->Int} {K:Nat->Nat} {L:List aRL} {tm:Nat->eP->Int}
theorem bC5 (hS:PSt P n ops redo caps K) (hT:PTm P n tm) (h:PrI P n ops redo caps p L) {s:Nat} (hs:s<n) {κ m:Int} (he:mOf κ (uU P s)=aC0 (P.1.length:Int)) (hm:0<=m/\m<(P.1.length:Int)) :
  m<((mOf κ (uT L (s:Int))).length:Int)\/∃hc:(pcS p s).toNat<(uU P s).length,tm s (uU P s)[(pcS p s).toNat]<=tm s (κ,m):=by
 obtain⟨c1,c2,c3⟩:=h.tr.pc s (by rw[hS.hn];exact hs)
 have h1:(κ,m)∈uU P s:=bNU.1 (by rw[he];exact cDC hm)
 obtain⟨j,hj,e⟩:=List.mem_iff_getElem.1 h1
 by_cases hjk:j<(pcS p s).toNat
 ·refine .inl ?_
  rw[c3]
  refine cK7 he ?_
  rw[<-e]
  exact List.mem_take_iff_getElem.2 ⟨j,by omega,rfl⟩
 ·refine .inr ⟨by omega,?_⟩
  rcases Nat.lt_or_eq_of_le (Nat.le_of_not_lt hjk) with h2|h2
  ·have:=hT.inc s hs _ _ hj h2
   rw[e] at this;omega
  ·have:(uU P s)[(pcS p s).toNat]'(by omega)=(κ,m):=by rw[<-e];congr 1
   rw[this];exact Int.le_refl _
theorem prog (hS:PSt P n ops redo caps K) (hT:PTm P n tm) (h:PrI P n ops redo caps p L) (hl:0<cJ4 p):∃s:Nat,s<n/\jC p (s:Int)=true:=by
 have hB:=h.ok hS
 have L3:p.2.1.length=n:=by rw[h.tr.ln,hS.hn]
 have hU:∃s,s<n/\(pcS p s).toNat<(uU P s).length:=by
  refine Classical.byContradiction fun hno=>?_
  have hz:(p.2.1.map bRK).sum<=(p.2.1.map fun _=>0).sum:=bKR bRK (fun _=>0) p.2.1 fun x hx=>by
   obtain⟨t,ht,rfl⟩:=List.mem_iff_getElem.1 hx
   have h1:¬(pcS p t).toNat<(uU P t).length:=fun hh=>hno ⟨t,by omega,hh⟩
   have e1:bRK p.2.1[t]=(uU P t).length - (pcS p t).toNat:=by
    rw[<-h.tr.pl t];unfold bRK uU pcS;rw[aP ht]
   omega
  have hz2:(p.2.1.map fun _=>0).sum=0:=bGX (fun _=>0) p.2.1 fun _=>rfl
  unfold cJ4 at hl
  omega
 obtain⟨s,hs,hc,hmin⟩:=cJ1 (fun s=>(pcS p s).toNat<(uU P s).length) (fun s=>tm s ((uU P s).getD (pcS p s).toNat (0,0))) n hU
 rw[aP hc] at hmin
 have Bb:∀t,t<n->∀ht:(pcS p t).toNat<(uU P t).length,tm s (uU P s)[(pcS p s).toNat]<=tm t (uU P t)[(pcS p t).toNat]:=fun t h1 h2=>by
  have:=hmin t h1 h2
  rwa [aP h2] at this
 obtain⟨c1,c2,c3⟩:=h.tr.pc s (by rw[hS.hn];exact hs)
 have hn:bB p (s:Int)=(uU P s)[(pcS p s).toNat]:=by
  rw[<-bDG (p:=p) (s:=(s:Int)) (by omega) (by omega) (by rw[Int.toNat_natCast];exact c1) (by rw[Int.toNat_natCast];show pcS p s<((uU p s).length:Int);rw[h.tr.pl];omega),Int.toNat_natCast]
  show(uU p s).getD (pcS p s).toNat (aK aU)=_
  rw[h.tr.pl,aP hc]
 have hin:=(hS.plc s hs).i1 _ hc
 have hm:=hin.1
 have H7:=hin.2.1
 refine⟨s,hs,?_⟩
 have f2:(0:Int)<=(s:Int):=by omega
 have f3:(s:Int)<(p.2.1.length:Int):=by omega
 rw[<-hn] at Bb hm H7
 have Bv:∀κ:Int,(bB p (s:Int)).1=κ->(uU P s)[(pcS p s).toNat]=(κ,(bB p (s:Int)).2):=fun κ hk=>by rw[<-hn];exact Prod.ext hk rfl
 have Ay:∀κ:Int,(bB p (s:Int)).1=κ->bB p (s:Int)=(κ,(bB p (s:Int)).2):=fun κ hk=>Prod.ext hk rfl
 have Ct:(bB p (s:Int)).1=1\/(bB p (s:Int)).1=2\/(bB p (s:Int)).1=3\/(bB p (s:Int)).1=4\/(bB p (s:Int)).1=5\/(bB p (s:Int)).1=6\/(bB p (s:Int)).1=7\/(bB p (s:Int)).1=8:=by omega
 rcases Ct with k|k|k|k|k|k|k|k
 ·have h0:=hin.2.2.1 (by rw[<-hn];exact k)
  rw[decide_eq_false_iff_not] at h0
  obtain⟨τ,rfl⟩:∃τ,s=τ+1:=⟨s - 1,by omega⟩
  have hq:=(h.qa τ hs).2
  have Bh:=bNY (hT.o1 τ hs) hc (Bv 1 k)
  rw[<-c3] at Bh
  rw[bTX hB f2 f3 k,Bool.and_eq_true,decide_eq_true_eq,decide_eq_true_eq,show(((τ+1:Nat):Int) - 1).toNat=τ by omega]
  refine⟨by omega,?_⟩
  show 0<(qA p τ).2.length
  rcases bC5 hS hT h (s:=τ) (by omega) (hT.o3 τ hs) hm with hd|⟨hc',hd⟩
  ·omega
  ·have a1:=Bb τ (by omega) hc'
   have a2:=hT.x1 τ hs _ hm.1 hm.2
   rw[Ay 1 k] at a1
   omega
 ·exact(bO0 hB f2 f3 (.inl k)).symm
 ·have h0:=hin.2.2.2.1 (by rw[<-hn];exact k)
  rw[decide_eq_false_iff_not] at h0
  have hs1:s+1<n:=by omega
  have hq:=(h.qa s hs1).2
  have Fz:=hS.cp s hs1
  have Bh:=bNY (hT.o3 s hs1) hc (Bv 3 k)
  rw[<-c3] at Bh
  rw[cD3 hB f2 f3 k,Bool.and_eq_true,decide_eq_true_eq,Int.toNat_natCast]
  refine⟨by omega,?_⟩
  unfold aQA
  rw[decide_eq_true_eq]
  show((qA p s).2.length:Int)<(qA p s).1
  rw[((h.qa s hs1).1).1]
  by_cases hz:(bB p (s:Int)).2=0
  ·omega
  ·rcases bC5 hS hT h (s:=s+1) hs1 (κ:=1) (m:=(bB p (s:Int)).2 - 1) (hT.o1 s hs1) ⟨by omega,by omega⟩ with hd|⟨hc',hd⟩
   ·omega
   ·have a1:=Bb (s+1) hs1 hc'
    have a2:=hT.x3 s hs1 ((bB p (s:Int)).2 - 1) (by omega) (by omega)
    rw[show(bB p (s:Int)).2 - 1+1=(bB p (s:Int)).2 by omega,<-Ay 3 k] at a2
    omega
 ·have h0:=hin.2.2.2.2.1 (by rw[<-hn];exact k)
  rw[decide_eq_false_iff_not] at h0
  have hs1:s+1<n:=by omega
  have hq:=(h.qb s hs1).2
  have Bh:=bNY (hT.o4 s hs1) hc (Bv 4 k)
  rw[<-c3] at Bh
  rw[bTZ hB f2 f3 k,Bool.and_eq_true,decide_eq_true_eq,decide_eq_true_eq,Int.toNat_natCast]
  refine⟨by omega,?_⟩
  show 0<(qB p s).2.length
  rcases bC5 hS hT h (s:=s+1) hs1 (hT.o7 s hs1) hm with hd|⟨hc',hd⟩
  ·omega
  ·have a1:=Bb (s+1) hs1 hc'
   have a2:=hT.x4 s hs1 _ hm.1 hm.2
   rw[Ay 4 k] at a1
   omega
 ·exact(bO0 hB f2 f3 (.inr (.inl k))).symm
 ·exact(bO0 hB f2 f3 (.inr (.inr k))).symm
 ·have h0:=hin.2.2.2.2.2.1 (by rw[<-hn];exact k)
  rw[decide_eq_false_iff_not] at h0
  obtain⟨τ,rfl⟩:∃τ,s=τ+1:=⟨s - 1,by omega⟩
  have hq:=(h.qb τ hs).2
  have Fz:=hS.cp τ hs
  have Bh:=bNY (hT.o7 τ hs) hc (Bv 7 k)
  rw[<-c3] at Bh
  rw[cD1 hB f2 f3 k,Bool.and_eq_true,decide_eq_true_eq,show(((τ+1:Nat):Int) - 1).toNat=τ by omega]
  refine⟨by omega,?_⟩
  unfold aQA
  rw[decide_eq_true_eq]
  show((qB p τ).2.length:Int)<(qB p τ).1
  rw[((h.qb τ hs).1).1]
  by_cases hz:(bB p ((τ+1:Nat):Int)).2=0
  ·omega
  ·rcases bC5 hS hT h (s:=τ) (by omega) (κ:=4) (m:=(bB p ((τ+1:Nat):Int)).2 - 1) (hT.o4 τ hs) ⟨by omega,by omega⟩ with hd|⟨hc',hd⟩
   ·omega
   ·have a1:=Bb τ (by omega) hc'
    have a2:=hT.x7 τ hs ((bB p ((τ+1:Nat):Int)).2 - 1) (by omega) (by omega)
    rw[show(bB p ((τ+1:Nat):Int)).2 - 1+1=(bB p ((τ+1:Nat):Int)).2 by omega,<-Ay 7 k] at a2
    omega
 ·rw[cKM hB f2 f3 k]
  unfold cCX
  rw[List.all_eq_true]
  intro x hx
  obtain⟨t,ht,rfl⟩:=List.mem_iff_getElem.1 hx
  rw[decide_eq_true_eq]
  have e1:p.2.1[t]=stN p t:=by unfold stN;rw[aP ht]
  rw[e1]
  have e2:(stN p t).2.1=uU P t:=h.tr.pl t
  rw[e2]
  show((uU P t).length:Int) - 1<=pcS p t
  refine Int.not_lt.1 fun hlt=>?_
  obtain⟨d1,d2,d3⟩:=h.tr.pc t (by rw[hS.hn];omega)
  have hct:(pcS p t).toNat<(uU P t).length:=by omega
  have a1:=Bb t (by omega) hct
  have a3:=(hS.plc t (by omega)).i1 _ hct
  have a4:=(hS.plc t (by omega)).e8 _ hct
  rw[bA0 hct] at a4
  have a5:¬(uU P t)[(pcS p t).toNat].1=8:=fun hh=>by have:=a4.1 hh;omega
  have a6:=a3.2.1
  have a2:=hT.x8 t s (by omega) hs (uU P t)[(pcS p t).toNat] ⟨a6.1,by omega⟩ a3.1 (bB p (s:Int)).2
  rw[Ay 8 k] at a1
  omega
end
def tmF (ds n mi s:Int) (i:eP):Int :=
 let F:=if ds=2/\¬i.2<n - 1 - s then s+2 * i.2 else s+i.2
 let B:=if ds=2 then 2 * n - 1 - s+2 * i.2 else n+mi+(n - 1 - s)+i.2
 if i.1=1 then 8 * F else if i.1=2 then 8 * F+1 else if i.1=3 then 8 * F+2 else if i.1=4 then 8 * B+3 else if i.1=5 then 8 * B+4 else if i.1=6 then 8 * B+5 else if i.1=7 then 8 * B+6 else 100000
def cMK (f:eP->Int):List eP->Bool
 | []=>true
 | i::l=>l.all (fun j=>decide (f i<f j))&&cMK f l
def Kf (ds n mi s:Int):Nat:=if ds=2 then(min mi (n - s)).toNat else mi.toNat
def cJL (ds n s mi:Int) (r:Bool):Bool :=
 bQE (decide (s=0)) (decide (s+1=n)) r mi (Kf ds n mi s) (yS ds n s mi r) []&&(decide (NX (decide (s=0)) (decide (s+1=n)) r 0 (kd (yS ds n s mi r) 0))&&cMK (tmF ds n mi s) (yS ds n s mi r))
theorem cE2:(([1,2]:List Int).all fun ds=>([1,2,3,4]:List Int).all fun n=>([0,1,2,3]:List Int).all fun s=>([1,2,3,4,5]:List Int).all fun mi=>[true,false].all fun r=>decide (n<=s)||cJL ds n s mi r)=true:=by kernel_rfl
theorem cH9 {ds n s mi:Int} (r:Bool) (hd:ds=1\/ds=2) (hn:1<=n/\n<=4) (hs:0<=s/\s<n) (hm:1<=mi/\mi<=5):cJL ds n s mi r=true:=by
 have h:=cE2
 simp only[List.all_eq_true] at h
 have:=h ds (by simp;omega) n (by simp;omega) s (by simp;omega) mi (by simp;omega) r (by cases r<;>simp)
 rw[decide_eq_false (show ¬n<=s by omega),Bool.false_or] at this
 exact this
def aFC (c:dE) (s:Nat):List fP:=List.drop (bH c.1 c.2.1 (s:Int)).1.toNat (List.take (bH c.1 c.2.1 (s:Int)).2.toNat c.1)
section
variable {c:dE} {b:List bT}
theorem bC6 (h:iB c b=0) {s:Nat} (hs:s<(iM c b).2.1.length):dD c.1=true/\(bH c.1 c.2.1 (s:Int)).1.toNat<(bH c.1 c.2.1 (s:Int)).2.toNat/\(bH c.1 c.2.1 (s:Int)).2.toNat<=List.length c.1 /\
  dD (aFC c s)=true/\(aFC c s).length=(bH c.1 c.2.1 (s:Int)).2.toNat - (bH c.1 c.2.1 (s:Int)).1.toNat/\∀i,(bH c.1 c.2.1 (s:Int)).1.toNat+i<(bH c.1 c.2.1 (s:Int)).2.toNat->(aFC c s).getD i zOp=List.getD c.1 ((bH c.1 c.2.1 (s:Int)).1.toNat+i) zOp:=by
 obtain⟨a1,a2,a3,a4,a5,a6,a7,a8⟩:=aCE h
 have hn:=aQR h
 have hr:=bOA a3 (show(0:Int)<=(s:Int) by omega) (show(s:Int)<=(c.2.1.length:Int) by omega)
 have h1:(bH c.1 c.2.1 (s:Int)).1.toNat<(bH c.1 c.2.1 (s:Int)).2.toNat:=by omega
 have h2:(bH c.1 c.2.1 (s:Int)).2.toNat<=List.length c.1:=by omega
 refine⟨a1,h1,h2,bFQ a1 h1 h2,?_,fun i hi=>?_⟩
 ·unfold aFC;rw[List.length_drop,List.length_take];omega
 ·unfold aFC
  rw[List.getD_eq_getElem?_getD,List.getD_eq_getElem?_getD,List.getElem?_drop,List.getElem?_take,if_pos hi]
theorem bML (h:iB c b=0) {s:Nat} (hs:s<(iM c b).2.1.length):kD (aFC c s)=(List.getD c.1 (bH c.1 c.2.1 (s:Int)).1.toNat zOp).2.1/\eZ (aFC c s)=(List.getD c.1 ((bH c.1 c.2.1 (s:Int)).2.toNat - 1) zOp).2.2.1:=by
 obtain⟨h1,h2,h3,h4,h5,h6⟩:=bC6 h hs
 unfold kD eZ
 have e:(bH c.1 c.2.1 (s:Int)).1.toNat+((aFC c s).length - 1)=(bH c.1 c.2.1 (s:Int)).2.toNat - 1:=by omega
 rw[if_pos h4,if_pos h4,h6 0 (by omega),h6 ((aFC c s).length - 1) (by omega),e]
 exact⟨rfl,rfl⟩
theorem cB2 (h:iB c b=0) {s:Nat} (hs:s+1<(iM c b).2.1.length):eZ (aFC c s)=kD (aFC c (s+1)):=by
 obtain⟨a1,a2,a3,a4,a5,a6,a7,a8⟩:=aCE h
 have hn:=aQR h
 obtain⟨g1,g2,g3,g4,g5,g6⟩:=bC6 h (s:=s) (by omega)
 obtain⟨k1,k2,k3,k4,k5,k6⟩:=bC6 h hs
 rw[(bML h (s:=s) (by omega)).2,(bML h hs).1]
 have e:(bH c.1 c.2.1 ((s+1:Nat):Int)).1=(bH c.1 c.2.1 (s:Int)).2:=by
  rw[yG a3 (by omega) (by omega),yG a3 (by omega) (by omega)]
  dsimp only
  rw[if_pos (by omega),if_pos (by omega),show(((s+1:Nat):Int) - 1)=(s:Int) by omega]
 rw[e] at k2⊢
 have hj:(bH c.1 c.2.1 (s:Int)).2.toNat<List.length c.1:=by omega
 have hM:=((bO c.1).1 a1).2.2 _ hj
 have h0:=((vO c.1 hj).1 hM).2.resolve_left (by omega)
 rw[aP hj,aP (show(bH c.1 c.2.1 (s:Int)).2.toNat - 1<List.length c.1 by omega)]
 exact h0
theorem cBX (h:iB c b=0):kD (aFC c 0)=kD c.1/\eZ (aFC c ((iM c b).2.1.length - 1))=eZ c.1:=by
 obtain⟨a1,a2,a3,a4,a5,a6,a7,a8⟩:=aCE h
 have hn:=aQR h
 have hl:=(bO c.1).1 a1
 rw[(bML h (s:=0) (by omega)).1,(bML h (s:=(iM c b).2.1.length - 1) (by omega)).2]
 rw[yG a3 (by omega) (by omega),yG a3 (by omega) (by omega)]
 dsimp only
 rw[if_neg (by omega),if_neg (by omega)]
 unfold kD eZ
 rw[if_pos a1,if_pos a1,Int.toNat_natCast]
 exact⟨rfl,rfl⟩
theorem aWR (h:iB c b=0):PSt (iM c b) (iM c b).2.1.length (aFC c) (fun s=>c.2.2.2.1.getD s false) (fun s=>c.2.2.2.2.1.getD s 0) (fun s=>Kf c.2.2.1 (cN c.1 c.2.1) (b.length:Int) (s:Int)):=by
 obtain⟨a1,a2,a3,a4,a5,a6,a7,a8⟩:=aCE h
 have hn:=aQR h
 have hb:=(aLB _ _).1 a2
 have eb:(iM c b).1=b:=by rw[<-aDC h]
 have hl:=bJW h
 refine⟨rfl,hl.1,hl.2,by rw[eb];exact hb.2.1.1,by rw[eb];exact hb.2.1.2,cI8 h,fun s hs=>?_,fun s hs=>cB2 h hs,fun i hi=>?_,fun s hs=>?_⟩
 ·have hc:=cH9 (c.2.2.2.1.getD s false) (cIZ h) ⟨by omega,a5⟩ (s:=(s:Int)) ⟨by omega,by omega⟩ (mi:=(b.length:Int)) ⟨by omega,by omega⟩
  unfold cJL at hc
  rw[Bool.and_eq_true,Bool.and_eq_true,decide_eq_true_eq] at hc
  rw[(aVI h hs).1,eb]
  have e1:decide ((s:Int)=0)=decide (s=0):=by rw[decide_eq_decide];omega
  have e2:decide ((s:Int)+1=cN c.1 c.2.1)=decide (s+1=(iM c b).2.1.length):=by rw[decide_eq_decide];omega
  rw[e1,e2] at hc
  exact cLI hc.1 hc.2.1
 ·rw[eb] at hi⊢
  obtain⟨e1,e2⟩:=cBX h
  rw[e1,e2,aP hi]
  have:=List.all_eq_true.1 hb.2.2 _ (List.getElem_mem hi)
  unfold wR at this
  rw[Bool.and_eq_true] at this
  exact this
 ·have hcl:=aW9 a7
  unfold aF8 at a7
  rw[Bool.and_eq_true] at a7
  have hs2:s<List.length c.2.2.2.2.1:=by omega
  have:=List.all_eq_true.1 a7.2 _ (List.getElem_mem hs2)
  rw[decide_eq_true_eq] at this
  show 1<=List.getD c.2.2.2.2.1 s 0/\List.getD c.2.2.2.2.1 s 0<=5
  rw[aP hs2];exact this
theorem cD7 (m:List fP):aZE m (rP m)=true:=by
 refine bND.2 ⟨aBC m,fun i hi=>?_⟩
 have hl:i<(rP m).length:=by rw[aBC];exact hi
 rw[aP hl,aP hi]
 have e:(rP m)[i]'hl=List.replicate (m[i]).2.2.2.length 0:=List.getElem_map _
 rw[e,List.length_replicate]
theorem cDR (h:iB c b=0):PrI (iM c b) (iM c b).2.1.length (aFC c) (fun s=>c.2.2.2.1.getD s false) (fun s=>c.2.2.2.2.1.getD s 0) (iM c b) []:=by
 obtain⟨a1,a2,a3,a4,a5,a6,a7,a8⟩:=aCE h
 have hn:=aQR h
 have hcl:=aW9 a7
 have hS:=aWR h
 have q0:∀(n:Nat) (s:Nat) (w:Int),s<n->QOk (c.2.2.2.2.1.getD s 0) w ((mp n (aIQ c)).getD s (aK aD))/\((mp n (aIQ c)).getD s (aK aD)).2.length=0:=fun n s w hs=>by
  rw[bCA _ _ _ hs]
  refine⟨⟨rfl,?_,fun x hx=>by cases hx⟩,rfl⟩
  show(0:Int)<=_
  by_cases hs2:s<List.length c.2.2.2.2.1
  ·have:1<=List.getD c.2.2.2.2.1 s 0/\List.getD c.2.2.2.2.1 s 0<=5:=hS.cp s (by omega)
   omega
  ·rw[List.getD_eq_getElem?_getD,List.getElem?_eq_none (by omega)];exact Int.le_refl _
 have eA:(iM c b).2.2.1=mp c.2.2.2.2.1.length (aIQ c):=by rw[<-aDC h]
 have eB:(iM c b).2.2.2=mp c.2.2.2.2.1.length (aIQ c):=by rw[<-aDC h]
 refine⟨cGK h,rfl,by rw[eA,kF];omega,by rw[eB,kF];omega,fun s hs=>?_,fun s hs=>?_,fun s hs=>?_⟩
 ·obtain⟨h1,h2,h3,h4,h5,h6⟩:=bC6 h hs
  obtain⟨p1,p2⟩:=aVI h hs
  have hs2:s<(cN c.1 c.2.1).toNat:=by omega
  have est:stN (iM c b) s=(0,yS c.2.2.1 (cN c.1 c.2.1) (s:Int) (b.length:Int) (c.2.2.2.1.getD s false),aFC c s,((s:Int)==cN c.1 c.2.1 - 1),c.2.2.2.1.getD s false,[],[],[],[],[],[],aI7 (aFC c s)):=by
   unfold stN
   rw[<-aDC h]
   dsimp only
   rw[bCA _ _ _ hs2]
   unfold aN7 aM8
   have h4':dD (List.drop (bH c.1 c.2.1 (s:Int)).1.toNat (List.take (bH c.1 c.2.1 (s:Int)).2.toNat c.1))=true:=h4
   rw[if_pos h4',Int.toNat_natCast]
   rfl
  have hz:aI7 (aFC c s)=(rP (aFC c s),0,false):=by unfold aI7;rw[if_pos h4]
  obtain⟨n1,n2,n3,n4,n5⟩:=(hS.plc s hs).n0
  rw[p2,show(0:Int).toNat=0 from rfl]
  rw[est,hz]
  have el:((s:Int)==cN c.1 c.2.1 - 1)=decide (s+1=(iM c b).2.1.length):=by
   rw[Bool.eq_iff_iff,beq_iff_eq,decide_eq_true_eq];omega
  refine⟨rfl,p1.symm,rfl,el,rfl,?_,rfl,?_,?_,?_,?_,?_⟩
  ·refine(cA _).2 ⟨h4,⟨Int.le_refl _,by show(0:Int)<=_;omega⟩,cD7 _,rfl,rfl,rfl,rfl,rfl⟩
  ·rw[ifP n4,if_neg (by omega)]
  ·rw[ifP n1,if_neg (by omega)]
  ·rw[ifP n2,if_neg (by omega)]
  ·rw[ifP n3,if_neg (by omega)]
  ·rw[ifP n5,if_neg (by omega)]
 ·unfold qA
  rw[eA]
  obtain⟨x1,x2⟩:=q0 c.2.2.2.2.1.length s (eZ (aFC c s)) (by omega)
  exact⟨x1,by rw[x2];rfl⟩
 ·unfold qB
  rw[eB]
  obtain⟨x1,x2⟩:=q0 c.2.2.2.2.1.length s (eZ (aFC c s)) (by omega)
  exact⟨x1,by rw[x2];rfl⟩
end
section
variable {P p:aW} {n:Nat} {ops:Nat->List fP} {redo:Nat->Bool} {caps:Nat->Int} {K:Nat->Nat} {L:List aRL} {tm:Nat->eP->Int}
end
section
variable {c:dE} {b:List bT}
end
section
variable {c:dE} {b:List bT}
abbrev PrC (c:dE) (b:List bT) (p:aW) (L:List aRL):Prop:=PrI (iM c b) (iM c b).2.1.length (aFC c) (fun s=>c.2.2.2.1.getD s false) (fun s=>c.2.2.2.2.1.getD s 0) p L
end
section
variable {P q:aW} {n:Nat} {ops:Nat->List fP} {redo:Nat->Bool} {caps:Nat->Int} {K:Nat->Nat} {L:List aRL} {tm:Nat->eP->Int}
end
section
variable {ops:List fP} {pl:List eP} {first last redo:Bool} {mi:Int} {K:Nat} {k:Nat} {x:aR}
theorem cJ9 (hC:PlC first last redo mi K pl):(k:Nat)->k<=pl.length->(msF (pl.take k)).length<=K
 | 0,_=>Nat.zero_le _
 | k+1,hk=>by
  have ih:=cJ9 hC k (by omega)
  have hi:=(hC.i1 k (by omega)).2.2.2.2.2.2.2.1
  rw[aVE (show k<pl.length by omega)]
  unfold aQB
  split
  ·rename_i h2
   have:=(hi h2).2
   rw[List.length_append,List.length_singleton];omega
  ·split
   ·rw[List.length_drop];omega
   ·exact ih
end
section
variable {c:dE} {b:List bT}
end
def szL (l:List ByteArray):Nat:=(l.map (·.size)).sum
theorem bNX (s:ByteArray):(l:List ByteArray)->(lZ s l).size=s.size+szL l
 | []=>rfl
 | x::l=>by
  show(lZ (s++x) l).size=_
  rw[bNX (s++x) l,jH]
  unfold szL
  rw[List.map_cons,List.sum_cons];omega
theorem bCO (a b:List ByteArray):szL (a++b)=szL a+szL b:=by unfold szL;rw[List.map_append,List.sum_append]
theorem sN (a:ByteArray) (b:List ByteArray):szL (a::b)=a.size+szL b:=by unfold szL;rw[List.map_cons,List.sum_cons]
theorem aM9:szL []=0:=rfl
theorem aOT {α:Type} (g:α->List ByteArray) (B:Nat):(l:List α)->(∀a∈l,szL (g a)<=B)->szL (l.flatMap g)<=B * l.length
 | [],_=>Nat.le_refl _
 | x::l,h=>by
  have h1:=aOT g B l fun a ha=>h a (List.mem_cons_of_mem _ ha)
  have h2:=h x List.mem_cons_self
  rw[List.flatMap_cons,bCO,List.length_cons,Nat.mul_succ];omega
theorem tU (v:List Int) {n:Nat} (h:v.length<=n):(gR v).size<=8+8 * n:=by
 unfold gR
 split
 ·have h1:=aHH (sW v.length) v
  have h2:=yF v.length
  omega
 ·exact Nat.zero_le _
theorem bY2 (B:Nat):(R:cT)->(∀r∈R,List.length r<=B)->szL (R.map gR)<=(8+8 * B) * R.length
 | [],_=>Nat.zero_le _
 | x::R,h=>by
  have h1:=bY2 B R fun a ha=>h a (List.mem_cons_of_mem _ ha)
  have h2:=tU x (h x List.mem_cons_self)
  rw[List.map_cons,sN,List.length_cons,Nat.mul_succ];omega
theorem aYQ {R:cT} (B:Nat) (h:∀r∈R,List.length r<=B):szL (nP R)<=8+(8+8 * B) * List.length R:=by
 have h1:=bY2 B R h
 have h2:=yF (List.length R)
 unfold nP
 rw[sN];omega
theorem aK6 {v:List Int} (h:v.all nO=true):v.all mD=true:=by
 rw[List.all_eq_true] at h⊢
 intro x hx
 have:=(vM x).1 (h x hx)
 unfold mD
 rw[decide_eq_true_eq];omega
theorem aLJ {v:List Int} (h1:v.length<=200) (h2:v.all mD=true):yX v=true:=by
 unfold yX;rw[decide_eq_true h1,h2];rfl
theorem aE8 {v:List Int} {n:Int} (h:oS v n=true):yX v=true/\v.length<=6:=by
 rcases(bK3 _ _).1 h with h1|h1
 ·have:v=[]:=List.eq_nil_of_length_eq_zero h1
  subst this;exact⟨rfl,by decide⟩
 ·have h2:=(dH _).1 ((cS _ _).1 h1).1
  exact⟨aLJ (by omega) (aK6 h2.2.2),h2.2.1⟩
theorem bUT {o:fP} (h:opB o=true):o.2.2.2.length<=36:=by
 obtain⟨⟨_,_,h1,h2,h3,h4,_,h5⟩,_⟩:=(lO o).1 h
 have hm:=bEP h1 h2 h3 h4
 unfold lJ at h5
 split at h5
 ·omega
 ·split at h5
  ·omega
  ·split at h5
   ·omega
   ·split at h5<;>omega
structure KS (x:aR):Prop where
 pl:x.2.1.length<=60
 pi:∀i∈x.2.1,mD i.1=true/\mD i.2=true
 sv:x.2.2.2.2.2.1.length<=5
 si:∀y∈x.2.2.2.2.2.1,mD y.1=true
 vl:x.2.2.2.2.2.2.1.length<=9
 vf:∀r∈x.2.2.2.2.2.2.1,List.length r<=6/\(r:List Int).all mD=true
 sm:∀r∈x.2.2.2.2.2.2.2.2.2.2.2.1,(r:List Int).all mD=true
 ls:mD x.2.2.2.2.2.2.2.2.2.2.2.2.1=true
theorem bXF {x:aR} (h:gY x=true) (k:KS x):¬mE x=⟨#[]⟩/\(mE x).size<=10000:=by
 obtain⟨hm,hpc,hf,E7,hX,hD,hY,hG⟩:=(cA x).1 h
 obtain⟨Ae,hf2⟩:=bND.1 hf
 obtain⟨m1,m8,mo⟩:=(bO _).1 hm
 have hop:∀o∈x.2.2.1,opB o=true:=fun o ho=>by
  obtain⟨i,hi,rfl⟩:=List.getElem_of_mem ho
  exact((vO _ hi).1 (mo i hi)).1
 have Bu:∀r∈x.2.2.2.2.2.2.2.2.2.2.2.1,List.length r<=36:=fun r hr=>by
  obtain⟨i,hi,rfl⟩:=List.getElem_of_mem hr
  have h1:=hf2 i (by rw[<-Ae];exact hi)
  rw[aP hi] at h1
  rw[h1,aP (show i<x.2.2.1.length by rw[<-Ae];exact hi)]
  exact bUT (hop _ (List.getElem_mem _))
 have hkr:∀y∈x.2.2.2.2.2.1,(List.length y.2<=9)/\∀r∈y.2,List.length r<=6/\(r:List Int).all mD=true:=fun y hy=>by
  obtain⟨a1,a2⟩:=(aAO _ _ _).1 (List.all_eq_true.1 E7 y hy)
  have a3:aH0 x.2.2.1 x.2.2.2.2.1<=9:=by unfold aH0;split<;>omega
  refine⟨by omega,fun r hr=>?_⟩
  obtain⟨i,hi,rfl⟩:=List.getElem_of_mem hr
  have a4:=a2 i (by omega)
  rw[aP hi] at a4
  have a5:=(dH _).1 ((cS _ _).1 a4).1
  exact⟨a5.2.1,aK6 a5.2.2⟩
 have hlim:aTH x:=⟨h,Nat.le_trans k.pl (by decide),k.sv,Nat.le_trans k.vl (by decide)⟩
 have E9:mD x.1=true:=by
  have:=k.pl
  unfold mD;rw[decide_eq_true_eq];omega
 have hall:(aAM x).all yX=true:=by
  rw[List.all_eq_true]
  intro v hv
  unfold aAM at hv
  rw[List.mem_append,List.mem_append,List.mem_append,List.mem_append,List.mem_append] at hv
  rcases hv with hv|hv|hv|hv|hv|hv
  ·simp only[List.mem_cons,List.not_mem_nil,or_false] at hv
   rcases hv with rfl|rfl|rfl|rfl|rfl
   ·exact aLJ (by simp) (by rw[List.all_cons,List.all_cons,E9,k.ls];rfl)
   ·exact(aE8 hX).1
   ·exact(aE8 hY).1
   ·exact(aE8 hG).1
   ·exact(aE8 hD).1
  ·obtain⟨i,hi,hv⟩:=List.mem_flatMap.1 hv
   obtain rfl:=List.mem_singleton.1 hv
   exact aLJ (by simp) (by rw[List.all_cons,List.all_cons,(k.pi i hi).1,(k.pi i hi).2];rfl)
  ·obtain⟨o,ho,hv⟩:=List.mem_flatMap.1 hv
   obtain rfl:=List.mem_singleton.1 hv
   exact aLJ (Nat.le_trans (bUT (hop o ho)) (by decide)) (aK6 ((lO o).1 (hop o ho)).2)
  ·obtain⟨y,hy,hv⟩:=List.mem_flatMap.1 hv
   rcases List.mem_cons.1 hv with rfl|hv
   ·exact aLJ (by simp) (by rw[List.all_cons,k.si y hy];rfl)
   ·have:=(hkr y hy).2 v hv
    exact aLJ (by omega) this.2
  ·have:=k.vf v hv
   exact aLJ (by omega) this.2
  ·exact aLJ (Nat.le_trans (Bu v hv) (by decide)) (k.sm v hv)
 have e:mE x=lZ ⟨#[]⟩ (lT x):=by unfold mE;rw[if_pos ⟨hlim,hall⟩]
 have hsz:=bNX ⟨#[]⟩ (lT x)
 have e0:(⟨#[]⟩:ByteArray).size=0:=rfl
 have b1:(gR (aAS x)).size<=8+8 * 8:=tU _ (Nat.le_refl _)
 have b2:=aOT aEI 24 x.2.1 fun i _=>by unfold aEI;rw[sN,aM9];exact tU (n:=2) _ (Nat.le_refl _)
 have b3:=aOT opP 328 x.2.2.1 fun o ho=>by
  have a1:=tU (n:=3) [o.1,o.2.1,o.2.2.1] (Nat.le_refl _)
  have a2:=tU o.2.2.2 (bUT (hop o ho))
  unfold opP;rw[sN,sN,aM9];omega
 have b4:=aOT aAH 528 x.2.2.2.2.2.1 fun y hy=>by
  have a1:=tU (n:=1) [y.1] (Nat.le_refl _)
  have a2:=aYQ 6 fun r hr=>((hkr y hy).2 r hr).1
  have a3:=(hkr y hy).1
  unfold aAH;rw[sN];omega
 have b5:=aYQ 6 fun r hr=>(k.vf r hr).1
 have b6:=tU _ (aE8 hX).2
 have b7:=tU _ (aE8 hY).2
 have b8:=tU _ (aE8 hG).2
 have b9:=tU _ (aE8 hD).2
 have b10:=aYQ 36 Bu
 have k1:=k.pl;have k2:=k.sv;have k3:=k.vl
 rw[e]
 unfold lT aIR at hsz
 simp only[bCO,sN,aM9] at hsz
 refine⟨fun hE=>?_,by unfold lT aIR;omega⟩
 have hh:isE (gR (aAS x))=false:=by
  rw[yI,bFJ hlim,aLJ (by simp) (by rw[List.all_cons,List.all_cons,E9,k.ls];rfl)];rfl
 have hz:(gR (aAS x)).size=0:=by
  have e1:(lZ ⟨#[]⟩ (lT x)).size=0:=by rw[hE];rfl
  unfold lT aIR at e1
  omega
 have:gR (aAS x)=⟨#[]⟩:=ByteArray.ext (Array.eq_empty_of_size_eq_zero hz)
 unfold isE at hh
 rw[decide_eq_true this] at hh
 cases hh
theorem cI2 {p:aW} (h:nQ p=true) (k:∀x∈p.2.1,KS x):¬pR p=⟨#[]⟩:=by
 obtain⟨q1,q2,q3,q4⟩:=kW.1 h
 have hst:∀x∈p.2.1,gY x=true:=fun x hx=>by
  obtain⟨i,hi,rfl⟩:=List.getElem_of_mem hx
  have:=(q4 i hi).1
  rwa [aP hi] at this
 have hall:(p.2.1.all fun s=>!isE (mE s))=true:=by
  rw[List.all_eq_true]
  intro x hx
  unfold isE
  rw[decide_eq_false (bXF (hst x hx) (k x hx)).1];rfl
 have hq:∀q:bE,mR q=true->szL (sD q)<=384:=fun q hq=>by
  have h1:=kW.1 hq
  have a1:=tU (n:=2) [q.1,(q.2.length:Int)] (Nat.le_refl _)
  have a2:=aOT itP 72 q.2 fun y hy=>by
   obtain⟨i,hi,rfl⟩:=List.getElem_of_mem hy
   have h2:=(oR _).1 (h1.2 i hi)
   rw[aP hi] at h2
   have h3:=(dH _).1 h2.1
   have a1:=tU (n:=1) [(q.2[i]).1] (Nat.le_refl _)
   have a2:=tU (n:=6) (q.2[i]).2 h3.2.1
   unfold itP;rw[sN,sN,aM9];omega
  unfold sD;rw[sN];omega
 have hsz:=bNX ⟨#[]⟩ (aAU p)
 have b1:=tU (n:=2) [(p.1.length:Int),(p.2.1.length:Int)] (Nat.le_refl _)
 have b2:=aOT uX 112 p.1 fun y hy=>by
  obtain⟨i,hi,rfl⟩:=List.getElem_of_mem hy
  have h2:=q2 i hi
  rw[aP hi] at h2
  have a1:=tU (n:=6) (p.1[i]).1 ((dH _).1 h2.1).2.1
  have a2:=tU (n:=6) (p.1[i]).2 ((dH _).1 h2.2).2.1
  unfold uX;rw[sN,sN,aM9];omega
 have b3:=aOT stP 10000 p.2.1 fun x hx=>by
  unfold stP;rw[sN,aM9];exact(bXF (hst x hx) (k x hx)).2
 have b4:=aOT (qsP p.2.2.1 p.2.2.2) 768 (List.range p.2.2.1.length) fun i hi=>by
  have h2:=q3 i (List.mem_range.1 hi)
  have a1:=hq _ h2.1
  have a2:=hq _ h2.2
  unfold qsP;rw[bCO];omega
 rw[List.length_range] at b4
 have e0:(⟨#[]⟩:ByteArray).size=0:=rfl
 have hE:(lZ ⟨#[]⟩ (aAU p)).size<=60000/\1<=(lZ ⟨#[]⟩ (aAU p)).size:=by
  have h1:1<=(gR [(p.1.length:Int),(p.2.1.length:Int)]).size:=by
   refine Nat.one_le_iff_ne_zero.2 fun hz=>?_
   have h2:=yI [(p.1.length:Int),(p.2.1.length:Int)]
   rw[bP7 (by omega) (by omega)] at h2
   unfold isE at h2
   have hv:gR [(p.1.length:Int),(p.2.1.length:Int)]=⟨#[]⟩:=ByteArray.ext (Array.eq_empty_of_size_eq_zero hz)
   rw[decide_eq_true hv] at h2
   cases h2
  rw[hsz]
  unfold aAU
  simp only[bCO,sN,aM9]
  omega
 unfold pR
 rw[if_pos ⟨h,hall,hE.1⟩]
 intro hn
 rw[hn] at hE
 exact absurd hE.2 (by decide)
theorem bWB:(a b:List Int)->(aA5 a b).all nO=true
 | [],_=>by simp[aA5]
 | _::_,[]=>by simp[aA5]
 | x::a,y::b=>by
  show((kH x y).1::aA5 a b).all nO=true
  rw[List.all_cons,bWB a b,Bool.and_true]
  exact(vM _).2 (qM _)
theorem bF6:(a b:List (List Int))->∀r∈iI a b,(r:List Int).all nO=true
 | [],_,r,h=>by simp[iI] at h
 | _::_,[],r,h=>by simp[iI] at h
 | x::a,y::b,r,h=>by
  rcases List.mem_cons.1 (show r∈aA5 x y::iI a b from h) with rfl|h
  ·exact bWB x y
  ·exact bF6 a b r h
def QS (x:aR):Prop:=(∀r∈x.2.2.2.2.2.2.2.2.2.2.2.1,(r:List Int).all nO=true)/\nO x.2.2.2.2.2.2.2.2.2.2.2.2.1=true
theorem bXH (a b:Int):nO (kH a b).1=true:=(vM _).2 (qM _)
theorem cK9 {x:aR} {m:Int} {v t:List Int} (h:QS x):QS (aF2 x m v t):=by
 unfold aF2
 split
 ·refine⟨h.1,?_⟩
  show nO (if x.2.2.2.1=true then _ else _)=true
  split
  ·exact bXH _ _
  ·exact h.2
 ·exact h
theorem cHI {x:aR} {m:Int} (h:QS x):QS (aB6 x m):=by
 unfold aB6
 split
 ·exact h
 ·exact h
theorem cFD {x:aR} {m:Int} {t:List Int} (h:QS x):QS (zL x m t):=by
 unfold zL
 split
 ·exact⟨bF6 _ _,bXH _ _⟩
 ·exact h
theorem cMT {x:aR} {v:List Int} (h:QS x):QS (bMZ x v):=h
theorem cMU {x:aR} {v:List Int} (h:QS x):QS (bMW x v):=h
theorem cMR {x:aR} {v:List Int} (h:QS x):QS (bO7 x v):=h
theorem cMB {x:aR} {v:List Int} (h:QS x):QS (aIH x v):=h
theorem cGY (p:aW) (s:Int) (h:QS (oD p s)):QS (fH p s):=by
 unfold fH
 split
 ·exact cMT h
 split
 ·exact cK9 h
 split
 ·exact cMU h
 split
 ·exact cMR h
 split
 ·exact cHI h
 split
 ·split
  ·exact cMB (cFD h)
  ·exact cFD h
 split
 ·exact cMB h
 ·exact h
def QP (p:aW):Prop:=∀x∈p.2.1,QS x
theorem cHE {p:aW} (h:QP p) (s:Int):QP (gJ p s):=by
 unfold gJ
 split
 ·rename_i he
  obtain⟨f1,f2,f3⟩:=aDF he
  intro x hx
  have hs:s.toNat<p.2.1.length:=by omega
  rcases List.mem_or_eq_of_mem_set (show x∈p.2.1.set s.toNat _ from hx) with hx|rfl
  ·exact h x hx
  ·refine cGY p s ?_
   unfold oD
   rw[aP hs]
   exact h _ (List.getElem_mem hs)
 ·exact h
theorem cKO {l:List eP}:{m:Int}->m∈msF l->∃i∈l,i.2=m:=by
 suffices H:∀(l:List eP) (a:List Int) (m:Int),m∈l.foldl aQB a->m∈a\/∃i∈l,i.2=m from fun {m} h=>(H l [] m h).elim (fun h=>by cases h) id
 intro l
 induction l with
 | nil=>exact fun a m h=>.inl h
 | cons i l ih =>
  intro a m h
  rcases ih (aQB a i) m h with h1|⟨j,h1,h2⟩
  ·unfold aQB at h1
   split at h1
   ·rcases List.mem_append.1 h1 with h1|h1
    ·exact .inl h1
    ·exact .inr ⟨i,List.mem_cons_self,(List.mem_singleton.1 h1).symm⟩
   ·split at h1
    ·exact .inl (List.mem_of_mem_drop h1)
    ·exact .inl h1
  ·exact .inr ⟨j,List.mem_cons_of_mem _ h1,h2⟩
noncomputable section
set_option maxRecDepth 100000
variable {c:dE} {b:List bT}
theorem bT0 {x:Int} (h:0<=x/\x<=1000):mD x=true:=by unfold mD;rw[decide_eq_true_eq];omega
theorem cLD (h:iB c b=0) {p:aW} {L:List aRL} (hp:PrC c b p L) (hq:QP p):∀x∈p.2.1,KS x:=by
 have hS:=aWR h
 intro x hx
 obtain⟨s,hs,rfl⟩:=List.getElem_of_mem hx
 have hs':s<(iM c b).2.1.length:=by rw[<-hp.tr.ln];exact hs
 have hI:=hp.st s hs'
 have eX:stN p s=p.2.1[s]:=aP hs
 rw[eX] at hI
 have hC:=hS.plc s hs'
 have Gz:=hS.b5
 have hpl:∀i∈uU (iM c b) s,mD i.1=true/\mD i.2=true:=fun i hi=>by
  obtain⟨k,hk,rfl⟩:=List.getElem_of_mem hi
  have:=hC.i1 k hk
  exact⟨bT0 (by have:=this.2.1;omega),bT0 (by have:=this.1;omega)⟩
 have hlen:(uU (iM c b) s).length<=60:=by rw[(aVI h hs').1];exact aZC _ _ _ _ _
 have hk:(pcS p s).toNat<=(uU (iM c b) s).length:=by have:=(hp.tr.pc s hs').2.1;omega
 have hK:Kf c.2.2.1 (cN c.1 c.2.1) (b.length:Int) (s:Int)<=5:=by
  have:(iM c b).1.length=b.length:=by rw[<-aDC h]
  unfold Kf;split<;>omega
 have Fa:=cJ9 hC _ hk
 rw[<-hI.ms,List.length_map] at Fa
 have hq':=hq _ hx
 have L0:(aFC c s).length<=8:=((bO _).1 hI.mB).2.1
 have Jl:p.2.1[s].2.2.2.2.2.2.1=[]\/bDV (aFC c s) p.2.1[s].2.2.2.2.2.2.1:=by
  have:=hI.vF
  split at this
  ·exact .inr this
  ·exact .inl this
 refine⟨by rw[hI.e2];exact hlen,by rw[hI.e2];exact hpl,by omega,fun y hy=>?_,?_,fun r hr=>?_,fun r hr=>aK6 (hq'.1 r hr),?_⟩
 ·have h1:y.1∈msF ((uU (iM c b) s).take (pcS p s).toNat):=by rw[<-hI.ms];exact List.mem_map_of_mem hy
  obtain⟨i,h2,h3⟩:=cKO h1
  rw[<-h3]
  exact(hpl i (List.mem_of_mem_take h2)).2
 ·rcases Jl with hv|hv
  ·rw[hv];exact Nat.zero_le _
  ·have:=hv.1;omega
 ·rcases Jl with hv|hv
  ·rw[hv] at hr;cases hr
  ·obtain⟨i,hi,rfl⟩:=List.getElem_of_mem hr
   have h1:=hv.2 i (by have:=hv.1;omega)
   rw[aP hi] at h1
   have h2:=(dH _).1 ((cS _ _).1 h1).1
   exact⟨h2.2.1,aK6 h2.2.2⟩
 ·have:=(vM _).1 hq'.2
  unfold mD;rw[decide_eq_true_eq];omega
def aLS:Con:=⟨203,aSN,(.cMV .str gO),[.box 239 ⟨true,gO,[]⟩,.val ⟨false,tI,[]⟩],[⟨false,.str,[0]⟩],false,none,
 ((fun x=>0<=x.1.2.1/\0<=x.2/\x.2<=1000):(cE×Int)->Prop),
 ((fun _=>aK (.cMV .str (.cMV (.slice 5 (.int .u8)) aU))):(cE×Int)->((ByteArray)×cE))⟩
def bDI:T:=mU 0 bP (fQ bP) 4 <| jW aEX <| dF 0 bP (mQ 1) bM <| xF (zZ qK) (zZ qK) [qH,qV 1 3,qV 2 3,aCB 3 3,.nl 5 jV] <| vH .gtr (aIY qK 4) aN 5 (gQ 1 bP [uI qK 1 4,uI qK 2 4,uI qK 3 4] <| nE (kX 1) bF 7 (mL aDA (kX 6) 2 <| iL (kX 1) 2 9 (mL aDA cM 4 <| lR jT (fX 97) 10 <| aGX .i64 .u8 11 <| kO 5 jV 12 <| eF (.cN2 5 jV 1) aV aV (aJ6 qK 4 4) 13 <| aCH mY (aIY qK 4) 0 (oH (zZ qK) [fC,qV 1 6,qV 2 6,aCB 3 6,dK])) <| aGX .i64 .u8 8 <| kO 5 jV 10 <| eF (.cN2 5 jV 1) aV aV (aJ6 qK 4 4) 11 <| aCH mY (aIY qK 4) 0 (oH (zZ qK) [eM,qV 1 6,qV 2 6,aCB 3 6,fE])) <| iL (kX 1) 2 8 (mL aDA (kX 6) 4 <| lR jT (fX 97) 9 <| aGX .i64 .u8 10 <| kO 5 jV 11 <| eF (.cN2 5 jV 1) aV aV (aJ6 qK 4 4) 12 <| aCH mY (aIY qK 4) 0 (oH (zZ qK) [dK,qV 1 6,qV 2 6,aCB 3 6,eM])) <| .cMW (.conv .i64 .u8) (kX 6) <| kO 5 jV 9 <| eF (.cN2 5 jV 1) aV aV (aJ6 qK 4 4) 10 <| aCH mY (aIY qK 4) 0 (oH (zZ qK) [fE,qV 1 6,qV 2 6,aCB 3 6,cO])) <| .cMW (.b2s 5) (aJ6 qK 4 4) <| uR (aGL .str) [cQ,uI qK 1 4,uI qK 2 4,uI qK 3 4]
theorem aTX:Rl aLS (fun x r=>r.1.size<=1000/\0<=r.2.2.1:(cE×Int)->((ByteArray)×cE)->Prop):=rk false ⟨[(2989,1004,iZ 15 9++[.dr 1,.tm 7 0,.on 5,.bx 1 0,.bx 1 1,.bx 1 2,.sl 2])],[]⟩ bDI (aC mO (aC aSO aH)) fun(x:cE×Int) hx hp=>by
 dsimp only [aLS] at hx hp⊢
 obtain⟨c,n⟩:=x
 obtain⟨hp,hn0,Ah⟩:0<=c.2.1/\0<=n/\n<=1000:=hp
 have q1:=eE (c,4) ⟨hx.1,okI (by omega) (by omega)⟩ hp
 delta bDI lP jJ aKU aDE;refine dR ?_
 refine dQ ?_
 refine⟨hp,fun _=>?_⟩
 generalize dV (c,4)=r at q1⊢;obtain⟨n1,c1⟩:=r;obtain⟨kq1,uq1⟩:=q1;replace kq1:okD vW c1:=kq1.2;dsimp only at uq1⊢
 have q2:=eE (c1,n+1) ⟨kq1,okI (by omega) (by omega)⟩ uq1.2.2.2
 refine⟨⟨by omega,by omega⟩,fun _=>⟨uq1.2.2.2,fun _=>?_⟩⟩
 generalize dV (c1,n+1)=r at q2⊢;obtain⟨n2,c2⟩:=r;obtain⟨kq2,uq2⟩:=q2;replace kq2:okD vW c2:=kq2.2;dsimp only at uq2⊢
 have A7:n2<n+1:=uq2.2.1 (by omega)
 refine⟨fun s=>((List.length s.2.2.2.2:Nat):Int)+s.1<=1000/\@LE.le Int _ 0 s.2.2.1/\@LE.le Int _ 0 s.1,fun s=>(s.1:Int).toNat,⟨by show((0:Nat):Int)+n2<=1000;omega,uq2.2.2.2,uq2.1⟩,fun s hs hI=>?_⟩
 obtain⟨j,b,i,h,l⟩:=s
 obtain⟨e1,e2,e3⟩:=hI
 change Int at j
 change List Int at l
 change ((List.length l:Nat):Int)+j<=1000 at e1
 change 0<=(i:Int) at e2
 change 0<=j at e3
 have q:=aCA (b,i,h) ⟨hs.2.1,hs.2.2.1,hs.2.2.2.1⟩ e2
 generalize aGC (b,i,h)=r at q⊢;obtain⟨n3,c3⟩:=r;obtain⟨kq3,uq3⟩:=q;replace kq3:okD vW c3:=kq3.2;dsimp only at uq3⊢
 have t1:0<=n3.tmod 2/\n3.tmod 2<2:=⟨Int.tmod_nonneg 2 uq3.1,Int.tmod_lt_of_pos n3 (by omega)⟩
 have t2:0<=(n3.tmod 2).tmod 4/\(n3.tmod 2).tmod 4<4:=⟨Int.tmod_nonneg 4 t1.1,Int.tmod_lt_of_pos _ (by omega)⟩
 have t3:0<=n3.tmod 4/\n3.tmod 4<4:=⟨Int.tmod_nonneg 4 uq3.1,Int.tmod_lt_of_pos _ (by omega)⟩
 try dsimp only
 refine dQ ?_
 have hz:(jG l).size=l.length:=by unfold jG;simp[ByteArray.size]
 (repeat' first|intro _|(with_reducible apply And.intro))
 all_goals first|omega|(unfold maxLen;omega)|exact uq3.2.2|skip
def aTL:(cE×Int)->((ByteArray)×cE):=Classical.choose aTX
def bCW:Con:={ aLS with fn:=aTL }
theorem bU4:Con.Holds Tryz.prog bCW:=(Classical.choose_spec aTX).2
theorem bTW (x:cE×Int) (hx:okD aSN x) (hp:(fun x=>0<=x.1.2.1/\0<=x.2/\x.2<=1000) x):okD (.cMV .str gO) (aTL x)/\(fun x r=>r.1.size<=1000/\0<=r.2.2.1:(cE×Int)->((ByteArray)×cE)->Prop) x (aTL x):=Rl.q aTX hx hp
def aII:Con:=⟨114,(.cMV gO .str),(.cMV .str gO),[.box 239 ⟨true,gO,[]⟩,.val ⟨false,.str,[]⟩],[⟨false,.str,[0]⟩],false,none,
 ((fun x=>0<=x.1.2.1/\x.2.size<=1000000):(cE×(ByteArray))->Prop),
 ((fun _=>aK (.cMV .str (.cMV (.slice 5 (.int .u8)) aU))):(cE×(ByteArray))->((ByteArray)×cE))⟩
def bBR:T:=aME aCF <| nE aZ aN 2 (mU 0 bP (bS bP .str) 3 <| cF 3) <| aME aCF <| dF 1 bP (bS bP .str) eG <| mU 1 bP zG 4 <| nE (kX 5) aN 6 (jW tF <| aLP aL6 (xR aCF tF) <| aME aCF <| aLP aL6 (kM aCF cY 9) <| aCU 8 10 <| jB .str bP cO (mQ 5)) <| nE (kX 5) bF 7 (aLP aL6 (xR aCF tF) <| aME aCF <| aLP aL6 (kM aCF tF 9) <| aBK (mQ 5) <| .cMW (.conv .i64 .u8) (kX 11) <| kO 5 jV 12 <| aEQ (.b2s 5) 13 <| aCU 8 14 <| aCU 15 10 <| jB .str bP gM (mQ 11)) <| iL (kX 5) 2 8 (aLP aL6 (xR aCF tF) <| jB .str bP cU (mQ 5)) <| xU .sidx tI aCF tF <| jW tF <| aLP aL6 (xR aCF tF) <| aGX .u8 .i64 9 <| aME aCF <| aLP aL6 (kM aCF cI 13) <| mU 1 bP (mQ 5) 255 <| fR jT bF (kX 15) <| mF (.bits .xor .i64) tI tI 12 16 <| aGX .i64 .u8 17 <| kO 5 jV 18 <| aEQ (.b2s 5) 19 <| xN cO 20 <| aCU 21 14 <| jB .str bP qS (mQ 15)
theorem aOR:Rl aII (fun x r=>r.1.size<=1002000/\0<=r.2.2.1:(cE×(ByteArray))->((ByteArray)×cE)->Prop):=rk false ⟨[],[]⟩ bBR (aC bU4 (aC mO (aC aSO aH))) fun(x:cE×(ByteArray)) hx hp=>by
 dsimp only [aII] at hx hp⊢
 obtain⟨c,s⟩:=x
 obtain⟨hp,hs⟩:0<=c.2.1/\s.size<=1000000:=hp
 delta bBR bCW aLS lP jJ aKU aDE;refine dR ?_
 refine dQ ?_
 refine fun _=>⟨fun h0=>⟨⟨hp,by omega,by omega⟩,fun _=>?_⟩,fun h0 _=>⟨hp,fun _=>?_⟩⟩
 ·have q:=(bTW (c,3) ⟨hx.1,okI (by omega) (by omega)⟩ ⟨hp,by show(0:Int)<=3;omega,by show(3:Int)<=1000;omega⟩).2
  dsimp only at q
  exact⟨by omega,q.2⟩
 ·have q1:=eE (c,(s.size:Int)) ⟨hx.1,okI (by omega) (by omega)⟩ hp
  generalize dV (c,(s.size:Int))=r at q1⊢;obtain⟨n1,c1⟩:=r;obtain⟨kq1,uq1⟩:=q1;replace kq1:okD vW c1:=kq1.2;dsimp only at uq1⊢
  have Ah:0<=n1/\n1<(s.size:Int):=⟨uq1.1,uq1.2.1 (by omega)⟩
  have hc1:=uq1.2.2.2
  have q2:=eE (c1,4) ⟨kq1,okI (by omega) (by omega)⟩ hc1
  generalize dV (c1,4)=r at q2⊢;obtain⟨n2,c2⟩:=r;obtain⟨kq2,uq2⟩:=q2;replace kq2:okD vW c2:=kq2.2;dsimp only at uq2⊢
  have hc2:=uq2.2.2.2
  have q3:=(aCA c2 kq2 hc2).2
  generalize aGC c2=r at q3⊢;obtain⟨n3,c3⟩:=r;dsimp only at q3⊢
  have q4:=(eE (c2,255) ⟨kq2,okI (by omega) (by omega)⟩ hc2).2
  generalize dV (c2,255)=r at q4⊢;obtain⟨n4,c4⟩:=r;dsimp only at q4⊢
  have hc3:=q3.2.2
  have F3:=q4.2.2.2
  have J1:0<=n4/\n4<255:=⟨q4.1,q4.2.1 (by omega)⟩
  have ob:∀z:Int,(jG [z]).size=1:=fun z=>rfl
  (repeat' first|intro _|(with_reducible apply And.intro))
  all_goals first|omega|(unfold maxLen;omega)|((try simp only[jH,ByteArray.size_extract,ob]);(try unfold maxLen);omega)|assumption|skip
def aON:(cE×(ByteArray))->((ByteArray)×cE):=Classical.choose aOR
def bAU:Con:={ aII with fn:=aON }
theorem bRY:Con.Holds Tryz.prog bAU:=(Classical.choose_spec aOR).2
theorem bOW (x:cE×(ByteArray)) (hx:okD (.cMV (.cMV (.slice 5 (.int .u8)) aU) .str) x) (hp:(fun x=>0<=x.1.2.1/\x.2.size<=1000000) x):okD (.cMV .str (.cMV (.slice 5 (.int .u8)) aU)) (aON x)/\(fun x r=>r.1.size<=1002000/\0<=r.2.2.1:(cE×(ByteArray))->((ByteArray)×cE)->Prop) x (aON x):=Rl.q aOR hx hp
def aZ0 (B:Nat) (p:aW):Prop:=bC aE p<=B/\1<=List.length p.2.1/\List.length p.2.1<=4/\1<=List.length p.1
theorem cCW (p:aW) (s:Int):(gJ p s).1=p.1:=by unfold gJ;split<;>rfl
theorem cA9 {B:Nat} {p:aW} (s:Int) (h:aZ0 B p):aZ0 (B+200) (gJ p s):=by
 have h1:=bRN p s
 have h2:=cAC p s
 have h3:=cCW p s
 obtain⟨a,b,c,d⟩:=h
 exact⟨by omega,by omega,by omega,by rw[h3];exact d⟩
theorem bYM {B:Nat}:{l:List Nat}->(∀x∈l,x<=B)->l.sum<=l.length * B
 | [],_=>by simp
 | x::l,h=>by
  have h1:=bYM (fun y hy=>h y (List.mem_cons_of_mem _ hy)) (l:=l)
  have h2:=h x (by simp)
  rw[List.sum_cons,List.length_cons,Nat.succ_mul];omega
theorem cED {c:dE} {l:iC} (h:cIC 6 3 4 c l):bC bR c<=2000000/\bC aO l<=2000000:=by
 obtain⟨h1,h2,h3,h4,h5,h6,h7,h8⟩:=h
 constructor
 ·have e:bC bR c=(List.length c.1+((c.1:List fP).map (bC bK)).sum)+(bC aA c.2.1+(0+((List.length c.2.2.2.1+((c.2.2.2.1:List Bool).map (bC .bool)).sum)+(bC aA c.2.2.2.2.1+bC aA c.2.2.2.2.2)))):=rfl
  have g1:=bYM (B:=40) (l:=(c.1:List fP).map (bC bK)) (fun x hx=>by
   obtain⟨o,ho,rfl⟩:=List.mem_map.1 hx
   have e2:bC bK o=0+(0+(0+bC aA o.2.2.2)):=rfl
   have:=h2 o ho
   rw[e2,lX];omega)
  rw[List.length_map] at g1
  have g2:=bYM (B:=0) (l:=(c.2.2.2.1:List Bool).map (bC .bool)) (fun x hx=>by
   obtain⟨o,ho,rfl⟩:=List.mem_map.1 hx
   exact Nat.le_refl _)
  rw[List.length_map] at g2
  rw[e,lX,lX,lX];omega
 ·have e:bC aO l=List.length l+((l:List bT).map (bC aL)).sum:=rfl
  have g1:=bYM (B:=14) (l:=(l:List bT).map (bC aL)) (fun x hx=>by
   obtain⟨o,ho,rfl⟩:=List.mem_map.1 hx
   have e2:bC aL o=bC aA o.1+bC aA o.2:=rfl
   have:=h8 o ho
   rw[e2,lX,lX];omega)
  rw[List.length_map] at g1
  rw[e];omega
theorem bUR {c:dE} {b:iC} (h:cIC 6 3 4 c b) (ha:iB c b=0):aZ0 90000000 (iM c b):=by
 have hs:=cED h
 have hl:=bJW ha
 refine⟨cC3 hs.1 hs.2,hl.1,hl.2,?_⟩
 rw[<-aDC ha]
 exact((aLB _ _).1 (aCE ha).2.1).2.1.1
theorem cJO {p:aW} {i:Nat} {y:aR} (h:bC aB y<=bC aB (p.2.1.getD i (aK aB))+10):bC aE (p.1,p.2.1.set i y,p.2.2)<=bC aE p+10:=by
 rw[aJ2,aJ2]
 have:=aSW (e:=142) (t:=aB) y (aK aB) 10 p.2.1 i (fun _=>h)
 dsimp only
 omega
theorem cJY (p:aW):List.length p.1<=bC aE p/\List.length p.2.2.1<=bC aE p/\∀i,List.length (p.2.1.getD i (aK aB)).2.1<=bC aE p:=by
 have h1:List.length p.1<=bC aO p.1:=rT (e:=138) (t:=aL) p.1
 have h2:List.length p.2.2.1<=bC aI p.2.2.1:=rT (e:=147) (t:=aD) p.2.2.1
 rw[aJ2]
 refine⟨by omega,by omega,fun i=>?_⟩
 by_cases hi:i<p.2.1.length
 ·have hm:p.2.1[i]∈p.2.1:=List.getElem_mem hi
  rw[aP hi]
  generalize p.2.1[i]=y at hm⊢
  have h3:=yJ (e:=142) (t:=aB) hm
  have h4:=oX y
  have h5:List.length y.2.1<=bC bI y.2.1:=rT (e:=159) (t:=aU) y.2.1
  omega
 ·rw[List.getD_eq_getElem?_getD,List.getElem?_eq_none (by omega)];exact Nat.zero_le _
theorem cL7 {p:aW}:bC aE (p.1,p.2.1,p.2.2.1++[((1:Int),([]:List cP))],p.2.2.2)<=bC aE p+10:=by
 rw[aJ2,aJ2]
 dsimp only
 have e:bC aI (p.2.2.1++[((1:Int),([]:List cP))])=bC aI p.2.2.1+(1+bC aD ((1:Int),([]:List cP))):=by
  rw[show bC aI _=_ from bVR _ _,show bC aI [((1:Int),([]:List cP))]=_ from bW8 _]
 have e2:bC aD ((1:Int),([]:List cP))=0:=rfl
 omega
theorem cJI {p:aW} {a b:Nat}:bC aE (List.drop a (List.take b p.1),p.2)<=bC aE p+10:=by
 rw[aJ2,aJ2]
 dsimp only
 have e:bC aO (List.drop a (List.take b p.1))<=bC aO p.1:=aE7 (e:=138) (t:=aL) ((List.drop_sublist _ _).trans (List.take_sublist _ _))
 omega
theorem aZ0.mono {A B:Nat} {p:aW} (h:aZ0 A p) (hb:A<=B):aZ0 B p:=⟨Nat.le_trans h.1 hb,h.2⟩
structure KP (p:aW):Prop where
 all:∀x∈p.2.1,KS x
theorem KP.of {p:aW} (h:KP p) {a:List bT} {r:List bE×List bE}:KP (a,p.2.1,r):=⟨h.all⟩
theorem KP.set {p:aW} (h:KP p) {i:Nat} {y:aR} {a:List bT} {r:List bE×List bE} (hy:KS (p.2.1.getD i (aK aB))->KS y) (hi:i<p.2.1.length):KP (a,p.2.1.set i y,r):=⟨fun x hx=>by
 rcases List.mem_or_eq_of_mem_set hx with h1|rfl
 ·exact h.all x h1
 ·exact hy (by rw[aP hi];exact h.all _ (List.getElem_mem hi))⟩
theorem cHY (m:List fP):(∀r∈(aI7 m).1,(r:List Int).all nO=true)/\nO (aI7 m).2.1=true:=by
 unfold aI7
 split
 ·refine⟨fun r hr=>?_,by show nO 0=true;decide⟩
  obtain⟨o,ho,rfl⟩:=List.mem_map.1 (show r∈m.map fun o=>List.replicate o.2.2.2.length 0 from hr)
  rw[List.all_eq_true]
  intro v hv
  rw[List.eq_of_mem_replicate hv]
  decide
 ·exact⟨fun r hr=>absurd hr List.not_mem_nil,by show nO 0=true;decide⟩
theorem bYX (m:List fP) (pl:List eP) (a b:Bool):QS (aM8 m pl a b):=by
 unfold aM8
 split
 ·exact cHY m
 ·exact⟨fun r hr=>absurd hr List.not_mem_nil,by decide⟩
theorem cIH {c:dE} {b:iC} (h:iB c b=0):QP (iM c b):=by
 rw[<-aDC h]
 intro x hx
 obtain⟨i,_,rfl⟩:=List.mem_map.1 (show x∈(List.range _).map _ from hx)
 exact bYX _ _ _ _
structure PJ (c:dE) (b:iC) (p:aW):Prop where
 run:∃L,PrC c b p L
 qp:QP p
theorem cMQ {c:dE} {b:iC} (h:iB c b=0):PJ c b (iM c b):=⟨⟨[],cDR h⟩,cIH h⟩
theorem PJ.pick {c:dE} {b:iC} {p:aW} (h:iB c b=0) (hp:PJ c b p) (s:Int):PJ c b (gJ p s):=by
 obtain⟨L,hL⟩:=hp.run
 exact⟨⟨_,hL.step (aWR h) s⟩,cHE hp.qp s⟩
theorem PJ.kp {c:dE} {b:iC} {p:aW} (h:iB c b=0) (hp:PJ c b p):KP p:=by
 obtain⟨L,hL⟩:=hp.run
 exact⟨cLD h hL hp.qp⟩
theorem PJ.ok {c:dE} {b:iC} {p:aW} (h:iB c b=0) (hp:PJ c b p):nQ p=true:=by
 obtain⟨L,hL⟩:=hp.run
 exact hL.ok (aWR h)
def aE0:Con:=⟨112,gO,(.cMV aE gO),[.box 239 ⟨true,gO,[]⟩],[⟨true,aE,[2,3,3,3]⟩],true,none,
 ((fun x=>0<=x.2.1):(cE)->Prop),
 ((fun _=>aK (.cMV aE (.cMV (.slice 5 (.int .u8)) aU))):(cE)->(aW×cE))⟩
def bAA:T:=hZ <| eQ 1 bR aO (aGN bR aQF 1) (aXV bR aQF 1 1) <| mU 2 bP (aTR bR aQF 2 1) 60 <| xF (zZ aBQ) (zZ aBQ) [qH,qV 1 3,qV 2 3,aCB 3 3,bM] <| aD8 (aIY aBQ 4) aN 5 (tN aB (uI aBQ 5 4) <| dF 2 bP (oH bP [uI aBQ 1 4,uI aBQ 2 4,uI aBQ 3 4]) cQ <| dF 3 aE (aJ6 aBQ 4 4) (kX 7) <| aCH mY (aIY aBQ 4) 0 (oH (zZ aBQ) [cU,qV 1 7,qV 2 7,aCB 3 7,cM])) (oH (aGL aE) [aJ6 aBQ 4 4,uI aBQ 1 4,uI aBQ 2 4,uI aBQ 3 4])
theorem aPA:Rl aE0 (fun x r=>(aZ0 91000000 r.1/\KP r.1)/\0<=r.2.2.1:(cE)->(aW×cE)->Prop):=rk false ⟨[(2989,1004,iZ 16 12++[.dr 4,.dr 3,.dr 11,.dr 10,.dr 7,.dr 9,.dr 8,.tm 6 0,.bx 1 0,.bx 1 1,.bx 1 2,.sl 19,.nb 19,.sl 20,.nq 20,.nb 20,.sl 21,.nq 21,.nb 21,.sl 22,.nq 22,.nb 22])],[(2981,3006,[],[19,20,21,22])]⟩ bAA (aC bIJ (aC bR5 (aC mO (aC bD0 aH)))) fun(x:cE) hx hp=>by
 dsimp only [aE0] at hx hp⊢
 have q1:=bIN x hx hp
 delta bAA aSI aDG aO9 lP jJ aOU;refine dR ?_
 refine dQ ?_
 refine⟨hp,fun _=>?_⟩
 generalize aDH x=r at q1⊢;obtain⟨c,b,c1⟩:=r;obtain⟨k1,u1⟩:=q1;replace k1:okD vW c1:=k1.2.2;dsimp only at u1⊢
 obtain⟨⟨Ke,had⟩,_,_,_,hc1⟩:=u1
 have hs:=cED Ke
 have hpi:=bUR Ke had
 have Jv:=cMQ had
 generalize iM c b=p0 at hpi Jv⊢
 refine⟨⟨by omega,by omega⟩,fun _=>⟨hc1,fun _=>?_⟩⟩
 have q2:=eE (c1,60) ⟨k1,okI (by omega) (by omega)⟩ hc1
 generalize dV (c1,60)=r at q2⊢;obtain⟨n2,c2⟩:=r;obtain⟨k2,u2⟩:=q2;replace k2:okD vW c2:=k2.2;dsimp only at u2⊢
 have A7:0<=n2/\n2<60:=⟨u2.1,u2.2.1 (by decide)⟩
 refine⟨fun s=>@LE.le Int _ 0 s.1/\@LE.le Int _ s.1 60/\(aZ0 (90000000+200 * (60 - s.1:Int).toNat) s.2.2.2.2/\PJ c b s.2.2.2.2)/\@LE.le Int _ 0 s.2.2.1,fun s=>(s.1:Int).toNat,⟨A7.1,by show n2<=60;omega,⟨hpi.mono (Nat.le_add_right _ _),Jv⟩,u2.2.2.2⟩,fun s hs hI=>?_⟩
 obtain⟨j,bf,i,h,p⟩:=s
 obtain⟨e1,e2,⟨e3,e5⟩,e4⟩:=hI
 change Int at j
 change PJ c b p at e5
 change (0:Int)<=j at e1
 change j<=60 at e2
 change aZ0 (90000000+200 * (60 - j:Int).toNat) p at e3
 change 0<=(i:Int) at e4
 have kq:okD vW (bf,i,h):=⟨hs.2.1,hs.2.2.1,hs.2.2.2.1⟩
 obtain⟨z1,z2,z3,z4⟩:=e3
 try dsimp only
 try refine dQ ?_
 refine⟨fun hlt ho=>⟨e4,fun _=>?_⟩,fun hge=>?_⟩
 ·have q3:=(eE ((bf,i,h),((List.length p.2.1:Nat):Int)) ⟨kq,ho⟩ e4).2
  generalize dV ((bf,i,h),((List.length p.2.1:Nat):Int))=r at q3⊢;obtain⟨n3,c3⟩:=r;dsimp only at q3⊢
  have Jx:=cA9 n3 (show aZ0 (90000000+200 * (60 - j:Int).toNat) p from⟨z1,z2,z3,z4⟩)
  have Lo:=e5.pick had n3
  have Lp:=Jx.mono (B:=90000000+200 * (60 - (j - 1):Int).toNat) (by omega)
  refine⟨by omega,fun _=>⟨by omega,fun _=>⟨⟨by omega,by omega,⟨Lp,Lo⟩,q3.2.2.2⟩,by omega⟩⟩⟩
 ·exact⟨⟨aZ0.mono (show aZ0 _ p from⟨z1,z2,z3,z4⟩) (by omega),e5.kp had⟩,e4⟩
def aDY:(cE)->(aW×cE):=Classical.choose aPA
def aPK:Con:={ aE0 with fn:=aDY }
theorem bA2:Con.Holds Tryz.prog aPK:=(Classical.choose_spec aPA).2
theorem bB6 (x:cE) (hx:okD gO x) (hp:(fun x=>0<=x.2.1) x):okD (.cMV aE gO) (aDY x)/\(fun x r=>(aZ0 91000000 r.1/\KP r.1)/\0<=r.2.2.1:(cE)->(aW×cE)->Prop) x (aDY x):=Rl.q aPA hx hp
def aLV:Con:=⟨93,gO,(.cMV aE gO),[.box 239 ⟨true,gO,[]⟩],[⟨true,aE,[0,0,0,0]⟩],true,none,
 ((fun x=>0<=x.2.1):(cE)->Prop),
 ((fun _=>aK (.cMV aE (.cMV (.slice 5 (.int .u8)) aU))):(cE)->(aW×cE))⟩
def bFH:T:=hZ <| tN aB (fK aE 1 aE aV aU 1) <| dF 1 bP (mW (aGL aE) 1) bM <| mU 1 bP (mQ 3) 18 <| nE tF aN 5 (qD (fK aE 1 aE aV aU 1) qH <| qD (fK aE 1 aE aV aU 1) qH <| wA aU (bN 1 7) <| qD (fK aE 1 aE aV aU 1) qH <| qD (fK aE 1 aE aV aU 1) qH <| wA aU (bN 1 10) <| jW cO <| vA (wN 3 4) (xO aU) [aXF,aN,cM,fE] <| mT 2 bP zG eM <| qD (fK aE 1 aE aV aU 1) qH <| qD (fK aE 1 aE aV aU 1) qH <| qF aB tI aB [fK aE 1 aE aV aU 1,qH,kX 14,mW aB 16] <| aA7 aE bP aE [.p1 aO eD (iT aE 1),iR,prA aE 2 (iT aE 1)] (mQ 14)) <| nE tF bF 6 (.call 3 zG <| qD (fK aE 1 aE aV aU 1) qH <| qD (fK aE 1 aE aV aU 1) qH <| qF aB tI aB [fK aE 1 aE aV aU 1,qH,wP 9,bN 1 9,bN 2 9,bN 3 9,bN 4 9,bN 5 9,bN 6 9,iT aA 7,dO aB 8 9] <| aA7 aE bP aE [.p1 aO eD (iT aE 1),cI,prA aE 2 (iT aE 1)] (mW aGH 7)) <| iL tF 2 7 (vC (rZ 147 aD) bQ bF (.nl 249 aM) <| tH 147 aD aI aI (fK aE 2 aE aV aU 1) 8 <| aA7 aE bP aE [.p1 aO eD (iT aE 1),fK aE 1 aE aV aU 1,cU,prA aE 3 (iT aE 1)] zG) <| iL tF 3 8 (vB aL (.p1 aO eD (iT aE 1)) <| lL cU <| aTD 138 aL aO (.p1 aO eD (iT aE 1)) aN 10 <| jB aE bP (.cMX aO eD cO (prA aE 1 (iT aE 1))) zG) <| iL tF 4 9 (qD (fK aE 1 aE aV aU 1) qH <| qD (fK aE 1 aE aV aU 1) qH <| qF aB tI aB [fK aE 1 aE aV aU 1,qH,wP 11,bN 1 11,bN 2 11,bN 3 11,bN 4 11,aL7,dO aB 6 11] <| aA7 aE bP aE [.p1 aO eD (iT aE 1),fE,prA aE 2 (iT aE 1)] zG) <| iL tF 5 10 (qD (fK aE 1 aE aV aU 1) qH <| qD (fK aE 1 aE aV aU 1) qH <| bD7 (bN 3 12) <| qD (fK aE 1 aE aV aU 1) qH <| qD (fK aE 1 aE aV aU 1) qH <| qF aB tI aB [fK aE 1 aE aV aU 1,qH,wP 15,bN 1 15,bN 2 15,eM,dO aB 4 15] <| aA7 aE bP aE [.p1 aO eD (iT aE 1),gM,prA aE 2 (iT aE 1)] zG) <| jB aE bP (iT aE 1) zG
theorem aSP:Rl aLV (fun x r=>bC aE r.1<=92000000/\KP r.1:(cE)->(aW×cE)->Prop):=rk false ⟨[],[(2986,3006,[35],[]),(2983,6007,[45],[]),(2977,24009,[],[7])]⟩ bFH (aC bA2 (aC mO (aC zQ (aC bZS aH)))) fun(x:cE) hx hp=>by
 dsimp only [aLV] at hx hp⊢
 have q1:=bB6 x hx hp
 delta bFH aPK aE0 lP jJ vP rH bIX aQU;refine dR ?_
 refine dQ ?_
 refine⟨hp,fun _=>?_⟩
 generalize aDY x=r at q1⊢;obtain⟨p,c1⟩:=r;obtain⟨k1,u1⟩:=q1;replace k1:okD vW c1:=k1.2;dsimp only at u1⊢
 obtain⟨⟨⟨z1,z2,z3,z4⟩,Bg⟩,hc1⟩:=u1
 refine fun ho=>⟨hc1,fun _=>?_⟩
 have q2:=eE (c1,((List.length p.2.1:Nat):Int)) ⟨k1,ho⟩ hc1
 generalize dV (c1,((List.length p.2.1:Nat):Int))=r at q2⊢;obtain⟨n2,c2⟩:=r;obtain⟨k2,u2⟩:=q2;replace k2:okD vW c2:=k2.2;dsimp only at u2⊢
 have A7:0<=n2/\n2<((List.length p.2.1:Nat):Int):=⟨u2.1,u2.2.1 (by show(0:Int)<((List.length p.2.1:Nat):Int);omega)⟩
 refine⟨u2.2.2.2,fun _=>?_⟩
 have hc2:=u2.2.2.2
 clear u2
 have q3:=eE (c2,18) ⟨k2,okI (by omega) (by omega)⟩ hc2
 generalize dV (c2,18)=r at q3⊢;obtain⟨n3,c3⟩:=r;obtain⟨k3,u3⟩:=q3;replace k3:okD vW c3:=k3.2;dsimp only at u3⊢
 have hc3:=u3.2.2.2
 clear u3
 have q4:=(bZB c3 k3 hc3).2.1
 obtain⟨l1,l2,l3⟩:=cJY p
 have l4:=l3 n2.toNat
 have e0:bC aJ3 ([]:List eC)=0:=rfl
 have hi2:n2.toNat<List.length p.2.1:=by omega
 (repeat' first|intro _|(with_reducible apply And.intro))
 all_goals first|omega|(unfold maxLen;omega)|(with_reducible exact hc3)|(rename_i hh;cases hh;done)|(with_reducible exact Bg)|(with_reducible exact Bg.of)|(refine Bg.set (fun k=>⟨k.pl,k.pi,k.sv,k.si,k.vl,k.vf,k.sm,k.ls⟩) hi2;done)|(refine Bg.set (fun k=>⟨k.pl,k.pi,Nat.zero_le _,(fun y hy=>by cases hy),k.vl,k.vf,k.sm,k.ls⟩) hi2;done)|exact Nat.le_trans cL7 (by omega)|exact Nat.le_trans cJI (by omega)|(refine Nat.le_trans (cJO ?_) (show _<=92000000 by omega);rw[oX,oX];dsimp only;omega)|skip
def aSX:(cE)->(aW×cE):=Classical.choose aSP
def bG5:Con:={ aLV with fn:=aSX }
theorem bV2:Con.Holds Tryz.prog bG5:=(Classical.choose_spec aSP).2
theorem bUS (x:cE) (hx:okD gO x) (hp:(fun x=>0<=x.2.1) x):okD (.cMV aE gO) (aSX x)/\(fun x r=>bC aE r.1<=92000000/\KP r.1:(cE)->(aW×cE)->Prop) x (aSX x):=Rl.q aSP hx hp
def yL:Con:=⟨21,aNA,aE,[.val ⟨false,aNA,[]⟩],[⟨true,aE,[0,0,0,0]⟩],true,none,
 ((fun x=>x.length<=1048576):(List Int)->Prop),
 ((fun _=>aK aE):(List Int)->(aW))⟩
def aK2:T:=hZ <| cD 1 1 <| .ret (iT aE 2)
theorem aD2:Rl yL (fun x r=>bC aE r<=92000000/\KP r:(List Int)->(aW)->Prop):=rk false ⟨[],[]⟩ aK2 (aC bK2 (aC bV2 aH)) fun(x:List Int) hx hp=>by
 dsimp only [yL] at hx hp⊢
 have hp':List.length x<=1048576:=hp
 delta aK2 sI bG5 aLV;refine dR ?_
 refine dQ ?_
 refine⟨hp',fun hc=>⟨Int.le_refl _,fun _=>?_⟩⟩
 exact(bUS (aXO x) hc (Int.le_refl _)).2
def yE:(List Int)->(aW):=Classical.choose aD2
def aKC:Con:={ yL with fn:=yE }
theorem aXL:Con.Holds Tryz.prog aKC:=(Classical.choose_spec aD2).2
theorem aXJ (x:List Int) (hx:okD aNA x) (hp:(fun x=>x.length<=1048576) x):okD aE (yE x)/\(fun x r=>bC aE r<=92000000/\KP r:(List Int)->(aW)->Prop) x (yE x):=Rl.q aD2 hx hp
def yM:Con:=⟨26,aNA,.str,[.val ⟨false,aNA,[]⟩],[⟨false,.str,[0]⟩],false,none,
 ((fun x=>x.length<=1048576):(List Int)->Prop),
 ((fun _=>aK .str):(List Int)->(ByteArray))⟩
def aK1:T:=hZ <| cD 1 1 <| aBK (iT aE 2) <| mU 3 bP (mW (aGL aE) 2) 5 <| nE tF aN 5 (eQ 4 bP .str zG eG <| .ret (iT .str 6)) <| rX .eql tF bF 6 (aEQ .slen 3 <| jW cY <| dF 3 bP zG cM <| aLP aL6 (xR eG (kX 9)) <| cF 10) eG
theorem aCY:Rl yM (fun x r=>r.size<=2000000:(List Int)->(ByteArray)->Prop):=rk false ⟨[],[]⟩ aK1 (aC bK2 (aC bA2 (aC aWF (aC mO (aC bRY aH))))) fun(x:List Int) hx hp=>by
 dsimp only [yM] at hx hp⊢
 have hp':List.length x<=1048576:=hp
 delta aK1 sI aPK aE0 aFN lP jJ bAU aII;refine dR ?_
 refine dQ ?_
 refine⟨hp',fun hc=>⟨Int.le_refl _,fun _=>?_⟩⟩
 have q1:=bB6 (aXO x) hc (Int.le_refl _)
 generalize aDY (aXO x)=r at q1⊢;obtain⟨p,c1⟩:=r;obtain⟨kq1,uq1⟩:=q1;replace kq1:okD vW c1:=kq1.2;dsimp only at uq1⊢
 have hc1:=uq1.2
 have z1:(pR p).size<=60000:=by
  unfold pR
  split
  ·rename_i h;exact h.2.2
  ·exact Nat.zero_le _
 generalize pR p=t at z1⊢
 have q2:=eE (c1,5) ⟨kq1,okI (by omega) (by omega)⟩ hc1
 have q4:=fun(c2:cE) (hk:okD vW c2) (h:0<=c2.2.1)=>(bOW (c2,t) ⟨hk,by show t.size<=maxLen;unfold maxLen;omega⟩ ⟨h,by show t.size<=1000000;omega⟩).2
 have q5:=fun(c2:cE) (hk:okD vW c2) (h:0<=c2.2.1)=>(eE (c2,(t.size:Int)+1) ⟨hk,okI (by omega) (by omega)⟩ h).2
 generalize dV (c1,5)=r at q2⊢;obtain⟨n2,c2⟩:=r;obtain⟨kq2,uq2⟩:=q2;replace kq2:okD vW c2:=kq2.2;dsimp only at uq2⊢
 have hc2:=uq2.2.2.2
 have q4':=q4 c2 kq2 hc2
 have q5':=q5 c2 kq2 hc2
 dsimp only at q4' q5'
 (repeat' first|intro _|(with_reducible apply And.intro))
 all_goals first|omega|(unfold maxLen;omega)|(with_reducible exact hc1)|(with_reducible exact hc2)|((try simp only[ByteArray.size_extract]);omega)|skip
def yC:(List Int)->(ByteArray):=Classical.choose aCY
def aKO:Con:={ yM with fn:=yC }
theorem aYG:Con.Holds Tryz.prog aKO:=(Classical.choose_spec aCY).2
theorem aY0 (x:List Int) (hx:okD (.slice 5 (.int .u8)) x) (hp:(fun x=>x.length<=1048576) x):okD .str (yC x)/\(fun x r=>r.size<=2000000:(List Int)->(ByteArray)->Prop) x (yC x):=Rl.q aCY hx hp
def aAV (s:ByteArray) (p:Int):Option Int :=
 if 0<=p/\p+8<=s.size then
  if lD s p=43 then some (rdN (s.extract (p+1).toNat s.size) 7)
  else if lD s p=45/\rdN (s.extract (p+1).toNat s.size) 7≠0 then some (-(rdN (s.extract (p+1).toNat s.size) 7))
  else none
 else none
theorem bV4 {s:ByteArray} {p:Int} (h:¬(0<=p/\p+8<=s.size)):aAV s p=none:=by unfold aAV;rw[if_neg h]
theorem aTE {s:ByteArray} {p n:Int} (h:aAV s p=some n):0<=p/\p+8<=s.size:=by
 unfold aAV at h
 split at h
 ·assumption
 ·cases h
abbrev qL:=ByteArray×(Int×Bool)
def sG (r:qL) (lo hi:Int):Int×qL :=
 match (if r.2.2=true then none else aAV r.1 r.2.1) with
 | some n=>if lo<=n/\n<=hi then(n,(r.1,r.2.1+8,false)) else(0,(r.1,r.2.1,true))
 | none=>(0,(r.1,r.2.1,true))
def yU:Nat->qL->List Int×qL
 | 0,r=>([],r)
 | k+1,r=>if r.2.2=true then([],r) else((sG r (-1000000000000) 1000000000000).1::(yU k (sG r (-1000000000000) 1000000000000).2).1,(yU k (sG r (-1000000000000) 1000000000000).2).2)
def oA (r:qL):List Int×qL:=yU (sG r 0 200).1.toNat (sG r 0 200).2
def RdP (r:qL):Prop:=0<=r.2.1/\r.2.1<=r.1.size
theorem aYS {r:qL} (h:RdP r) (lo hi:Int):RdP (sG r lo hi).2/\(sG r lo hi).2.1=r.1:=by
 unfold sG
 split
 ·rename_i n hn
  split at hn
  ·cases hn
  ·have:=aTE hn
   split
   ·exact⟨⟨by show 0<=r.2.1+8;omega,by show r.2.1+8<=(r.1.size:Int);omega⟩,rfl⟩
   ·exact⟨h,rfl⟩
 ·exact⟨h,rfl⟩
theorem bU9 (r:qL) (lo hi:Int):(sG r lo hi).1=0\/(lo<=(sG r lo hi).1/\(sG r lo hi).1<=hi):=by
 unfold sG
 split
 ·split
  ·right;assumption
  ·left;rfl
 ·left;rfl
def aRY (s:ByteArray):Nat->Int->Option (List Int×Int)
 | 0,p=>some ([],p)
 | k+1,p=>match aAV s p with
  | some n=>if mD n=true then(aRY s k (p+8)).map fun q=>(n::q.1,q.2) else none
  | none=>none
def bTY (s:ByteArray) (p:Int):Option (List Int×Int):=match aAV s p with
 | some n=>if 0<=n/\n<=200 then aRY s n.toNat (p+8) else none
 | none=>none
theorem bOV (s:ByteArray) (a:Nat) (h:a<=s.size):(s.extract a s.size).size=s.size - a:=by rw[ByteArray.size_extract];omega
theorem cCN {s:ByteArray} {p:Int} (h0:0<=p) (h:p+8<=s.size):bRD (s.extract (p+1).toNat s.size)=(rdN (s.extract (p+1).toNat s.size) 7,true):=by
 unfold bRD
 rw[if_pos]
 rw[bOV _ _ (by omega)]
 omega
theorem bX3 {s:ByteArray} {p:Int} (h0:0<=p) (h:p+8<=s.size) (hc:lD s p=43):aAV s p=some (rdN (s.extract (p+1).toNat s.size) 7):=by unfold aAV;rw[if_pos ⟨h0,h⟩,if_pos hc]
theorem bWY {s:ByteArray} {p:Int} (h0:0<=p) (h:p+8<=s.size) (hc:lD s p=45) (hn:rdN (s.extract (p+1).toNat s.size) 7≠0):aAV s p=some (-(rdN (s.extract (p+1).toNat s.size) 7)):=by unfold aAV;rw[if_pos ⟨h0,h⟩,if_neg (by omega),if_pos ⟨hc,hn⟩]
theorem cH7 {s:ByteArray} {p:Int} (h:¬(0<=p/\p+8<=s.size)\/(lD s p≠43/\(lD s p≠45\/rdN (s.extract (p+1).toNat s.size) 7=0))):aAV s p=none:=by
 unfold aAV
 split
 ·rw[if_neg (by omega),if_neg (by omega)]
 ·rfl
theorem bO4 {s:ByteArray} {p lo hi:Int} (h:aAV s p=none):(0,s,p,true)=sG (s,p,false) lo hi:=by
 unfold sG
 rw[if_neg (by simp)]
 simp only[h]
theorem bN0 {s:ByteArray} {p lo hi n:Int} (h:aAV s p=some n) (hn:n<lo\/hi<n):(0,s,p,true)=sG (s,p,false) lo hi:=by
 unfold sG
 rw[if_neg (by simp)]
 simp only[h]
 rw[if_neg (by omega)]
theorem bFT {s:ByteArray} {p lo hi n:Int} (h:aAV s p=some n) (h1:lo<=n) (h2:n<=hi):(n,s,p+8,false)=sG (s,p,false) lo hi:=by
 unfold sG
 rw[if_neg (by simp)]
 simp only[h]
 rw[if_pos ⟨h1,h2⟩]
theorem aB5 (k:Nat) {r:qL} (h:r.2.2=true):yU k r=([],r):=by
 cases k with
 | zero=>rfl
 | succ k=>unfold yU;rw[if_pos h]
theorem aO0 (k:Nat) {r:qL} (h:r.2.2=false):yU (k+1) r=((sG r (-1000000000000) 1000000000000).1::(yU k (sG r (-1000000000000) 1000000000000).2).1,(yU k (sG r (-1000000000000) 1000000000000).2).2):=by
 rw[yU,if_neg (by rw[h];simp)]
theorem bX6:(k:Nat)->{r:qL}->RdP r->RdP (yU k r).2/\(yU k r).2.1=r.1
 | 0,r,h=>⟨h,rfl⟩
 | k+1,r,h=>by
  cases hb:r.2.2 with
  | true=>rw[aB5 _ hb];exact⟨h,rfl⟩
  | false =>
   rw[aO0 _ hb]
   have h1:=aYS h (-1000000000000) 1000000000000
   have h2:=bX6 k h1.1
   exact⟨h2.1,h2.2.trans h1.2⟩
theorem zE {r:qL} (h:RdP r):RdP (oA r).2/\(oA r).2.1=r.1:=by
 have h1:=aYS h 0 200
 have h2:=bX6 (sG r 0 200).1.toNat h1.1
 exact⟨h2.1,h2.2.trans h1.2⟩
theorem bQA (s:ByteArray):(k:Nat)->(p:Int)->match aRY s k p with
  | some q=>yU k (s,p,false)=(q.1,s,q.2,false)
  | none=>(yU k (s,p,false)).2.2.2=true
 | 0,p=>rfl
 | k+1,p=>by
  rw[aO0 k (r:=(s,p,false)) rfl,aRY]
  cases hn:aAV s p with
  | none =>
   rw[<-bO4 hn]
   show(yU k (s,p,true)).2.2.2=true
   rw[aB5 _ rfl]
  | some n =>
   dsimp only
   by_cases hs:mD n=true
   ·rw[if_pos hs]
    have h2:=(aG3 n).1 hs
    rw[<-bFT hn h2.1 h2.2]
    have ih:=bQA s k (p+8)
    cases hq:aRY s k (p+8) with
    | none=>rw[hq] at ih;exact ih
    | some q=>rw[hq] at ih;dsimp only [Option.map] at ih⊢;rw[ih]
   ·rw[if_neg hs]
    rw[aG3] at hs
    rw[<-bN0 hn (by omega)]
    show(yU k (s,p,true)).2.2.2=true
    rw[aB5 _ rfl]
theorem bK4 (s:ByteArray) (p:Int):match bTY s p with
  | some q=>oA (s,p,false)=(q.1,s,q.2,false)
  | none=>(oA (s,p,false)).2.2.2=true:=by
 unfold bTY oA
 cases hn:aAV s p with
 | none =>
  rw[<-bO4 hn]
  show(yU _ (s,p,true)).2.2.2=true
  rw[aB5 _ rfl]
 | some n =>
  dsimp only
  by_cases hs:0<=n/\n<=200
  ·rw[if_pos hs,<-bFT hn hs.1 hs.2]
   exact bQA s _ _
  ·rw[if_neg hs,<-bN0 hn (by omega)]
   show(yU _ (s,p,true)).2.2.2=true
   rw[aB5 _ rfl]
theorem bWJ (s:ByteArray):(k:Nat)->(p:Int)->0<=p->p<=s.size->∀q,aRY s k p=some q->q.1.length=k/\p<=q.2/\q.2<=s.size
 | 0,p,h0,h1,q,h=>by
  unfold aRY at h
  cases h
  exact⟨rfl,Int.le_refl _,h1⟩
 | k+1,p,h0,h1,q,h=>by
  rw[aRY] at h
  split at h
  ·rename_i n hn
   have hp:=aTE hn
   split at h
   ·rw[Option.map_eq_some_iff] at h
    obtain⟨q',h2,rfl⟩:=h
    obtain⟨i1,i2,i3⟩:=bWJ s k (p+8) (by omega) (by omega) q' h2
    exact⟨by simp[i1],by show p<=q'.2;omega,i3⟩
   ·cases h
  ·cases h
def wS:Con:=⟨193,(.cMV aC4 aU),(.cMV tI aC4),[.box 151 ⟨true,aC4,[]⟩,.val ⟨false,tI,[]⟩,.val ⟨false,tI,[]⟩],[⟨false,tI,[0]⟩],false,none,
 ((fun x=>RdP x.1):(((ByteArray)×(Int×Bool))×eP)->Prop),
 ((fun x=>sG x.1 x.2.1 x.2.2):(((ByteArray)×(Int×Bool))×eP)->(Int×((ByteArray)×(Int×Bool))))⟩
def aI0:T:=.ite (iP aY 2 aY aU) (uR wO (wH aN iO aY aU (eV aY 1 aY aU) bD)) <| aME (bHJ iO aY aU) <| fR mY aZ (eV aY 1 aY aU) <| qY bM (fX 8) 3 (oH wO (wH aN iO aY aU (eV aY 1 aY aU) bD)) <| xU .sidx tI (bHJ iO aY aU) (eV aY 1 aY aU) <| jW (eV aY 1 aY aU) <| aME (bHJ iO aY aU) <| aLP aL6 (kM (bHJ iO aY aU) fF 6) <| cJN 0 cY sV <| aZ5 .eql .u8 jV jV dY (bH0 45) <| aAG 9 (.cMW bTO aAI <| aZ5 .neq .u8 jV jV dY (bH0 43) <| aAG 11 (aZ5 .neq .u8 jV jV dY (bH0 45) <| sY 12 (oH wO (wH aN iO aY aU (eV aY 1 aY aU) bD)) <| uD cI aN 13 (oH wO (wH aN iO aY aU (eV aY 1 aY aU) bD)) <| qY cI (qE (aC2 aY)) 14 (oH wO (wH aN iO aY aU (eV aY 1 aY aU) bD)) <| lN cI (fA aY aU 2) 15 (oH wO (wH aN iO aY aU (eV aY 1 aY aU) bD)) <| mL jT (eV aY 1 aY aU) 8 <| uR wO (wH cI iO aY aU gM (iP aY 2 aY aU))) <| qY cI (qE (aC2 aY)) 12 (oH wO (wH aN iO aY aU (eV aY 1 aY aU) bD)) <| lN cI (fA aY aU 2) 13 (oH wO (wH aN iO aY aU (eV aY 1 aY aU) bD)) <| mL jT (eV aY 1 aY aU) 8 <| uR wO (wH cI iO aY aU dK (iP aY 2 aY aU))) <| aZ5 .neq .u8 jV jV dY (bH0 43) <| aAG 10 (aZ5 .neq .u8 jV jV dY (bH0 45) <| sY 11 (oH wO (wH aN iO aY aU (eV aY 1 aY aU) bD)) <| uD aAI aN 12 (oH wO (wH aN iO aY aU (eV aY 1 aY aU) bD)) <| qY aAI (qE (aC2 aY)) 13 (oH wO (wH aN iO aY aU (eV aY 1 aY aU) bD)) <| lN aAI (fA aY aU 2) 14 (oH wO (wH aN iO aY aU (eV aY 1 aY aU) bD)) <| mL jT (eV aY 1 aY aU) 8 <| uR wO (wH aAI iO aY aU fC (iP aY 2 aY aU))) <| qY aAI (qE (aC2 aY)) 11 (oH wO (wH aN iO aY aU (eV aY 1 aY aU) bD)) <| lN aAI (fA aY aU 2) 12 (oH wO (wH aN iO aY aU (eV aY 1 aY aU) bD)) <| mL jT (eV aY 1 aY aU) 8 <| uR wO (wH aAI iO aY aU eM (iP aY 2 aY aU))
set_option maxHeartbeats 4000000 in
theorem aIC:Con.Holds Tryz.prog wS:=tk ⟨[],[]⟩ aI0 (aC bII aH) fun(x:((ByteArray)×(Int×Bool))×eP) hx hp=>by
 dsimp only [wS] at hx hp⊢
 obtain⟨⟨s,p,b⟩,lo,hi⟩:=x
 obtain⟨h1,h2⟩:0<=p/\p<=s.size:=hp
 have hs:s.size<=9223372036854775807:=by have:s.size<=maxLen:=hx.1.1;unfold maxLen at this;omega
 delta aI0 aIU;refine dR ?_
 cases b with
 | true=>exact⟨fun _=>by unfold sG;rw[if_pos rfl],fun h=>by cases h⟩
 | false =>
  by_cases hc:p+8<=s.size
  ·have e:=cCN h1 hc
   have a1:=bX3 h1 hc
   have a2:=bWY h1 hc
   have a3:=cH7 (s:=s) (p:=p)
   have hb:=cB8 (s.extract (p+1).toNat s.size) (show 7<=7 by decide)
   have e1:((s.size:Int)).toNat=s.size:=by omega
   have es:=bOV s (p+1).toNat (by omega)
   rw[e1,e]
   generalize rdN (s.extract (p+1).toNat s.size) 7=N at a1 a2 a3 hb⊢
   (refine dQ ?_;try with_reducible exact True.intro)
   (repeat' first|intro _|(with_reducible apply And.intro))
   all_goals first|omega|contradiction|exact bO4 (a3 (by omega))|exact bN0 (a1 (by omega)) (by omega)|exact bN0 (a2 (by omega) (by omega)) (by omega)|exact bFT (a1 (by omega)) (by omega) (by omega)|exact bFT (a2 (by omega) (by omega)) (by omega) (by omega)
  ·(refine dQ ?_;try with_reducible exact True.intro)
   have a3:aAV s p=none:=bV4 (by omega)
   exact⟨fun h=>(by cases h),fun _ _=>⟨by omega,fun _=>⟨fun _=>bO4 a3,fun h=>(by omega)⟩⟩⟩
def rK:Con:=⟨101,aC4,(.cMV aA aC4),[.box 151 ⟨true,aC4,[]⟩],[⟨false,aA,[2]⟩],false,none,
 ((fun x=>RdP x):((ByteArray)×(Int×Bool))->Prop),
 ((fun x=>oA x):((ByteArray)×(Int×Bool))->(bX×((ByteArray)×(Int×Bool))))⟩
def aPS:T:=mI 0 (aC2 aY) bJ aN 200 <| xF (pH .str dG) (pH .str dG) [aN,cL aY 1 1,cL aY 2 1,fY aY 3 1,bA] <| xA tI tI (gZ .str dG 2) (cB aY 1) <| jL 3 (bD7 (sF dG 3 2) <| jL 4 (mI 0 (aC2 aY) (oH aY [sF dG 1 2,sF dG 2 2,sF dG 3 2]) (fX (-1000000000000)) 1000000000000 <| gD 3 tI (cB aY 5) <| lS 3 8 aA aA (aAB .str dG 4 2) 6 <| gF (gZ .str dG 2) 0 (pH .str dG) [cM,cL aY 1 5,cL aY 2 5,fY aY 3 5,cY]) (bGJ aA aY [aAB .str dG 4 2,sF dG 1 2,sF dG 2 2,sF dG 3 2])) (bGJ aA aY [aAB .str dG 4 2,sF dG 1 2,sF dG 2 2,sF dG 3 2])
theorem wW:Con.Holds Tryz.prog rK:=tk ⟨[(2989,1002,iZ 8 6++[.tm 5 0,.on 3,.bx 1 0,.bx 1 1,.bx 1 2,.sl 2])],[]⟩ aPS (aC aIC aH) fun(x:(ByteArray)×(Int×Bool)) hx hp=>by
 dsimp only [rK] at hx hp⊢
 have hp:RdP x:=hp
 delta aPS wS;refine dR ?_
 have h1:=aYS hp 0 200
 have hb:=bU9 x 0 200
 refine⟨hp,fun _=>?_⟩
 refine⟨fun t=>∃k:Nat,t.1=(k:Int)/\(k:Int)<=(sG x 0 200).1/\List.length t.2.2.2.2<=k/\RdP (t.2.1,t.2.2.1,t.2.2.2.1)/\oA x=(t.2.2.2.2++(yU ((sG x 0 200).1.toNat - k) (t.2.1,t.2.2.1,t.2.2.2.1)).1,(yU ((sG x 0 200).1.toNat - k) (t.2.1,t.2.2.1,t.2.2.2.1)).2),fun t=>((sG x 0 200).1 - t.1:Int).toNat,⟨0,rfl,by omega,Nat.le_refl _,h1.1,rfl⟩,fun t _ hI=>?_⟩
 obtain⟨i,s,p,b,acc⟩:Int×(ByteArray×(Int×(Bool×List Int))):=t
 obtain⟨k,rfl,hk,hl,hP,hv⟩:=hI
 dsimp only at hk hl hP hv⊢
 generalize hn:(sG x 0 200).1=n at hb hk hv⊢
 constructor
 ·intro hlt
  rw[decide_eq_true_eq] at hlt
  constructor
  ·intro hb2
   obtain rfl:b=false:=by simpa using hb2
   have Mv:=aYS hP (-1000000000000) 1000000000000
   obtain⟨m,hm⟩:∃m,n.toNat - k=m+1:=⟨n.toNat - k - 1,by omega⟩
   rw[hm,aO0 m rfl] at hv
   (refine dQ ?_;try with_reducible exact True.intro)
   (repeat' first|intro _|(with_reducible apply And.intro))
   all_goals first|omega|exact hP|(unfold maxLen;omega)|skip
   refine⟨k+1,rfl,by omega,Nat.succ_le_succ hl,Mv.1,?_⟩
   rw[show n.toNat - (k+1)=m by omega,hv]
   simp
  ·intro hb2
   obtain rfl:b=true:=by simpa using hb2
   rw[aB5 _ rfl] at hv
   rw[hv];simp
 ·intro hge
  rw[decide_eq_false_iff_not] at hge
  rw[show n.toNat - k=0 by omega] at hv
  rw[hv];simp[yU]
end
end Go.Proofs.YtfmfeplebgbpmaaGreat
