/- PrgC: lemmas. No conditions. -/
import Derived.Test.YtfmfeplebgbpmaaGreatCoreT
import Derived.Test.YtfmfeplebgbpmaaGreatRiF
namespace Go.Proofs.YtfmfeplebgbpmaaGreat
open Go.ChangeShapes Go.WideShapes Go.ChangeAt Go.RowKit Go.Deep
set_option linter.unusedVariables false
set_option linter.unusedSimpArgs false
def uU (p:aW) (s:Nat):List eP:=(p.2.1.getD s (aK aB)).2.1
def pcS (p:aW) (s:Nat):Int:=(p.2.1.getD s (aK aB)).1
def uT (l:List aRL) (s:Int):List eP:=(l.filter fun a=>a.2.2&&decide (a.1=s)).map fun a=>a.2.1
def mOf (k:Int) (l:List eP):List Int:=(l.filter fun i=>decide (i.1=k)).map fun i=>i.2
theorem sK {α:Type} (l:List α) (i j:Nat) (x d:α):(l.set i x).getD j d=if i=j/\j<l.length then x else l.getD j d:=by
 rw[List.getD_eq_getElem?_getD,List.getD_eq_getElem?_getD,List.getElem?_set]
 by_cases h:i=j
 ·subst h
  rw[if_pos rfl]
  by_cases h2:i<l.length
  ·rw[if_pos h2,if_pos ⟨rfl,h2⟩];rfl
  ·rw[if_neg h2,if_neg (fun h=>h2 h.2),List.getElem?_eq_none (by omega)]
 ·rw[if_neg h,if_neg (fun h2=>h h2.1)]
theorem aV0 (l m:List aRL) (s:Int):uT (l++m) s=uT l s++uT m s:=by unfold uT;rw[List.filter_append,List.map_append]
theorem bX0 (s:Int) (i:eP) (t:Int):uT [(s,i,false)] t=[]:=rfl
theorem bR9 (s:Int) (i:eP) (t:Int):uT [(s,i,true)] t=if s=t then [i] else []:=by
 unfold uT
 by_cases h:s=t
 ·rw[if_pos h];simp[List.filter,h]
 ·rw[if_neg h];simp[List.filter,h]
theorem aHN (k:Int) (l m:List eP):mOf k (l++m)=mOf k l++mOf k m:=by unfold mOf;rw[List.filter_append,List.map_append]
theorem bCN (k:Int) (i:eP):mOf k [i]=if i.1=k then [i.2] else []:=by
 unfold mOf
 by_cases h:i.1=k
 ·rw[if_pos h];simp[List.filter,h]
 ·rw[if_neg h];simp[List.filter,h]
theorem bNU {k m:Int} {l:List eP}:m∈mOf k l↔(k,m)∈l:=by
 unfold mOf
 simp only[List.mem_map,List.mem_filter,decide_eq_true_eq]
 exact⟨fun⟨a,⟨h1,h2⟩,h3⟩=>by obtain⟨x,y⟩:=a;dsimp only at h2 h3;subst h2;subst h3;exact h1,fun h=>⟨(k,m),⟨h,rfl⟩,rfl⟩⟩
theorem rcv {k k' m:Int} {p1 p0:List eP} {c c0:Nat} (he:mOf k p1=mOf k' p0) (hc:c<p1.length) (hi:p1[c]=(k,m)) (hl:(mOf k (p1.take c)).length<(mOf k' (p0.take c0)).length):(k',m)∈p0.take c0:=by
 have e1:p1=(p1.take c++[p1[c]])++p1.drop (c+1):=by
  rw[oT hc,List.take_append_drop]
 have e0:p0=p0.take c0++p0.drop c0:=(List.take_append_drop _ _).symm
 have h1:(mOf k p1)[(mOf k (p1.take c)).length]?=some m:=by
  conv=>lhs;lhs;rw[e1]
  rw[aHN,aHN,hi,bCN,if_pos rfl,List.append_assoc,List.getElem?_append_right (Nat.le_refl _),Nat.sub_self];rfl
 rw[he,e0,aHN,List.getElem?_append_left hl] at h1
 exact bNU.1 (List.mem_of_getElem? h1)
def ahd (l:List eP) (a b:Int):Prop:=∀k (h:k<l.length),l[k].1=b->(a,l[k].2)∈l.take k
theorem bQM {l:List eP} {a b m:Int} (h:ahd l a b) {K:Nat} (hm:(b,m)∈l.take K):(a,m)∈l.take K:=by
 obtain⟨j,hj,e⟩:=List.mem_iff_getElem.1 hm
 have hl:(l.take K).length=min K l.length:=List.length_take
 rw[List.getElem_take] at e
 have h1:=h j (by omega) (by rw[e])
 rw[e] at h1
 exact(List.take_subset_take_left l (show j<=K by omega)) h1
structure PlOk (P:aW):Prop where
 q1:∀s,s+1<P.2.1.length->mOf 1 (uU P (s+1))=mOf 3 (uU P s)
 q4:∀s,s+1<P.2.1.length->mOf 4 (uU P s)=mOf 7 (uU P (s+1))
 a1:∀s,s<P.2.1.length->0<s->ahd (uU P s) 1 2
 a2:∀s,s<P.2.1.length->ahd (uU P s) 2 3
 a4:∀s,s+1<P.2.1.length->ahd (uU P s) 4 6
 a6:∀s,s<P.2.1.length->ahd (uU P s) 6 7
def okA (n:Nat) (L:List aRL) (a:aRL):Prop:=a.2.2=true->(0<=a.1/\a.1<(n:Int))/\(a.2.1.1=1->0<a.1/\(3,a.2.1.2)∈uT L (a.1 - 1))/\(a.2.1.1=4->a.1+1<(n:Int)/\(7,a.2.1.2)∈uT L (a.1+1)) /\
 (a.2.1.1=2->0<a.1->(2,a.2.1.2)∈uT L (a.1 - 1))/\(a.2.1.1=6->a.1+1<(n:Int)->(6,a.2.1.2)∈uT L (a.1+1))
structure TrI (P p:aW) (L:List aRL):Prop where
 ln:p.2.1.length=P.2.1.length
 pl:∀s,uU p s=uU P s
 pc:∀s,s<P.2.1.length->0<=pcS p s/\pcS p s<=((uU P s).length:Int)/\uT L (s:Int)=(uU P s).take (pcS p s).toNat
 qa:∀s,s+1<P.2.1.length->(p.2.2.1.getD s (aK aD)).2.length+(mOf 1 (uT L ((s+1:Nat):Int))).length<=(mOf 3 (uT L (s:Int))).length
 qb:∀s,s+1<P.2.1.length->(p.2.2.2.getD s (aK aD)).2.length+(mOf 4 (uT L (s:Int))).length<=(mOf 7 (uT L ((s+1:Nat):Int))).length
 m1:∀s,s+1<P.2.1.length->∀m,(1,m)∈uT L ((s+1:Nat):Int)->(3,m)∈uT L (s:Int)
 m4:∀s,s+1<P.2.1.length->∀m,(4,m)∈uT L (s:Int)->(7,m)∈uT L ((s+1:Nat):Int)
 ok:∀i (h:i<L.length),okA P.2.1.length (L.take i) L[i]
theorem bJN (p:aW) (s:Int):(fH p s).1=(oD p s).1:=by
 unfold fH
 split
 ·rfl
 split
 ·exact bMN _ _ _ _
 split
 ·rfl
 split
 ·rfl
 split
 ·exact bG0 _ _
 split
 ·split
  ·exact bC9 _ _ _
  ·exact bC9 _ _ _
 split<;>rfl
theorem cAM (p:aW) (s:Int):(fH p s).2.1=(oD p s).2.1:=by
 have f1:∀(s:aR) m x t,(aF2 s m x t).2.1=s.2.1:=fun s m x t=>by unfold aF2;split<;>rfl
 have f2:∀(s:aR) m,(aB6 s m).2.1=s.2.1:=fun s m=>by unfold aB6;split<;>rfl
 have f3:∀(s:aR) m t,(zL s m t).2.1=s.2.1:=fun s m t=>by unfold zL;split<;>rfl
 unfold fH
 split
 ·rfl
 split
 ·exact f1 _ _ _ _
 split
 ·rfl
 split
 ·rfl
 split
 ·exact f2 _ _
 split
 ·split
  ·exact f3 _ _ _
  ·exact f3 _ _ _
 split<;>rfl
theorem bY4 {q:bE} (h1:mR q=true) (h2:0<q.2.length):(aE1 q).1.2.length+1=q.2.length:=by
 rw[<-aDK h1 h2]
 show(q.2.drop 1).length+1=_
 rw[List.length_drop];omega
theorem bRR (q:bE) (x:cP):(aC5 q x).1.2.length<=q.2.length+1:=by
 unfold aC5
 split
 ·show(q.2++[x]).length<=_
  rw[List.length_append];exact Nat.le_refl _
 ·exact Nat.le_succ _
theorem bZM {p:aW} {σ:Nat} (h:jC p (σ:Int)=true) (t:Nat):((nI p (σ:Int)).getD t (aK aD)).2.length+(if(bB p (σ:Int)).1=1/\σ=t+1 then 1 else 0)<=(p.2.2.1.getD t (aK aD)).2.length+(if(bB p (σ:Int)).1=3/\σ=t then 1 else 0):=by
 obtain⟨h1,h2,h3⟩:=aDF h
 have hk:=aIA h
 have ho:=kW.1 h1
 unfold nI
 by_cases k1:(bB p (σ:Int)).1=1
 ·rw[if_pos k1]
  have hs:=hk.1 k1
  have he:=h
  rw[bTX h1 h2 h3 k1,Bool.and_eq_true,decide_eq_true_eq,decide_eq_true_eq] at he
  have hq:mR (p.2.2.1.getD ((σ:Int) - 1).toNat (aK aD))=true:=(ho.2.2.1 ((σ:Int) - 1).toNat (by have:=ho.1.2.2.1;omega)).1
  have hp:=bY4 hq he.2
  have hl:=ho.1.2.2.1
  rw[sK,if_neg (show ¬((bB p (σ:Int)).1=3/\σ=t) by omega)]
  by_cases ht:σ=t+1
  ·have e:((σ:Int) - 1).toNat=t:=by omega
   rw[e] at hp⊢
   rw[if_pos ⟨rfl,by omega⟩,if_pos ⟨k1,ht⟩];omega
  ·rw[if_neg (show ¬(((σ:Int) - 1).toNat=t/\t<p.2.2.1.length) by omega),if_neg (fun hh=>ht hh.2)];omega
 ·rw[if_neg k1,if_neg (show ¬((bB p (σ:Int)).1=1/\σ=t+1) from fun hh=>k1 hh.1)]
  by_cases k3:(bB p (σ:Int)).1=3
  ·rw[if_pos k3,sK,Int.toNat_natCast]
   by_cases ht:σ=t
   ·rw[if_pos (show(bB p (σ:Int)).1=3/\σ=t from⟨k3,ht⟩),ht]
    have:=bRR (p.2.2.1.getD t (aK aD)) ((bB p (t:Int)).2,(oD p (t:Int)).2.2.2.2.2.2.2.2.1)
    split<;>omega
   ·rw[if_neg (show ¬((bB p (σ:Int)).1=3/\σ=t) from fun hh=>ht hh.2),if_neg (fun hh=>ht hh.1)];omega
  ·rw[if_neg k3,if_neg (fun hh=>k3 hh.1)];omega
theorem bZY {p:aW} {σ:Nat} (h:jC p (σ:Int)=true) (t:Nat):((nD p (σ:Int)).getD t (aK aD)).2.length+(if(bB p (σ:Int)).1=4/\σ=t then 1 else 0)<=(p.2.2.2.getD t (aK aD)).2.length+(if(bB p (σ:Int)).1=7/\σ=t+1 then 1 else 0):=by
 obtain⟨h1,h2,h3⟩:=aDF h
 have hk:=aIA h
 have ho:=kW.1 h1
 unfold nD
 by_cases k4:(bB p (σ:Int)).1=4
 ·rw[if_pos k4]
  have hs:=hk.2.2.1 k4
  have he:=h
  rw[bTZ h1 h2 h3 k4,Bool.and_eq_true,decide_eq_true_eq,decide_eq_true_eq] at he
  have hl:=ho.1.2.2.2.1
  have hq:mR (p.2.2.2.getD (σ:Int).toNat (aK aD))=true:=(ho.2.2.1 (σ:Int).toNat (by have:=ho.1.2.2.1;omega)).2
  have hp:=bY4 hq he.2
  rw[Int.toNat_natCast] at hp
  rw[sK,if_neg (show ¬((bB p (σ:Int)).1=7/\σ=t+1) by omega),Int.toNat_natCast]
  by_cases ht:σ=t
  ·subst ht
   rw[if_pos ⟨rfl,by omega⟩,if_pos ⟨k4,rfl⟩];omega
  ·rw[if_neg (show ¬(σ=t/\t<p.2.2.2.length) from fun hh=>ht hh.1),if_neg (fun hh=>ht hh.2)];omega
 ·rw[if_neg k4,if_neg (show ¬((bB p (σ:Int)).1=4/\σ=t) from fun hh=>k4 hh.1)]
  by_cases k7:(bB p (σ:Int)).1=7
  ·have hs:=hk.2.2.2.1 k7
   rw[if_pos k7,sK]
   by_cases ht:σ=t+1
   ·have e:((σ:Int) - 1).toNat=t:=by omega
    rw[if_pos (show(bB p (σ:Int)).1=7/\σ=t+1 from⟨k7,ht⟩),e]
    have:=bRR (p.2.2.2.getD t (aK aD)) ((bB p (σ:Int)).2,(oD p (σ:Int)).2.2.2.2.2.2.2.2.2.2.1)
    split<;>omega
   ·rw[if_neg (show ¬((bB p (σ:Int)).1=7/\σ=t+1) from fun hh=>ht hh.2),if_neg (by omega)];omega
  ·rw[if_neg k7,if_neg (fun hh=>k7 hh.1)];omega
theorem TrI.step {P p:aW} {L:List aRL} (hP:PlOk P) (h:TrI P p L) (s:Int):TrI P (gJ p s) (L++[(s,bB p s,jC p s)]):=by
 cases he:jC p s with
 | false =>
  have ep:gJ p s=p:=by unfold gJ;rw[if_neg (by rw[he];simp)]
  have ed:∀t,uT (L++[(s,bB p s,false)]) t=uT L t:=fun t=>by rw[aV0,bX0,List.append_nil]
  rw[ep]
  refine⟨h.ln,h.pl,fun t ht=>by rw[ed];exact h.pc t ht,fun t ht=>by rw[ed,ed];exact h.qa t ht,fun t ht=>by rw[ed,ed];exact h.qb t ht,fun t ht=>by rw[ed,ed];exact h.m1 t ht,fun t ht=>by rw[ed,ed];exact h.m4 t ht,fun i hi=>?_⟩
  rw[List.length_append,List.length_singleton] at hi
  rcases Nat.lt_or_eq_of_le (Nat.le_of_lt_succ hi) with h1|rfl
  ·rw[List.take_append_of_le_length (by omega),List.getElem_append_left h1];exact h.ok i h1
  ·rw[List.getElem_append_right (Nat.le_refl _)]
   intro hd
   simp at hd
 | true =>
  obtain⟨f1,f2,f3⟩:=aDF he
  have hk:=aIA he
  obtain⟨σ,rfl⟩:∃σ:Nat,s=(σ:Int):=⟨s.toNat,by omega⟩
  have hσ:σ<P.2.1.length:=by rw[<-h.ln];omega
  obtain⟨c1,c2,c3⟩:=h.pc σ hσ
  have hn:∃hc:(pcS p σ).toNat<(uU P σ).length,bB p (σ:Int)=(uU P σ)[(pcS p σ).toNat]:=by
   have h0:=hk.2.2.2.2
   unfold bB at h0⊢
   split at h0
   ·rename_i hh
    rw[if_pos hh]
    obtain⟨_,_,g1,g2⟩:=hh
    rw[Int.toNat_natCast] at g1 g2⊢
    have g2':pcS p σ<((uU p σ).length:Int):=g2
    rw[h.pl] at g2'
    have hc:(pcS p σ).toNat<(uU P σ).length:=by omega
    refine⟨hc,?_⟩
    show(uU p σ).getD (pcS p σ).toNat (aK aU)=_
    rw[h.pl,aP hc]
   ·exact absurd rfl h0
  obtain⟨hc,hi⟩:=hn
  have ep:gJ p (σ:Int)=(p.1,p.2.1.set σ (uL (fH p σ) ((fH p σ).1+1)),nI p σ,nD p σ):=by
   unfold gJ;rw[if_pos he,Int.toNat_natCast]
  have hσp:σ<p.2.1.length:=by rw[h.ln];exact hσ
  have epl:∀t,uU (gJ p (σ:Int)) t=uU P t:=fun t=>by
   rw[<-h.pl t,ep]
   unfold uU
   dsimp only
   rw[sK]
   split
   ·rename_i hh
    obtain⟨rfl,_⟩:=hh
    show(fH p (σ:Int)).2.1=_
    rw[cAM];unfold oD;rw[Int.toNat_natCast]
   ·rfl
  have epc:∀t,pcS (gJ p (σ:Int)) t=if σ=t then pcS p σ+1 else pcS p t:=fun t=>by
   rw[ep]
   unfold pcS
   dsimp only
   rw[sK]
   by_cases ht:σ=t
   ·subst ht
    rw[if_pos ⟨rfl,hσp⟩,if_pos rfl]
    show(fH p (σ:Int)).1+1=_
    rw[bJN];unfold oD;rw[Int.toNat_natCast]
   ·rw[if_neg (fun hh=>ht hh.1),if_neg ht]
  have ed:∀t:Nat,uT (L++[((σ:Int),bB p (σ:Int),true)]) (t:Int)=uT L (t:Int)++if σ=t then [bB p (σ:Int)] else []:=fun t=>by
   rw[aV0,bR9]
   by_cases ht:σ=t
   ·rw[if_pos (by omega),if_pos ht]
   ·rw[if_neg (by omega),if_neg ht]
  have sub:∀(t:Nat) i,i∈uT L (t:Int)->i∈uT (L++[((σ:Int),bB p (σ:Int),true)]) (t:Int):=fun t i hm=>by rw[ed];exact List.mem_append_left _ hm
  have mo:∀(k:Int) (t:Nat),(mOf k (uT (L++[((σ:Int),bB p (σ:Int),true)]) (t:Int))).length=(mOf k (uT L (t:Int))).length+if(bB p (σ:Int)).1=k/\σ=t then 1 else 0:=fun k t=>by
   rw[ed,aHN,List.length_append]
   by_cases ht:σ=t
   ·rw[if_pos ht,bCN]
    by_cases hq:(bB p (σ:Int)).1=k
    ·rw[if_pos hq,if_pos ⟨hq,ht⟩];rfl
    ·rw[if_neg hq,if_neg (fun hh=>hq hh.1)];rfl
   ·rw[if_neg ht,if_neg (fun hh=>ht hh.2)];rfl
  have Hm:(pcS p σ+1).toNat=(pcS p σ).toNat+1:=by omega
  have Lj:0<=pcS p σ+1/\pcS p σ+1<=((uU P σ).length:Int):=by omega
  have r1:(bB p (σ:Int)).1=1->∃t,σ=t+1/\(3,(bB p (σ:Int)).2)∈uT L (t:Int):=fun k1=>by
   have hs:=hk.1 k1
   obtain⟨t,rfl⟩:∃t,σ=t+1:=⟨σ - 1,by omega⟩
   have he':=he
   rw[bTX f1 f2 f3 k1,Bool.and_eq_true,decide_eq_true_eq,decide_eq_true_eq,show(((t+1:Nat):Int) - 1).toNat=t by omega] at he'
   have hq:=h.qa t hσ
   obtain⟨d1,d2,d3⟩:=h.pc t (by omega)
   refine⟨t,rfl,?_⟩
   rw[c3,d3] at hq
   rw[d3]
   refine rcv (hP.q1 t hσ) hc (k:=1) ?_ (by omega)
   rw[<-hi]
   exact Prod.ext k1 rfl
  have r4:(bB p (σ:Int)).1=4->σ+1<P.2.1.length/\(7,(bB p (σ:Int)).2)∈uT L ((σ+1:Nat):Int):=fun k4=>by
   have hs:=hk.2.2.1 k4
   have hs2:σ+1<P.2.1.length:=by rw[<-h.ln];omega
   have he':=he
   rw[bTZ f1 f2 f3 k4,Bool.and_eq_true,decide_eq_true_eq,decide_eq_true_eq,Int.toNat_natCast] at he'
   have hq:=h.qb σ hs2
   obtain⟨d1,d2,d3⟩:=h.pc (σ+1) hs2
   refine⟨hs2,?_⟩
   rw[c3,d3] at hq
   rw[d3]
   refine rcv (hP.q4 σ hs2) hc (k:=4) ?_ (by omega)
   rw[<-hi]
   exact Prod.ext k4 rfl
  refine⟨?_,epl,fun t ht=>?_,fun t ht=>?_,fun t ht=>?_,fun t ht m hm=>?_,fun t ht m hm=>?_,fun i hlt=>?_⟩
  ·rw[ep];show(p.2.1.set _ _).length=_;rw[List.length_set];exact h.ln
  ·rw[epc,ed]
   by_cases hst:σ=t
   ·subst hst
    rw[if_pos rfl,if_pos rfl,c3,hi,oT hc,Hm]
    exact⟨Lj.1,Lj.2,rfl⟩
   ·rw[if_neg hst,if_neg hst,List.append_nil];exact h.pc t ht
  ·have h1:=h.qa t ht
   have h2:=bZM he t
   rw[mo,mo,ep]
   show((nI p (σ:Int)).getD t (aK aD)).2.length+_<=_
   clear r1 r4 mo sub ed epl ep epc
   omega
  ·have h1:=h.qb t ht
   have h2:=bZY he t
   rw[mo,mo,ep]
   show((nD p (σ:Int)).getD t (aK aD)).2.length+_<=_
   clear r1 r4 mo sub ed epl ep epc
   omega
  ·rw[ed] at hm
   rcases List.mem_append.1 hm with hm|hm
   ·exact sub _ _ (h.m1 t ht m hm)
   ·by_cases hst:σ=t+1
    ·rw[if_pos hst,List.mem_singleton] at hm
     obtain⟨t',e,hr⟩:=r1 (by rw[<-hm])
     have:t'=t:=Nat.succ.inj (e.symm.trans hst)
     rw[this,<-hm] at hr
     exact sub _ _ hr
    ·rw[if_neg hst] at hm;cases hm
  ·rw[ed] at hm
   rcases List.mem_append.1 hm with hm|hm
   ·exact sub _ _ (h.m4 t ht m hm)
   ·by_cases hst:σ=t
    ·subst hst
     rw[if_pos rfl,List.mem_singleton] at hm
     obtain⟨_,hr⟩:=r4 (by rw[<-hm])
     rw[<-hm] at hr
     exact sub _ _ hr
    ·rw[if_neg hst] at hm;cases hm
  ·rw[List.length_append,List.length_singleton] at hlt
   rcases Nat.lt_or_eq_of_le (Nat.le_of_lt_succ hlt) with h1|rfl
   ·rw[List.take_append_of_le_length (by omega),List.getElem_append_left h1];exact h.ok i h1
   ·rw[List.getElem_append_right (Nat.le_refl _),List.take_append_of_le_length (Nat.le_refl _),List.take_length]
    simp only[Nat.sub_self,List.getElem_cons_zero]
    intro _
    dsimp only
    refine⟨⟨by omega,by omega⟩,fun k1=>?_,fun k4=>?_,fun k2 h0=>?_,fun k6 h0=>?_⟩
    ·obtain⟨t,rfl,hr⟩:=r1 k1
     exact⟨by omega,by rw[show((t+1:Nat):Int) - 1=(t:Int) by omega];exact hr⟩
    ·obtain⟨h2,hr⟩:=r4 k4
     exact⟨by omega,by rw[show(σ:Int)+1=((σ+1:Nat):Int) by omega];exact hr⟩
    ·obtain⟨t,rfl⟩:∃t,σ=t+1:=⟨σ - 1,by omega⟩
     have h1:=hP.a1 (t+1) hσ (by omega) _ hc (by rw[<-hi];exact k2)
     rw[<-hi,<-c3] at h1
     have h2:=h.m1 t hσ _ h1
     obtain⟨d1,d2,d3⟩:=h.pc t (by omega)
     rw[show((t+1:Nat):Int) - 1=(t:Int) by omega]
     rw[d3] at h2⊢
     exact bQM (hP.a2 t (by omega)) h2
    ·have hs2:σ+1<P.2.1.length:=by omega
     have h1:=hP.a4 σ hs2 _ hc (by rw[<-hi];exact k6)
     rw[<-hi,<-c3] at h1
     have h2:=h.m4 σ hs2 _ h1
     obtain⟨d1,d2,d3⟩:=h.pc (σ+1) hs2
     rw[show(σ:Int)+1=((σ+1:Nat):Int) by omega]
     rw[d3] at h2⊢
     exact bQM (hP.a6 (σ+1) hs2) h2
theorem TrI.run {P:aW} (hP:PlOk P):(l:List Int)->{p:aW}->{L:List aRL}->TrI P p L->TrI P (aCL p l) (L++bE8 p l)
 | [],p,L,h=>by rw[show bE8 p []=[] from rfl,List.append_nil];exact h
 | s::l,p,L,h=>by
  have h1:=TrI.run hP l (h.step hP s)
  rw[List.append_assoc] at h1
  exact h1
theorem TrI.start {P:aW} (h1:∀s,s<P.2.1.length->pcS P s=0) (h2:∀s,(P.2.2.1.getD s (aK aD)).2.length=0) (h3:∀s,(P.2.2.2.getD s (aK aD)).2.length=0):TrI P P []:=by
 have e:∀t,uT [] t=[]:=fun t=>rfl
 refine⟨rfl,fun _=>rfl,fun s hs=>?_,fun s hs=>?_,fun s hs=>?_,fun s hs m hm=>?_,fun s hs m hm=>?_,fun i hi=>absurd hi (Nat.not_lt_zero _)⟩
 ·rw[h1 s hs];exact⟨Int.le_refl _,by omega,rfl⟩
 ·rw[h2 s,e,e];exact Nat.le_refl _
 ·rw[h3 s,e,e];exact Nat.le_refl _
 ·rw[e] at hm;cases hm
 ·rw[e] at hm;cases hm
theorem aRH {m:List fP} {i:Nat} (h:i<m.length):lC m i=(m.getD i zOp).2.1:=if_pos h
theorem aTP {m:List fP} (hm:dD m=true):lC m m.length=eZ m:=by unfold lC eZ;rw[if_neg (Nat.lt_irrefl _),if_pos hm]
theorem bRO {m:List fP} (hm:dD m=true):lC m 0=kD m:=by
 have h1:=(bO m).1 hm
 rw[aRH (show 0<m.length by omega)];unfold kD;rw[if_pos hm]
theorem bC8 {m:List fP} {x:List Int} (hm:dD m=true) (hx:dX x (kD m)=true) {i:Nat} (hi:i<=m.length):dX ((rQ m x m.length).1.getD i []) (lC m i)=true:=by
 have h1:=(bO m).1 hm
 rw[bOB m x _ i hi]
 rcases Nat.lt_or_eq_of_le hi with h|rfl
 ·rw[aRH h];exact(bUA hm hx i h).1
 ·have:=(bUA hm hx (m.length - 1) (by omega)).2
  rw[show m.length - 1+1=m.length by omega] at this
  unfold lC;rw[if_neg (Nat.lt_irrefl _)];exact this
theorem cA7 {m:List fP} {x:List Int} (redo:Bool) (k:Int) (hm:dD m=true) (hx:dX x (kD m)=true):wD m redo (k,aN3 redo (rQ m x m.length).1)=true:=by
 have hl:=zT m x m.length
 refine(aAO m redo _).2 ?_
 cases redo with
 | true =>
  refine⟨by show(List.take 1 _).length=1;rw[List.length_take];omega,fun i hi=>?_⟩
  have h0:i=0:=by have:i<1:=hi;omega
  subst h0
  have:=bC8 hm hx (i:=0) (Nat.zero_le _)
  show dX ((List.take 1 (rQ m x m.length).1).getD 0 []) _=true
  rw[List.getD_eq_getElem?_getD,List.getElem?_take,if_pos (by decide),<-List.getD_eq_getElem?_getD]
  exact this
 | false=>exact⟨hl,fun i hi=>bC8 hm hx (by have:i<m.length+1:=hi;omega)⟩
theorem cFV {l:List Int} (h:l.all nO=true) (i:Nat):nO (l.getD i 0)=true:=by
 rcases Nat.lt_or_ge i l.length with hi|hi
 ·rw[aP hi];exact List.all_eq_true.1 h _ (List.getElem_mem hi)
 ·rw[List.getD_eq_getElem?_getD,List.getElem?_eq_none hi];decide
theorem cLX {f:Int->Int->Int×Bool} {a b:List Int} {n:Int} (hf:∀x y,nO (f x y).1=true) (ha:dX a n=true) (hb:dX b n=true):dX (wT f a b).1 n=true:=by
 obtain⟨a1,a2⟩:=(cS a n).1 ha
 obtain⟨a3,a4,a5⟩:=(dH a).1 a1
 unfold wT
 rw[if_pos ((aQL _ _).2 ⟨a1,by rw[a2];exact hb⟩)]
 exact aHS a3 a4 a2 fun i=>hf _ _
theorem cLO {o:fP} {x d:List Int} (h:opB o=true) (hx:dX x o.2.1=true) (hd:dX d o.2.2.1=true):dX (rG o x d).1 o.2.1=true:=by
 obtain⟨⟨h1,h2,h3,h4,h5,h6,h7,h8⟩,h9⟩:=(lO o).1 h
 obtain⟨x1,x2⟩:=(cS x _).1 hx
 obtain⟨x3,x4,x5⟩:=(dH x).1 x1
 obtain⟨d1,d2⟩:=(cS d _).1 hd
 obtain⟨d3,d4,d5⟩:=(dH d).1 d1
 have hmb:o.1=1\/o.1=5->dX (qU (aI6 o) d).1 o.2.1=true:=fun hk=>by
  unfold qU
  rw[if_pos ⟨bWR h hk,hd⟩]
  exact aHS (by show 1<=o.2.1.toNat;omega) (by show o.2.1.toNat<=6;omega) (by show(o.2.1.toNat:Int)=o.2.1;omega) fun i=>cDK _ _
 unfold rG
 rw[if_neg (fun hn=>hn ⟨h,hx,hd⟩)]
 split
 ·rename_i hk;exact hmb (.inl hk)
 ·rename_i hk1
  have he:=h7 hk1
  split
  ·rw[he];exact hd
  ·split
   ·rename_i hk
    have hl:o.2.2.2.length=1:=by
     have:(o.2.2.2.length:Int)=1:=by rw[h8];unfold lJ;rw[if_neg (by omega),if_neg (by omega),if_neg (by omega),if_pos hk]
     omega
    unfold aH5
    rw[if_pos ⟨bWC h 0 (by omega),d1⟩]
    exact aHS d3 d4 (by rw[d2,he]) fun i=>aRE _
   ·split
    ·rename_i hk
     exact cLX (fun _ _=>aRE _) (by rw[he];exact hd) (hmb (.inr hk))
    ·unfold aDN
     rw[if_pos ((aQL _ _).2 ⟨x1,by rw[x2,he];exact hd⟩)]
     refine aHS x3 x4 x2 fun i=>?_
     split
     ·exact cFV d5 i
     ·decide
theorem cHZ {a b:Int} {x y:Nat} (ha:(x:Int)=a) (hb:(y:Int)=b):((x * y:Nat):Int)=a * b:=by rw[Int.natCast_mul,ha,hb]
theorem cLB {o:fP} {x d:List Int} (h:opB o=true) (hx:dX x o.2.1=true) (hd:dX d o.2.2.1=true):(rG o x d).2.1.length=o.2.2.2.length:=by
 obtain⟨⟨h1,h2,h3,h4,h5,h6,h7,h8⟩,h9⟩:=(lO o).1 h
 obtain⟨x1,x2⟩:=(cS x _).1 hx
 obtain⟨d1,d2⟩:=(cS d _).1 hd
 have ho:o.1=1\/o.1=5->(aF9 d x).1.2.2.length=o.2.2.2.length:=fun hk=>by
  unfold aF9
  rw[if_pos ⟨d1,x1⟩]
  have e:(aC3 (aGG d x) d.length).length=d.length * x.length:=aE5 (fun i=>kF _ _) _
  have e2:(o.2.2.2.length:Int)=o.2.1 * o.2.2.1:=by rw[h8];unfold lJ;rw[if_neg (by omega),if_pos hk]
  have e3:=cHZ d2 x2
  rw[Int.mul_comm] at e2
  show(aC3 (aGG d x) d.length).length=_
  rw[e];omega
 unfold rG
 rw[if_neg (fun hn=>hn ⟨h,hx,hd⟩)]
 split
 ·rename_i hk;exact ho (.inl hk)
 ·rename_i hk1
  have he:=h7 hk1
  split
  ·rename_i hk
   have:(o.2.2.2.length:Int)=o.2.1:=by rw[h8];unfold lJ;rw[if_neg (by omega),if_neg (by omega),if_pos hk]
   show d.length=_
   omega
  ·split
   ·rename_i hk
    have:(o.2.2.2.length:Int)=1:=by rw[h8];unfold lJ;rw[if_neg (by omega),if_neg (by omega),if_neg (by omega),if_pos hk]
    show 1=_
    omega
   ·split
    ·rename_i hk;exact ho (.inr hk)
    ·have:(o.2.2.2.length:Int)=0:=by rw[h8];unfold lJ;rw[if_neg (by omega),if_neg (by omega),if_neg (by omega),if_neg (by omega)]
     show 0=_
     omega
theorem bPP {m:List fP} {r:cT} {d:List Int} (hm:dD m=true) (hr:aF3 m r m.length=true) (hd:dX d (eZ m)=true):(k:Nat)->k<=m.length ->
  dX (lG m r d m.length k).2.1 (lC m (m.length - k))=true/\∀i,m.length - k<=i->i<m.length->((lG m r d m.length k).1.getD i []).length=(m.getD i zOp).2.2.2.length
 | 0,_=>by
  rw[Nat.sub_zero,aTP hm]
  exact⟨hd,fun i h1 h2=>by omega⟩
 | k+1,hk=>by
  obtain⟨i1,i2⟩:=bPP hm hr hd k (by omega)
  have hl:=aG1 m r d m.length k
  have hM:=(bO m).1 hm
  have hj:m.length - 1 - k<m.length:=by omega
  have ho:opB (m.getD (m.length - 1 - k) zOp)=true:=by rw[aP hj];exact((vO m hj).1 (hM.2.2 _ hj)).1
  have hx:=(vI _ _ _).1 hr _ hj
  rw[aRH hj] at hx
  rw[show m.length - k=m.length - 1 - k+1 by omega,bAD hm hj] at i1
  refine⟨?_,fun i h1 h2=>?_⟩
  ·rw[show m.length - (k+1)=m.length - 1 - k by omega,aRH hj]
   exact cLO ho hx i1
  ·show((((lG m r d m.length k).1.set (m.length - 1 - k) _).getD i []):List Int).length=_
   rw[sK]
   by_cases hi:m.length - 1 - k=i
   ·rw[if_pos ⟨hi,by omega⟩,<-hi]
    exact cLB ho hx i1
   ·rw[if_neg (fun hh=>hi hh.1)]
    exact i2 i (by omega) h2
theorem cHB {m:List fP} {r:cT} {d:List Int} (hm:dD m=true) (hr:aRT m r=true) (hd:dX d (eZ m)=true) :
  dX (aBA m r d).2.1 (kD m)=true/\(aBA m r d).1.length=m.length/\∀i,i<m.length->((aBA m r d).1.getD i []).length=(m.getD i zOp).2.2.2.length:=by
 unfold aRT at hr
 rw[Bool.and_eq_true] at hr
 obtain⟨h1,h2⟩:=bPP hm hr.2 hd m.length (Nat.le_refl _)
 rw[Nat.sub_self,bRO hm] at h1
 exact⟨h1,aG1 _ _ _ _ _,fun i hi=>h2 i (by omega) hi⟩
theorem bND {m:List fP} {g:List (List Int)}:aZE m g=true↔g.length=m.length/\∀i,i<m.length->(g.getD i []).length=(m.getD i zOp).2.2.2.length:=by
 rw[xH]
 constructor
 ·rintro⟨h1,h2⟩
  refine⟨h1,fun i hi=>?_⟩
  have:=(aR0 m g hi (by omega)).1 (h2 i hi)
  rw[aP hi,aP (show i<g.length by omega)];exact this
 ·rintro⟨h1,h2⟩
  refine⟨h1,fun i hi=>(aR0 m g hi (by omega)).2 ?_⟩
  have:=h2 i hi
  rw[aP hi,aP (show i<g.length by omega)] at this;exact this
theorem cHS {m:List fP} {a b:List (List Int)} (ha:aZE m a=true) (hb:b.length=m.length) (hc:∀i,i<m.length->(b.getD i []).length=(m.getD i zOp).2.2.2.length):aZE m (iI a b)=true:=by
 obtain⟨a1,a2⟩:=bND.1 ha
 refine bND.2 ⟨by rw[rD];omega,fun i hi=>?_⟩
 have e1:=a2 i hi
 have e2:=hc i hi
 rw[aP (show i<a.length by omega)] at e1
 rw[aP (show i<b.length by omega)] at e2
 have hl:i<(iI a b).length:=by rw[rD];omega
 rw[aP hl]
 have e3:(iI a b)[i]=aA5 (a[i]'(by omega)) (b[i]'(by omega)):=List.getElem_zipWith
 rw[e3]
 unfold aA5
 rw[List.length_zipWith];omega
theorem bDT (n:Int):oS [] n=true:=rfl
theorem bN7 {v:List Int} {n:Int} (h:dX v n=true):oS v n=true:=(bK3 v n).2 (.inr h)
theorem cM9 {x:aR} {k:Int} (h:gY x=true) (h1:0<=k) (h2:k<=(x.2.1.length:Int)):gY (uL x k)=true:=by
 obtain⟨a1,a2,a3,a4,a5,a6,a7,a8⟩:=(cA x).1 h
 exact(cA _).2 ⟨a1,⟨h1,h2⟩,a3,a4,a5,a6,a7,a8⟩
theorem cMS {x:aR} {v:List Int} (h:gY x=true) (hv:oS v (kD x.2.2.1)=true):gY (bMZ x v)=true:=by
 obtain⟨a1,a2,a3,a4,a5,a6,a7,a8⟩:=(cA x).1 h
 exact(cA _).2 ⟨a1,a2,a3,a4,hv,a6,a7,a8⟩
theorem cMP {x:aR} {v:List Int} (h:gY x=true) (hv:oS v (eZ x.2.2.1)=true):gY (bMW x v)=true:=by
 obtain⟨a1,a2,a3,a4,a5,a6,a7,a8⟩:=(cA x).1 h
 exact(cA _).2 ⟨a1,a2,a3,a4,a5,a6,hv,a8⟩
theorem cMO {x:aR} {v:List Int} (h:gY x=true) (hv:oS v (eZ x.2.2.1)=true):gY (bO7 x v)=true:=by
 obtain⟨a1,a2,a3,a4,a5,a6,a7,a8⟩:=(cA x).1 h
 exact(cA _).2 ⟨a1,a2,a3,a4,a5,a6,a7,hv⟩
theorem cMD {x:aR} {v:List Int} (h:gY x=true) (hv:oS v (kD x.2.2.1)=true):gY (aIH x v)=true:=by
 obtain⟨a1,a2,a3,a4,a5,a6,a7,a8⟩:=(cA x).1 h
 exact(cA _).2 ⟨a1,a2,a3,a4,a5,hv,a7,a8⟩
theorem bXA {s:aR} {x:List Int} (hm:dD s.2.2.1=true) (hx:dX x (kD s.2.2.1)=true):dX (bI6 s x) (eZ s.2.2.1)=true:=by
 have:=bC8 hm hx (i:=s.2.2.1.length) (Nat.le_refl _)
 rw[aTP hm] at this
 exact this
theorem cJP {s:aR} {m:Int} {x t:List Int} (h:gY s=true) (hx:dX x (kD s.2.2.1)=true):gY (bIM s m x t)=true:=by
 obtain⟨a1,a2,a3,a4,a5,a6,a7,a8⟩:=(cA s).1 h
 refine(cA _).2 ⟨a1,a2,a3,?_,bDT _,a6,?_,a8⟩
 ·show(s.2.2.2.2.2.1++[(m,aN3 s.2.2.2.2.1 (rQ s.2.2.1 x s.2.2.1.length).1)]).all (wD s.2.2.1 s.2.2.2.2.1)=true
  rw[List.all_append,a4,Bool.true_and,List.all_cons,List.all_nil,Bool.and_true]
  exact cA7 _ _ a1 hx
 ·show oS (if s.2.2.2.1=true then s.2.2.2.2.2.2.2.2.1 else bI6 s x) (eZ s.2.2.1)=true
  split
  ·exact a7
  ·exact bN7 (bXA a1 hx)
theorem cHQ {s:aR} {r:cT} (h:gY s=true):gY (s.1,s.2.1,s.2.2.1,s.2.2.2.1,s.2.2.2.2.1,s.2.2.2.2.2.1,r,s.2.2.2.2.2.2.2)=true:=by
 obtain⟨a1,a2,a3,a4,a5,a6,a7,a8⟩:=(cA s).1 h
 exact(cA _).2 ⟨a1,a2,a3,a4,a5,a6,a7,a8⟩
theorem cLE {s:aR} {m:Int} {t:List Int} (h:bBD s m t=true):gY (bP3 s m t)=true/\dX (aBA s.2.2.1 (yO s m) (pP s m t).1).2.1 (kD s.2.2.1)=true:=by
 unfold bBD at h
 simp only[Bool.and_eq_true] at h
 obtain⟨h1,h2,h3,h4⟩:=h
 obtain⟨a1,a2,a3,a4,a5,a6,a7,a8⟩:=(cA s).1 h1
 obtain⟨b1,b2,b3⟩:=cHB a1 h3 h4
 refine⟨(cA _).2 ⟨a1,a2,cHS a3 b2 b3,?_,a5,bN7 b1,a7,bDT _⟩,b1⟩
 show(s.2.2.2.2.2.1.take _++s.2.2.2.2.2.1.drop _).all (wD s.2.2.1 s.2.2.2.2.1)=true
 rw[List.all_eq_true] at a4⊢
 intro y hy
 rcases List.mem_append.1 hy with hy|hy
 ·exact a4 y (List.mem_of_mem_take hy)
 ·exact a4 y (List.mem_of_mem_drop hy)
theorem bZZ {l:List eC} {m:Int} (h:(l.map (·.1)).head?=some m):kC l m=0:=by
 cases l with
 | nil=>cases h
 | cons a l =>
  have e:a.1=m:=by simpa using h
  exact(aY1 (l:=a::l) (m:=m) (k:=0) (Nat.zero_lt_succ _) rfl e).symm
theorem cAD {l:List eC} {m:Int} (h:m ∉ l.map (·.1)):kC l m = -1:=by
 have:∀k,k<=l.length->aAZ l m k = -1:=fun k=>by
  induction k with
  | zero=>intro _;rfl
  | succ k ih =>
   intro hk
   refine aXI (ih (by omega)) fun e=>h ?_
   rw[aP (show k<l.length by omega)] at e
   rw[<-e]
   exact List.mem_map.2 ⟨_,List.getElem_mem _,rfl⟩
 exact this _ (Nat.le_refl _)
def bPB (a b:Int):List eP->List Int->Bool
 | [],_=>true
 | i::l,sn=>(if i.1=b then sn.any (fun m=>decide (m=i.2)) else true)&&bPB a b l (if i.1=a then i.2::sn else sn)
theorem bS5 {a b:Int}:(l pre:List eP)->(sn:List Int)->(∀m∈sn,(a,m)∈pre)->bPB a b l sn=true->∀k (h:k<l.length),l[k].1=b->(a,l[k].2)∈pre++l.take k
 | [],_,_,_,_,k,h,_=>absurd h (Nat.not_lt_zero _)
 | i::l,pre,sn,hs,hg,k,h,hb=>by
  rw[bPB,Bool.and_eq_true] at hg
  cases k with
  | zero =>
   rw[List.getElem_cons_zero] at hb⊢
   have h1:=hg.1
   rw[if_pos hb,List.any_eq_true] at h1
   obtain⟨m,hm,e⟩:=h1
   rw[decide_eq_true_eq] at e
   rw[<-e]
   exact List.mem_append_left _ (hs m hm)
  | succ k =>
   rw[List.getElem_cons_succ] at hb⊢
   have h1:=bS5 l (pre++[i]) _ (fun m hm=>by
    split at hm
    ·rename_i hi
     rcases List.mem_cons.1 hm with rfl|hm
     ·exact List.mem_append_right _ (List.mem_singleton.2 (Prod.ext hi.symm rfl))
     ·exact List.mem_append_left _ (hs m hm)
    ·exact List.mem_append_left _ (hs m hm)) hg.2 k (by simpa using h) hb
   rw[List.append_assoc] at h1
   exact h1
theorem bMY {l:List eP} {a b:Int} (h:bPB a b l []=true):ahd l a b:=fun k hk hb=>by
 have:=bS5 l [] [] (fun m hm=>by cases hm) h k hk hb
 rwa [List.nil_append] at this
def aC0 (n:Int):List Int:=(List.range n.toNat).map fun(k:Nat)=>(k:Int)
def cG2 (ds n s mi:Int) (r:Bool):Bool :=
 (decide (s<=0)||decide (mOf 1 (yS ds n s mi r)=aC0 mi))&&((decide (n - 1<=s)||decide (mOf 3 (yS ds n s mi r)=aC0 mi))&&((decide (n - 1<=s)||decide (mOf 4 (yS ds n s mi r)=aC0 mi))&&((decide (s<=0)||decide (mOf 7 (yS ds n s mi r)=aC0 mi)) &&
 ((decide (s<=0)||bPB 1 2 (yS ds n s mi r) [])&&(bPB 2 3 (yS ds n s mi r) []&&((decide (n - 1<=s)||bPB 4 6 (yS ds n s mi r) [])&&bPB 6 7 (yS ds n s mi r) []))))))
theorem cHU:(([1,2]:List Int).all fun ds=>([1,2,3,4]:List Int).all fun n=>([0,1,2,3]:List Int).all fun s=>([1,2,3,4,5]:List Int).all fun mi=>[true,false].all fun r=>decide (n<=s)||cG2 ds n s mi r)=true:=by kernel_rfl
theorem cKJ {ds n s mi:Int} (r:Bool) (hd:ds=1\/ds=2) (hn:1<=n/\n<=4) (hs:0<=s/\s<n) (hm:1<=mi/\mi<=5):cG2 ds n s mi r=true:=by
 have h:=cHU
 simp only[List.all_eq_true] at h
 have:=h ds (by simp;omega) n (by simp;omega) s (by simp;omega) mi (by simp;omega) r (by cases r<;>simp)
 rw[decide_eq_false (show ¬n<=s by omega),Bool.false_or] at this
 exact this
theorem bFQ {m:List fP} (h:dD m=true) {a b:Nat} (hab:a<b) (hb:b<=m.length):dD (List.drop a (List.take b m))=true:=by
 obtain⟨h1,h2,h3⟩:=(bO m).1 h
 have hl:(List.drop a (List.take b m)).length=b - a:=by rw[List.length_drop,List.length_take];omega
 have e:∀i,i<b - a->(List.drop a (List.take b m)).getD i zOp=m.getD (a+i) zOp:=fun i hi=>by
  rw[List.getD_eq_getElem?_getD,List.getD_eq_getElem?_getD,List.getElem?_drop,List.getElem?_take,if_pos (by omega)]
 refine(bO _).2 ⟨by omega,by omega,fun i hi=>?_⟩
 rw[hl] at hi
 have h4:=h3 (a+i) (by omega)
 unfold bEF at h4⊢
 rw[e i hi,e (i - 1) (by omega)]
 rw[Bool.and_eq_true] at h4⊢
 refine⟨h4.1,?_⟩
 by_cases h0:i=0
 ·rw[decide_eq_true h0];rfl
 ·have h5:=h4.2
  rw[decide_eq_false (show ¬a+i=0 by omega),Bool.false_or] at h5
  rw[show a+(i - 1)=a+i - 1 by omega,h5,Bool.or_true]
theorem aVI {c:dE} {b:List bT} (h:iB c b=0) {s:Nat} (hs:s<(iM c b).2.1.length) :
  uU (iM c b) s=yS c.2.2.1 (cN c.1 c.2.1) (s:Int) (b.length:Int) (c.2.2.2.1.getD s false)/\pcS (iM c b) s=0:=by
 obtain⟨a1,a2,a3,a4,a5,a6,a7,a8⟩:=aCE h
 rw[<-aDC h] at hs⊢
 have hs2:s<(cN c.1 c.2.1).toNat:=by
  have e:(mp (cN c.1 c.2.1).toNat (fun s=>aN7 c b.length (s:Int))).length=(cN c.1 c.2.1).toNat:=kF _ _
  have:s<(mp (cN c.1 c.2.1).toNat (fun s=>aN7 c b.length (s:Int))).length:=hs
  omega
 have hr:=bOA a3 (show(0:Int)<=(s:Int) by omega) (show(s:Int)<=(c.2.1.length:Int) by omega)
 have hm:dD (List.drop (bH c.1 c.2.1 (s:Int)).1.toNat (List.take (bH c.1 c.2.1 (s:Int)).2.toNat c.1))=true:=bFQ a1 (by omega) (by omega)
 unfold uU pcS
 dsimp only
 rw[bCA _ _ _ hs2]
 unfold aN7 aM8
 rw[if_pos hm,Int.toNat_natCast]
 exact⟨rfl,rfl⟩
theorem aQR {c:dE} {b:List bT} (h:iB c b=0):((iM c b).2.1.length:Int)=cN c.1 c.2.1:=by
 obtain⟨a1,a2,a3,a4,a5,a6,a7,a8⟩:=aCE h
 rw[<-aDC h]
 show((mp _ _).length:Int)=_
 rw[kF];omega
theorem cIZ {c:dE} {b:List bT} (h:iB c b=0):c.2.2.1=1\/c.2.2.1=2:=by
 obtain⟨a1,a2,a3,a4,a5,a6,a7,a8⟩:=aCE h
 by_cases h4:c.2.2.1=1\/c.2.2.1=2
 ·exact h4
 ·rw[<-cJX a1 a2 (by omega) h4] at h;omega
theorem cI8 {c : dE} {b : List bT} (h : iB c b = 0) : PlOk (iM c b) := by
  obtain⟨a1, a2, a3, a4, a5, a6, a7, a8⟩ := aCE h
  have hb := ((aLB _ _).1 a2).2.1
  have hn := aQR h
  have C : ∀s, s < (iM c b).2.1.length -> cG2 c.2.2.1 (cN c.1 c.2.1) (s : Int) (b.length : Int) (c.2.2.2.1.getD s false) = true := fun s hs =>
    cKJ _ (cIZ h) ⟨by omega, a5⟩ ⟨by omega, by omega⟩ ⟨by omega, by omega⟩
  have D : ∀s, s < (iM c b).2.1.length -> (0 < s -> mOf 1 (uU (iM c b) s) = aC0 (b.length : Int)) /\ (s + 1 < (iM c b).2.1.length -> mOf 3 (uU (iM c b) s) = aC0 (b.length : Int)) /\ (s + 1 < (iM c b).2.1.length -> mOf 4 (uU (iM c b) s) = aC0 (b.length : Int)) /\
      (0 < s -> mOf 7 (uU (iM c b) s) = aC0 (b.length : Int)) /\ (0 < s -> ahd (uU (iM c b) s) 1 2) /\ ahd (uU (iM c b) s) 2 3 /\ (s + 1 < (iM c b).2.1.length -> ahd (uU (iM c b) s) 4 6) /\ ahd (uU (iM c b) s) 6 7 := fun s hs => by
    have h1 := C s hs
    unfold cG2 at h1
    rw [(aVI h hs).1]
    simp only [Bool.and_eq_true, Bool.or_eq_true, decide_eq_true_eq] at h1
    obtain⟨q1, q2, q3, q4, q5, q6, q7, q8⟩ := h1
    exact⟨fun h0 => q1.resolve_left (by omega), fun h0 => q2.resolve_left (by omega), fun h0 => q3.resolve_left (by omega), fun h0 => q4.resolve_left (by omega), fun h0 => bMY (q5.resolve_left (by omega)), bMY q6, fun h0 => bMY (q7.resolve_left (by omega)), bMY q8⟩
  exact { q1 := fun s hs => ((D (s + 1) hs).1 (by omega)).trans ((D s (by omega)).2.1 hs).symm
          q4 := fun s hs => ((D s (by omega)).2.2.1 hs).trans ((D (s + 1) hs).2.2.2.1 (by omega)).symm
          a1 := fun s hs h0 => (D s hs).2.2.2.2.1 h0
          a2 := fun s hs => (D s hs).2.2.2.2.2.1
          a4 := fun s hs => (D s (by omega)).2.2.2.2.2.2.1 hs
          a6 := fun s hs => (D s hs).2.2.2.2.2.2.2 }
theorem cGK {c:dE} {b:List bT} (h:iB c b=0):TrI (iM c b) (iM c b) []:=by
 have q:∀(n:Nat) (s:Nat),((mp n (aIQ c)).getD s (aK aD)).2.length=0:=fun n s=>by
  by_cases hs:s<n
  ·rw[bCA _ _ _ hs];rfl
  ·rw[List.getD_eq_getElem?_getD,List.getElem?_eq_none (by rw[kF];omega)];rfl
 refine TrI.start (fun s hs=>(aVI h hs).2) (fun s=>?_) (fun s=>?_)
 ·rw[<-aDC h];exact q _ s
 ·rw[<-aDC h];exact q _ s
def kd (pl:List eP) (k:Nat):Int:=(pl.getD k (0,0)).1
def aQB (ms:List Int) (i:eP):List Int:=if i.1=2 then ms++[i.2] else if i.1=6 then ms.drop 1 else ms
def msF (l:List eP):List Int:=l.foldl aQB []
def NX (first last redo:Bool) (a b:Int):Prop :=
 ((b=2/\first=false)↔a=1)/\(b=3↔(a=2/\last=false))/\(((b=5\/b=6)/\last=false)↔(a=4\/(a=5/\last=false)))/\((b=6/\redo=true)↔a=5)/\(b=7↔(a=6/\first=false))
instance (first last redo:Bool) (a b:Int):Decidable (NX first last redo a b):=by unfold NX;infer_instance
def IN (first last redo:Bool) (mi:Int) (K:Nat) (i:eP) (ms:List Int):Prop :=
 (0<=i.2/\i.2<mi)/\(1<=i.1/\i.1<=8)/\(i.1=1->first=false)/\(i.1=3->last=false)/\(i.1=4->last=false)/\(i.1=7->first=false)/\(i.1=5->redo=true)/\(i.1=2->i.2 ∉ ms/\ms.length<K)/\(i.1=5\/i.1=6->ms.head?=some i.2)
instance (first last redo:Bool) (mi:Int) (K:Nat) (i:eP) (ms:List Int):Decidable (IN first last redo mi K i ms):=by unfold IN;infer_instance
def bQE (first last redo:Bool) (mi:Int) (K:Nat):List eP->List Int->Bool
 | [],_=>true
 | i::l,ms=>decide (IN first last redo mi K i ms)&&(decide (NX first last redo i.1 (l.getD 0 (0,0)).1)&&(decide (i.1=8↔l.length=0)&&bQE first last redo mi K l (aQB ms i)))
structure PlC (first last redo:Bool) (mi:Int) (K:Nat) (pl:List eP):Prop where
 i1:∀k (h:k<pl.length),IN first last redo mi K pl[k] (msF (pl.take k))
 n1:∀k,k<pl.length->NX first last redo (kd pl k) (kd pl (k+1))
 n0:NX first last redo 0 (kd pl 0)
 e8:∀k,k<pl.length->(kd pl k=8↔k+1=pl.length)
theorem bA0 {pl:List eP} {k:Nat} (h:k<pl.length):kd pl k=pl[k].1:=by unfold kd;rw[aP h]
theorem bCF {first last redo:Bool} {mi:Int} {K:Nat}:(l:List eP)->(ms:List Int)->bQE first last redo mi K l ms=true ->
  ∀k (h:k<l.length),IN first last redo mi K l[k] ((l.take k).foldl aQB ms)/\NX first last redo (kd l k) (kd l (k+1))/\(kd l k=8↔k+1=l.length)
 | [],_,_,k,h=>absurd h (Nat.not_lt_zero _)
 | i::l,ms,hs,k,h=>by
  rw[bQE,Bool.and_eq_true,Bool.and_eq_true,Bool.and_eq_true,decide_eq_true_eq,decide_eq_true_eq,decide_eq_true_eq] at hs
  obtain⟨h1,h2,h3,h4⟩:=hs
  cases k with
  | zero =>
   refine⟨h1,h2,?_⟩
   show i.1=8↔0+1=l.length+1
   rw[h3];omega
  | succ k =>
   obtain⟨a1,a2,a3⟩:=bCF l _ h4 k (by simpa using h)
   refine⟨a1,a2,?_⟩
   show kd l k=8↔k+1+1=l.length+1
   rw[a3];omega
theorem cLI {first last redo:Bool} {mi:Int} {K:Nat} {pl:List eP} (h:bQE first last redo mi K pl []=true) (h0:NX first last redo 0 (kd pl 0)):PlC first last redo mi K pl :=
 ⟨fun k hk=>(bCF pl [] h k hk).1,fun k hk=>(bCF pl [] h k hk).2.1,h0,fun k hk=>(bCF pl [] h k hk).2.2⟩
theorem aVE {pl:List eP} {k:Nat} (h:k<pl.length):msF (pl.take (k+1))=aQB (msF (pl.take k)) pl[k]:=by
 unfold msF;rw[<-oT h,List.foldl_append];rfl
def bDV (m:List fP) (r:cT):Prop:=r.length=m.length+1/\∀i,i<=m.length->dX (r.getD i []) (lC m i)=true
theorem cG0 {m:List fP} {r:cT} (h:bDV m r):aRT m r=true:=aMS h.1 ((vI _ _ _).2 fun i hi=>h.2 i (Nat.le_of_lt hi))
theorem cCR {m:List fP} {x:List Int} (hm:dD m=true) (hx:dX x (kD m)=true):bDV m (rQ m x m.length).1:=⟨zT _ _ _,fun i hi=>bC8 hm hx hi⟩
structure StI (ops:List fP) (pl:List eP) (first last redo:Bool) (k:Nat) (x:aR):Prop where
 e1:x.1=(k:Int)
 e2:x.2.1=pl
 e3:x.2.2.1=ops
 e4:x.2.2.2.1=last
 e5:x.2.2.2.2.1=redo
 st:gY x=true
 ms:x.2.2.2.2.2.1.map (·.1)=msF (pl.take k)
 vF:if kd pl k=6/\redo=true then bDV ops x.2.2.2.2.2.2.1 else x.2.2.2.2.2.2.1=[]
 vX:if kd pl k=2/\first=false then dX x.2.2.2.2.2.2.2.1 (kD ops)=true else x.2.2.2.2.2.2.2.1=[]
 vY:if kd pl k=3 then dX x.2.2.2.2.2.2.2.2.1 (eZ ops)=true else x.2.2.2.2.2.2.2.2.1=[]
 vG:if(kd pl k=5\/kd pl k=6)/\last=false then dX x.2.2.2.2.2.2.2.2.2.1 (eZ ops)=true else x.2.2.2.2.2.2.2.2.2.1=[]
 vD:if kd pl k=7 then dX x.2.2.2.2.2.2.2.2.2.2.1 (kD ops)=true else x.2.2.2.2.2.2.2.2.2.2.1=[]
theorem ifP {a b:Prop} [Decidable a] [Decidable b] {x y:Prop} (h:a↔b):(if a then x else y)=(if b then x else y):=by
 by_cases ha:a
 ·rw[if_pos ha,if_pos (h.1 ha)]
 ·rw[if_neg ha,if_neg (fun hb=>ha (h.2 hb))]
theorem StI.next {ops:List fP} {pl:List eP} {first last redo:Bool} {k:Nat} {x y:aR} (hk:k<pl.length) (hn:NX first last redo (kd pl k) (kd pl (k+1)))
  (e1:y.1=(k:Int)) (e2:y.2.1=pl) (e3:y.2.2.1=ops) (e4:y.2.2.2.1=last) (e5:y.2.2.2.2.1=redo) (st:gY y=true) (ms:y.2.2.2.2.2.1.map (·.1)=msF (pl.take (k+1)))
  (vF:if kd pl k=5 then bDV ops y.2.2.2.2.2.2.1 else y.2.2.2.2.2.2.1=[])
  (vX:if kd pl k=1 then dX y.2.2.2.2.2.2.2.1 (kD ops)=true else y.2.2.2.2.2.2.2.1=[])
  (vY:if kd pl k=2/\last=false then dX y.2.2.2.2.2.2.2.2.1 (eZ ops)=true else y.2.2.2.2.2.2.2.2.1=[])
  (vG:if kd pl k=4\/(kd pl k=5/\last=false) then dX y.2.2.2.2.2.2.2.2.2.1 (eZ ops)=true else y.2.2.2.2.2.2.2.2.2.1=[])
  (vD:if kd pl k=6/\first=false then dX y.2.2.2.2.2.2.2.2.2.2.1 (kD ops)=true else y.2.2.2.2.2.2.2.2.2.2.1=[]):StI ops pl first last redo (k+1) (uL y (y.1+1)):=by
 obtain⟨n1,n2,n3,n4,n5⟩:=hn
 refine⟨by show y.1+1=_;rw[e1];rfl,e2,e3,e4,e5,cM9 st (by omega) (by rw[e2];omega),ms,?_,?_,?_,?_,?_⟩
 ·rw[ifP n4];exact vF
 ·rw[ifP n1];exact vX
 ·rw[ifP n2];exact vY
 ·rw[ifP n3];exact vG
 ·rw[ifP n5];exact vD
section
variable {ops:List fP} {pl:List eP} {first last redo:Bool} {mi:Int} {K:Nat} {k:Nat} {x:aR}
theorem aRJ (hk:k<pl.length) (h2:¬kd pl k=2) (h6:¬kd pl k=6):msF (pl.take (k+1))=msF (pl.take k):=by
 rw[bA0 hk] at h2 h6
 rw[aVE hk];unfold aQB;rw[if_neg h2,if_neg h6]
theorem StI.mB (h:StI ops pl first last redo k x):dD ops=true:=by have:=((cA x).1 h.st).1;rwa [h.e3] at this
theorem StI.s1 (hC:PlC first last redo mi K pl) (h:StI ops pl first last redo k x) (hk:k<pl.length) (h1:kd pl k=1) {v:List Int} (hv:dX v (kD ops)=true):StI ops pl first last redo (k+1) (uL (bMZ x v) ((bMZ x v).1+1)):=by
 have vF:=h.vF;have vX:=h.vX;have vY:=h.vY;have vG:=h.vG;have vD:=h.vD
 rw[h1] at vF vX vY vG vD
 refine StI.next (x:=x) hk (hC.n1 k hk) h.e1 h.e2 h.e3 h.e4 h.e5 (cMS h.st (by rw[h.e3];exact bN7 hv)) (by rw[aRJ hk (by omega) (by omega)];exact h.ms) ?_ ?_ ?_ ?_ ?_
 all_goals rw[h1]
 ·rw[if_neg (by omega)] at vF⊢;exact vF
 ·rw[if_pos rfl];exact hv
 ·rw[if_neg (by omega)] at vY⊢;exact vY
 ·rw[if_neg (by omega)] at vG⊢;exact vG
 ·rw[if_neg (by omega)] at vD⊢;exact vD
theorem StI.s2 (hC:PlC first last redo mi K pl) (h:StI ops pl first last redo k x) (hk:k<pl.length) (h2:kd pl k=2) {v t:List Int} (hv:dX v (kD ops)=true) (ht:last=true->dX t (eZ ops)=true) :
  StI ops pl first last redo (k+1) (uL (aF2 x pl[k].2 v t) ((aF2 x pl[k].2 v t).1+1))/\aF2 x pl[k].2 v t=bIM x pl[k].2 v t:=by
 have vF:=h.vF;have vX:=h.vX;have vY:=h.vY;have vG:=h.vG;have vD:=h.vD
 rw[h2] at vF vX vY vG vD
 have hi:=(hC.i1 k hk).2.2.2.2.2.2.2.1 (by rw[<-bA0 hk];exact h2)
 have hf:=cAD (l:=x.2.2.2.2.2.1) (m:=pl[k].2) (by rw[h.ms];exact hi.1)
 have hx':dX v (kD x.2.2.1)=true:=by rw[h.e3];exact hv
 have e:aF2 x pl[k].2 v t=bIM x pl[k].2 v t:=by
  unfold aF2;rw[if_pos]
  unfold bQQ
  rw[h.st,hx',hf,h.e4,h.e3]
  cases hl:last with
  | false=>rfl
  | true=>rw[ht hl];rfl
 refine⟨?_,e⟩
 rw[e]
 have hm:=h.mB
 refine StI.next (x:=x) hk (hC.n1 k hk) h.e1 h.e2 h.e3 h.e4 h.e5 (cJP h.st hx') ?_ ?_ ?_ ?_ ?_ ?_
 ·rw[aVE hk]
  unfold aQB
  rw[if_pos (by rw[<-bA0 hk];exact h2),<-h.ms]
  show(x.2.2.2.2.2.1++[_]).map _=_
  rw[List.map_append];rfl
 all_goals rw[h2]
 ·rw[if_neg (by omega)] at vF⊢;exact vF
 ·rw[if_neg (by omega)];rfl
 ·show if(2:Int)=2/\last=false then dX (if x.2.2.2.1=true then x.2.2.2.2.2.2.2.2.1 else bI6 x v) (eZ ops)=true else(if x.2.2.2.1=true then x.2.2.2.2.2.2.2.2.1 else bI6 x v)=[]
  rw[h.e4]
  cases hl:last with
  | false =>
   rw[if_pos ⟨rfl,rfl⟩,if_neg (by decide),<-h.e3]
   exact bXA (by rw[h.e3];exact hm) hx'
  | true =>
   rw[if_neg (fun hh=>by cases hh.2),if_pos rfl]
   rw[if_neg (by omega)] at vY;exact vY
 ·rw[if_neg (by omega)] at vG⊢;exact vG
 ·rw[if_neg (by omega)] at vD⊢;exact vD
theorem StI.s3 (hC:PlC first last redo mi K pl) (h:StI ops pl first last redo k x) (hk:k<pl.length) (h3:kd pl k=3):StI ops pl first last redo (k+1) (uL (bMW x []) ((bMW x []).1+1)):=by
 have vF:=h.vF;have vX:=h.vX;have vY:=h.vY;have vG:=h.vG;have vD:=h.vD
 rw[h3] at vF vX vY vG vD
 refine StI.next (x:=x) hk (hC.n1 k hk) h.e1 h.e2 h.e3 h.e4 h.e5 (cMP h.st (bDT _)) (by rw[aRJ hk (by omega) (by omega)];exact h.ms) ?_ ?_ ?_ ?_ ?_
 all_goals rw[h3]
 ·rw[if_neg (by omega)] at vF⊢;exact vF
 ·rw[if_neg (by omega)] at vX⊢;exact vX
 ·rw[if_neg (by omega)];rfl
 ·rw[if_neg (by omega)] at vG⊢;exact vG
 ·rw[if_neg (by omega)] at vD⊢;exact vD
theorem StI.s4 (hC:PlC first last redo mi K pl) (h:StI ops pl first last redo k x) (hk:k<pl.length) (h4:kd pl k=4) {v:List Int} (hv:dX v (eZ ops)=true):StI ops pl first last redo (k+1) (uL (bO7 x v) ((bO7 x v).1+1)):=by
 have vF:=h.vF;have vX:=h.vX;have vY:=h.vY;have vG:=h.vG;have vD:=h.vD
 rw[h4] at vF vX vY vG vD
 refine StI.next (x:=x) hk (hC.n1 k hk) h.e1 h.e2 h.e3 h.e4 h.e5 (cMO h.st (by rw[h.e3];exact bN7 hv)) (by rw[aRJ hk (by omega) (by omega)];exact h.ms) ?_ ?_ ?_ ?_ ?_
 all_goals rw[h4]
 ·rw[if_neg (by omega)] at vF⊢;exact vF
 ·rw[if_neg (by omega)] at vX⊢;exact vX
 ·rw[if_neg (by omega)] at vY⊢;exact vY
 ·rw[if_pos (.inl rfl)];exact hv
 ·rw[if_neg (by omega)] at vD⊢;exact vD
theorem StI.due (hC:PlC first last redo mi K pl) (h:StI ops pl first last redo k x) (hk:k<pl.length) (h5:kd pl k=5\/kd pl k=6) :
  kC x.2.2.2.2.2.1 pl[k].2=0/\wD ops redo (x.2.2.2.2.2.1.getD 0 (aK aJ))=true/\∃a l,x.2.2.2.2.2.1=a::l:=by
 have hi:=(hC.i1 k hk).2.2.2.2.2.2.2.2 (by rw[<-bA0 hk];exact h5)
 rw[<-h.ms] at hi
 have hst:=((cA x).1 h.st).2.2.2.1
 rw[h.e3,h.e5] at hst
 refine⟨bZZ hi,?_,?_⟩
 ·cases hl:x.2.2.2.2.2.1 with
  | nil=>rw[hl] at hi;cases hi
  | cons a l=>rw[hl] at hst;rw[List.all_cons,Bool.and_eq_true] at hst;exact hst.1
 ·cases hl:x.2.2.2.2.2.1 with
  | nil=>rw[hl] at hi;cases hi
  | cons a l=>exact⟨a,l,rfl⟩
theorem StI.s5 (hC:PlC first last redo mi K pl) (h:StI ops pl first last redo k x) (hk:k<pl.length) (h5:kd pl k=5):StI ops pl first last redo (k+1) (uL (aB6 x pl[k].2) ((aB6 x pl[k].2).1+1)):=by
 have vF:=h.vF;have vX:=h.vX;have vY:=h.vY;have vG:=h.vG;have vD:=h.vD
 rw[h5] at vF vX vY vG vD
 obtain⟨d1,d2,d3⟩:=h.due hC hk (.inl h5)
 have hm:=h.mB
 have hr:dX ((x.2.2.2.2.2.1.getD (kC x.2.2.2.2.2.1 pl[k].2).toNat (aK aJ)).2.getD 0 []) (kD ops)=true:=by
  rw[d1]
  have:=((aAO _ _ _).1 d2).2 0 (by unfold aH0;split<;>omega)
  rw[bRO hm] at this
  exact this
 rw[<-bGB h.st (by rw[d1];exact Int.le_refl _)]
 refine StI.next (x:=x) hk (hC.n1 k hk) h.e1 h.e2 h.e3 h.e4 h.e5 (cHQ h.st) (by rw[aRJ hk (by omega) (by omega)];exact h.ms) ?_ ?_ ?_ ?_ ?_
 all_goals rw[h5]
 ·rw[if_pos rfl]
  show bDV ops (rQ x.2.2.1 _ x.2.2.1.length).1
  rw[h.e3]
  exact cCR hm hr
 ·rw[if_neg (by omega)] at vX⊢;exact vX
 ·rw[if_neg (by omega)] at vY⊢;exact vY
 ·cases hl:last with
  | false =>
   rw[hl,if_pos ⟨.inl rfl,rfl⟩] at vG
   rw[if_pos (.inr ⟨rfl,rfl⟩)];exact vG
  | true =>
   rw[hl,if_neg (fun hh=>by cases hh.2)] at vG
   rw[if_neg (by rintro(hh|hh);omega;cases hh.2)];exact vG
 ·rw[if_neg (by omega)] at vD⊢;exact vD
theorem StI.s6 (hC:PlC first last redo mi K pl) (h:StI ops pl first last redo k x) (hk:k<pl.length) (h6:kd pl k=6) {t:List Int} (ht:last=true->dX t (eZ ops)=true) :
  zL x pl[k].2 t=bP3 x pl[k].2 t/\StI ops pl first last redo (k+1) (uL (if first=true then aIH (zL x pl[k].2 t) [] else zL x pl[k].2 t) ((if first=true then aIH (zL x pl[k].2 t) [] else zL x pl[k].2 t).1+1)):=by
 have vF:=h.vF;have vX:=h.vX;have vY:=h.vY;have vG:=h.vG;have vD:=h.vD
 rw[h6] at vF vX vY vG vD
 obtain⟨d1,d2,a,l,d3⟩:=h.due hC hk (.inr h6)
 have hm:=h.mB
 have hg:bDV ops (yO x pl[k].2):=by
  unfold yO
  rw[h.e5]
  cases hr:redo with
  | true =>
   rw[hr,if_pos ⟨rfl,rfl⟩] at vF
   rw[if_pos rfl];exact vF
  | false =>
   rw[hr] at d2
   rw[if_neg (by decide),d1]
   have:=(aAO _ _ _).1 d2
   exact⟨this.1,fun i hi=>this.2 i (by show i<ops.length+1;omega)⟩
 have hd:dX (pP x pl[k].2 t).1 (eZ ops)=true:=by
  unfold pP
  rw[h.e4]
  cases hl:last with
  | true =>
   rw[if_pos rfl,h.e3]
   have h1:=hg.2 ops.length (Nat.le_refl _)
   rw[aTP hm] at h1
   exact cLX (fun _ _=>aRE _) h1 (ht hl)
  | false =>
   rw[hl,if_pos ⟨.inr rfl,rfl⟩] at vG
   rw[if_neg (by decide)];exact vG
 have hok:bBD x pl[k].2 t=true:=by
  unfold bBD
  rw[h.st,d1,h.e3,cG0 hg,hd];rfl
 have e:zL x pl[k].2 t=bP3 x pl[k].2 t:=by unfold zL;rw[if_pos hok]
 obtain⟨s1,s2⟩:=cLE hok
 rw[h.e3] at s2
 refine⟨e,?_⟩
 rw[e]
 have ems:(bP3 x pl[k].2 t).2.2.2.2.2.1.map (·.1)=msF (pl.take (k+1)):=by
  rw[aVE hk]
  unfold aQB
  rw[if_neg (by rw[<-bA0 hk];omega),if_pos (by rw[<-bA0 hk];exact h6),<-h.ms]
  show(x.2.2.2.2.2.1.take (kC x.2.2.2.2.2.1 pl[k].2).toNat++x.2.2.2.2.2.1.drop ((kC x.2.2.2.2.2.1 pl[k].2).toNat+1)).map _=_
  rw[d1,d3];rfl
 cases hf:first with
 | true =>
  rw[if_pos rfl]
  refine StI.next (x:=x) hk (by have:=hC.n1 k hk;rwa [hf] at this) h.e1 h.e2 h.e3 h.e4 h.e5 (cMD s1 (bDT _)) ems ?_ ?_ ?_ ?_ ?_
  all_goals rw[h6]
  ·rw[if_neg (by omega)];rfl
  ·rw[if_neg (by omega)] at vX⊢;exact vX
  ·rw[if_neg (by omega)] at vY⊢;exact vY
  ·rw[if_neg (by omega)];rfl
  ·rw[if_neg (fun hh=>by cases hh.2)];rfl
 | false =>
  rw[if_neg (by decide)]
  refine StI.next (x:=x) hk (by have:=hC.n1 k hk;rwa [hf] at this) h.e1 h.e2 h.e3 h.e4 h.e5 s1 ems ?_ ?_ ?_ ?_ ?_
  all_goals rw[h6]
  ·rw[if_neg (by omega)];rfl
  ·rw[if_neg (by omega)] at vX⊢;exact vX
  ·rw[if_neg (by omega)] at vY⊢;exact vY
  ·rw[if_neg (by omega)];rfl
  ·rw[if_pos ⟨rfl,rfl⟩]
   show dX (aBA x.2.2.1 (yO x pl[k].2) (pP x pl[k].2 t).1).2.1 (kD ops)=true
   rw[h.e3];exact s2
theorem StI.s7 (hC:PlC first last redo mi K pl) (h:StI ops pl first last redo k x) (hk:k<pl.length) (h7:kd pl k=7):StI ops pl first last redo (k+1) (uL (aIH x []) ((aIH x []).1+1)):=by
 have vF:=h.vF;have vX:=h.vX;have vY:=h.vY;have vG:=h.vG;have vD:=h.vD
 rw[h7] at vF vX vY vG vD
 refine StI.next (x:=x) hk (hC.n1 k hk) h.e1 h.e2 h.e3 h.e4 h.e5 (cMD h.st (bDT _)) (by rw[aRJ hk (by omega) (by omega)];exact h.ms) ?_ ?_ ?_ ?_ ?_
 all_goals rw[h7]
 ·rw[if_neg (by omega)] at vF⊢;exact vF
 ·rw[if_neg (by omega)] at vX⊢;exact vX
 ·rw[if_neg (by omega)] at vY⊢;exact vY
 ·rw[if_neg (by omega)] at vG⊢;exact vG
 ·rw[if_neg (by omega)];rfl
theorem StI.s8 (hC:PlC first last redo mi K pl) (h:StI ops pl first last redo k x) (hk:k<pl.length) (h8:kd pl k=8):StI ops pl first last redo (k+1) (uL x (x.1+1)):=by
 have vF:=h.vF;have vX:=h.vX;have vY:=h.vY;have vG:=h.vG;have vD:=h.vD
 rw[h8] at vF vX vY vG vD
 refine StI.next (x:=x) hk (hC.n1 k hk) h.e1 h.e2 h.e3 h.e4 h.e5 h.st (by rw[aRJ hk (by omega) (by omega)];exact h.ms) ?_ ?_ ?_ ?_ ?_
 all_goals rw[h8]
 ·rw[if_neg (by omega)] at vF⊢;exact vF
 ·rw[if_neg (by omega)] at vX⊢;exact vX
 ·rw[if_neg (by omega)] at vY⊢;exact vY
 ·rw[if_neg (by omega)] at vG⊢;exact vG
 ·rw[if_neg (by omega)] at vD⊢;exact vD
end
def stN (p:aW) (s:Nat):aR:=p.2.1.getD s (aK aB)
def qA (p:aW) (s:Nat):bE:=p.2.2.1.getD s (aK aD)
def qB (p:aW) (s:Nat):bE:=p.2.2.2.getD s (aK aD)
def QOk (cap w:Int) (q:bE):Prop:=q.1=cap/\(q.2.length:Int)<=cap/\∀x∈q.2,dX x.2 w=true/\0<=x.1/\x.1<5
theorem QOk.B {cap w:Int} {q:bE} (h:QOk cap w q) (h1:1<=cap) (h5:cap<=5):mR q=true:=by
 obtain⟨a,b,c⟩:=h
 refine kW.2 ⟨⟨by omega,by omega,by omega⟩,fun i hi=>?_⟩
 rw[aP hi]
 obtain⟨x1,x2,x3⟩:=c _ (List.getElem_mem hi)
 exact(oR _).2 ⟨((cS _ _).1 x1).1,x2,x3⟩
theorem QOk.pop {cap w:Int} {q:bE} (h:QOk cap w q) (h1:1<=cap) (h5:cap<=5) (h0:0<q.2.length):QOk cap w (aE1 q).1/\(aE1 q).1.2.length+1=q.2.length/\dX (aE1 q).2.1.2 w=true:=by
 rw[<-aDK (h.B h1 h5) h0]
 obtain⟨a,b,c⟩:=h
 refine⟨⟨a,by show((q.2.drop 1).length:Int)<=cap;rw[List.length_drop];omega,fun x hx=>c x (List.mem_of_mem_drop hx)⟩,by show(q.2.drop 1).length+1=_;rw[List.length_drop];omega,?_⟩
 show dX (q.2.getD 0 bXM).2 w=true
 rw[aP h0]
 exact(c _ (List.getElem_mem h0)).1
theorem QOk.push {cap w:Int} {q:bE} {m:Int} {v:List Int} (h:QOk cap w q) (h1:1<=cap) (h5:cap<=5) (h0:(q.2.length:Int)<cap) (hv:dX v w=true) (m0:0<=m) (m5:m<5):QOk cap w (aC5 q (m,v)).1/\(aC5 q (m,v)).1.2.length=q.2.length+1:=by
 rw[<-aBE (q:=q) (x:=(m,v)) (h.B h1 h5) ((oR _).2 ⟨((cS _ _).1 hv).1,m0,m5⟩) (by rw[h.1];exact h0)]
 obtain⟨a,b,c⟩:=h
 have hl:(q.2++[(m,v)]).length=q.2.length+1:=by rw[List.length_append];rfl
 refine⟨⟨a,by show((q.2++[(m,v)]).length:Int)<=cap;omega,fun x hx=>?_⟩,hl⟩
 rcases List.mem_append.1 hx with hx|hx
 ·exact c x hx
 ·rw[List.mem_singleton] at hx;subst hx;exact⟨hv,m0,m5⟩
structure PSt (P:aW) (n:Nat) (ops:Nat->List fP) (redo:Nat->Bool) (caps:Nat->Int) (K:Nat->Nat):Prop where
 hn:P.2.1.length=n
 n1:1<=n
 n4:n<=4
 b1:1<=P.1.length
 b5:P.1.length<=5
 plo:PlOk P
 plc:∀s,s<n->PlC (decide (s=0)) (decide (s+1=n)) (redo s) (P.1.length:Int) (K s) (uU P s)
 ml:∀s,s+1<n->eZ (ops s)=kD (ops (s+1))
 bx:∀i,i<P.1.length->dX (P.1.getD i (aK aL)).1 (kD (ops 0))=true/\dX (P.1.getD i (aK aL)).2 (eZ (ops (n - 1)))=true
 cp:∀s,s+1<n->1<=caps s/\caps s<=5
structure PrI (P:aW) (n:Nat) (ops:Nat->List fP) (redo:Nat->Bool) (caps:Nat->Int) (p:aW) (L:List aRL):Prop where
 tr:TrI P p L
 eb:p.1=P.1
 la:p.2.2.1.length+1=n
 lb:p.2.2.2.length+1=n
 st:∀s,s<n->StI (ops s) (uU P s) (decide (s=0)) (decide (s+1=n)) (redo s) (pcS p s).toNat (stN p s)
 qa:∀s,s+1<n->QOk (caps s) (eZ (ops s)) (qA p s)/\(qA p s).2.length+(mOf 1 (uT L ((s+1:Nat):Int))).length=(mOf 3 (uT L (s:Int))).length
 qb:∀s,s+1<n->QOk (caps s) (eZ (ops s)) (qB p s)/\(qB p s).2.length+(mOf 4 (uT L (s:Int))).length=(mOf 7 (uT L ((s+1:Nat):Int))).length
section
variable {P p:aW} {n:Nat} {ops:Nat->List fP} {redo:Nat->Bool} {caps:Nat->Int} {K:Nat->Nat} {L:List aRL}
theorem PrI.ok (hS:PSt P n ops redo caps K) (h:PrI P n ops redo caps p L):nQ p=true:=by
 have hl:p.2.1.length=n:=by rw[h.tr.ln,hS.hn]
 have hb1:=hS.b1
 have Gz:=hS.b5
 have Ah:=hS.n1
 have J1:=hS.n4
 refine kW.2 ⟨⟨by omega,by omega,by rw[hl];exact h.la,by rw[hl];exact h.lb,by rw[h.eb];omega,by rw[h.eb];omega⟩,fun i hi=>?_,fun i hi=>?_,fun i hi=>?_⟩
 ·rw[h.eb] at hi⊢
  obtain⟨a,b⟩:=hS.bx i hi
  exact⟨((cS _ _).1 a).1,((cS _ _).1 b).1⟩
 ·have hs:i+1<n:=by have:=h.la;omega
  obtain⟨c1,c2⟩:=hS.cp i hs
  exact⟨((h.qa i hs).1).B c1 c2,((h.qb i hs).1).B c1 c2⟩
 ·have hs:i<n:=by omega
  have hi:=h.st i hs
  refine⟨hi.st,?_,fun k hk=>?_⟩
  ·rw[show(p.2.1.getD i (aK aB)).2.2.2.1=_ from hi.e4,hl]
  ·have e2:(p.2.1.getD i (aK aB)).2.1=uU P i:=hi.e2
   rw[e2] at hk⊢
   have:=((hS.plc i hs).i1 k hk).1
   rw[aP hk,h.eb]
   exact this
theorem TrI.on (h:TrI P p L) {s:Int} (he:jC p s=true):∃σ:Nat,s=(σ:Int)/\σ<P.2.1.length/\∃hc:(pcS p σ).toNat<(uU P σ).length,bB p (σ:Int)=(uU P σ)[(pcS p σ).toNat] /\
  (∀t,stN (gJ p (σ:Int)) t=if σ=t then uL (fH p σ) ((fH p σ).1+1) else stN p t)/\(gJ p (σ:Int)).1=p.1/\(gJ p (σ:Int)).2.2.1=nI p σ/\(gJ p (σ:Int)).2.2.2=nD p σ/\oD p (σ:Int)=stN p σ /\
  (∀(k:Int) (t:Nat),(mOf k (uT (L++[((σ:Int),bB p (σ:Int),true)]) (t:Int))).length=(mOf k (uT L (t:Int))).length+if(bB p (σ:Int)).1=k/\σ=t then 1 else 0):=by
 obtain⟨f1,f2,f3⟩:=aDF he
 have hk:=aIA he
 obtain⟨σ,rfl⟩:∃σ:Nat,s=(σ:Int):=⟨s.toNat,by omega⟩
 have hσ:σ<P.2.1.length:=by rw[<-h.ln];omega
 have hσp:σ<p.2.1.length:=by rw[h.ln];exact hσ
 have hn:∃hc:(pcS p σ).toNat<(uU P σ).length,bB p (σ:Int)=(uU P σ)[(pcS p σ).toNat]:=by
  have h0:=hk.2.2.2.2
  unfold bB at h0⊢
  split at h0
  ·rename_i hh
   rw[if_pos hh]
   obtain⟨_,_,g1,g2⟩:=hh
   rw[Int.toNat_natCast] at g1 g2⊢
   have g2':pcS p σ<((uU p σ).length:Int):=g2
   have g1':0<=pcS p σ:=g1
   rw[h.pl] at g2'
   have hc:(pcS p σ).toNat<(uU P σ).length:=by omega
   refine⟨hc,?_⟩
   show(uU p σ).getD (pcS p σ).toNat (aK aU)=_
   rw[h.pl,aP hc]
  ·exact absurd rfl h0
 obtain⟨hc,hi⟩:=hn
 have ep:gJ p (σ:Int)=(p.1,p.2.1.set σ (uL (fH p σ) ((fH p σ).1+1)),nI p σ,nD p σ):=by
  unfold gJ;rw[if_pos he,Int.toNat_natCast]
 refine⟨σ,rfl,hσ,hc,hi,fun t=>?_,by rw[ep],by rw[ep],by rw[ep],by unfold oD stN;rw[Int.toNat_natCast],fun k t=>?_⟩
 ·rw[ep]
  unfold stN
  dsimp only
  rw[sK]
  by_cases ht:σ=t
  ·subst ht;rw[if_pos ⟨rfl,hσp⟩,if_pos rfl]
  ·rw[if_neg (fun hh=>ht hh.1),if_neg ht]
 ·rw[aV0,bR9,aHN,List.length_append]
  by_cases ht:σ=t
  ·rw[if_pos (show(σ:Int)=(t:Int) by omega),bCN]
   by_cases hq:(bB p (σ:Int)).1=k
   ·rw[if_pos hq,if_pos ⟨hq,ht⟩];rfl
   ·rw[if_neg hq,if_neg (fun hh=>hq hh.1)];rfl
  ·rw[if_neg (show ¬(σ:Int)=(t:Int) by omega),if_neg (fun hh=>ht hh.2)];rfl
theorem PrI.step (hS:PSt P n ops redo caps K) (h:PrI P n ops redo caps p L) (s:Int):PrI P n ops redo caps (gJ p s) (L++[(s,bB p s,jC p s)]):=by
 have htr:=h.tr.step hS.plo s
 cases he:jC p s with
 | false =>
  rw[he] at htr
  have ep:gJ p s=p:=by unfold gJ;rw[if_neg (by rw[he];simp)]
  have ed:∀t,uT (L++[(s,bB p s,false)]) t=uT L t:=fun t=>by rw[aV0,bX0,List.append_nil]
  rw[ep] at htr⊢
  exact⟨htr,h.eb,h.la,h.lb,h.st,fun t ht=>by rw[ed,ed];exact h.qa t ht,fun t ht=>by rw[ed,ed];exact h.qb t ht⟩
 | true =>
  rw[he] at htr
  obtain⟨σ,rfl,hσ,hc,hi,estN,eB,eA,eR,eSt,mo⟩:=h.tr.on he
  obtain⟨f1,f2,f3⟩:=aDF he
  have hk:=aIA he
  rw[hS.hn] at hσ
  have L3:p.2.1.length=n:=by rw[h.tr.ln,hS.hn]
  have hC:=hS.plc σ hσ
  have hst:=h.st σ hσ
  have hin:=hC.i1 _ hc
  have Er:=hin.1
  have Gz:=hS.b5
  have e6:kd (uU P σ) (pcS p σ).toNat=(bB p (σ:Int)).1:=by rw[bA0 hc,hi]
  have hpc:(pcS (gJ p (σ:Int)) σ).toNat=(pcS p σ).toNat+1:=by
   have:pcS (gJ p (σ:Int)) σ=pcS p σ+1:=by
    show(stN (gJ p (σ:Int)) σ).1=_
    rw[estN,if_pos rfl]
    show(fH p (σ:Int)).1+1=_
    rw[bJN,eSt];rfl
   rw[this]
   have:=(h.tr.pc σ (by rw[hS.hn];exact hσ)).1
   omega
  have hpo:∀t,¬σ=t->pcS (gJ p (σ:Int)) t=pcS p t:=fun t ht=>by
   show(stN (gJ p (σ:Int)) t).1=_
   rw[estN,if_neg ht];rfl
  have lA:(nI p (σ:Int)).length=p.2.2.1.length:=by unfold nI;split<;>(try split)<;>simp only[List.length_set]
  have lB:(nD p (σ:Int)).length=p.2.2.2.length:=by unfold nD;split<;>(try split)<;>simp only[List.length_set]
  have key:StI (ops σ) (uU P σ) (decide (σ=0)) (decide (σ+1=n)) (redo σ) ((pcS p σ).toNat+1) (uL (fH p σ) ((fH p σ).1+1)) /\
    (∀t,t+1<n->QOk (caps t) (eZ (ops t)) ((nI p σ).getD t (aK aD))/\((nI p σ).getD t (aK aD)).2.length+(if(bB p (σ:Int)).1=1/\σ=t+1 then 1 else 0)=(qA p t).2.length+(if(bB p (σ:Int)).1=3/\σ=t then 1 else 0)) /\
    (∀t,t+1<n->QOk (caps t) (eZ (ops t)) ((nD p σ).getD t (aK aD))/\((nD p σ).getD t (aK aD)).2.length+(if(bB p (σ:Int)).1=4/\σ=t then 1 else 0)=(qB p t).2.length+(if(bB p (σ:Int)).1=7/\σ=t+1 then 1 else 0)):=by
   have qA0:∀t,t+1<n->∀a b:Prop,[Decidable a]->[Decidable b]->¬a->¬b->QOk (caps t) (eZ (ops t)) (p.2.2.1.getD t (aK aD))/\(p.2.2.1.getD t (aK aD)).2.length+(if a then 1 else 0)=(qA p t).2.length+(if b then 1 else 0):=fun t ht a b _ _ ha hb=>by
    rw[if_neg ha,if_neg hb];exact⟨(h.qa t ht).1,rfl⟩
   have qB0:∀t,t+1<n->∀a b:Prop,[Decidable a]->[Decidable b]->¬a->¬b->QOk (caps t) (eZ (ops t)) (p.2.2.2.getD t (aK aD))/\(p.2.2.2.getD t (aK aD)).2.length+(if a then 1 else 0)=(qB p t).2.length+(if b then 1 else 0):=fun t ht a b _ _ ha hb=>by
    rw[if_neg ha,if_neg hb];exact⟨(h.qb t ht).1,rfl⟩
   have Ct:(bB p (σ:Int)).1=1\/(bB p (σ:Int)).1=2\/(bB p (σ:Int)).1=3\/(bB p (σ:Int)).1=4\/(bB p (σ:Int)).1=5\/(bB p (σ:Int)).1=6\/(bB p (σ:Int)).1=7\/(bB p (σ:Int)).1=8:=by
    have:=hin.2.1;rw[<-hi] at this;omega
   have Ba:decide (σ+1=n)=true->dX (p.1.getD (bB p (σ:Int)).2.toNat (aK aL)).2 (eZ (ops σ))=true:=fun hl=>by
    rw[decide_eq_true_eq] at hl
    rw[h.eb]
    rw[<-hi] at Er
    have:=(hS.bx (bB p (σ:Int)).2.toNat (by omega)).2
    rwa [show n - 1=σ by omega] at this
   rcases Ct with k|k|k|k|k|k|k|k
   ·
    have hs0:=hk.1 k
    obtain⟨τ,rfl⟩:∃τ,σ=τ+1:=⟨σ - 1,by omega⟩
    have et:(((τ+1:Nat):Int) - 1).toNat=τ:=by omega
    have he':=he
    rw[bTX f1 f2 f3 k,Bool.and_eq_true,decide_eq_true_eq,decide_eq_true_eq,et] at he'
    obtain⟨c1,c2⟩:=hS.cp τ hσ
    obtain⟨p1,p2,p3⟩:=(h.qa τ hσ).1.pop c1 c2 he'.2
    have e1:fH p ((τ+1:Nat):Int)=bMZ (stN p (τ+1)) (aE1 (qA p τ)).2.1.2:=by unfold fH;rw[if_pos k,eSt,et];rfl
    have e2:nI p ((τ+1:Nat):Int)=p.2.2.1.set τ (aE1 (qA p τ)).1:=by unfold nI;rw[if_pos k,et];rfl
    have e3:nD p ((τ+1:Nat):Int)=p.2.2.2:=by unfold nD;rw[if_neg (by omega),if_neg (by omega)]
    rw[e1,e2,e3]
    refine⟨hst.s1 hC hc (by rw[e6];exact k) (by rw[<-hS.ml τ hσ];exact p3),fun t ht=>?_,fun t ht=>qB0 t ht _ _ (by omega) (by omega)⟩
    rw[sK]
    by_cases Ba:τ=t
    ·subst Ba
     rw[if_pos ⟨rfl,by have:=h.la;omega⟩,if_pos ⟨k,rfl⟩,if_neg (by omega)]
     exact⟨p1,p2⟩
    ·rw[if_neg (fun hh=>Ba hh.1)]
     exact qA0 t ht _ _ (by omega) (by omega)
   ·
    have e1:fH p (σ:Int)=aF2 (stN p σ) (uU P σ)[(pcS p σ).toNat].2 (if(σ:Int)=0 then(p.1.getD (bB p (σ:Int)).2.toNat (aK aL)).1 else(stN p σ).2.2.2.2.2.2.2.1) (p.1.getD (bB p (σ:Int)).2.toNat (aK aL)).2:=by
     unfold fH;rw[if_neg (by omega),if_pos k,eSt,<-hi]
    have e2:nI p (σ:Int)=p.2.2.1:=by unfold nI;rw[if_neg (by omega),if_neg (by omega)]
    have e3:nD p (σ:Int)=p.2.2.2:=by unfold nD;rw[if_neg (by omega),if_neg (by omega)]
    rw[e1,e2,e3]
    refine⟨(hst.s2 hC hc (by rw[e6];exact k) ?_ Ba).1,fun t ht=>qA0 t ht _ _ (by omega) (by omega),fun t ht=>qB0 t ht _ _ (by omega) (by omega)⟩
    by_cases h0:σ=0
    ·subst h0
     rw[if_pos (show((0:Nat):Int)=0 from rfl),h.eb]
     rw[<-hi] at Er
     exact(hS.bx (bB p ((0:Nat):Int)).2.toNat (by omega)).1
    ·rw[if_neg (by omega)]
     have vX:=hst.vX
     rw[if_pos ⟨by rw[e6];exact k,decide_eq_false h0⟩] at vX
     exact vX
   ·
    have hs1:σ+1<n:=by have:=hk.2.1 k;omega
    have he':=he
    rw[cD3 f1 f2 f3 k,Bool.and_eq_true,decide_eq_true_eq,Int.toNat_natCast] at he'
    obtain⟨c1,c2⟩:=hS.cp σ hs1
    have hroom:((qA p σ).2.length:Int)<caps σ:=by
     have:=he'.2
     unfold aQA at this
     rw[decide_eq_true_eq] at this
     have e:=((h.qa σ hs1).1).1
     rw[<-e];exact this
    have vY:=hst.vY
    rw[if_pos (by rw[e6];exact k)] at vY
    rw[<-hi] at Er
    obtain⟨p1,p2⟩:=(h.qa σ hs1).1.push c1 c2 hroom vY Er.1 (show(bB p (σ:Int)).2<5 by omega)
    have e1:fH p (σ:Int)=bMW (stN p σ) []:=by unfold fH;rw[if_neg (by omega),if_neg (by omega),if_pos k,eSt]
    have e2:nI p (σ:Int)=p.2.2.1.set σ (aC5 (qA p σ) ((bB p (σ:Int)).2,(stN p σ).2.2.2.2.2.2.2.2.1)).1:=by unfold nI;rw[if_neg (by omega),if_pos k,Int.toNat_natCast,eSt];rfl
    have e3:nD p (σ:Int)=p.2.2.2:=by unfold nD;rw[if_neg (by omega),if_neg (by omega)]
    rw[e1,e2,e3]
    refine⟨hst.s3 hC hc (by rw[e6];exact k),fun t ht=>?_,fun t ht=>qB0 t ht _ _ (by omega) (by omega)⟩
    rw[sK]
    by_cases Ba:σ=t
    ·subst Ba
     rw[if_pos ⟨rfl,by have:=h.la;omega⟩,if_neg (by omega),if_pos ⟨k,rfl⟩]
     exact⟨p1,p2⟩
    ·rw[if_neg (fun hh=>Ba hh.1)]
     exact qA0 t ht _ _ (by omega) (by omega)
   ·
    have hs1:σ+1<n:=by have:=hk.2.2.1 k;omega
    have he':=he
    rw[bTZ f1 f2 f3 k,Bool.and_eq_true,decide_eq_true_eq,decide_eq_true_eq,Int.toNat_natCast] at he'
    obtain⟨c1,c2⟩:=hS.cp σ hs1
    obtain⟨p1,p2,p3⟩:=(h.qb σ hs1).1.pop c1 c2 he'.2
    have e1:fH p (σ:Int)=bO7 (stN p σ) (aE1 (qB p σ)).2.1.2:=by unfold fH;rw[if_neg (by omega),if_neg (by omega),if_neg (by omega),if_pos k,eSt,Int.toNat_natCast];rfl
    have e2:nI p (σ:Int)=p.2.2.1:=by unfold nI;rw[if_neg (by omega),if_neg (by omega)]
    have e3:nD p (σ:Int)=p.2.2.2.set σ (aE1 (qB p σ)).1:=by unfold nD;rw[if_pos k,Int.toNat_natCast];rfl
    rw[e1,e2,e3]
    refine⟨hst.s4 hC hc (by rw[e6];exact k) p3,fun t ht=>qA0 t ht _ _ (by omega) (by omega),fun t ht=>?_⟩
    rw[sK]
    by_cases Ba:σ=t
    ·subst Ba
     rw[if_pos ⟨rfl,by have:=h.lb;omega⟩,if_pos ⟨k,rfl⟩,if_neg (by omega)]
     exact⟨p1,p2⟩
    ·rw[if_neg (fun hh=>Ba hh.1)]
     exact qB0 t ht _ _ (by omega) (by omega)
   ·
    have e1:fH p (σ:Int)=aB6 (stN p σ) (uU P σ)[(pcS p σ).toNat].2:=by unfold fH;rw[if_neg (by omega),if_neg (by omega),if_neg (by omega),if_neg (by omega),if_pos k,eSt,<-hi]
    have e2:nI p (σ:Int)=p.2.2.1:=by unfold nI;rw[if_neg (by omega),if_neg (by omega)]
    have e3:nD p (σ:Int)=p.2.2.2:=by unfold nD;rw[if_neg (by omega),if_neg (by omega)]
    rw[e1,e2,e3]
    exact⟨hst.s5 hC hc (by rw[e6];exact k),fun t ht=>qA0 t ht _ _ (by omega) (by omega),fun t ht=>qB0 t ht _ _ (by omega) (by omega)⟩
   ·
    have e1:fH p (σ:Int)=if decide (σ=0)=true then aIH (zL (stN p σ) (uU P σ)[(pcS p σ).toNat].2 (p.1.getD (bB p (σ:Int)).2.toNat (aK aL)).2) [] else zL (stN p σ) (uU P σ)[(pcS p σ).toNat].2 (p.1.getD (bB p (σ:Int)).2.toNat (aK aL)).2:=by
     unfold fH
     rw[if_neg (by omega),if_neg (by omega),if_neg (by omega),if_neg (by omega),if_neg (by omega),if_pos k,eSt,<-hi]
     by_cases h0:σ=0
     ·rw[if_pos (by omega),if_pos (decide_eq_true h0)]
     ·rw[if_neg (by omega),if_neg (by rw[decide_eq_false h0];decide)]
    have e2:nI p (σ:Int)=p.2.2.1:=by unfold nI;rw[if_neg (by omega),if_neg (by omega)]
    have e3:nD p (σ:Int)=p.2.2.2:=by unfold nD;rw[if_neg (by omega),if_neg (by omega)]
    rw[e1,e2,e3]
    exact⟨(hst.s6 hC hc (by rw[e6];exact k) Ba).2,fun t ht=>qA0 t ht _ _ (by omega) (by omega),fun t ht=>qB0 t ht _ _ (by omega) (by omega)⟩
   ·
    have hs0:=hk.2.2.2.1 k
    obtain⟨τ,rfl⟩:∃τ,σ=τ+1:=⟨σ - 1,by omega⟩
    have et:(((τ+1:Nat):Int) - 1).toNat=τ:=by omega
    have he':=he
    rw[cD1 f1 f2 f3 k,Bool.and_eq_true,decide_eq_true_eq,et] at he'
    obtain⟨c1,c2⟩:=hS.cp τ hσ
    have hroom:((qB p τ).2.length:Int)<caps τ:=by
     have:=he'.2
     unfold aQA at this
     rw[decide_eq_true_eq] at this
     have e:=((h.qb τ hσ).1).1
     rw[<-e];exact this
    have vD:=hst.vD
    rw[if_pos (by rw[e6];exact k),<-hS.ml τ hσ] at vD
    rw[<-hi] at Er
    obtain⟨p1,p2⟩:=(h.qb τ hσ).1.push c1 c2 hroom vD Er.1 (show(bB p ((τ+1:Nat):Int)).2<5 by omega)
    have e1:fH p ((τ+1:Nat):Int)=aIH (stN p (τ+1)) []:=by unfold fH;rw[if_neg (by omega),if_neg (by omega),if_neg (by omega),if_neg (by omega),if_neg (by omega),if_neg (by omega),if_pos k,eSt]
    have e2:nI p ((τ+1:Nat):Int)=p.2.2.1:=by unfold nI;rw[if_neg (by omega),if_neg (by omega)]
    have e3:nD p ((τ+1:Nat):Int)=p.2.2.2.set τ (aC5 (qB p τ) ((bB p ((τ+1:Nat):Int)).2,(stN p (τ+1)).2.2.2.2.2.2.2.2.2.2.1)).1:=by unfold nD;rw[if_neg (by omega),if_pos k,et,eSt];rfl
    rw[e1,e2,e3]
    refine⟨hst.s7 hC hc (by rw[e6];exact k),fun t ht=>qA0 t ht _ _ (by omega) (by omega),fun t ht=>?_⟩
    rw[sK]
    by_cases Ba:τ=t
    ·subst Ba
     rw[if_pos ⟨rfl,by have:=h.lb;omega⟩,if_neg (by omega),if_pos ⟨k,rfl⟩]
     exact⟨p1,p2⟩
    ·rw[if_neg (fun hh=>Ba hh.1)]
     exact qB0 t ht _ _ (by omega) (by omega)
   ·
    have e1:fH p (σ:Int)=stN p σ:=by unfold fH;rw[if_neg (by omega),if_neg (by omega),if_neg (by omega),if_neg (by omega),if_neg (by omega),if_neg (by omega),if_neg (by omega),eSt]
    have e2:nI p (σ:Int)=p.2.2.1:=by unfold nI;rw[if_neg (by omega),if_neg (by omega)]
    have e3:nD p (σ:Int)=p.2.2.2:=by unfold nD;rw[if_neg (by omega),if_neg (by omega)]
    rw[e1,e2,e3]
    exact⟨hst.s8 hC hc (by rw[e6];exact k),fun t ht=>qA0 t ht _ _ (by omega) (by omega),fun t ht=>qB0 t ht _ _ (by omega) (by omega)⟩
  obtain⟨k1,k2,k3⟩:=key
  refine⟨htr,by rw[eB];exact h.eb,by rw[eA,lA];exact h.la,by rw[eR,lB];exact h.lb,fun t ht=>?_,fun t ht=>?_,fun t ht=>?_⟩
  ·rw[estN]
   by_cases Ba:σ=t
   ·subst Ba;rw[if_pos rfl,hpc];exact k1
   ·rw[if_neg Ba,hpo t Ba];exact h.st t ht
  ·obtain⟨a1,a2⟩:=k2 t ht
   have a3:=(h.qa t ht).2
   refine⟨by unfold qA;rw[eA];exact a1,?_⟩
   rw[mo,mo]
   unfold qA
   rw[eA]
   omega
  ·obtain⟨a1,a2⟩:=k3 t ht
   have a3:=(h.qb t ht).2
   refine⟨by unfold qB;rw[eR];exact a1,?_⟩
   rw[mo,mo]
   unfold qB
   rw[eR]
   omega
theorem PrI.run (hS:PSt P n ops redo caps K):(l:List Int)->{p:aW}->{L:List aRL}->PrI P n ops redo caps p L->PrI P n ops redo caps (aCL p l) (L++bE8 p l)
 | [],p,L,h=>by rw[show bE8 p []=[] from rfl,List.append_nil];exact h
 | s::l,p,L,h=>by
  have h1:=PrI.run hS l (h.step hS s)
  rw[List.append_assoc] at h1
  exact h1
end
end Go.Proofs.YtfmfeplebgbpmaaGreat
