/- Trc: lemmas. No conditions. -/
import Derived.Test.YtpafjioccjpmfaaGreatCoreT
import Derived.Test.YtpafjioccjpmfaaGreatCoreS
import Derived.Test.YtpafjioccjpmfaaGreatCoreM
namespace Go.Proofs.YtpafjioccjpmfaaGreat
open Go.ChangeShapes Go.WideShapes Go.ChangeAt Go.RowKit Go.Deep
set_option linter.unusedVariables false
set_option linter.unusedSimpArgs false
def gE (p:bF) (s:Nat):List cP:=(p.2.1.getD s (aP aA)).2.1
def gP (p:bF) (s:Nat):Int:=(p.2.1.getD s (aP aA)).1
def jW (l:List tM) (s:Int):List cP:=(l.filter fun a=>a.2.2&&decide (a.1=s)).map fun a=>a.2.1
def oV (k:Int) (l:List cP):List Int:=(l.filter fun i=>decide (i.1=k)).map fun i=>i.2
theorem hZ {α:Type} (l:List α) (i j:Nat) (x d:α):(l.set i x).getD j d=if i=j∧j<l.length then x else l.getD j d:=by
 rw[List.getD_eq_getElem?_getD,List.getD_eq_getElem?_getD,List.getElem?_set]
 by_cases h:i=j
 ·subst h
  rw[if_pos rfl]
  by_cases h2:i<l.length
  ·rw[if_pos h2,if_pos ⟨rfl,h2⟩];rfl
  ·rw[if_neg h2,if_neg (fun h=>h2 h.2),List.getElem?_eq_none (by omega)]
 ·rw[if_neg h,if_neg (fun h2=>h h2.1)]
theorem aF3 (l m:List tM) (s:Int):jW (l++m) s=jW l s++jW m s:=by unfold jW;rw[List.filter_append,List.map_append]
theorem bD6 (s:Int) (i:cP) (t:Int):jW [(s,i,false)] t=[]:=rfl
theorem aWH (s:Int) (i:cP) (t:Int):jW [(s,i,true)] t=if s=t then [i] else []:=by
 unfold jW
 by_cases h:s=t
 ·rw[if_pos h];simp[List.filter,h]
 ·rw[if_neg h];simp[List.filter,h]
theorem uJ (k:Int) (l m:List cP):oV k (l++m)=oV k l++oV k m:=by unfold oV;rw[List.filter_append,List.map_append]
theorem aJ3 (k:Int) (i:cP):oV k [i]=if i.1=k then [i.2] else []:=by
 unfold oV
 by_cases h:i.1=k
 ·rw[if_pos h];simp[List.filter,h]
 ·rw[if_neg h];simp[List.filter,h]
theorem aQR {k m:Int} {l:List cP}:m∈oV k l↔(k,m)∈l:=by
 unfold oV
 simp only[List.mem_map,List.mem_filter,decide_eq_true_eq]
 exact ⟨fun ⟨a,⟨h1,h2⟩,h3⟩=>by obtain ⟨x,y⟩:=a;dsimp only at h2 h3;subst h2;subst h3;exact h1,fun h=>⟨(k,m),⟨h,rfl⟩,rfl⟩⟩
theorem rcv {k k' m:Int} {p1 p0:List cP} {c c0:Nat} (he:oV k p1=oV k' p0) (hc:c<p1.length) (hi:p1[c]=(k,m)) (hl:(oV k (p1.take c)).length<(oV k' (p0.take c0)).length):(k',m)∈p0.take c0:=by
 have e1:p1=(p1.take c++[p1[c]])++p1.drop (c+1):=by
  rw[mC hc,List.take_append_drop]
 have e0:p0=p0.take c0++p0.drop c0:=(List.take_append_drop _ _).symm
 have h1:(oV k p1)[(oV k (p1.take c)).length]?=some m:=by
  conv=>lhs;lhs;rw[e1]
  rw[uJ,uJ,hi,aJ3,if_pos rfl,List.append_assoc,List.getElem?_append_right (Nat.le_refl _),Nat.sub_self];rfl
 rw[he,e0,uJ,List.getElem?_append_left hl] at h1
 exact aQR.1 (List.mem_of_getElem? h1)
def ahd (l:List cP) (a b:Int):Prop:=∀ k (h:k<l.length),l[k].1=b→(a,l[k].2)∈l.take k
theorem aW7 {l:List cP} {a b m:Int} (h:ahd l a b) {K:Nat} (hm:(b,m)∈l.take K):(a,m)∈l.take K:=by
 obtain ⟨j,hj,e⟩:=List.mem_iff_getElem.1 hm
 have hl:(l.take K).length=min K l.length:=List.length_take
 rw[List.getElem_take] at e
 have h1:=h j (by omega) (by rw[e])
 rw[e] at h1
 exact (List.take_subset_take_left l (show j≤K by omega)) h1
structure PlOk (P:bF):Prop where
 q1:∀ s,s+1<P.2.1.length→oV 1 (gE P (s+1))=oV 3 (gE P s)
 q4:∀ s,s+1<P.2.1.length→oV 4 (gE P s)=oV 7 (gE P (s+1))
 a1:∀ s,s<P.2.1.length→0<s→ahd (gE P s) 1 2
 a2:∀ s,s<P.2.1.length→ahd (gE P s) 2 3
 a4:∀ s,s+1<P.2.1.length→ahd (gE P s) 4 6
 a6:∀ s,s<P.2.1.length→ahd (gE P s) 6 7
def okA (n:Nat) (L:List tM) (a:tM):Prop:=a.2.2=true→(0≤a.1∧a.1<(n:Int))∧(a.2.1.1=1→0<a.1∧(3,a.2.1.2)∈jW L (a.1 - 1))∧(a.2.1.1=4→a.1+1<(n:Int)∧(7,a.2.1.2)∈jW L (a.1+1)) ∧
 (a.2.1.1=2→0<a.1→(2,a.2.1.2)∈jW L (a.1 - 1))∧(a.2.1.1=6→a.1+1<(n:Int)→(6,a.2.1.2)∈jW L (a.1+1))
structure TrI (P p:bF) (L:List tM):Prop where
 ln:p.2.1.length=P.2.1.length
 pl:∀ s,gE p s=gE P s
 pc:∀ s,s<P.2.1.length→0≤gP p s∧gP p s≤((gE P s).length:Int)∧jW L (s:Int)=(gE P s).take (gP p s).toNat
 qa:∀ s,s+1<P.2.1.length→(p.2.2.1.getD s (aP aM)).2.length+(oV 1 (jW L ((s+1:Nat):Int))).length≤(oV 3 (jW L (s:Int))).length
 qb:∀ s,s+1<P.2.1.length→(p.2.2.2.getD s (aP aM)).2.length+(oV 4 (jW L (s:Int))).length≤(oV 7 (jW L ((s+1:Nat):Int))).length
 m1:∀ s,s+1<P.2.1.length→∀ m,(1,m)∈jW L ((s+1:Nat):Int)→(3,m)∈jW L (s:Int)
 m4:∀ s,s+1<P.2.1.length→∀ m,(4,m)∈jW L (s:Int)→(7,m)∈jW L ((s+1:Nat):Int)
 ok:∀ i (h:i<L.length),okA P.2.1.length (L.take i) L[i]
theorem aH2 (p:bF) (s:Int):(cS p s).1=(fW p s).1:=by
 unfold cS
 split
 ·rfl
 split
 ·exact bC5 _ _ _ _
 split
 ·rfl
 split
 ·rfl
 split
 ·exact aTM _ _
 split
 ·split
  ·exact aSP _ _ _
  ·exact aSP _ _ _
 split <;> rfl
theorem bDE (p:bF) (s:Int):(cS p s).2.1=(fW p s).2.1:=by
 have f1:∀ (s:bG) m x t,(sQ s m x t).2.1=s.2.1:=fun s m x t=>by unfold sQ;split <;> rfl
 have f2:∀ (s:bG) m,(oK s m).2.1=s.2.1:=fun s m=>by unfold oK;split <;> rfl
 have f3:∀ (s:bG) m t,(oI s m t).2.1=s.2.1:=fun s m t=>by unfold oI;split <;> rfl
 unfold cS
 split
 ·rfl
 split
 ·exact f1 _ _ _ _
 split
 ·rfl
 split
 ·rfl
 split
 ·exact f2 _ _
 split
 ·split
  ·exact f3 _ _ _
  ·exact f3 _ _ _
 split <;> rfl
theorem bD1 {q:cY} (h1:jO q=true) (h2:0<q.2.length):(qU q).1.2.length+1=q.2.length:=by
 rw[← aBY h1 h2]
 show (q.2.drop 1).length+1=_
 rw[List.length_drop];omega
theorem aUX (q:cY) (x:eS):(oN q x).1.2.length≤q.2.length+1:=by
 unfold oN
 split
 ·show (q.2++[x]).length≤_
  rw[List.length_append];exact Nat.le_refl _
 ·exact Nat.le_succ _
theorem bEI {p:bF} {σ:Nat} (h:cC p (σ:Int)=true) (t:Nat):((eX p (σ:Int)).getD t (aP aM)).2.length+(if (aV p (σ:Int)).1=1∧σ=t+1 then 1 else 0)≤(p.2.2.1.getD t (aP aM)).2.length+(if (aV p (σ:Int)).1=3∧σ=t then 1 else 0):=by
 obtain ⟨h1,h2,h3⟩:=jG h
 have hk:=uG h
 have ho:=mJ.1 h1
 unfold eX
 by_cases k1:(aV p (σ:Int)).1=1
 ·rw[if_pos k1]
  have hs:=hk.1 k1
  have he:=h
  rw[aR3 h1 h2 h3 k1,Bool.and_eq_true,decide_eq_true_eq,decide_eq_true_eq] at he
  have hq:jO (p.2.2.1.getD ((σ:Int) - 1).toNat (aP aM))=true:=(ho.2.2.1 ((σ:Int) - 1).toNat (by have:=ho.1.2.2.1;omega)).1
  have hp:=bD1 hq he.2
  have hl:=ho.1.2.2.1
  rw[hZ,if_neg (show ¬ ((aV p (σ:Int)).1=3∧σ=t) by omega)]
  by_cases ht:σ=t+1
  ·have e:((σ:Int) - 1).toNat=t:=by omega
   rw[e] at hp ⊢
   rw[if_pos ⟨rfl,by omega⟩,if_pos ⟨k1,ht⟩];omega
  ·rw[if_neg (show ¬ (((σ:Int) - 1).toNat=t∧t<p.2.2.1.length) by omega),if_neg (fun hh=>ht hh.2)];omega
 ·rw[if_neg k1,if_neg (show ¬ ((aV p (σ:Int)).1=1∧σ=t+1) from fun hh=>k1 hh.1)]
  by_cases k3:(aV p (σ:Int)).1=3
  ·rw[if_pos k3,hZ,Int.toNat_natCast]
   by_cases ht:σ=t
   ·rw[if_pos (show (aV p (σ:Int)).1=3∧σ=t from ⟨k3,ht⟩),ht]
    have:=aUX (p.2.2.1.getD t (aP aM)) ((aV p (t:Int)).2,(fW p (t:Int)).2.2.2.2.2.2.2.2.1)
    split <;> omega
   ·rw[if_neg (show ¬ ((aV p (σ:Int)).1=3∧σ=t) from fun hh=>ht hh.2),if_neg (fun hh=>ht hh.1)];omega
  ·rw[if_neg k3,if_neg (fun hh=>k3 hh.1)];omega
theorem bED {p:bF} {σ:Nat} (h:cC p (σ:Int)=true) (t:Nat):((eZ p (σ:Int)).getD t (aP aM)).2.length+(if (aV p (σ:Int)).1=4∧σ=t then 1 else 0)≤(p.2.2.2.getD t (aP aM)).2.length+(if (aV p (σ:Int)).1=7∧σ=t+1 then 1 else 0):=by
 obtain ⟨h1,h2,h3⟩:=jG h
 have hk:=uG h
 have ho:=mJ.1 h1
 unfold eZ
 by_cases k4:(aV p (σ:Int)).1=4
 ·rw[if_pos k4]
  have hs:=hk.2.2.1 k4
  have he:=h
  rw[aRM h1 h2 h3 k4,Bool.and_eq_true,decide_eq_true_eq,decide_eq_true_eq] at he
  have hl:=ho.1.2.2.2.1
  have hq:jO (p.2.2.2.getD (σ:Int).toNat (aP aM))=true:=(ho.2.2.1 (σ:Int).toNat (by have:=ho.1.2.2.1;omega)).2
  have hp:=bD1 hq he.2
  rw[Int.toNat_natCast] at hp
  rw[hZ,if_neg (show ¬ ((aV p (σ:Int)).1=7∧σ=t+1) by omega),Int.toNat_natCast]
  by_cases ht:σ=t
  ·subst ht
   rw[if_pos ⟨rfl,by omega⟩,if_pos ⟨k4,rfl⟩];omega
  ·rw[if_neg (show ¬ (σ=t∧t<p.2.2.2.length) from fun hh=>ht hh.1),if_neg (fun hh=>ht hh.2)];omega
 ·rw[if_neg k4,if_neg (show ¬ ((aV p (σ:Int)).1=4∧σ=t) from fun hh=>k4 hh.1)]
  by_cases k7:(aV p (σ:Int)).1=7
  ·have hs:=hk.2.2.2.1 k7
   rw[if_pos k7,hZ]
   by_cases ht:σ=t+1
   ·have e:((σ:Int) - 1).toNat=t:=by omega
    rw[if_pos (show (aV p (σ:Int)).1=7∧σ=t+1 from ⟨k7,ht⟩),e]
    have:=aUX (p.2.2.2.getD t (aP aM)) ((aV p (σ:Int)).2,(fW p (σ:Int)).2.2.2.2.2.2.2.2.2.2.1)
    split <;> omega
   ·rw[if_neg (show ¬ ((aV p (σ:Int)).1=7∧σ=t+1) from fun hh=>ht hh.2),if_neg (by omega)];omega
  ·rw[if_neg k7,if_neg (fun hh=>k7 hh.1)];omega
theorem TrI.step {P p:bF} {L:List tM} (hP:PlOk P) (h:TrI P p L) (s:Int):TrI P (bR p s) (L++[(s,aV p s,cC p s)]):=by
 cases he:cC p s with
 | false =>
  have ep:bR p s=p:=by unfold bR;rw[if_neg (by rw[he];simp)]
  have ed:∀ t,jW (L++[(s,aV p s,false)]) t=jW L t:=fun t=>by rw[aF3,bD6,List.append_nil]
  rw[ep]
  refine ⟨h.ln,h.pl,fun t ht=>by rw[ed];exact h.pc t ht,fun t ht=>by rw[ed,ed];exact h.qa t ht,fun t ht=>by rw[ed,ed];exact h.qb t ht,fun t ht=>by rw[ed,ed];exact h.m1 t ht,fun t ht=>by rw[ed,ed];exact h.m4 t ht,fun i hi=>?_⟩
  rw[List.length_append,List.length_singleton] at hi
  rcases Nat.lt_or_eq_of_le (Nat.le_of_lt_succ hi) with h1|rfl
  ·rw[List.take_append_of_le_length (by omega),List.getElem_append_left h1];exact h.ok i h1
  ·rw[List.getElem_append_right (Nat.le_refl _)]
   intro hd
   simp at hd
 | true =>
  obtain ⟨f1,f2,f3⟩:=jG he
  have hk:=uG he
  obtain ⟨σ,rfl⟩:∃ σ:Nat,s=(σ:Int):=⟨s.toNat,by omega⟩
  have hσ:σ<P.2.1.length:=by rw[← h.ln];omega
  obtain ⟨c1,c2,c3⟩:=h.pc σ hσ
  have hn:∃ hc:(gP p σ).toNat<(gE P σ).length,aV p (σ:Int)=(gE P σ)[(gP p σ).toNat]:=by
   have h0:=hk.2.2.2.2
   unfold aV at h0 ⊢
   split at h0
   ·rename_i hh
    rw[if_pos hh]
    obtain ⟨_,_,g1,g2⟩:=hh
    rw[Int.toNat_natCast] at g1 g2 ⊢
    have g2':gP p σ<((gE p σ).length:Int):=g2
    rw[h.pl] at g2'
    have hc:(gP p σ).toNat<(gE P σ).length:=by omega
    refine ⟨hc,?_⟩
    show (gE p σ).getD (gP p σ).toNat (aP aD)=_
    rw[h.pl,aW hc]
   ·exact absurd rfl h0
  obtain ⟨hc,hi⟩:=hn
  have ep:bR p (σ:Int)=(p.1,p.2.1.set σ (jJ (cS p σ) ((cS p σ).1+1)),eX p σ,eZ p σ):=by
   unfold bR;rw[if_pos he,Int.toNat_natCast]
  have hσp:σ<p.2.1.length:=by rw[h.ln];exact hσ
  have epl:∀ t,gE (bR p (σ:Int)) t=gE P t:=fun t=>by
   rw[← h.pl t,ep]
   unfold gE
   dsimp only
   rw[hZ]
   split
   ·rename_i hh
    obtain ⟨rfl,_⟩:=hh
    show (cS p (σ:Int)).2.1=_
    rw[bDE];unfold fW;rw[Int.toNat_natCast]
   ·rfl
  have epc:∀ t,gP (bR p (σ:Int)) t=if σ=t then gP p σ+1 else gP p t:=fun t=>by
   rw[ep]
   unfold gP
   dsimp only
   rw[hZ]
   by_cases ht:σ=t
   ·subst ht
    rw[if_pos ⟨rfl,hσp⟩,if_pos rfl]
    show (cS p (σ:Int)).1+1=_
    rw[aH2];unfold fW;rw[Int.toNat_natCast]
   ·rw[if_neg (fun hh=>ht hh.1),if_neg ht]
  have ed:∀ t:Nat,jW (L++[((σ:Int),aV p (σ:Int),true)]) (t:Int)=jW L (t:Int)++if σ=t then [aV p (σ:Int)] else []:=fun t=>by
   rw[aF3,aWH]
   by_cases ht:σ=t
   ·rw[if_pos (by omega),if_pos ht]
   ·rw[if_neg (by omega),if_neg ht]
  have sub:∀ (t:Nat) i,i∈jW L (t:Int)→i∈jW (L++[((σ:Int),aV p (σ:Int),true)]) (t:Int):=fun t i hm=>by rw[ed];exact List.mem_append_left _ hm
  have mo:∀ (k:Int) (t:Nat),(oV k (jW (L++[((σ:Int),aV p (σ:Int),true)]) (t:Int))).length=(oV k (jW L (t:Int))).length+if (aV p (σ:Int)).1=k∧σ=t then 1 else 0:=fun k t=>by
   rw[ed,uJ,List.length_append]
   by_cases ht:σ=t
   ·rw[if_pos ht,aJ3]
    by_cases hq:(aV p (σ:Int)).1=k
    ·rw[if_pos hq,if_pos ⟨hq,ht⟩];rfl
    ·rw[if_neg hq,if_neg (fun hh=>hq hh.1)];rfl
   ·rw[if_neg ht,if_neg (fun hh=>ht hh.2)];rfl
  have hpc1:(gP p σ+1).toNat=(gP p σ).toNat+1:=by omega
  have hpc2:0≤gP p σ+1∧gP p σ+1≤((gE P σ).length:Int):=by omega
  have r1:(aV p (σ:Int)).1=1→∃ t,σ=t+1∧(3,(aV p (σ:Int)).2)∈jW L (t:Int):=fun k1=>by
   have hs:=hk.1 k1
   obtain ⟨t,rfl⟩:∃ t,σ=t+1:=⟨σ - 1,by omega⟩
   have he':=he
   rw[aR3 f1 f2 f3 k1,Bool.and_eq_true,decide_eq_true_eq,decide_eq_true_eq,show (((t+1:Nat):Int) - 1).toNat=t by omega] at he'
   have hq:=h.qa t hσ
   obtain ⟨d1,d2,d3⟩:=h.pc t (by omega)
   refine ⟨t,rfl,?_⟩
   rw[c3,d3] at hq
   rw[d3]
   refine rcv (hP.q1 t hσ) hc (k:=1) ?_ (by omega)
   rw[← hi]
   exact Prod.ext k1 rfl
  have r4:(aV p (σ:Int)).1=4→σ+1<P.2.1.length∧(7,(aV p (σ:Int)).2)∈jW L ((σ+1:Nat):Int):=fun k4=>by
   have hs:=hk.2.2.1 k4
   have hs2:σ+1<P.2.1.length:=by rw[← h.ln];omega
   have he':=he
   rw[aRM f1 f2 f3 k4,Bool.and_eq_true,decide_eq_true_eq,decide_eq_true_eq,Int.toNat_natCast] at he'
   have hq:=h.qb σ hs2
   obtain ⟨d1,d2,d3⟩:=h.pc (σ+1) hs2
   refine ⟨hs2,?_⟩
   rw[c3,d3] at hq
   rw[d3]
   refine rcv (hP.q4 σ hs2) hc (k:=4) ?_ (by omega)
   rw[← hi]
   exact Prod.ext k4 rfl
  refine ⟨?_,epl,fun t ht=>?_,fun t ht=>?_,fun t ht=>?_,fun t ht m hm=>?_,fun t ht m hm=>?_,fun i hlt=>?_⟩
  ·rw[ep];show (p.2.1.set _ _).length=_;rw[List.length_set];exact h.ln
  ·rw[epc,ed]
   by_cases hst:σ=t
   ·subst hst
    rw[if_pos rfl,if_pos rfl,c3,hi,mC hc,hpc1]
    exact ⟨hpc2.1,hpc2.2,rfl⟩
   ·rw[if_neg hst,if_neg hst,List.append_nil];exact h.pc t ht
  ·have h1:=h.qa t ht
   have h2:=bEI he t
   rw[mo,mo,ep]
   show ((eX p (σ:Int)).getD t (aP aM)).2.length+_≤_
   clear r1 r4 mo sub ed epl ep epc
   omega
  ·have h1:=h.qb t ht
   have h2:=bED he t
   rw[mo,mo,ep]
   show ((eZ p (σ:Int)).getD t (aP aM)).2.length+_≤_
   clear r1 r4 mo sub ed epl ep epc
   omega
  ·rw[ed] at hm
   rcases List.mem_append.1 hm with hm|hm
   ·exact sub _ _ (h.m1 t ht m hm)
   ·by_cases hst:σ=t+1
    ·rw[if_pos hst,List.mem_singleton] at hm
     obtain ⟨t',e,hr⟩:=r1 (by rw[← hm])
     have:t'=t:=Nat.succ.inj (e.symm.trans hst)
     rw[this,← hm] at hr
     exact sub _ _ hr
    ·rw[if_neg hst] at hm;cases hm
  ·rw[ed] at hm
   rcases List.mem_append.1 hm with hm|hm
   ·exact sub _ _ (h.m4 t ht m hm)
   ·by_cases hst:σ=t
    ·subst hst
     rw[if_pos rfl,List.mem_singleton] at hm
     obtain ⟨_,hr⟩:=r4 (by rw[← hm])
     rw[← hm] at hr
     exact sub _ _ hr
    ·rw[if_neg hst] at hm;cases hm
  ·rw[List.length_append,List.length_singleton] at hlt
   rcases Nat.lt_or_eq_of_le (Nat.le_of_lt_succ hlt) with h1|rfl
   ·rw[List.take_append_of_le_length (by omega),List.getElem_append_left h1];exact h.ok i h1
   ·rw[List.getElem_append_right (Nat.le_refl _),List.take_append_of_le_length (Nat.le_refl _),List.take_length]
    simp only[Nat.sub_self,List.getElem_cons_zero]
    intro _
    dsimp only
    refine ⟨⟨by omega,by omega⟩,fun k1=>?_,fun k4=>?_,fun k2 h0=>?_,fun k6 h0=>?_⟩
    ·obtain ⟨t,rfl,hr⟩:=r1 k1
     exact ⟨by omega,by rw[show ((t+1:Nat):Int) - 1=(t:Int) by omega];exact hr⟩
    ·obtain ⟨h2,hr⟩:=r4 k4
     exact ⟨by omega,by rw[show (σ:Int)+1=((σ+1:Nat):Int) by omega];exact hr⟩
    ·obtain ⟨t,rfl⟩:∃ t,σ=t+1:=⟨σ - 1,by omega⟩
     have h1:=hP.a1 (t+1) hσ (by omega) _ hc (by rw[← hi];exact k2)
     rw[← hi,← c3] at h1
     have h2:=h.m1 t hσ _ h1
     obtain ⟨d1,d2,d3⟩:=h.pc t (by omega)
     rw[show ((t+1:Nat):Int) - 1=(t:Int) by omega]
     rw[d3] at h2 ⊢
     exact aW7 (hP.a2 t (by omega)) h2
    ·have hs2:σ+1<P.2.1.length:=by omega
     have h1:=hP.a4 σ hs2 _ hc (by rw[← hi];exact k6)
     rw[← hi,← c3] at h1
     have h2:=h.m4 σ hs2 _ h1
     obtain ⟨d1,d2,d3⟩:=h.pc (σ+1) hs2
     rw[show (σ:Int)+1=((σ+1:Nat):Int) by omega]
     rw[d3] at h2 ⊢
     exact aW7 (hP.a6 (σ+1) hs2) h2
theorem TrI.run {P:bF} (hP:PlOk P):(l:List Int)→{p:bF}→{L:List tM}→TrI P p L→TrI P (hK p l) (L++aKX p l)
 | [],p,L,h=>by rw[show aKX p []=[] from rfl,List.append_nil];exact h
 | s :: l,p,L,h=>by
  have h1:=TrI.run hP l (h.step hP s)
  rw[List.append_assoc] at h1
  exact h1
theorem TrI.start {P:bF} (h1:∀ s,s<P.2.1.length→gP P s=0) (h2:∀ s,(P.2.2.1.getD s (aP aM)).2.length=0) (h3:∀ s,(P.2.2.2.getD s (aP aM)).2.length=0):TrI P P []:=by
 have e:∀ t,jW [] t=[]:=fun t=>rfl
 refine ⟨rfl,fun _=>rfl,fun s hs=>?_,fun s hs=>?_,fun s hs=>?_,fun s hs m hm=>?_,fun s hs m hm=>?_,fun i hi=>absurd hi (Nat.not_lt_zero _)⟩
 ·rw[h1 s hs];exact ⟨Int.le_refl _,by omega,rfl⟩
 ·rw[h2 s,e,e];exact Nat.le_refl _
 ·rw[h3 s,e,e];exact Nat.le_refl _
 ·rw[e] at hm;cases hm
 ·rw[e] at hm;cases hm
def oG (f:Nat→Nat):Nat→Nat
 | 0=>0
 | k+1=>oG f k+f k
theorem aM8 {α:Type} (g:α→Nat) (l:List α) (d:α):(k:Nat)→k≤l.length→((l.take k).map g).sum=oG (fun i=>g (l.getD i d)) k
 | 0,_=>rfl
 | k+1,h=>by rw[mO g l k (by omega),aM8 g l d k (by omega),oG,aW (show k<l.length by omega)]
end Go.Proofs.YtpafjioccjpmfaaGreat
