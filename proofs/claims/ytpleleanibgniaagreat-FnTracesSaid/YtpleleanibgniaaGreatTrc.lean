/- Trc: lemmas. No conditions. -/
import Derived.Test.YtpleleanibgniaaGreatCoreT
import Derived.Test.YtpleleanibgniaaGreatCoreS
import Derived.Test.YtpleleanibgniaaGreatCoreM
namespace Go.Proofs.YtpleleanibgniaaGreat
open Go.ChangeShapes Go.WideShapes Go.ChangeAt Go.RowKit Go.Deep
set_option linter.unusedVariables false
set_option linter.unusedSimpArgs false
def vN (p:bI) (s:Nat):List cQ:=(p.2.1.getD s (aS aA)).2.1
def pcS (p:bI) (s:Nat):Int:=(p.2.1.getD s (aS aA)).1
def dO (l:List kS) (s:Int):List cQ:=(l.filter fun a=>a.2.2&&decide (a.1=s)).map fun a=>a.2.1
def zZ (k:Int) (l:List cQ):List Int:=(l.filter fun i=>decide (i.1=k)).map fun i=>i.2
theorem oL {α:Type} (l:List α) (i j:Nat) (x d:α):(l.set i x).getD j d=if i=j∧j<l.length then x else l.getD j d:=by
 rw[List.getD_eq_getElem?_getD,List.getD_eq_getElem?_getD,List.getElem?_set]
 by_cases h:i=j
 ·subst h
  rw[if_pos rfl]
  by_cases h2:i<l.length
  ·rw[if_pos h2,if_pos ⟨rfl,h2⟩];rfl
  ·rw[if_neg h2,if_neg (fun h=>h2 h.2),List.getElem?_eq_none (by omega)]
 ·rw[if_neg h,if_neg (fun h2=>h h2.1)]
theorem aGJ (l m:List kS) (s:Int):dO (l++m) s=dO l s++dO m s:=by unfold dO;rw[List.filter_append,List.map_append]
theorem bED (s:Int) (i:cQ) (t:Int):dO [(s,i,false)] t=[]:=rfl
theorem bCW (s:Int) (i:cQ) (t:Int):dO [(s,i,true)] t=if s=t then [i] else []:=by
 unfold dO
 by_cases h:s=t
 ·rw[if_pos h];simp[List.filter,h]
 ·rw[if_neg h];simp[List.filter,h]
theorem aGE {l:List kS} {s:Int} {i:cQ}:i∈dO l s↔∃ a∈l,a.2.2=true∧a.1=s∧a.2.1=i:=by
 unfold dO
 simp only[List.mem_map,List.mem_filter,Bool.and_eq_true,decide_eq_true_eq]
 exact ⟨fun ⟨a,⟨h1,h2,h3⟩,h4⟩=>⟨a,h1,h2,h3,h4⟩,fun ⟨a,h1,h2,h3,h4⟩=>⟨a,⟨h1,h2,h3⟩,h4⟩⟩
theorem aFT (k:Int) (l m:List cQ):zZ k (l++m)=zZ k l++zZ k m:=by unfold zZ;rw[List.filter_append,List.map_append]
theorem aVI (k:Int) (i:cQ):zZ k [i]=if i.1=k then [i.2] else []:=by
 unfold zZ
 by_cases h:i.1=k
 ·rw[if_pos h];simp[List.filter,h]
 ·rw[if_neg h];simp[List.filter,h]
theorem bDL {k m:Int} {l:List cQ}:m∈zZ k l↔(k,m)∈l:=by
 unfold zZ
 simp only[List.mem_map,List.mem_filter,decide_eq_true_eq]
 exact ⟨fun ⟨a,⟨h1,h2⟩,h3⟩=>by obtain ⟨x,y⟩:=a;dsimp only at h2 h3;subst h2;subst h3;exact h1,fun h=>⟨(k,m),⟨h,rfl⟩,rfl⟩⟩
theorem rcv {k k' m:Int} {p1 p0:List cQ} {c c0:Nat} (he:zZ k p1=zZ k' p0) (hc:c<p1.length) (hi:p1[c]=(k,m)) (hl:(zZ k (p1.take c)).length<(zZ k' (p0.take c0)).length):(k',m)∈p0.take c0:=by
 have e1:p1=(p1.take c++[p1[c]])++p1.drop (c+1):=by
  rw[iQ hc,List.take_append_drop]
 have e0:p0=p0.take c0++p0.drop c0:=(List.take_append_drop _ _).symm
 have h1:(zZ k p1)[(zZ k (p1.take c)).length]?=some m:=by
  conv=>lhs;lhs;rw[e1]
  rw[aFT,aFT,hi,aVI,if_pos rfl,List.append_assoc,List.getElem?_append_right (Nat.le_refl _),Nat.sub_self];rfl
 rw[he,e0,aFT,List.getElem?_append_left hl] at h1
 exact bDL.1 (List.mem_of_getElem? h1)
def ahd (l:List cQ) (a b:Int):Prop:=∀ k (h:k<l.length),l[k].1=b→(a,l[k].2)∈l.take k
theorem aOO {l:List cQ} {a b m:Int} (h:ahd l a b) {K:Nat} (hm:(b,m)∈l.take K):(a,m)∈l.take K:=by
 obtain ⟨j,hj,e⟩:=List.mem_iff_getElem.1 hm
 have hl:(l.take K).length=min K l.length:=List.length_take
 rw[List.getElem_take] at e
 have h1:=h j (by omega) (by rw[e])
 rw[e] at h1
 exact (List.take_subset_take_left l (show j≤K by omega)) h1
structure PlOk (P:bI):Prop where
 q1:∀ s,s+1<P.2.1.length→zZ 1 (vN P (s+1))=zZ 3 (vN P s)
 q4:∀ s,s+1<P.2.1.length→zZ 4 (vN P s)=zZ 7 (vN P (s+1))
 a1:∀ s,s<P.2.1.length→0<s→ahd (vN P s) 1 2
 a2:∀ s,s<P.2.1.length→ahd (vN P s) 2 3
 a4:∀ s,s+1<P.2.1.length→ahd (vN P s) 4 6
 a6:∀ s,s<P.2.1.length→ahd (vN P s) 6 7
def okA (n:Nat) (L:List kS) (a:kS):Prop:=a.2.2=true→(0≤a.1∧a.1<(n:Int))∧(a.2.1.1=1→0<a.1∧(3,a.2.1.2)∈dO L (a.1 - 1))∧(a.2.1.1=4→a.1+1<(n:Int)∧(7,a.2.1.2)∈dO L (a.1+1)) ∧
 (a.2.1.1=2→0<a.1→(2,a.2.1.2)∈dO L (a.1 - 1))∧(a.2.1.1=6→a.1+1<(n:Int)→(6,a.2.1.2)∈dO L (a.1+1))
structure TrI (P p:bI) (L:List kS):Prop where
 ln:p.2.1.length=P.2.1.length
 pl:∀ s,vN p s=vN P s
 pc:∀ s,s<P.2.1.length→0≤pcS p s∧pcS p s≤((vN P s).length:Int)∧dO L (s:Int)=(vN P s).take (pcS p s).toNat
 qa:∀ s,s+1<P.2.1.length→(p.2.2.1.getD s (aS aN)).2.length+(zZ 1 (dO L ((s+1:Nat):Int))).length≤(zZ 3 (dO L (s:Int))).length
 qb:∀ s,s+1<P.2.1.length→(p.2.2.2.getD s (aS aN)).2.length+(zZ 4 (dO L (s:Int))).length≤(zZ 7 (dO L ((s+1:Nat):Int))).length
 m1:∀ s,s+1<P.2.1.length→∀ m,(1,m)∈dO L ((s+1:Nat):Int)→(3,m)∈dO L (s:Int)
 m4:∀ s,s+1<P.2.1.length→∀ m,(4,m)∈dO L (s:Int)→(7,m)∈dO L ((s+1:Nat):Int)
 ok:∀ i (h:i<L.length),okA P.2.1.length (L.take i) L[i]
theorem aZL (p:bI) (s:Int):(eR p s).1=(fA p s).1:=by
 unfold eR
 split
 ·rfl
 split
 ·exact aVC _ _ _ _
 split
 ·rfl
 split
 ·rfl
 split
 ·exact aOT _ _
 split
 ·split
  ·exact aM9 _ _ _
  ·exact aM9 _ _ _
 split <;> rfl
theorem aYV (p:bI) (s:Int):(eR p s).2.1=(fA p s).2.1:=by
 have f1:∀ (s:bC) m x t,(yH s m x t).2.1=s.2.1:=fun s m x t=>by unfold yH;split <;> rfl
 have f2:∀ (s:bC) m,(oW s m).2.1=s.2.1:=fun s m=>by unfold oW;split <;> rfl
 have f3:∀ (s:bC) m t,(uT s m t).2.1=s.2.1:=fun s m t=>by unfold uT;split <;> rfl
 unfold eR
 split
 ·rfl
 split
 ·exact f1 _ _ _ _
 split
 ·rfl
 split
 ·rfl
 split
 ·exact f2 _ _
 split
 ·split
  ·exact f3 _ _ _
  ·exact f3 _ _ _
 split <;> rfl
theorem aVV {q:cS} (h1:iC q=true) (h2:0<q.2.length):(uG q).1.2.length+1=q.2.length:=by
 rw[← aBW h1 h2]
 show (q.2.drop 1).length+1=_
 rw[List.length_drop];omega
theorem aOI (q:cS) (x:dW):(qS q x).1.2.length≤q.2.length+1:=by
 unfold qS
 split
 ·show (q.2++[x]).length≤_
  rw[List.length_append];exact Nat.le_refl _
 ·exact Nat.le_succ _
theorem aXW {p:bI} {σ:Nat} (h:cZ p (σ:Int)=true) (t:Nat):((nC p (σ:Int)).getD t (aS aN)).2.length+(if (aZ p (σ:Int)).1=1∧σ=t+1 then 1 else 0)≤(p.2.2.1.getD t (aS aN)).2.length+(if (aZ p (σ:Int)).1=3∧σ=t then 1 else 0):=by
 obtain ⟨h1,h2,h3⟩:=yT h
 have hk:=aBX h
 have ho:=nT.1 h1
 unfold nC
 by_cases k1:(aZ p (σ:Int)).1=1
 ·rw[if_pos k1]
  have hs:=hk.1 k1
  have he:=h
  rw[bA1 h1 h2 h3 k1,Bool.and_eq_true,decide_eq_true_eq,decide_eq_true_eq] at he
  have hq:iC (p.2.2.1.getD ((σ:Int) - 1).toNat (aS aN))=true:=(ho.2.2.1 ((σ:Int) - 1).toNat (by have:=ho.1.2.2.1;omega)).1
  have hp:=aVV hq he.2
  have hl:=ho.1.2.2.1
  rw[oL,if_neg (show ¬ ((aZ p (σ:Int)).1=3∧σ=t) by omega)]
  by_cases ht:σ=t+1
  ·have e:((σ:Int) - 1).toNat=t:=by omega
   rw[e] at hp ⊢
   rw[if_pos ⟨rfl,by omega⟩,if_pos ⟨k1,ht⟩];omega
  ·rw[if_neg (show ¬ (((σ:Int) - 1).toNat=t∧t<p.2.2.1.length) by omega),if_neg (fun hh=>ht hh.2)];omega
 ·rw[if_neg k1,if_neg (show ¬ ((aZ p (σ:Int)).1=1∧σ=t+1) from fun hh=>k1 hh.1)]
  by_cases k3:(aZ p (σ:Int)).1=3
  ·rw[if_pos k3,oL,Int.toNat_natCast]
   by_cases ht:σ=t
   ·rw[if_pos (show (aZ p (σ:Int)).1=3∧σ=t from ⟨k3,ht⟩),ht]
    have:=aOI (p.2.2.1.getD t (aS aN)) ((aZ p (t:Int)).2,(fA p (t:Int)).2.2.2.2.2.2.2.2.1)
    split <;> omega
   ·rw[if_neg (show ¬ ((aZ p (σ:Int)).1=3∧σ=t) from fun hh=>ht hh.2),if_neg (fun hh=>ht hh.1)];omega
  ·rw[if_neg k3,if_neg (fun hh=>k3 hh.1)];omega
theorem aYM {p:bI} {σ:Nat} (h:cZ p (σ:Int)=true) (t:Nat):((nM p (σ:Int)).getD t (aS aN)).2.length+(if (aZ p (σ:Int)).1=4∧σ=t then 1 else 0)≤(p.2.2.2.getD t (aS aN)).2.length+(if (aZ p (σ:Int)).1=7∧σ=t+1 then 1 else 0):=by
 obtain ⟨h1,h2,h3⟩:=yT h
 have hk:=aBX h
 have ho:=nT.1 h1
 unfold nM
 by_cases k4:(aZ p (σ:Int)).1=4
 ·rw[if_pos k4]
  have hs:=hk.2.2.1 k4
  have he:=h
  rw[bAD h1 h2 h3 k4,Bool.and_eq_true,decide_eq_true_eq,decide_eq_true_eq] at he
  have hl:=ho.1.2.2.2.1
  have hq:iC (p.2.2.2.getD (σ:Int).toNat (aS aN))=true:=(ho.2.2.1 (σ:Int).toNat (by have:=ho.1.2.2.1;omega)).2
  have hp:=aVV hq he.2
  rw[Int.toNat_natCast] at hp
  rw[oL,if_neg (show ¬ ((aZ p (σ:Int)).1=7∧σ=t+1) by omega),Int.toNat_natCast]
  by_cases ht:σ=t
  ·subst ht
   rw[if_pos ⟨rfl,by omega⟩,if_pos ⟨k4,rfl⟩];omega
  ·rw[if_neg (show ¬ (σ=t∧t<p.2.2.2.length) from fun hh=>ht hh.1),if_neg (fun hh=>ht hh.2)];omega
 ·rw[if_neg k4,if_neg (show ¬ ((aZ p (σ:Int)).1=4∧σ=t) from fun hh=>k4 hh.1)]
  by_cases k7:(aZ p (σ:Int)).1=7
  ·have hs:=hk.2.2.2.1 k7
   rw[if_pos k7,oL]
   by_cases ht:σ=t+1
   ·have e:((σ:Int) - 1).toNat=t:=by omega
    rw[if_pos (show (aZ p (σ:Int)).1=7∧σ=t+1 from ⟨k7,ht⟩),e]
    have:=aOI (p.2.2.2.getD t (aS aN)) ((aZ p (σ:Int)).2,(fA p (σ:Int)).2.2.2.2.2.2.2.2.2.2.1)
    split <;> omega
   ·rw[if_neg (show ¬ ((aZ p (σ:Int)).1=7∧σ=t+1) from fun hh=>ht hh.2),if_neg (by omega)];omega
  ·rw[if_neg k7,if_neg (fun hh=>k7 hh.1)];omega
theorem TrI.step {P p:bI} {L:List kS} (hP:PlOk P) (h:TrI P p L) (s:Int):TrI P (dP p s) (L++[(s,aZ p s,cZ p s)]):=by
 cases he:cZ p s with
 | false =>
  have ep:dP p s=p:=by unfold dP;rw[if_neg (by rw[he];simp)]
  have ed:∀ t,dO (L++[(s,aZ p s,false)]) t=dO L t:=fun t=>by rw[aGJ,bED,List.append_nil]
  rw[ep]
  refine ⟨h.ln,h.pl,fun t ht=>by rw[ed];exact h.pc t ht,fun t ht=>by rw[ed,ed];exact h.qa t ht,fun t ht=>by rw[ed,ed];exact h.qb t ht,fun t ht=>by rw[ed,ed];exact h.m1 t ht,fun t ht=>by rw[ed,ed];exact h.m4 t ht,fun i hi=>?_⟩
  rw[List.length_append,List.length_singleton] at hi
  rcases Nat.lt_or_eq_of_le (Nat.le_of_lt_succ hi) with h1|rfl
  ·rw[List.take_append_of_le_length (by omega),List.getElem_append_left h1];exact h.ok i h1
  ·rw[List.getElem_append_right (Nat.le_refl _)]
   intro hd
   simp at hd
 | true =>
  obtain ⟨f1,f2,f3⟩:=yT he
  have hk:=aBX he
  obtain ⟨σ,rfl⟩:∃ σ:Nat,s=(σ:Int):=⟨s.toNat,by omega⟩
  have hσ:σ<P.2.1.length:=by rw[← h.ln];omega
  obtain ⟨c1,c2,c3⟩:=h.pc σ hσ
  have hn:∃ hc:(pcS p σ).toNat<(vN P σ).length,aZ p (σ:Int)=(vN P σ)[(pcS p σ).toNat]:=by
   have h0:=hk.2.2.2.2
   unfold aZ at h0 ⊢
   split at h0
   ·rename_i hh
    rw[if_pos hh]
    obtain ⟨_,_,g1,g2⟩:=hh
    rw[Int.toNat_natCast] at g1 g2 ⊢
    have g2':pcS p σ<((vN p σ).length:Int):=g2
    rw[h.pl] at g2'
    have hc:(pcS p σ).toNat<(vN P σ).length:=by omega
    refine ⟨hc,?_⟩
    show (vN p σ).getD (pcS p σ).toNat (aS aC)=_
    rw[h.pl,bD hc]
   ·exact absurd rfl h0
  obtain ⟨hc,hi⟩:=hn
  have ep:dP p (σ:Int)=(p.1,p.2.1.set σ (rE (eR p σ) ((eR p σ).1+1)),nC p σ,nM p σ):=by
   unfold dP;rw[if_pos he,Int.toNat_natCast]
  have hσp:σ<p.2.1.length:=by rw[h.ln];exact hσ
  have epl:∀ t,vN (dP p (σ:Int)) t=vN P t:=fun t=>by
   rw[← h.pl t,ep]
   unfold vN
   dsimp only
   rw[oL]
   split
   ·rename_i hh
    obtain ⟨rfl,_⟩:=hh
    show (eR p (σ:Int)).2.1=_
    rw[aYV];unfold fA;rw[Int.toNat_natCast]
   ·rfl
  have epc:∀ t,pcS (dP p (σ:Int)) t=if σ=t then pcS p σ+1 else pcS p t:=fun t=>by
   rw[ep]
   unfold pcS
   dsimp only
   rw[oL]
   by_cases ht:σ=t
   ·subst ht
    rw[if_pos ⟨rfl,hσp⟩,if_pos rfl]
    show (eR p (σ:Int)).1+1=_
    rw[aZL];unfold fA;rw[Int.toNat_natCast]
   ·rw[if_neg (fun hh=>ht hh.1),if_neg ht]
  have ed:∀ t:Nat,dO (L++[((σ:Int),aZ p (σ:Int),true)]) (t:Int)=dO L (t:Int)++if σ=t then [aZ p (σ:Int)] else []:=fun t=>by
   rw[aGJ,bCW]
   by_cases ht:σ=t
   ·rw[if_pos (by omega),if_pos ht]
   ·rw[if_neg (by omega),if_neg ht]
  have sub:∀ (t:Nat) i,i∈dO L (t:Int)→i∈dO (L++[((σ:Int),aZ p (σ:Int),true)]) (t:Int):=fun t i hm=>by rw[ed];exact List.mem_append_left _ hm
  have mo:∀ (k:Int) (t:Nat),(zZ k (dO (L++[((σ:Int),aZ p (σ:Int),true)]) (t:Int))).length=(zZ k (dO L (t:Int))).length+if (aZ p (σ:Int)).1=k∧σ=t then 1 else 0:=fun k t=>by
   rw[ed,aFT,List.length_append]
   by_cases ht:σ=t
   ·rw[if_pos ht,aVI]
    by_cases hq:(aZ p (σ:Int)).1=k
    ·rw[if_pos hq,if_pos ⟨hq,ht⟩];rfl
    ·rw[if_neg hq,if_neg (fun hh=>hq hh.1)];rfl
   ·rw[if_neg ht,if_neg (fun hh=>ht hh.2)];rfl
  have hpc1:(pcS p σ+1).toNat=(pcS p σ).toNat+1:=by omega
  have hpc2:0≤pcS p σ+1∧pcS p σ+1≤((vN P σ).length:Int):=by omega
  have r1:(aZ p (σ:Int)).1=1→∃ t,σ=t+1∧(3,(aZ p (σ:Int)).2)∈dO L (t:Int):=fun k1=>by
   have hs:=hk.1 k1
   obtain ⟨t,rfl⟩:∃ t,σ=t+1:=⟨σ - 1,by omega⟩
   have he':=he
   rw[bA1 f1 f2 f3 k1,Bool.and_eq_true,decide_eq_true_eq,decide_eq_true_eq,show (((t+1:Nat):Int) - 1).toNat=t by omega] at he'
   have hq:=h.qa t hσ
   obtain ⟨d1,d2,d3⟩:=h.pc t (by omega)
   refine ⟨t,rfl,?_⟩
   rw[c3,d3] at hq
   rw[d3]
   refine rcv (hP.q1 t hσ) hc (k:=1) ?_ (by omega)
   rw[← hi]
   exact Prod.ext k1 rfl
  have r4:(aZ p (σ:Int)).1=4→σ+1<P.2.1.length∧(7,(aZ p (σ:Int)).2)∈dO L ((σ+1:Nat):Int):=fun k4=>by
   have hs:=hk.2.2.1 k4
   have hs2:σ+1<P.2.1.length:=by rw[← h.ln];omega
   have he':=he
   rw[bAD f1 f2 f3 k4,Bool.and_eq_true,decide_eq_true_eq,decide_eq_true_eq,Int.toNat_natCast] at he'
   have hq:=h.qb σ hs2
   obtain ⟨d1,d2,d3⟩:=h.pc (σ+1) hs2
   refine ⟨hs2,?_⟩
   rw[c3,d3] at hq
   rw[d3]
   refine rcv (hP.q4 σ hs2) hc (k:=4) ?_ (by omega)
   rw[← hi]
   exact Prod.ext k4 rfl
  refine ⟨?_,epl,fun t ht=>?_,fun t ht=>?_,fun t ht=>?_,fun t ht m hm=>?_,fun t ht m hm=>?_,fun i hlt=>?_⟩
  ·rw[ep];show (p.2.1.set _ _).length=_;rw[List.length_set];exact h.ln
  ·rw[epc,ed]
   by_cases hst:σ=t
   ·subst hst
    rw[if_pos rfl,if_pos rfl,c3,hi,iQ hc,hpc1]
    exact ⟨hpc2.1,hpc2.2,rfl⟩
   ·rw[if_neg hst,if_neg hst,List.append_nil];exact h.pc t ht
  ·have h1:=h.qa t ht
   have h2:=aXW he t
   rw[mo,mo,ep]
   show ((nC p (σ:Int)).getD t (aS aN)).2.length+_≤_
   clear r1 r4 mo sub ed epl ep epc
   omega
  ·have h1:=h.qb t ht
   have h2:=aYM he t
   rw[mo,mo,ep]
   show ((nM p (σ:Int)).getD t (aS aN)).2.length+_≤_
   clear r1 r4 mo sub ed epl ep epc
   omega
  ·rw[ed] at hm
   rcases List.mem_append.1 hm with hm|hm
   ·exact sub _ _ (h.m1 t ht m hm)
   ·by_cases hst:σ=t+1
    ·rw[if_pos hst,List.mem_singleton] at hm
     obtain ⟨t',e,hr⟩:=r1 (by rw[← hm])
     have:t'=t:=Nat.succ.inj (e.symm.trans hst)
     rw[this,← hm] at hr
     exact sub _ _ hr
    ·rw[if_neg hst] at hm;cases hm
  ·rw[ed] at hm
   rcases List.mem_append.1 hm with hm|hm
   ·exact sub _ _ (h.m4 t ht m hm)
   ·by_cases hst:σ=t
    ·subst hst
     rw[if_pos rfl,List.mem_singleton] at hm
     obtain ⟨_,hr⟩:=r4 (by rw[← hm])
     rw[← hm] at hr
     exact sub _ _ hr
    ·rw[if_neg hst] at hm;cases hm
  ·rw[List.length_append,List.length_singleton] at hlt
   rcases Nat.lt_or_eq_of_le (Nat.le_of_lt_succ hlt) with h1|rfl
   ·rw[List.take_append_of_le_length (by omega),List.getElem_append_left h1];exact h.ok i h1
   ·rw[List.getElem_append_right (Nat.le_refl _),List.take_append_of_le_length (Nat.le_refl _),List.take_length]
    simp only[Nat.sub_self,List.getElem_cons_zero]
    intro _
    dsimp only
    refine ⟨⟨by omega,by omega⟩,fun k1=>?_,fun k4=>?_,fun k2 h0=>?_,fun k6 h0=>?_⟩
    ·obtain ⟨t,rfl,hr⟩:=r1 k1
     exact ⟨by omega,by rw[show ((t+1:Nat):Int) - 1=(t:Int) by omega];exact hr⟩
    ·obtain ⟨h2,hr⟩:=r4 k4
     exact ⟨by omega,by rw[show (σ:Int)+1=((σ+1:Nat):Int) by omega];exact hr⟩
    ·obtain ⟨t,rfl⟩:∃ t,σ=t+1:=⟨σ - 1,by omega⟩
     have h1:=hP.a1 (t+1) hσ (by omega) _ hc (by rw[← hi];exact k2)
     rw[← hi,← c3] at h1
     have h2:=h.m1 t hσ _ h1
     obtain ⟨d1,d2,d3⟩:=h.pc t (by omega)
     rw[show ((t+1:Nat):Int) - 1=(t:Int) by omega]
     rw[d3] at h2 ⊢
     exact aOO (hP.a2 t (by omega)) h2
    ·have hs2:σ+1<P.2.1.length:=by omega
     have h1:=hP.a4 σ hs2 _ hc (by rw[← hi];exact k6)
     rw[← hi,← c3] at h1
     have h2:=h.m4 σ hs2 _ h1
     obtain ⟨d1,d2,d3⟩:=h.pc (σ+1) hs2
     rw[show (σ:Int)+1=((σ+1:Nat):Int) by omega]
     rw[d3] at h2 ⊢
     exact aOO (hP.a6 (σ+1) hs2) h2
theorem TrI.run {P:bI} (hP:PlOk P):(l:List Int)→{p:bI}→{L:List kS}→TrI P p L→TrI P (lO p l) (L++iF p l)
 | [],p,L,h=>by rw[show iF p []=[] from rfl,List.append_nil];exact h
 | s :: l,p,L,h=>by
  have h1:=TrI.run hP l (h.step hP s)
  rw[List.append_assoc] at h1
  exact h1
theorem TrI.start {P:bI} (h1:∀ s,s<P.2.1.length→pcS P s=0) (h2:∀ s,(P.2.2.1.getD s (aS aN)).2.length=0) (h3:∀ s,(P.2.2.2.getD s (aS aN)).2.length=0):TrI P P []:=by
 have e:∀ t,dO [] t=[]:=fun t=>rfl
 refine ⟨rfl,fun _=>rfl,fun s hs=>?_,fun s hs=>?_,fun s hs=>?_,fun s hs m hm=>?_,fun s hs m hm=>?_,fun i hi=>absurd hi (Nat.not_lt_zero _)⟩
 ·rw[h1 s hs];exact ⟨Int.le_refl _,by omega,rfl⟩
 ·rw[h2 s,e,e];exact Nat.le_refl _
 ·rw[h3 s,e,e];exact Nat.le_refl _
 ·rw[e] at hm;cases hm
 ·rw[e] at hm;cases hm
def zP (f:Nat→Nat):Nat→Nat
 | 0=>0
 | k+1=>zP f k+f k
theorem aPN {α:Type} (g:α→Nat) (l:List α) (d:α):(k:Nat)→k≤l.length→((l.take k).map g).sum=zP (fun i=>g (l.getD i d)) k
 | 0,_=>rfl
 | k+1,h=>by rw[rS g l k (by omega),aPN g l d k (by omega),zP,bD (show k<l.length by omega)]
theorem bC6 {P p:bI} {L:List kS} (h:TrI P p L) (h0:∀ s,s<P.2.1.length→pcS P s=0):aF1 p=aF1 P - ((zP (fun s=>(dO L (s:Int)).length) P.2.1.length:Nat):Int):=by
 have e1:∀ p:bI,(p.2.1.map nK).sum=zP (fun i=>nK (p.2.1.getD i (aS aA))) p.2.1.length:=fun p=>by
  rw[← aPN nK p.2.1 (aS aA) p.2.1.length (Nat.le_refl _),List.take_length]
 have e2:∀ k,k≤P.2.1.length→zP (fun i=>nK (p.2.1.getD i (aS aA))) k+zP (fun s=>(dO L (s:Int)).length) k=zP (fun i=>nK (P.2.1.getD i (aS aA))) k:=fun k=>by
  induction k with
  | zero=>intro _;rfl
  | succ k ih =>
   intro hk
   have:=ih (by omega)
   obtain ⟨c1,c2,c3⟩:=h.pc k (by omega)
   have z:=h0 k (by omega)
   have a1:nK (p.2.1.getD k (aS aA))=(vN P k).length - (pcS p k).toNat:=by rw[← h.pl k];rfl
   have a2:nK (P.2.1.getD k (aS aA))=(vN P k).length - (pcS P k).toNat:=rfl
   have a3:(dO L (k:Int)).length=(pcS p k).toNat:=by rw[c3,List.length_take];omega
   unfold zP
   rw[a1,a2,a3,z]
   omega
 have e3:=e2 P.2.1.length (Nat.le_refl _)
 unfold aF1
 rw[e1 p,e1 P,h.ln]
 omega
end Go.Proofs.YtpleleanibgniaaGreat
