/- PrgD: lemmas. No conditions. -/
import Derived.Test.YtpafjioccjpmfaaGreatPrgC
namespace Go.Proofs.YtpafjioccjpmfaaGreat
open Go.ChangeShapes Go.WideShapes Go.ChangeAt Go.RowKit Go.Deep
set_option linter.unusedVariables false
set_option linter.unusedSimpArgs false
theorem bB8 {n:Int} {i:Nat} {m:Int} (h:(lI n)[i]?=some m):m=(i:Int):=by
 unfold lI at h
 rw[List.getElem?_map] at h
 obtain ⟨j,hj,e⟩:=Option.map_eq_some_iff.1 h
 have:=List.getElem?_eq_some_iff.1 hj
 obtain ⟨h1,h2⟩:=this
 rw[List.getElem_range] at h2
 omega
theorem bIZ {n m:Int} (h:0≤m∧m<n):m∈lI n:=by
 unfold lI
 exact List.mem_map.2 ⟨m.toNat,List.mem_range.2 (by omega),by omega⟩
theorem aS2 {κ m mi:Int} {pl:List cP} {k:Nat} (he:oV κ pl=lI mi) (hk:k<pl.length) (hi:pl[k]=(κ,m)):((oV κ (pl.take k)).length:Int)=m:=by
 have e1:pl=(pl.take k++[pl[k]])++pl.drop (k+1):=by rw[mC hk,List.take_append_drop]
 have h1:(oV κ pl)[(oV κ (pl.take k)).length]?=some m:=by
  conv=>lhs;lhs;rw[e1]
  rw[uJ,uJ,hi,aJ3,if_pos rfl,List.append_assoc,List.getElem?_append_right (Nat.le_refl _),Nat.sub_self];rfl
 rw[he] at h1
 exact (bB8 h1).symm
theorem bN4 {κ m mi:Int} {pl:List cP} {k:Nat} (he:oV κ pl=lI mi) (hm:(κ,m)∈pl.take k):m<((oV κ (pl.take k)).length:Int):=by
 have h1:=aQR.2 hm
 obtain ⟨i,hi,e⟩:=List.mem_iff_getElem.1 h1
 have h2:(oV κ pl)[i]?=some m:=by
  conv=>lhs;lhs;rw[← List.take_append_drop k pl]
  rw[uJ,List.getElem?_append_left hi,List.getElem?_eq_getElem hi,e]
 rw[he] at h2
 have:=bB8 h2
 omega
structure PTm (P:bF) (n:Nat) (tm:Nat→cP→Int):Prop where
 inc:∀ s,s<n→∀ a b (hb:b<(gE P s).length) (hab:a<b),tm s ((gE P s)[a]'(Nat.lt_trans hab hb))<tm s (gE P s)[b]
 x1:∀ s,s+1<n→∀ m:Int,0≤m→m<(P.1.length:Int)→tm s (3,m)<tm (s+1) (1,m)
 x3:∀ s,s+1<n→∀ m:Int,0≤m→m+1<(P.1.length:Int)→tm (s+1) (1,m)<tm s (3,m+1)
 x4:∀ s,s+1<n→∀ m:Int,0≤m→m<(P.1.length:Int)→tm (s+1) (7,m)<tm s (4,m)
 x7:∀ s,s+1<n→∀ m:Int,0≤m→m+1<(P.1.length:Int)→tm s (4,m)<tm (s+1) (7,m+1)
 x8:∀ s t,s<n→t<n→∀ i:cP,1≤i.1∧i.1<8→0≤i.2∧i.2<(P.1.length:Int)→∀ m,tm s i<tm t (8,m)
 o1:∀ s,s+1<n→oV 1 (gE P (s+1))=lI (P.1.length:Int)
 o3:∀ s,s+1<n→oV 3 (gE P s)=lI (P.1.length:Int)
 o4:∀ s,s+1<n→oV 4 (gE P s)=lI (P.1.length:Int)
 o7:∀ s,s+1<n→oV 7 (gE P (s+1))=lI (P.1.length:Int)
theorem bMZ (U:Nat→Prop) (f:Nat→Int):(N:Nat)→(∃ s,s<N∧U s)→∃ s,s<N∧U s∧∀ t,t<N→U t→f s≤f t
 | 0,⟨s,h,_⟩=>absurd h (Nat.not_lt_zero _)
 | N+1,h=>by
  by_cases hN:∃ s,s<N∧U s
  ·obtain ⟨s,h1,h2,h3⟩:=bMZ U f N hN
   by_cases hu:U N∧f N<f s
   ·refine ⟨N,by omega,hu.1,fun t ht hU=>?_⟩
    rcases Nat.lt_or_eq_of_le (Nat.le_of_lt_succ ht) with h|rfl
    ·have:=h3 t h hU;omega
    ·exact Int.le_refl _
   ·refine ⟨s,by omega,h2,fun t ht hU=>?_⟩
    rcases Nat.lt_or_eq_of_le (Nat.le_of_lt_succ ht) with h|rfl
    ·exact h3 t h hU
    ·exact Int.not_lt.1 fun hh=>hu ⟨hU,hh⟩
  ·obtain ⟨s,h1,h2⟩:=h
   have:s=N:=by
    rcases Nat.lt_or_eq_of_le (Nat.le_of_lt_succ h1) with h|h
    ·exact absurd ⟨s,h,h2⟩ hN
    ·exact h
   subst this
   refine ⟨s,by omega,h2,fun t ht hU=>?_⟩
   rcases Nat.lt_or_eq_of_le (Nat.le_of_lt_succ ht) with h|rfl
   ·exact absurd ⟨t,h,hU⟩ hN
   ·exact Int.le_refl _
section
variable {P p:bF} {n:Nat} {ops:Nat→List cZ} {redo:Nat→Bool} {caps:Nat→Int} {K:Nat→Nat} {L:List tM} {tm:Nat→cP→Int}
theorem aJB (hS:PSt P n ops redo caps K) (hT:PTm P n tm) (h:PrI P n ops redo caps p L) {s:Nat} (hs:s<n) {κ m:Int} (he:oV κ (gE P s)=lI (P.1.length:Int)) (hm:0≤m∧m<(P.1.length:Int)) :
  m<((oV κ (jW L (s:Int))).length:Int)∨∃ hc:(gP p s).toNat<(gE P s).length,tm s (gE P s)[(gP p s).toNat]≤tm s (κ,m):=by
 obtain ⟨c1,c2,c3⟩:=h.tr.pc s (by rw[hS.hn];exact hs)
 have h1:(κ,m)∈gE P s:=aQR.1 (by rw[he];exact bIZ hm)
 obtain ⟨j,hj,e⟩:=List.mem_iff_getElem.1 h1
 by_cases hjk:j<(gP p s).toNat
 ·refine .inl ?_
  rw[c3]
  refine bN4 he ?_
  rw[← e]
  exact List.mem_take_iff_getElem.2 ⟨j,by omega,rfl⟩
 ·refine .inr ⟨by omega,?_⟩
  rcases Nat.lt_or_eq_of_le (Nat.le_of_not_lt hjk) with h2|h2
  ·have:=hT.inc s hs _ _ hj h2
   rw[e] at this;omega
  ·have:(gE P s)[(gP p s).toNat]'(by omega)=(κ,m):=by rw[← e];congr 1
   rw[this];exact Int.le_refl _
theorem prog (hS:PSt P n ops redo caps K) (hT:PTm P n tm) (h:PrI P n ops redo caps p L) (hl:0<dD p):∃ s:Nat,s<n∧cC p (s:Int)=true:=by
 have hB:=h.ok hS
 have hln:p.2.1.length=n:=by rw[h.tr.ln,hS.hn]
 have hU:∃ s,s<n∧(gP p s).toNat<(gE P s).length:=by
  refine Classical.byContradiction fun hno=>?_
  have hz:(p.2.1.map pW).sum≤(p.2.1.map fun _=>0).sum:=wK pW (fun _=>0) p.2.1 fun x hx=>by
   obtain ⟨t,ht,rfl⟩:=List.mem_iff_getElem.1 hx
   have h1:¬ (gP p t).toNat<(gE P t).length:=fun hh=>hno ⟨t,by omega,hh⟩
   have e1:pW p.2.1[t]=(gE P t).length - (gP p t).toNat:=by
    rw[← h.tr.pl t];unfold pW gE gP;rw[aW ht]
   omega
  have hz2:(p.2.1.map fun _=>0).sum=0:=aM9 (fun _=>0) p.2.1 fun _=>rfl
  unfold dD at hl
  omega
 obtain ⟨s,hs,hc,hmin⟩:=bMZ (fun s=>(gP p s).toNat<(gE P s).length) (fun s=>tm s ((gE P s).getD (gP p s).toNat (0,0))) n hU
 rw[aW hc] at hmin
 have hmin':∀ t,t<n→∀ ht:(gP p t).toNat<(gE P t).length,tm s (gE P s)[(gP p s).toNat]≤tm t (gE P t)[(gP p t).toNat]:=fun t h1 h2=>by
  have:=hmin t h1 h2
  rwa [aW h2] at this
 obtain ⟨c1,c2,c3⟩:=h.tr.pc s (by rw[hS.hn];exact hs)
 have hn:aV p (s:Int)=(gE P s)[(gP p s).toNat]:=by
  rw[← aTA (p:=p) (s:=(s:Int)) (by omega) (by omega) (by rw[Int.toNat_natCast];exact c1) (by rw[Int.toNat_natCast];show gP p s<((gE p s).length:Int);rw[h.tr.pl];omega),Int.toNat_natCast]
  show (gE p s).getD (gP p s).toNat (aP aD)=_
  rw[h.tr.pl,aW hc]
 have hin:=(hS.plc s hs).i1 _ hc
 have hm:=hin.1
 have hkd:=hin.2.1
 refine ⟨s,hs,?_⟩
 have f2:(0:Int)≤(s:Int):=by omega
 have f3:(s:Int)<(p.2.1.length:Int):=by omega
 rw[← hn] at hmin' hm hkd
 have hpair:∀ κ:Int,(aV p (s:Int)).1=κ→(gE P s)[(gP p s).toNat]=(κ,(aV p (s:Int)).2):=fun κ hk=>by rw[← hn];exact Prod.ext hk rfl
 have hpair2:∀ κ:Int,(aV p (s:Int)).1=κ→aV p (s:Int)=(κ,(aV p (s:Int)).2):=fun κ hk=>Prod.ext hk rfl
 have hkind:(aV p (s:Int)).1=1∨(aV p (s:Int)).1=2∨(aV p (s:Int)).1=3∨(aV p (s:Int)).1=4∨(aV p (s:Int)).1=5∨(aV p (s:Int)).1=6∨(aV p (s:Int)).1=7∨(aV p (s:Int)).1=8:=by omega
 rcases hkind with k|k|k|k|k|k|k|k
 ·have h0:=hin.2.2.1 (by rw[← hn];exact k)
  rw[decide_eq_false_iff_not] at h0
  obtain ⟨τ,rfl⟩:∃ τ,s=τ+1:=⟨s - 1,by omega⟩
  have hq:=(h.qa τ hs).2
  have hcnt:=aS2 (hT.o1 τ hs) hc (hpair 1 k)
  rw[← c3] at hcnt
  rw[aR3 hB f2 f3 k,Bool.and_eq_true,decide_eq_true_eq,decide_eq_true_eq,show (((τ+1:Nat):Int) - 1).toNat=τ by omega]
  refine ⟨by omega,?_⟩
  show 0<(qA p τ).2.length
  rcases aJB hS hT h (s:=τ) (by omega) (hT.o3 τ hs) hm with hd|⟨hc',hd⟩
  ·omega
  ·have a1:=hmin' τ (by omega) hc'
   have a2:=hT.x1 τ hs _ hm.1 hm.2
   rw[hpair2 1 k] at a1
   omega
 ·exact (aRH hB f2 f3 (.inl k)).symm
 ·have h0:=hin.2.2.2.1 (by rw[← hn];exact k)
  rw[decide_eq_false_iff_not] at h0
  have hs1:s+1<n:=by omega
  have hq:=(h.qa s hs1).2
  have hcp:=hS.cp s hs1
  have hcnt:=aS2 (hT.o3 s hs1) hc (hpair 3 k)
  rw[← c3] at hcnt
  rw[bAH hB f2 f3 k,Bool.and_eq_true,decide_eq_true_eq,Int.toNat_natCast]
  refine ⟨by omega,?_⟩
  unfold uS
  rw[decide_eq_true_eq]
  show ((qA p s).2.length:Int)<(qA p s).1
  rw[((h.qa s hs1).1).1]
  by_cases hz:(aV p (s:Int)).2=0
  ·omega
  ·rcases aJB hS hT h (s:=s+1) hs1 (κ:=1) (m:=(aV p (s:Int)).2 - 1) (hT.o1 s hs1) ⟨by omega,by omega⟩ with hd|⟨hc',hd⟩
   ·omega
   ·have a1:=hmin' (s+1) hs1 hc'
    have a2:=hT.x3 s hs1 ((aV p (s:Int)).2 - 1) (by omega) (by omega)
    rw[show (aV p (s:Int)).2 - 1+1=(aV p (s:Int)).2 by omega,← hpair2 3 k] at a2
    omega
 ·have h0:=hin.2.2.2.2.1 (by rw[← hn];exact k)
  rw[decide_eq_false_iff_not] at h0
  have hs1:s+1<n:=by omega
  have hq:=(h.qb s hs1).2
  have hcnt:=aS2 (hT.o4 s hs1) hc (hpair 4 k)
  rw[← c3] at hcnt
  rw[aRM hB f2 f3 k,Bool.and_eq_true,decide_eq_true_eq,decide_eq_true_eq,Int.toNat_natCast]
  refine ⟨by omega,?_⟩
  show 0<(qB p s).2.length
  rcases aJB hS hT h (s:=s+1) hs1 (hT.o7 s hs1) hm with hd|⟨hc',hd⟩
  ·omega
  ·have a1:=hmin' (s+1) hs1 hc'
   have a2:=hT.x4 s hs1 _ hm.1 hm.2
   rw[hpair2 4 k] at a1
   omega
 ·exact (aRH hB f2 f3 (.inr (.inl k))).symm
 ·exact (aRH hB f2 f3 (.inr (.inr k))).symm
 ·have h0:=hin.2.2.2.2.2.1 (by rw[← hn];exact k)
  rw[decide_eq_false_iff_not] at h0
  obtain ⟨τ,rfl⟩:∃ τ,s=τ+1:=⟨s - 1,by omega⟩
  have hq:=(h.qb τ hs).2
  have hcp:=hS.cp τ hs
  have hcnt:=aS2 (hT.o7 τ hs) hc (hpair 7 k)
  rw[← c3] at hcnt
  rw[aXO hB f2 f3 k,Bool.and_eq_true,decide_eq_true_eq,show (((τ+1:Nat):Int) - 1).toNat=τ by omega]
  refine ⟨by omega,?_⟩
  unfold uS
  rw[decide_eq_true_eq]
  show ((qB p τ).2.length:Int)<(qB p τ).1
  rw[((h.qb τ hs).1).1]
  by_cases hz:(aV p ((τ+1:Nat):Int)).2=0
  ·omega
  ·rcases aJB hS hT h (s:=τ) (by omega) (κ:=4) (m:=(aV p ((τ+1:Nat):Int)).2 - 1) (hT.o4 τ hs) ⟨by omega,by omega⟩ with hd|⟨hc',hd⟩
   ·omega
   ·have a1:=hmin' τ (by omega) hc'
    have a2:=hT.x7 τ hs ((aV p ((τ+1:Nat):Int)).2 - 1) (by omega) (by omega)
    rw[show (aV p ((τ+1:Nat):Int)).2 - 1+1=(aV p ((τ+1:Nat):Int)).2 by omega,← hpair2 7 k] at a2
    omega
 ·rw[bM8 hB f2 f3 k]
  unfold bG2
  rw[List.all_eq_true]
  intro x hx
  obtain ⟨t,ht,rfl⟩:=List.mem_iff_getElem.1 hx
  rw[decide_eq_true_eq]
  have e1:p.2.1[t]=xM p t:=by unfold xM;rw[aW ht]
  rw[e1]
  have e2:(xM p t).2.1=gE P t:=h.tr.pl t
  rw[e2]
  show ((gE P t).length:Int) - 1≤gP p t
  refine Int.not_lt.1 fun hlt=>?_
  obtain ⟨d1,d2,d3⟩:=h.tr.pc t (by rw[hS.hn];omega)
  have hct:(gP p t).toNat<(gE P t).length:=by omega
  have a1:=hmin' t (by omega) hct
  have a3:=(hS.plc t (by omega)).i1 _ hct
  have a4:=(hS.plc t (by omega)).e8 _ hct
  rw[aI9 hct] at a4
  have a5:¬ (gE P t)[(gP p t).toNat].1=8:=fun hh=>by have:=a4.1 hh;omega
  have a6:=a3.2.1
  have a2:=hT.x8 t s (by omega) hs (gE P t)[(gP p t).toNat] ⟨a6.1,by omega⟩ a3.1 (aV p (s:Int)).2
  rw[hpair2 8 k] at a1
  omega
end
end Go.Proofs.YtpafjioccjpmfaaGreat
