/- PrgC: lemmas. No conditions. -/
import Derived.Test.YtpafjioccjpmfaaGreatPrgB
namespace Go.Proofs.YtpafjioccjpmfaaGreat
open Go.ChangeShapes Go.WideShapes Go.ChangeAt Go.RowKit Go.Deep
set_option linter.unusedVariables false
set_option linter.unusedSimpArgs false
def xM (p:bF) (s:Nat):bG:=p.2.1.getD s (aP aA)
def qA (p:bF) (s:Nat):cY:=p.2.2.1.getD s (aP aM)
def qB (p:bF) (s:Nat):cY:=p.2.2.2.getD s (aP aM)
def QOk (cap w:Int) (q:cY):Prop:=q.1=cap∧(q.2.length:Int)≤cap∧∀ x∈q.2,cN x.2 w=true∧0≤x.1∧x.1<5
theorem QOk.B {cap w:Int} {q:cY} (h:QOk cap w q) (h1:1≤cap) (h5:cap≤5):jO q=true:=by
 obtain ⟨a,b,c⟩:=h
 refine mJ.2 ⟨⟨by omega,by omega,by omega⟩,fun i hi=>?_⟩
 rw[aW hi]
 obtain ⟨x1,x2,x3⟩:=c _ (List.getElem_mem hi)
 exact (jR _).2 ⟨((fF _ _).1 x1).1,x2,x3⟩
theorem QOk.pop {cap w:Int} {q:cY} (h:QOk cap w q) (h1:1≤cap) (h5:cap≤5) (h0:0<q.2.length):QOk cap w (qU q).1∧(qU q).1.2.length+1=q.2.length∧cN (qU q).2.1.2 w=true:=by
 rw[← aBY (h.B h1 h5) h0]
 obtain ⟨a,b,c⟩:=h
 refine ⟨⟨a,by show ((q.2.drop 1).length:Int)≤cap;rw[List.length_drop];omega,fun x hx=>c x (List.mem_of_mem_drop hx)⟩,by show (q.2.drop 1).length+1=_;rw[List.length_drop];omega,?_⟩
 show cN (q.2.getD 0 bAU).2 w=true
 rw[aW h0]
 exact (c _ (List.getElem_mem h0)).1
theorem QOk.push {cap w:Int} {q:cY} {m:Int} {v:List Int} (h:QOk cap w q) (h1:1≤cap) (h5:cap≤5) (h0:(q.2.length:Int)<cap) (hv:cN v w=true) (m0:0≤m) (m5:m<5):QOk cap w (oN q (m,v)).1∧(oN q (m,v)).1.2.length=q.2.length+1:=by
 rw[← aAR (q:=q) (x:=(m,v)) (h.B h1 h5) ((jR _).2 ⟨((fF _ _).1 hv).1,m0,m5⟩) (by rw[h.1];exact h0)]
 obtain ⟨a,b,c⟩:=h
 have hl:(q.2++[(m,v)]).length=q.2.length+1:=by rw[List.length_append];rfl
 refine ⟨⟨a,by show ((q.2++[(m,v)]).length:Int)≤cap;omega,fun x hx=>?_⟩,hl⟩
 rcases List.mem_append.1 hx with hx|hx
 ·exact c x hx
 ·rw[List.mem_singleton] at hx;subst hx;exact ⟨hv,m0,m5⟩
structure PSt (P:bF) (n:Nat) (ops:Nat→List cZ) (redo:Nat→Bool) (caps:Nat→Int) (K:Nat→Nat):Prop where
 hn:P.2.1.length=n
 n1:1≤n
 n4:n≤4
 b1:1≤P.1.length
 b5:P.1.length≤5
 plo:PlOk P
 plc:∀ s,s<n→PlC (decide (s=0)) (decide (s+1=n)) (redo s) (P.1.length:Int) (K s) (gE P s)
 ml:∀ s,s+1<n→cH (ops s)=dM (ops (s+1))
 bx:∀ i,i<P.1.length→cN (P.1.getD i (aP aQ)).1 (dM (ops 0))=true∧cN (P.1.getD i (aP aQ)).2 (cH (ops (n - 1)))=true
 cp:∀ s,s+1<n→1≤caps s∧caps s≤5
structure PrI (P:bF) (n:Nat) (ops:Nat→List cZ) (redo:Nat→Bool) (caps:Nat→Int) (p:bF) (L:List tM):Prop where
 tr:TrI P p L
 eb:p.1=P.1
 la:p.2.2.1.length+1=n
 lb:p.2.2.2.length+1=n
 st:∀ s,s<n→StI (ops s) (gE P s) (decide (s=0)) (decide (s+1=n)) (redo s) (gP p s).toNat (xM p s)
 qa:∀ s,s+1<n→QOk (caps s) (cH (ops s)) (qA p s)∧(qA p s).2.length+(oV 1 (jW L ((s+1:Nat):Int))).length=(oV 3 (jW L (s:Int))).length
 qb:∀ s,s+1<n→QOk (caps s) (cH (ops s)) (qB p s)∧(qB p s).2.length+(oV 4 (jW L (s:Int))).length=(oV 7 (jW L ((s+1:Nat):Int))).length
section
variable {P p:bF} {n:Nat} {ops:Nat→List cZ} {redo:Nat→Bool} {caps:Nat→Int} {K:Nat→Nat} {L:List tM}
theorem PrI.ok (hS:PSt P n ops redo caps K) (h:PrI P n ops redo caps p L):mF p=true:=by
 have hl:p.2.1.length=n:=by rw[h.tr.ln,hS.hn]
 have hb1:=hS.b1
 have hb5:=hS.b5
 have hn1:=hS.n1
 have hn4:=hS.n4
 refine mJ.2 ⟨⟨by omega,by omega,by rw[hl];exact h.la,by rw[hl];exact h.lb,by rw[h.eb];omega,by rw[h.eb];omega⟩,fun i hi=>?_,fun i hi=>?_,fun i hi=>?_⟩
 ·rw[h.eb] at hi ⊢
  obtain ⟨a,b⟩:=hS.bx i hi
  exact ⟨((fF _ _).1 a).1,((fF _ _).1 b).1⟩
 ·have hs:i+1<n:=by have:=h.la;omega
  obtain ⟨c1,c2⟩:=hS.cp i hs
  exact ⟨((h.qa i hs).1).B c1 c2,((h.qb i hs).1).B c1 c2⟩
 ·have hs:i<n:=by omega
  have hi:=h.st i hs
  refine ⟨hi.st,?_,fun k hk=>?_⟩
  ·rw[show (p.2.1.getD i (aP aA)).2.2.2.1=_ from hi.e4,hl]
  ·have e2:(p.2.1.getD i (aP aA)).2.1=gE P i:=hi.e2
   rw[e2] at hk ⊢
   have:=((hS.plc i hs).i1 k hk).1
   rw[aW hk,h.eb]
   exact this
theorem TrI.on (h:TrI P p L) {s:Int} (he:cC p s=true):∃ σ:Nat,s=(σ:Int)∧σ<P.2.1.length∧∃ hc:(gP p σ).toNat<(gE P σ).length,aV p (σ:Int)=(gE P σ)[(gP p σ).toNat] ∧
  (∀ t,xM (bR p (σ:Int)) t=if σ=t then jJ (cS p σ) ((cS p σ).1+1) else xM p t)∧(bR p (σ:Int)).1=p.1∧(bR p (σ:Int)).2.2.1=eX p σ∧(bR p (σ:Int)).2.2.2=eZ p σ∧fW p (σ:Int)=xM p σ ∧
  (∀ (k:Int) (t:Nat),(oV k (jW (L++[((σ:Int),aV p (σ:Int),true)]) (t:Int))).length=(oV k (jW L (t:Int))).length+if (aV p (σ:Int)).1=k∧σ=t then 1 else 0):=by
 obtain ⟨f1,f2,f3⟩:=jG he
 have hk:=uG he
 obtain ⟨σ,rfl⟩:∃ σ:Nat,s=(σ:Int):=⟨s.toNat,by omega⟩
 have hσ:σ<P.2.1.length:=by rw[← h.ln];omega
 have hσp:σ<p.2.1.length:=by rw[h.ln];exact hσ
 have hn:∃ hc:(gP p σ).toNat<(gE P σ).length,aV p (σ:Int)=(gE P σ)[(gP p σ).toNat]:=by
  have h0:=hk.2.2.2.2
  unfold aV at h0 ⊢
  split at h0
  ·rename_i hh
   rw[if_pos hh]
   obtain ⟨_,_,g1,g2⟩:=hh
   rw[Int.toNat_natCast] at g1 g2 ⊢
   have g2':gP p σ<((gE p σ).length:Int):=g2
   have g1':0≤gP p σ:=g1
   rw[h.pl] at g2'
   have hc:(gP p σ).toNat<(gE P σ).length:=by omega
   refine ⟨hc,?_⟩
   show (gE p σ).getD (gP p σ).toNat (aP aD)=_
   rw[h.pl,aW hc]
  ·exact absurd rfl h0
 obtain ⟨hc,hi⟩:=hn
 have ep:bR p (σ:Int)=(p.1,p.2.1.set σ (jJ (cS p σ) ((cS p σ).1+1)),eX p σ,eZ p σ):=by
  unfold bR;rw[if_pos he,Int.toNat_natCast]
 refine ⟨σ,rfl,hσ,hc,hi,fun t=>?_,by rw[ep],by rw[ep],by rw[ep],by unfold fW xM;rw[Int.toNat_natCast],fun k t=>?_⟩
 ·rw[ep]
  unfold xM
  dsimp only
  rw[hZ]
  by_cases ht:σ=t
  ·subst ht;rw[if_pos ⟨rfl,hσp⟩,if_pos rfl]
  ·rw[if_neg (fun hh=>ht hh.1),if_neg ht]
 ·rw[aF3,aWH,uJ,List.length_append]
  by_cases ht:σ=t
  ·rw[if_pos (show (σ:Int)=(t:Int) by omega),aJ3]
   by_cases hq:(aV p (σ:Int)).1=k
   ·rw[if_pos hq,if_pos ⟨hq,ht⟩];rfl
   ·rw[if_neg hq,if_neg (fun hh=>hq hh.1)];rfl
  ·rw[if_neg (show ¬ (σ:Int)=(t:Int) by omega),if_neg (fun hh=>ht hh.2)];rfl
theorem PrI.step (hS:PSt P n ops redo caps K) (h:PrI P n ops redo caps p L) (s:Int):PrI P n ops redo caps (bR p s) (L++[(s,aV p s,cC p s)]):=by
 have htr:=h.tr.step hS.plo s
 cases he:cC p s with
 | false =>
  rw[he] at htr
  have ep:bR p s=p:=by unfold bR;rw[if_neg (by rw[he];simp)]
  have ed:∀ t,jW (L++[(s,aV p s,false)]) t=jW L t:=fun t=>by rw[aF3,bD6,List.append_nil]
  rw[ep] at htr ⊢
  exact ⟨htr,h.eb,h.la,h.lb,h.st,fun t ht=>by rw[ed,ed];exact h.qa t ht,fun t ht=>by rw[ed,ed];exact h.qb t ht⟩
 | true =>
  rw[he] at htr
  obtain ⟨σ,rfl,hσ,hc,hi,estN,eB,eA,eR,eSt,mo⟩:=h.tr.on he
  obtain ⟨f1,f2,f3⟩:=jG he
  have hk:=uG he
  rw[hS.hn] at hσ
  have hln:p.2.1.length=n:=by rw[h.tr.ln,hS.hn]
  have hC:=hS.plc σ hσ
  have hst:=h.st σ hσ
  have hin:=hC.i1 _ hc
  have hmi:=hin.1
  have hb5:=hS.b5
  have e6:kd (gE P σ) (gP p σ).toNat=(aV p (σ:Int)).1:=by rw[aI9 hc,hi]
  have hpc:(gP (bR p (σ:Int)) σ).toNat=(gP p σ).toNat+1:=by
   have:gP (bR p (σ:Int)) σ=gP p σ+1:=by
    show (xM (bR p (σ:Int)) σ).1=_
    rw[estN,if_pos rfl]
    show (cS p (σ:Int)).1+1=_
    rw[aH2,eSt];rfl
   rw[this]
   have:=(h.tr.pc σ (by rw[hS.hn];exact hσ)).1
   omega
  have hpo:∀ t,¬ σ=t→gP (bR p (σ:Int)) t=gP p t:=fun t ht=>by
   show (xM (bR p (σ:Int)) t).1=_
   rw[estN,if_neg ht];rfl
  have lA:(eX p (σ:Int)).length=p.2.2.1.length:=by unfold eX;split <;> (try split) <;> simp only[List.length_set]
  have lB:(eZ p (σ:Int)).length=p.2.2.2.length:=by unfold eZ;split <;> (try split) <;> simp only[List.length_set]
  have key:StI (ops σ) (gE P σ) (decide (σ=0)) (decide (σ+1=n)) (redo σ) ((gP p σ).toNat+1) (jJ (cS p σ) ((cS p σ).1+1)) ∧
    (∀ t,t+1<n→QOk (caps t) (cH (ops t)) ((eX p σ).getD t (aP aM))∧((eX p σ).getD t (aP aM)).2.length+(if (aV p (σ:Int)).1=1∧σ=t+1 then 1 else 0)=(qA p t).2.length+(if (aV p (σ:Int)).1=3∧σ=t then 1 else 0)) ∧
    (∀ t,t+1<n→QOk (caps t) (cH (ops t)) ((eZ p σ).getD t (aP aM))∧((eZ p σ).getD t (aP aM)).2.length+(if (aV p (σ:Int)).1=4∧σ=t then 1 else 0)=(qB p t).2.length+(if (aV p (σ:Int)).1=7∧σ=t+1 then 1 else 0)):=by
   have qA0:∀ t,t+1<n→∀ a b:Prop,[Decidable a]→[Decidable b]→¬ a→¬ b→QOk (caps t) (cH (ops t)) (p.2.2.1.getD t (aP aM))∧(p.2.2.1.getD t (aP aM)).2.length+(if a then 1 else 0)=(qA p t).2.length+(if b then 1 else 0):=fun t ht a b _ _ ha hb=>by
    rw[if_neg ha,if_neg hb];exact ⟨(h.qa t ht).1,rfl⟩
   have qB0:∀ t,t+1<n→∀ a b:Prop,[Decidable a]→[Decidable b]→¬ a→¬ b→QOk (caps t) (cH (ops t)) (p.2.2.2.getD t (aP aM))∧(p.2.2.2.getD t (aP aM)).2.length+(if a then 1 else 0)=(qB p t).2.length+(if b then 1 else 0):=fun t ht a b _ _ ha hb=>by
    rw[if_neg ha,if_neg hb];exact ⟨(h.qb t ht).1,rfl⟩
   have hkind:(aV p (σ:Int)).1=1∨(aV p (σ:Int)).1=2∨(aV p (σ:Int)).1=3∨(aV p (σ:Int)).1=4∨(aV p (σ:Int)).1=5∨(aV p (σ:Int)).1=6∨(aV p (σ:Int)).1=7∨(aV p (σ:Int)).1=8:=by
    have:=hin.2.1;rw[← hi] at this;omega
   have htt:decide (σ+1=n)=true→cN (p.1.getD (aV p (σ:Int)).2.toNat (aP aQ)).2 (cH (ops σ))=true:=fun hl=>by
    rw[decide_eq_true_eq] at hl
    rw[h.eb]
    rw[← hi] at hmi
    have:=(hS.bx (aV p (σ:Int)).2.toNat (by omega)).2
    rwa [show n - 1=σ by omega] at this
   rcases hkind with k|k|k|k|k|k|k|k
   ·
    have hs0:=hk.1 k
    obtain ⟨τ,rfl⟩:∃ τ,σ=τ+1:=⟨σ - 1,by omega⟩
    have et:(((τ+1:Nat):Int) - 1).toNat=τ:=by omega
    have he':=he
    rw[aR3 f1 f2 f3 k,Bool.and_eq_true,decide_eq_true_eq,decide_eq_true_eq,et] at he'
    obtain ⟨c1,c2⟩:=hS.cp τ hσ
    obtain ⟨p1,p2,p3⟩:=(h.qa τ hσ).1.pop c1 c2 he'.2
    have e1:cS p ((τ+1:Nat):Int)=aUL (xM p (τ+1)) (qU (qA p τ)).2.1.2:=by unfold cS;rw[if_pos k,eSt,et];rfl
    have e2:eX p ((τ+1:Nat):Int)=p.2.2.1.set τ (qU (qA p τ)).1:=by unfold eX;rw[if_pos k,et];rfl
    have e3:eZ p ((τ+1:Nat):Int)=p.2.2.2:=by unfold eZ;rw[if_neg (by omega),if_neg (by omega)]
    rw[e1,e2,e3]
    refine ⟨hst.s1 hC hc (by rw[e6];exact k) (by rw[← hS.ml τ hσ];exact p3),fun t ht=>?_,fun t ht=>qB0 t ht _ _ (by omega) (by omega)⟩
    rw[hZ]
    by_cases htt:τ=t
    ·subst htt
     rw[if_pos ⟨rfl,by have:=h.la;omega⟩,if_pos ⟨k,rfl⟩,if_neg (by omega)]
     exact ⟨p1,p2⟩
    ·rw[if_neg (fun hh=>htt hh.1)]
     exact qA0 t ht _ _ (by omega) (by omega)
   ·
    have e1:cS p (σ:Int)=sQ (xM p σ) (gE P σ)[(gP p σ).toNat].2 (if (σ:Int)=0 then (p.1.getD (aV p (σ:Int)).2.toNat (aP aQ)).1 else (xM p σ).2.2.2.2.2.2.2.1) (p.1.getD (aV p (σ:Int)).2.toNat (aP aQ)).2:=by
     unfold cS;rw[if_neg (by omega),if_pos k,eSt,← hi]
    have e2:eX p (σ:Int)=p.2.2.1:=by unfold eX;rw[if_neg (by omega),if_neg (by omega)]
    have e3:eZ p (σ:Int)=p.2.2.2:=by unfold eZ;rw[if_neg (by omega),if_neg (by omega)]
    rw[e1,e2,e3]
    refine ⟨(hst.s2 hC hc (by rw[e6];exact k) ?_ htt).1,fun t ht=>qA0 t ht _ _ (by omega) (by omega),fun t ht=>qB0 t ht _ _ (by omega) (by omega)⟩
    by_cases h0:σ=0
    ·subst h0
     rw[if_pos (show ((0:Nat):Int)=0 from rfl),h.eb]
     rw[← hi] at hmi
     exact (hS.bx (aV p ((0:Nat):Int)).2.toNat (by omega)).1
    ·rw[if_neg (by omega)]
     have vX:=hst.vX
     rw[if_pos ⟨by rw[e6];exact k,decide_eq_false h0⟩] at vX
     exact vX
   ·
    have hs1:σ+1<n:=by have:=hk.2.1 k;omega
    have he':=he
    rw[bAH f1 f2 f3 k,Bool.and_eq_true,decide_eq_true_eq,Int.toNat_natCast] at he'
    obtain ⟨c1,c2⟩:=hS.cp σ hs1
    have hroom:((qA p σ).2.length:Int)<caps σ:=by
     have:=he'.2
     unfold uS at this
     rw[decide_eq_true_eq] at this
     have e:=((h.qa σ hs1).1).1
     rw[← e];exact this
    have vY:=hst.vY
    rw[if_pos (by rw[e6];exact k)] at vY
    rw[← hi] at hmi
    obtain ⟨p1,p2⟩:=(h.qa σ hs1).1.push c1 c2 hroom vY hmi.1 (show (aV p (σ:Int)).2<5 by omega)
    have e1:cS p (σ:Int)=aWX (xM p σ) []:=by unfold cS;rw[if_neg (by omega),if_neg (by omega),if_pos k,eSt]
    have e2:eX p (σ:Int)=p.2.2.1.set σ (oN (qA p σ) ((aV p (σ:Int)).2,(xM p σ).2.2.2.2.2.2.2.2.1)).1:=by unfold eX;rw[if_neg (by omega),if_pos k,Int.toNat_natCast,eSt];rfl
    have e3:eZ p (σ:Int)=p.2.2.2:=by unfold eZ;rw[if_neg (by omega),if_neg (by omega)]
    rw[e1,e2,e3]
    refine ⟨hst.s3 hC hc (by rw[e6];exact k),fun t ht=>?_,fun t ht=>qB0 t ht _ _ (by omega) (by omega)⟩
    rw[hZ]
    by_cases htt:σ=t
    ·subst htt
     rw[if_pos ⟨rfl,by have:=h.la;omega⟩,if_neg (by omega),if_pos ⟨k,rfl⟩]
     exact ⟨p1,p2⟩
    ·rw[if_neg (fun hh=>htt hh.1)]
     exact qA0 t ht _ _ (by omega) (by omega)
   ·
    have hs1:σ+1<n:=by have:=hk.2.2.1 k;omega
    have he':=he
    rw[aRM f1 f2 f3 k,Bool.and_eq_true,decide_eq_true_eq,decide_eq_true_eq,Int.toNat_natCast] at he'
    obtain ⟨c1,c2⟩:=hS.cp σ hs1
    obtain ⟨p1,p2,p3⟩:=(h.qb σ hs1).1.pop c1 c2 he'.2
    have e1:cS p (σ:Int)=aWA (xM p σ) (qU (qB p σ)).2.1.2:=by unfold cS;rw[if_neg (by omega),if_neg (by omega),if_neg (by omega),if_pos k,eSt,Int.toNat_natCast];rfl
    have e2:eX p (σ:Int)=p.2.2.1:=by unfold eX;rw[if_neg (by omega),if_neg (by omega)]
    have e3:eZ p (σ:Int)=p.2.2.2.set σ (qU (qB p σ)).1:=by unfold eZ;rw[if_pos k,Int.toNat_natCast];rfl
    rw[e1,e2,e3]
    refine ⟨hst.s4 hC hc (by rw[e6];exact k) p3,fun t ht=>qA0 t ht _ _ (by omega) (by omega),fun t ht=>?_⟩
    rw[hZ]
    by_cases htt:σ=t
    ·subst htt
     rw[if_pos ⟨rfl,by have:=h.lb;omega⟩,if_pos ⟨k,rfl⟩,if_neg (by omega)]
     exact ⟨p1,p2⟩
    ·rw[if_neg (fun hh=>htt hh.1)]
     exact qB0 t ht _ _ (by omega) (by omega)
   ·
    have e1:cS p (σ:Int)=oK (xM p σ) (gE P σ)[(gP p σ).toNat].2:=by unfold cS;rw[if_neg (by omega),if_neg (by omega),if_neg (by omega),if_neg (by omega),if_pos k,eSt,← hi]
    have e2:eX p (σ:Int)=p.2.2.1:=by unfold eX;rw[if_neg (by omega),if_neg (by omega)]
    have e3:eZ p (σ:Int)=p.2.2.2:=by unfold eZ;rw[if_neg (by omega),if_neg (by omega)]
    rw[e1,e2,e3]
    exact ⟨hst.s5 hC hc (by rw[e6];exact k),fun t ht=>qA0 t ht _ _ (by omega) (by omega),fun t ht=>qB0 t ht _ _ (by omega) (by omega)⟩
   ·
    have e1:cS p (σ:Int)=if decide (σ=0)=true then wZ (oI (xM p σ) (gE P σ)[(gP p σ).toNat].2 (p.1.getD (aV p (σ:Int)).2.toNat (aP aQ)).2) [] else oI (xM p σ) (gE P σ)[(gP p σ).toNat].2 (p.1.getD (aV p (σ:Int)).2.toNat (aP aQ)).2:=by
     unfold cS
     rw[if_neg (by omega),if_neg (by omega),if_neg (by omega),if_neg (by omega),if_neg (by omega),if_pos k,eSt,← hi]
     by_cases h0:σ=0
     ·rw[if_pos (by omega),if_pos (decide_eq_true h0)]
     ·rw[if_neg (by omega),if_neg (by rw[decide_eq_false h0];decide)]
    have e2:eX p (σ:Int)=p.2.2.1:=by unfold eX;rw[if_neg (by omega),if_neg (by omega)]
    have e3:eZ p (σ:Int)=p.2.2.2:=by unfold eZ;rw[if_neg (by omega),if_neg (by omega)]
    rw[e1,e2,e3]
    exact ⟨(hst.s6 hC hc (by rw[e6];exact k) htt).2,fun t ht=>qA0 t ht _ _ (by omega) (by omega),fun t ht=>qB0 t ht _ _ (by omega) (by omega)⟩
   ·
    have hs0:=hk.2.2.2.1 k
    obtain ⟨τ,rfl⟩:∃ τ,σ=τ+1:=⟨σ - 1,by omega⟩
    have et:(((τ+1:Nat):Int) - 1).toNat=τ:=by omega
    have he':=he
    rw[aXO f1 f2 f3 k,Bool.and_eq_true,decide_eq_true_eq,et] at he'
    obtain ⟨c1,c2⟩:=hS.cp τ hσ
    have hroom:((qB p τ).2.length:Int)<caps τ:=by
     have:=he'.2
     unfold uS at this
     rw[decide_eq_true_eq] at this
     have e:=((h.qb τ hσ).1).1
     rw[← e];exact this
    have vD:=hst.vD
    rw[if_pos (by rw[e6];exact k),← hS.ml τ hσ] at vD
    rw[← hi] at hmi
    obtain ⟨p1,p2⟩:=(h.qb τ hσ).1.push c1 c2 hroom vD hmi.1 (show (aV p ((τ+1:Nat):Int)).2<5 by omega)
    have e1:cS p ((τ+1:Nat):Int)=wZ (xM p (τ+1)) []:=by unfold cS;rw[if_neg (by omega),if_neg (by omega),if_neg (by omega),if_neg (by omega),if_neg (by omega),if_neg (by omega),if_pos k,eSt]
    have e2:eX p ((τ+1:Nat):Int)=p.2.2.1:=by unfold eX;rw[if_neg (by omega),if_neg (by omega)]
    have e3:eZ p ((τ+1:Nat):Int)=p.2.2.2.set τ (oN (qB p τ) ((aV p ((τ+1:Nat):Int)).2,(xM p (τ+1)).2.2.2.2.2.2.2.2.2.2.1)).1:=by unfold eZ;rw[if_neg (by omega),if_pos k,et,eSt];rfl
    rw[e1,e2,e3]
    refine ⟨hst.s7 hC hc (by rw[e6];exact k),fun t ht=>qA0 t ht _ _ (by omega) (by omega),fun t ht=>?_⟩
    rw[hZ]
    by_cases htt:τ=t
    ·subst htt
     rw[if_pos ⟨rfl,by have:=h.lb;omega⟩,if_neg (by omega),if_pos ⟨k,rfl⟩]
     exact ⟨p1,p2⟩
    ·rw[if_neg (fun hh=>htt hh.1)]
     exact qB0 t ht _ _ (by omega) (by omega)
   ·
    have e1:cS p (σ:Int)=xM p σ:=by unfold cS;rw[if_neg (by omega),if_neg (by omega),if_neg (by omega),if_neg (by omega),if_neg (by omega),if_neg (by omega),if_neg (by omega),eSt]
    have e2:eX p (σ:Int)=p.2.2.1:=by unfold eX;rw[if_neg (by omega),if_neg (by omega)]
    have e3:eZ p (σ:Int)=p.2.2.2:=by unfold eZ;rw[if_neg (by omega),if_neg (by omega)]
    rw[e1,e2,e3]
    exact ⟨hst.s8 hC hc (by rw[e6];exact k),fun t ht=>qA0 t ht _ _ (by omega) (by omega),fun t ht=>qB0 t ht _ _ (by omega) (by omega)⟩
  obtain ⟨k1,k2,k3⟩:=key
  refine ⟨htr,by rw[eB];exact h.eb,by rw[eA,lA];exact h.la,by rw[eR,lB];exact h.lb,fun t ht=>?_,fun t ht=>?_,fun t ht=>?_⟩
  ·rw[estN]
   by_cases htt:σ=t
   ·subst htt;rw[if_pos rfl,hpc];exact k1
   ·rw[if_neg htt,hpo t htt];exact h.st t ht
  ·obtain ⟨a1,a2⟩:=k2 t ht
   have a3:=(h.qa t ht).2
   refine ⟨by unfold qA;rw[eA];exact a1,?_⟩
   rw[mo,mo]
   unfold qA
   rw[eA]
   omega
  ·obtain ⟨a1,a2⟩:=k3 t ht
   have a3:=(h.qb t ht).2
   refine ⟨by unfold qB;rw[eR];exact a1,?_⟩
   rw[mo,mo]
   unfold qB
   rw[eR]
   omega
theorem PrI.run (hS:PSt P n ops redo caps K):(l:List Int)→{p:bF}→{L:List tM}→PrI P n ops redo caps p L→PrI P n ops redo caps (hK p l) (L++aKX p l)
 | [],p,L,h=>by rw[show aKX p []=[] from rfl,List.append_nil];exact h
 | s :: l,p,L,h=>by
  have h1:=PrI.run hS l (h.step hS s)
  rw[List.append_assoc] at h1
  exact h1
end
end Go.Proofs.YtpafjioccjpmfaaGreat
