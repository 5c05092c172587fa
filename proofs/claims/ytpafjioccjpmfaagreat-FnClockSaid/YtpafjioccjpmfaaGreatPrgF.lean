/- PrgF: lemmas. No conditions. -/
import Derived.Test.YtpafjioccjpmfaaGreatPrgE
namespace Go.Proofs.YtpafjioccjpmfaaGreat
open Go.ChangeShapes Go.WideShapes Go.ChangeAt Go.RowKit Go.Deep
set_option linter.unusedVariables false
set_option linter.unusedSimpArgs false
theorem rS {f g:Nat→Nat}:(k:Nat)→(∀ i,i<k→f i=g i)→oG f k=oG g k
 | 0,_=>rfl
 | k+1,h=>by rw[oG,oG,rS k (fun i hi=>h i (by omega)),h k (by omega)]
theorem aTU {f g:Nat→Nat} {σ:Nat}:(k:Nat)→σ<k→g σ=f σ+1→(∀ i,i<k→¬ i=σ→g i=f i)→oG g k=oG f k+1
 | 0,h,_,_=>absurd h (Nat.not_lt_zero _)
 | k+1,h,h1,h2=>by
  rw[oG,oG]
  rcases Nat.lt_or_eq_of_le (Nat.le_of_lt_succ h) with h3|rfl
  ·rw[aTU k h3 h1 (fun i hi hn=>h2 i (by omega) hn),h2 k (by omega) (by omega)];omega
  ·rw[rS σ (fun i hi=>h2 i (by omega) (by omega)),h1];omega
section
variable {P p:bF} {n:Nat} {ops:Nat→List cZ} {redo:Nat→Bool} {caps:Nat→Int} {K:Nat→Nat} {L:List tM} {tm:Nat→cP→Int}
theorem TrI.pcs (h:TrI P p L) {σ:Nat} (he:cC p (σ:Int)=true) (t:Nat):gP (bR p (σ:Int)) t=if σ=t then gP p σ+1 else gP p t:=by
 obtain ⟨σ',e,hσ,hc,hi,estN,eB,eA,eR,eSt,mo⟩:=h.on he
 have:σ'=σ:=by omega
 subst this
 show (xM (bR p (σ':Int)) t).1=_
 rw[estN]
 by_cases ht:σ'=t
 ·rw[if_pos ht,if_pos ht]
  show (cS p (σ':Int)).1+1=_
  rw[aH2,eSt];rfl
 ·rw[if_neg ht,if_neg ht];rfl
theorem rY {s:Int} (he:cC p s=false):bR p s=p:=by unfold bR;rw[if_neg (by rw[he];simp)]
theorem aFF (h:TrI P p L):dD p=((oG (fun s=>(gE P s).length - (gP p s).toNat) P.2.1.length:Nat):Int):=by
 unfold dD
 have e1:(p.2.1.map pW).sum=oG (fun i=>pW (p.2.1.getD i (aP aA))) p.2.1.length:=by
  rw[← aM8 pW p.2.1 (aP aA) p.2.1.length (Nat.le_refl _),List.take_length]
 rw[e1,h.ln]
 congr 1
 refine rS _ fun i hi=>?_
 show (gE p i).length - (gP p i).toNat=_
 rw[h.pl]
theorem aIY (hS:PSt P n ops redo caps K) (h:PrI P n ops redo caps p L) {σ:Nat} (he:cC p (σ:Int)=true):dD (bR p (σ:Int))+1=dD p:=by
 obtain ⟨σ',e,hσ,hc,hi,estN,eB,eA,eR,eSt,mo⟩:=h.tr.on he
 have:σ'=σ:=by omega
 subst this
 have h2:=(h.step hS (σ':Int)).tr
 rw[aFF h.tr,aFF h2]
 have hz:=(h.tr.pc σ' hσ).1
 have:=aTU (f:=fun s=>(gE P s).length - (gP (bR p (σ':Int)) s).toNat) (g:=fun s=>(gE P s).length - (gP p s).toNat) (σ:=σ') P.2.1.length hσ (by
  try dsimp only
  rw[h.tr.pcs he,if_pos rfl];omega) (fun i hi hn=>by
  try dsimp only
  rw[h.tr.pcs he,if_neg (fun hh=>hn hh.symm)])
 omega
theorem bM2 (hS:PSt P n ops redo caps K) (h:PrI P n ops redo caps p L) (s:Int):dD (bR p s)≤dD p:=by
 cases he:cC p s with
 | false=>rw[rY he];exact Int.le_refl _
 | true =>
  obtain ⟨f1,f2,f3⟩:=jG he
  obtain ⟨σ,rfl⟩:∃ σ:Nat,s=(σ:Int):=⟨s.toNat,by omega⟩
  have:=aIY hS h he
  omega
theorem aLC (hS:PSt P n ops redo caps K):(l:List Int)→{p:bF}→{L:List tM}→PrI P n ops redo caps p L→dD (hK p l)≤dD p
 | [],p,L,h=>Int.le_refl _
 | s :: l,p,L,h=>Int.le_trans (aLC hS l (h.step hS s)) (bM2 hS h s)
theorem aRT (hS:PSt P n ops redo caps K) {s:Nat}:(l:List Int)→{p:bF}→{L:List tM}→PrI P n ops redo caps p L→(s:Int)∈l→cC p (s:Int)=true→dD (hK p l)<dD p
 | [],p,L,h,hm,_=>by cases hm
 | t :: l,p,L,h,hm,he=>by
  have h1:=aLC hS l (h.step hS t)
  cases ht:cC p t with
  | true =>
   obtain ⟨f1,f2,f3⟩:=jG ht
   obtain ⟨σ,rfl⟩:∃ σ:Nat,t=(σ:Int):=⟨t.toNat,by omega⟩
   have:=aIY hS h ht
   show dD (hK (bR p (σ:Int)) l)<dD p
   omega
  | false =>
   have hne:¬ (s:Int)=t:=fun e=>by rw[← e,he] at ht;cases ht
   have hm2:(s:Int)∈l:=(List.mem_cons.1 hm).resolve_left hne
   have h2:=h.step hS t
   rw[rY ht] at h2
   show dD (hK (bR p t) l)<dD p
   rw[rY ht]
   exact aRT hS l h2 hm2 he
theorem bLC (hS:PSt P n ops redo caps K) (h:PrI P n ops redo caps p L) {s:Nat} {t:Int} (hne:¬ t=(s:Int)) (he:cC p (s:Int)=true):cC (bR p t) (s:Int)=true:=by
 cases ht:cC p t with
 | false=>rw[rY ht];exact he
 | true =>
  obtain ⟨g1,g2,g3⟩:=jG ht
  obtain ⟨τ,rfl⟩:∃ τ:Nat,t=(τ:Int):=⟨t.toNat,by omega⟩
  have hts:¬ τ=s:=fun e=>hne (by rw[e])
  obtain ⟨f1,f2,f3⟩:=jG he
  have hk:=uG he
  obtain ⟨τ',e,hσ,hc,hi,estN,eB,eA,eR,eSt,mo⟩:=h.tr.on ht
  have:τ'=τ:=by omega
  subst this
  have h2:=h.step hS (τ':Int)
  rw[ht] at h2
  have hB:=h2.ok hS
  have hln:p.2.1.length=n:=by rw[h.tr.ln,hS.hn]
  have hln2:(bR p (τ':Int)).2.1.length=n:=by rw[h2.tr.ln,hS.hn]
  have hsn:s<n:=by omega
  have e1:aV (bR p (τ':Int)) (s:Int)=aV p (s:Int):=by
   unfold aV
   rw[hln,hln2,Int.toNat_natCast]
   have:=estN s
   rw[if_neg hts] at this
   unfold xM at this
   rw[this]
  have F2:(0:Int)≤(s:Int):=f2
  have F3:(s:Int)<((bR p (τ':Int)).2.1.length:Int):=by omega
  have hkind:(aV p (s:Int)).1=1∨(aV p (s:Int)).1=2∨(aV p (s:Int)).1=3∨(aV p (s:Int)).1=4∨(aV p (s:Int)).1=5∨(aV p (s:Int)).1=6∨(aV p (s:Int)).1=7∨(aV p (s:Int)).1=8:=by
   refine Classical.byContradiction fun hno=>?_
   rw[← bN2 (p:=p) (s:=(s:Int)) (by omega)] at he
   cases he
  rcases hkind with k|k|k|k|k|k|k|k
  ·have h0:=hk.1 k
   obtain ⟨σ,rfl⟩:∃ σ,s=σ+1:=⟨s - 1,by omega⟩
   rw[aR3 f1 f2 f3 k,Bool.and_eq_true,decide_eq_true_eq,decide_eq_true_eq,show (((σ+1:Nat):Int) - 1).toNat=σ by omega] at he
   rw[aR3 hB F2 F3 (by rw[e1];exact k),Bool.and_eq_true,decide_eq_true_eq,decide_eq_true_eq,show (((σ+1:Nat):Int) - 1).toNat=σ by omega]
   refine ⟨by omega,?_⟩
   have a1:=(h.qa σ hsn).2
   have a2:=(h2.qa σ hsn).2
   rw[mo,mo,if_neg (show ¬ ((aV p (τ':Int)).1=1∧τ'=σ+1) from fun hh=>hts hh.2)] at a2
   have a3:0<(qA p σ).2.length:=he.2
   show 0<(qA (bR p (τ':Int)) σ).2.length
   omega
  ·exact (aRH hB F2 F3 (.inl (by rw[e1];exact k))).symm
  ·have h0:=hk.2.1 k
   have hs1:s+1<n:=by omega
   rw[bAH f1 f2 f3 k,Bool.and_eq_true,decide_eq_true_eq,Int.toNat_natCast] at he
   rw[bAH hB F2 F3 (by rw[e1];exact k),Bool.and_eq_true,decide_eq_true_eq,Int.toNat_natCast]
   refine ⟨by omega,?_⟩
   have a1:=h.qa s hs1
   have a2:=h2.qa s hs1
   have a3:=he.2
   unfold uS at a3 ⊢
   rw[decide_eq_true_eq] at a3 ⊢
   have a4:=a2.2
   rw[mo,mo,if_neg (show ¬ ((aV p (τ':Int)).1=3∧τ'=s) from fun hh=>hts hh.2)] at a4
   have a5:((qA p s).2.length:Int)<(qA p s).1:=a3
   rw[a1.1.1] at a5
   show ((qA (bR p (τ':Int)) s).2.length:Int)<(qA (bR p (τ':Int)) s).1
   rw[a2.1.1]
   have:=a1.2
   omega
  ·have h0:=hk.2.2.1 k
   have hs1:s+1<n:=by omega
   rw[aRM f1 f2 f3 k,Bool.and_eq_true,decide_eq_true_eq,decide_eq_true_eq,Int.toNat_natCast] at he
   rw[aRM hB F2 F3 (by rw[e1];exact k),Bool.and_eq_true,decide_eq_true_eq,decide_eq_true_eq,Int.toNat_natCast]
   refine ⟨by omega,?_⟩
   have a1:=(h.qb s hs1).2
   have a2:=(h2.qb s hs1).2
   rw[mo,mo,if_neg (show ¬ ((aV p (τ':Int)).1=4∧τ'=s) from fun hh=>hts hh.2)] at a2
   have a3:0<(qB p s).2.length:=he.2
   show 0<(qB (bR p (τ':Int)) s).2.length
   omega
  ·exact (aRH hB F2 F3 (.inr (.inl (by rw[e1];exact k)))).symm
  ·exact (aRH hB F2 F3 (.inr (.inr (by rw[e1];exact k)))).symm
  ·have h0:=hk.2.2.2.1 k
   obtain ⟨σ,rfl⟩:∃ σ,s=σ+1:=⟨s - 1,by omega⟩
   rw[aXO f1 f2 f3 k,Bool.and_eq_true,decide_eq_true_eq,show (((σ+1:Nat):Int) - 1).toNat=σ by omega] at he
   rw[aXO hB F2 F3 (by rw[e1];exact k),Bool.and_eq_true,decide_eq_true_eq,show (((σ+1:Nat):Int) - 1).toNat=σ by omega]
   refine ⟨by omega,?_⟩
   have a1:=h.qb σ hsn
   have a2:=h2.qb σ hsn
   have a3:=he.2
   unfold uS at a3 ⊢
   rw[decide_eq_true_eq] at a3 ⊢
   have a4:=a2.2
   rw[mo,mo,if_neg (show ¬ ((aV p (τ':Int)).1=7∧τ'=σ+1) from fun hh=>hts hh.2)] at a4
   have a5:((qB p σ).2.length:Int)<(qB p σ).1:=a3
   rw[a1.1.1] at a5
   show ((qB (bR p (τ':Int)) σ).2.length:Int)<(qB (bR p (τ':Int)) σ).1
   rw[a2.1.1]
   have:=a1.2
   omega
  ·rw[bM8 f1 f2 f3 k] at he
   rw[bM8 hB F2 F3 (by rw[e1];exact k)]
   unfold bG2 at he ⊢
   rw[List.all_eq_true] at he ⊢
   intro x hx
   obtain ⟨u,hu,rfl⟩:=List.mem_iff_getElem.1 hx
   have hu2:u<p.2.1.length:=by omega
   have:=he _ (List.getElem_mem hu2)
   rw[decide_eq_true_eq] at this ⊢
   have e3:(bR p (τ':Int)).2.1[u]=xM (bR p (τ':Int)) u:=by unfold xM;rw[aW hu]
   have e4:p.2.1[u]=xM p u:=by unfold xM;rw[aW hu2]
   rw[e4] at this
   rw[e3]
   have e5:(xM (bR p (τ':Int)) u).2.1=gE P u:=h2.tr.pl u
   have e6:(xM p u).2.1=gE P u:=h.tr.pl u
   rw[e5]
   rw[e6] at this
   have e7:=h.tr.pcs ht u
   show ((gE P u).length:Int) - 1≤gP (bR p (τ':Int)) u
   have this':((gE P u).length:Int) - 1≤gP p u:=this
   rw[e7]
   split
   ·rename_i hu3;subst hu3;omega
   ·exact this'
end
end Go.Proofs.YtpafjioccjpmfaaGreat
