/- PrgG: lemmas. No conditions. -/
import Derived.Test.YtpafjioccjpmfaaGreatPrgF
namespace Go.Proofs.YtpafjioccjpmfaaGreat
open Go.ChangeShapes Go.WideShapes Go.ChangeAt Go.RowKit Go.Deep
set_option linter.unusedVariables false
set_option linter.unusedSimpArgs false
section
variable {P q:bF} {n:Nat} {ops:Nat→List cZ} {redo:Nat→Bool} {caps:Nat→Int} {K:Nat→Nat} {L:List tM} {tm:Nat→cP→Int}
theorem bCY (hS:PSt P n ops redo caps K) (h:PrI P n ops redo caps q L):(k:Nat)→k≤n→(∃ L',PrI P n ops redo caps (hK q (jU q k)) L')∧(∀ t:Nat,gP (hK q (jU q k)) t=gP q t+(if t<k∧cC q (t:Int)=true then 1 else 0)) ∧
  dD (hK q (jU q k))+((jU q k).length:Int)=dD q∧∀ u:Nat,k≤u→cC q (u:Int)=true→cC (hK q (jU q k)) (u:Int)=true
 | 0,_=>⟨⟨L,h⟩,fun t=>by rw[if_neg (fun hh=>Nat.not_lt_zero _ hh.1)];exact (Int.add_zero _).symm,Int.add_zero _,fun u _ he=>he⟩
 | k+1,hk=>by
  obtain ⟨⟨L1,i1⟩,i2,i3,i4⟩:=bCY hS h k (by omega)
  cases he:cC q (k:Int) with
  | false =>
   have e:jU q (k+1)=jU q k:=by rw[jU,if_neg (by rw[he];decide),List.append_nil]
   rw[e]
   refine ⟨⟨L1,i1⟩,fun t=>?_,i3,fun u hu=>i4 u (by omega)⟩
   rw[i2 t]
   by_cases ht:t=k
   ·subst ht
    rw[if_neg (fun hh=>Nat.lt_irrefl _ hh.1),if_neg (fun hh=>by rw[he] at hh;cases hh.2)]
   ·have:(t<k∧cC q (t:Int)=true)↔(t<k+1∧cC q (t:Int)=true):=⟨fun hh=>⟨by omega,hh.2⟩,fun hh=>⟨by omega,hh.2⟩⟩
    by_cases hh:t<k∧cC q (t:Int)=true
    ·rw[if_pos hh,if_pos (this.1 hh)]
    ·rw[if_neg hh,if_neg (fun h2=>hh (this.2 h2))]
  | true =>
   have e:jU q (k+1)=jU q k++[(k:Int)]:=by rw[jU,if_pos he]
   rw[e,aMR]
   have h1:=i4 k (Nat.le_refl _) he
   have h2:=aIY hS i1 h1
   refine ⟨⟨_,i1.step hS (k:Int)⟩,fun t=>?_,?_,fun u hu hu2=>bLC hS i1 (fun hh=>by omega) (i4 u (by omega) hu2)⟩
   ·rw[i1.tr.pcs h1 t,i2 t,i2 k]
    by_cases ht:k=t
    ·subst ht
     rw[if_pos rfl,if_neg (fun hh=>Nat.lt_irrefl _ hh.1),if_pos ⟨Nat.lt_succ_self _,he⟩,Int.add_zero]
    ·rw[if_neg ht]
     have:(t<k∧cC q (t:Int)=true)↔(t<k+1∧cC q (t:Int)=true):=⟨fun hh=>⟨by omega,hh.2⟩,fun hh=>⟨by omega,hh.2⟩⟩
     by_cases hh:t<k∧cC q (t:Int)=true
     ·rw[if_pos hh,if_pos (this.1 hh)]
     ·rw[if_neg hh,if_neg (fun h2=>hh (this.2 h2))]
   ·rw[List.length_append,List.length_singleton];omega
theorem mS (hS:PSt P n ops redo caps K) (h:PrI P n ops redo caps P []):(k:Nat)→∃ L,PrI P n ops redo caps (bQ P k) L
 | 0=>⟨[],h⟩
 | k+1=>by
  obtain ⟨L,i⟩:=mS hS h k
  exact ⟨_,i.run hS (iY (bQ P k))⟩
theorem aCL (hS:PSt P n ops redo caps K) (hT:PTm P n tm) (h:PrI P n ops redo caps P []) (k:Nat):(∀ t:Nat,t<n→gP (bQ P (k+1)) t=gP (bQ P k) t+(if cC (bQ P k) (t:Int)=true then 1 else 0)) ∧
  dD (bQ P (k+1))+((iY (bQ P k)).length:Int)=dD (bQ P k)∧(0<dD (bQ P k)→1≤(iY (bQ P k)).length):=by
 obtain ⟨L,i⟩:=mS hS h k
 have hl:(bQ P k).2.1.length=n:=by rw[i.tr.ln,hS.hn]
 obtain ⟨h1,h2,h3,h4⟩:=bCY hS i n (Nat.le_refl _)
 have e:iY (bQ P k)=jU (bQ P k) n:=by unfold iY;rw[hl]
 refine ⟨fun t ht=>?_,by rw[bQ,e];exact h3,fun h0=>?_⟩
 ·rw[bQ,e,h2 t]
  by_cases hh:cC (bQ P k) (t:Int)=true
  ·rw[if_pos ⟨ht,hh⟩,if_pos hh]
  ·rw[if_neg (fun h5=>hh h5.2),if_neg hh]
 ·obtain ⟨s,hs,he⟩:=prog hS hT i h0
  have:=aRT hS (iY (bQ P k)) i (s:=s) (by
   rw[e]
   have:∀ m,s<m→(s:Int)∈jU (bQ P k) m:=fun m=>by
    induction m with
    | zero=>intro h;omega
    | succ m ih =>
     intro h
     rw[jU]
     rcases Nat.lt_or_eq_of_le (Nat.le_of_lt_succ h) with h5|rfl
     ·exact List.mem_append_left _ (ih h5)
     ·rw[if_pos he];exact List.mem_append_right _ (List.mem_singleton.2 rfl)
   exact this n hs) he
  have h3':=h3
  rw[← e] at h3'
  omega
theorem aJ1 (p:bF):0≤dD p:=(bLL p).1
theorem aPH (hS:PSt P n ops redo caps K) (hT:PTm P n tm) (h:PrI P n ops redo caps P []):(f k:Nat)→dD (bQ P k)≤(f:Int)→∃ m,k≤m∧m≤k+f∧dD (bQ P m)=0∧(∀ j,k≤j→j<m→0<dD (bQ P j))∧∀ F,f≤F→zI P F k=aY3 P m
 | 0,k,hf=>by
  have h0:=aJ1 (bQ P k)
  have hz:dD (bQ P k)=0:=by omega
  exact ⟨k,Nat.le_refl _,Nat.le_refl _,hz,fun j h1 h2=>by omega,fun F _=>aGN hz F⟩
 | f+1,k,hf=>by
  by_cases hz:dD (bQ P k)=0
  ·exact ⟨k,Nat.le_refl _,by omega,hz,fun j h1 h2=>by omega,fun F _=>aGN hz F⟩
  ·have h0:=aJ1 (bQ P k)
   obtain ⟨t1,t2,t3⟩:=aCL hS hT h k
   have:=t3 (by omega)
   obtain ⟨m,m1,m2,m3,m4,m5⟩:=aPH hS hT h f (k+1) (by omega)
   refine ⟨m,by omega,by omega,m3,fun j h1 h2=>?_,fun F hF=>?_⟩
   ·rcases Nat.lt_or_eq_of_le h1 with h3|rfl
    ·exact m4 j h3 h2
    ·omega
   ·obtain ⟨F',rfl⟩:∃ F',F=F'+1:=⟨F - 1,by omega⟩
    rw[← m5 F' (by omega)]
    exact if_neg hz
theorem aOX {l:List Int} {i t:Nat} {x:Int} (ht:t<l.length):(l.set i x).getD t 0=if i=t then x else l.getD t 0:=by
 rw[hZ]
 by_cases h:i=t
 ·rw[if_pos ⟨h,ht⟩,if_pos h]
 ·rw[if_neg (fun hh=>h hh.1),if_neg h]
theorem aKB (q:bF) (b rest:List Int) {t:Nat} (ht:t<b.length):(k:Nat)→(qN (jU q k++rest) b (jU q k).length).getD t 0=b.getD t 0+(if t<k∧cC q (t:Int)=true then 1 else 0)
 | 0=>by rw[if_neg (fun hh=>Nat.not_lt_zero _ hh.1),Int.add_zero];rfl
 | k+1=>by
  cases he:cC q (k:Int) with
  | false =>
   have e:jU q (k+1)=jU q k:=by rw[jU,if_neg (by rw[he];decide),List.append_nil]
   rw[e,aKB q b rest ht k]
   by_cases htk:t=k
   ·subst htk
    rw[if_neg (fun hh=>Nat.lt_irrefl _ hh.1),if_neg (fun hh=>by rw[he] at hh;cases hh.2)]
   ·by_cases hh:t<k∧cC q (t:Int)=true
    ·rw[if_pos hh,if_pos ⟨by omega,hh.2⟩]
    ·rw[if_neg hh,if_neg (fun h2=>hh ⟨by omega,h2.2⟩)]
  | true =>
   have e:jU q (k+1)=jU q k++[(k:Int)]:=by rw[jU,if_pos he]
   rw[e,List.append_assoc,List.length_append,List.length_singleton]
   show ((qN (jU q k++([(k:Int)]++rest)) b (jU q k).length).set ((jU q k++([(k:Int)]++rest)).getD (jU q k).length 0).toNat _).getD t 0=_
   have e2:(jU q k++([(k:Int)]++rest)).getD (jU q k).length 0=(k:Int):=by
    rw[List.getD_eq_getElem?_getD,List.getElem?_append_right (Nat.le_refl _),Nat.sub_self];rfl
   rw[aOX (by rw[aCF];exact ht),e2,Int.toNat_natCast]
   have ih:=fun t ht=>aKB q b ([(k:Int)]++rest) (t:=t) ht k
   by_cases htk:k=t
   ·subst htk
    rw[if_pos rfl,ih k ht,if_neg (fun hh=>Nat.lt_irrefl _ hh.1),if_pos ⟨Nat.lt_succ_self _,he⟩];omega
   ·rw[if_neg htk,ih t ht]
    by_cases hh:t<k∧cC q (t:Int)=true
    ·rw[if_pos hh,if_pos ⟨by omega,hh.2⟩]
    ·rw[if_neg hh,if_neg (fun h2=>hh ⟨by omega,h2.2⟩)]
theorem bCO (hS:PSt P n ops redo caps K) (hT:PTm P n tm) (h:PrI P n ops redo caps P []) (h0:∀ s,s<n→gP P s=0):(k:Nat)→∀ t,t<n→(kG P k).getD t 0=gP (bQ P k) t
 | 0,t,ht=>by
  rw[show gP (bQ P 0) t=0 from h0 t ht]
  show (List.replicate P.2.1.length (0:Int)).getD t 0=0
  rw[aW (by rw[List.length_replicate,hS.hn];exact ht),List.getElem_replicate]
 | k+1,t,ht=>by
  obtain ⟨L,i⟩:=mS hS h k
  have hl:(bQ P k).2.1.length=n:=by rw[i.tr.ln,hS.hn]
  have hb:(kG P k).length=n:=by rw[aBQ,hS.hn]
  have h1:=aKB (bQ P k) (kG P k) [] (t:=t) (by omega) n
  rw[List.append_nil] at h1
  have e:iY (bQ P k)=jU (bQ P k) n:=by unfold iY;rw[hl]
  rw[kG,e,h1,bCO hS hT h h0 k t ht,(aCL hS hT h k).1 t ht]
  by_cases hh:cC (bQ P k) (t:Int)=true
  ·rw[if_pos ⟨ht,hh⟩,if_pos hh]
  ·rw[if_neg (fun h5=>hh h5.2),if_neg hh]
theorem bGC (q:bF) (b:List Int) {t:Nat} (ht:t<b.length):(j:Nat)→(upK q b j).getD t 0=if t<j then max (b.getD t 0) (vC (xM q t)) else b.getD t 0
 | 0=>by rw[if_neg (Nat.not_lt_zero _)];rfl
 | j+1=>by
  show ((upK q b j).set j _).getD t 0=_
  rw[aOX (by rw[aIZ];exact ht)]
  by_cases htj:j=t
  ·subst htj
   rw[if_pos rfl,if_pos (Nat.lt_succ_self _),bGC q b ht j,if_neg (Nat.lt_irrefl _)];rfl
  ·rw[if_neg htj,bGC q b ht j]
   by_cases h:t<j
   ·rw[if_pos h,if_pos (by omega)]
   ·rw[if_neg h,if_neg (by omega)]
theorem aQF (hS:PSt P n ops redo caps K) (hT:PTm P n tm) (h:PrI P n ops redo caps P []) {t:Nat} (ht:t<n):(k:Nat)→(∀ j,1≤j→j≤k→vC (xM (bQ P j) t)≤(iU P k).getD t 0)∧∀ B:Int,0≤B→(∀ j,1≤j→j≤k→vC (xM (bQ P j) t)≤B)→(iU P k).getD t 0≤B
 | 0=>by
  have e:(iU P 0).getD t 0=0:=by
   show (List.replicate P.2.1.length (0:Int)).getD t 0=0
   rw[aW (by rw[List.length_replicate,hS.hn];exact ht),List.getElem_replicate]
  exact ⟨fun j h1 h2=>by omega,fun B hB _=>by rw[e];exact hB⟩
 | k+1=>by
  obtain ⟨i1,i2⟩:=aQF hS hT h ht k
  obtain ⟨L,i⟩:=mS hS h (k+1)
  have hl:(bQ P (k+1)).2.1.length=n:=by rw[i.tr.ln,hS.hn]
  have hm:(iU P k).length=n:=by rw[wN,hS.hn]
  have e:(iU P (k+1)).getD t 0=max ((iU P k).getD t 0) (vC (xM (bQ P (k+1)) t)):=by
   show (upK (bQ P (k+1)) (iU P k) (bQ P (k+1)).2.1.length).getD t 0=_
   rw[bGC _ _ (by omega),hl,if_pos ht]
  rw[e]
  refine ⟨fun j h1 h2=>?_,fun B hB hj=>?_⟩
  ·rcases Nat.lt_or_eq_of_le h2 with h3|rfl
   ·have:=i1 j h1 (by omega);omega
   ·omega
  ·have a:=i2 B hB fun j h1 h2=>hj j h1 (by omega)
   have b:=hj (k+1) (by omega) (Nat.le_refl _)
   omega
end
end Go.Proofs.YtpafjioccjpmfaaGreat
