/- PrgJ: lemmas. No conditions. -/
import Derived.Test.YtpafjioccjpmfaaGreatPrgI
namespace Go.Proofs.YtpafjioccjpmfaaGreat
open Go.ChangeShapes Go.WideShapes Go.ChangeAt Go.RowKit Go.Deep
set_option linter.unusedVariables false
set_option linter.unusedSimpArgs false
def bNE (ops:List cZ) (pl:List cP) (first last redo:Bool) (k:Nat):Int:=(if kd pl k=2∧first=false then dM ops else 0)+(if kd pl k=3 then cH ops else 0)+(if (kd pl k=5∨kd pl k=6)∧last=false then cH ops else 0)+(if kd pl k=7 then dM ops else 0) +
 (if kd pl k=6∧redo=true then (aD3 ops:Int) else 0)+(((msF (pl.take k)).length * pI ops redo:Nat):Int)
theorem bN9 {ops:List cZ} {pl:List cP} {first last redo:Bool} {mi:Int} {K:Nat} (hC:PlC first last redo mi K pl):bNE ops pl first last redo 0=0:=by
 obtain ⟨n1,n2,n3,n4,n5⟩:=hC.n0
 unfold bNE
 rw[if_neg (fun h=>by have:=n1.1 h;omega),if_neg (fun h=>by have:=n2.1 h;omega),if_neg (fun h=>by have:=n3.1 h;omega),if_neg (fun h=>by have:=n5.1 h;omega),if_neg (fun h=>by have:=n4.1 h;omega)]
 show (0:Int)+0+0+0+0+(((0 * pI ops redo:Nat)):Int)=0
 rw[Nat.zero_mul];rfl
def aCO (f:Nat→Int):Nat→Int
 | 0=>0
 | k+1=>max (aCO f k) (f (k+1))
theorem bBL {f:Nat→Int} {B:Int} (hB:0≤B):(k:Nat)→(∀ j,1≤j→j≤k→f j≤B)→aCO f k≤B
 | 0,_=>hB
 | k+1,h=>by
  have h1:=bBL hB k fun j a b=>h j a (by omega)
  have h2:=h (k+1) (by omega) (Nat.le_refl _)
  rw[aCO];omega
theorem aSU (f:Nat→Int):(k:Nat)→0≤aCO f k∧∀ j,1≤j→j≤k→f j≤aCO f k
 | 0=>⟨Int.le_refl _,fun j a b=>by omega⟩
 | k+1=>by
  obtain ⟨i1,i2⟩:=aSU f k
  refine ⟨by rw[aCO];omega,fun j a b=>?_⟩
  rw[aCO]
  rcases Nat.lt_or_eq_of_le b with h|rfl
  ·have:=i2 j a (by omega);omega
  ·omega
def fO (o:List aUA) (s:Int):Int:=o.foldr (fun e a=>if e.1=s then max e.2 a else a) 0
theorem aJH (s:Int):(o:List aUA)→0≤fO o s
 | []=>Int.le_refl _
 | e :: o=>by
  have:=aJH s o
  show 0≤(if e.1=s then max e.2 (fO o s) else fO o s)
  split <;> omega
section
variable {c:bB} {b:List cB}
noncomputable def lA (c:bB) (b:List cB) (s k:Nat):Int:=bNE (kP c s) (gE (bA c b) s) (decide (s=0)) (decide (s+1=(bA c b).2.1.length)) (c.2.2.2.1.getD s false) k
abbrev PrC (c:bB) (b:List cB) (p:bF) (L:List tM):Prop:=PrI (bA c b) (bA c b).2.1.length (kP c) (fun s=>c.2.2.2.1.getD s false) (fun s=>c.2.2.2.2.1.getD s 0) p L
theorem bJD {p:bF} {L:List tM} (hp:PrC c b p L) {s:Nat} (hs:s<(bA c b).2.1.length):vC (xM p s)=lA c b s (gP p s).toNat:=(hp.st s hs).led
theorem aYV (h:cE c b=0) {m:Nat} (hm:xB c b=((m:Int),kG (bA c b) m,iU (bA c b) m,true)) (he:dD (bQ (bA c b) m)=0) {t:Nat} (ht:t<(bA c b).2.1.length):(iU (bA c b) m).getD t 0=aCO (lA c b t) (gE (bA c b) t).length:=by
 have hS:=lP h
 have hT:=aJR h
 have hI:=aFE h
 have h0:=aFN h
 obtain ⟨Lm,im⟩:=mS hS hI m
 have hpc:=aRX im.tr he ht
 have hM:=aQF hS hT hI ht m
 have hX:=aSU (lA c b t) (gE (bA c b) t).length
 refine Int.le_antisymm (hM.2 _ hX.1 fun j h1 h2=>?_) (bBL (aRB (bA c b) m t).1 _ fun j h1 h2=>?_)
 ·obtain ⟨Lj,ij⟩:=mS hS hI j
  rw[bJD ij ht]
  have hp:=ij.tr.pc t ht
  by_cases hz:(gP (bQ (bA c b) j) t).toNat=0
  ·rw[hz];unfold lA;rw[bN9 (hS.plc t ht)];exact hX.1
  ·exact hX.2 _ (by omega) (by omega)
 ·obtain ⟨k',k1,k2,k3⟩:=aED hS hT hI h0 ht (j:=(j:Int)) (by omega) m (by omega)
  obtain ⟨Lk,ik⟩:=mS hS hI k'
  have:=hM.1 k' k1 k2
  rw[bJD ik ht,k3,Int.toNat_natCast] at this
  exact this
theorem aF9 (p:bF) (s:Int) (l:List Int):mV p (s :: l)=(if cC p s=true then [(s,vC ((bR p s).2.1.getD s.toNat (aP aA)))] else [])++mV (bR p s) l:=rfl
theorem aVX (h:cE c b=0) {t:Nat} (ht:t<(bA c b).2.1.length):(l:List Int)→{p:bF}→{L:List tM}→PrC c b p L→max (aCO (lA c b t) (gP p t).toNat) (fO (mV p l) (t:Int))=aCO (lA c b t) (gP (hK p l) t).toNat
 | [],p,L,hp=>by
  have:=(aSU (lA c b t) (gP p t).toNat).1
  show max (aCO (lA c b t) (gP p t).toNat) 0=aCO (lA c b t) (gP p t).toNat
  omega
 | s :: l,p,L,hp=>by
  have ih:=aVX h ht l (hp.step (lP h) s)
  have hnn:=aJH (t:Int) (mV (bR p s) l)
  rw[aF9]
  show _=aCO (lA c b t) (gP (hK (bR p s) l) t).toNat
  rw[← ih]
  cases he:cC p s with
  | false=>rw[if_neg (by decide),rY he];rfl
  | true =>
   rw[if_pos rfl]
   obtain ⟨f1,f2,f3⟩:=jG he
   obtain ⟨σ,rfl⟩:∃ σ:Nat,s=(σ:Int):=⟨s.toNat,by omega⟩
   have hpc:=hp.tr.pcs he t
   have h2:=hp.step (lP h) (σ:Int)
   show max (aCO (lA c b t) (gP p t).toNat) (if (σ:Int)=(t:Int) then max (vC ((bR p (σ:Int)).2.1.getD (σ:Int).toNat (aP aA))) (fO (mV (bR p (σ:Int)) l) (t:Int)) else fO (mV (bR p (σ:Int)) l) (t:Int))=_
   by_cases hst:σ=t
   ·subst hst
    rw[if_pos rfl] at hpc ⊢
    have hz:=(hp.tr.pc σ ht).1
    rw[Int.toNat_natCast,show (bR p (σ:Int)).2.1.getD σ (aP aA)=xM (bR p (σ:Int)) σ from rfl,bJD h2 ht,hpc,show (gP p σ+1).toNat=(gP p σ).toNat+1 by omega,aCO]
    omega
   ·rw[if_neg hst] at hpc
    rw[if_neg (show ¬ (σ:Int)=(t:Int) by omega),hpc]
theorem bBB (h:cE c b=0):(l:List Int)→{p:bF}→{L:List tM}→PrC c b p L→((mV p l).length:Int)=dD p - dD (hK p l)
 | [],p,L,hp=>by show (0:Int)=dD p - dD p;omega
 | s :: l,p,L,hp=>by
  have ih:=bBB h l (hp.step (lP h) s)
  rw[aF9,List.length_append]
  show _=dD p - dD (hK (bR p s) l)
  cases he:cC p s with
  | false=>rw[if_neg (by decide)];rw[rY he] at ih ⊢;rw[List.length_nil];omega
  | true =>
   obtain ⟨f1,f2,f3⟩:=jG he
   obtain ⟨σ,rfl⟩:∃ σ:Nat,s=(σ:Int):=⟨s.toNat,by omega⟩
   have:=aIY (lP h) hp he
   rw[if_pos rfl,List.length_singleton];omega
theorem bG5 (h:cE c b=0):(l:List Int)→{p:bF}→{L:List tM}→PrC c b p L→∀ e∈mV p l,(0≤e.1∧e.1<((bA c b).2.1.length:Int))∧0≤e.2∧e.2≤jD c e.1 (b.length:Int)
 | [],p,L,hp,e,he=>by cases he
 | s :: l,p,L,hp,e,hm=>by
  have h2:=hp.step (lP h) s
  rw[aF9] at hm
  rcases List.mem_append.1 hm with hm|hm
  ·cases he:cC p s with
   | false=>rw[he,if_neg (by decide)] at hm;cases hm
   | true =>
    rw[he,if_pos rfl] at hm
    obtain ⟨f1,f2,f3⟩:=jG he
    obtain ⟨σ,rfl⟩:∃ σ:Nat,s=(σ:Int):=⟨s.toNat,by omega⟩
    rw[List.mem_singleton] at hm
    subst hm
    have hln:=hp.tr.ln
    have hσ:σ<(bA c b).2.1.length:=by omega
    dsimp only
    rw[Int.toNat_natCast]
    exact ⟨⟨by omega,by omega⟩,(bG0 _).1,aT6 h h2 hσ⟩
  ·exact bG5 h l h2 e hm
def rrL (r N:Nat):List Int:=(List.range N).map fun i=>(((i % r:Nat)):Int)
theorem bJ7 {r k:Nat} (hr:0<r):rrL r (r * (k+1))=rrL r (r * k)++(List.range r).map fun i=>((i:Nat):Int):=by
 unfold rrL
 rw[Nat.mul_succ,List.range_add,List.map_append,List.map_map]
 congr 1
 refine List.map_congr_left fun i hi=>?_
 show (((r * k+i) % r:Nat):Int)=(i:Int)
 rw[Nat.mul_add_mod,Nat.mod_eq_of_lt (List.mem_range.1 hi)]
theorem bCI (h:cE c b=0) {r:Nat} (hr:r=(bA c b).2.1.length):(k:Nat)→dD (hK (bA c b) (rrL r (r * k)))≤max 0 ((mT c b:Int) - (k:Int))
 | 0=>by
  have:=aLU h
  show dD (bA c b)≤_
  omega
 | k+1=>by
  have hS:=lP h
  have hT:=aJR h
  have hI:=aFE h
  have hl:=pG h
  have ih:=bCI h hr k
  have hk:=hI.run hS (rrL r (r * k))
  rw[bJ7 (show 0<r by omega),aLP]
  have h0:=aJ1 (hK (bA c b) (rrL r (r * k)))
  by_cases hz:dD (hK (bA c b) (rrL r (r * k)))=0
  ·have:=aLC hS ((List.range r).map fun i=>((i:Nat):Int)) hk
   omega
  ·obtain ⟨s,hs,he⟩:=prog hS hT hk (by omega)
   have:=aRT hS ((List.range r).map fun i=>((i:Nat):Int)) hk (s:=s) (List.mem_map.2 ⟨s,List.mem_range.2 (by omega),rfl⟩) he
   omega
end
end Go.Proofs.YtpafjioccjpmfaaGreat
