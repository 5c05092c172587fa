/- PrgH: lemmas. No conditions. -/
import Derived.Test.YtpafjioccjpmfaaGreatPrgG
namespace Go.Proofs.YtpafjioccjpmfaaGreat
open Go.ChangeShapes Go.WideShapes Go.ChangeAt Go.RowKit Go.Deep
set_option linter.unusedVariables false
set_option linter.unusedSimpArgs false
theorem bG1 {v:List Int} {n:Int} (h:cN v n=true):(v.length:Int)=n:=((fF v n).1 h).2
theorem aPF (r:dG):kJ r=oG (fun i=>((r.getD i []):List Int).length) (List.length r):=by
 unfold kJ
 rw[← aM8 List.length r [] (List.length r) (Nat.le_refl _),List.take_length]
def aD3 (m:List cZ):Nat:=oG (fun i=>(gI m i).toNat) (m.length+1)
def pI (m:List cZ) (redo:Bool):Nat:=if redo=true then (dM m).toNat else aD3 m
theorem aM2 {m:List cZ} {r:dG} (h:aKG m r):kJ r=aD3 m:=by
 rw[aPF,h.1]
 unfold aD3
 refine rS _ fun i hi=>?_
 have:=bG1 (h.2 i (by omega))
 omega
theorem aTE {m:List cZ} {redo:Bool} {x:gK} (hm:bO m=true) (h:kX m redo x=true):kJ x.2=pI m redo:=by
 obtain ⟨h1,h2⟩:=(sE m redo x).1 h
 unfold pI
 cases redo with
 | true =>
  rw[if_pos rfl,aPF,h1]
  have:=bG1 (h2 0 (by show 0<1;decide))
  rw[aG1 hm] at this
  show 0+(x.2.getD 0 []).length=_
  omega
 | false =>
  rw[if_neg (by decide)]
  exact aM2 ⟨h1,fun i hi=>h2 i (by show i<m.length+1;omega)⟩
theorem aOS {m:List cZ} {redo:Bool} (hm:bO m=true):(l:List gK)→l.all (kX m redo)=true→yG l=l.length * pI m redo
 | [],_=>by unfold yG;simp
 | x :: l,h=>by
  rw[List.all_cons,Bool.and_eq_true] at h
  have h1:=aTE hm h.1
  have h2:=aOS hm l h.2
  unfold yG at h2 ⊢
  rw[List.map_cons,List.sum_cons,h2,h1,List.length_cons,Nat.succ_mul];omega
theorem bBT {c:Prop} [Decidable c] {v:List Int} {n:Int} (h:if c then cN v n=true else v=[]):(v.length:Int)=if c then n else 0:=by
 by_cases hc:c
 ·rw[if_pos hc] at h ⊢;exact bG1 h
 ·rw[if_neg hc] at h ⊢;rw[h];rfl
section
variable {ops:List cZ} {pl:List cP} {first last redo:Bool} {mi:Int} {K:Nat} {k:Nat} {x:bG}
theorem StI.led (h:StI ops pl first last redo k x):vC x=(if kd pl k=2∧first=false then dM ops else 0)+(if kd pl k=3 then cH ops else 0)+(if (kd pl k=5∨kd pl k=6)∧last=false then cH ops else 0)+(if kd pl k=7 then dM ops else 0) +
  (if kd pl k=6∧redo=true then (aD3 ops:Int) else 0)+(((msF (pl.take k)).length * pI ops redo:Nat):Int):=by
 have hm:=h.mB
 have l1:=bBT h.vX
 have l2:=bBT h.vY
 have l3:=bBT h.vG
 have l4:=bBT h.vD
 have l5:(kJ x.2.2.2.2.2.2.1:Int)=if kd pl k=6∧redo=true then (aD3 ops:Int) else 0:=by
  have v:=h.vF
  by_cases hc:kd pl k=6∧redo=true
  ·rw[if_pos hc] at v ⊢;rw[aM2 v]
  ·rw[if_neg hc] at v ⊢;rw[v];rfl
 have l6:yG x.2.2.2.2.2.1=(msF (pl.take k)).length * pI ops redo:=by
  have hs:=((cD x).1 h.st).2.2.2.1
  rw[h.e3,h.e5] at hs
  rw[aOS hm _ hs,← h.ms,List.length_map]
 unfold vC
 rw[l6]
 rw[Int.natCast_add,Int.natCast_add,Int.natCast_add,Int.natCast_add,Int.natCast_add,l1,l2,l3,l4,l5]
 try omega
theorem bMW (hC:PlC first last redo mi K pl):(k:Nat)→k≤pl.length→(msF (pl.take k)).length≤K
 | 0,_=>Nat.zero_le _
 | k+1,hk=>by
  have ih:=bMW hC k (by omega)
  have hi:=(hC.i1 k (by omega)).2.2.2.2.2.2.2.1
  rw[aG0 (show k<pl.length by omega)]
  unfold aI6
  split
  ·rename_i h2
   have:=(hi h2).2
   rw[List.length_append,List.length_singleton];omega
  ·split
   ·rw[List.length_drop];omega
   ·exact ih
theorem StI.led_le (hC:PlC first last redo mi K pl) (h:StI ops pl first last redo k x) (hk:k≤pl.length):vC x≤((K * pI ops redo:Nat):Int)+max (dM ops) (cH ops)+(if redo=true then (aD3 ops:Int) else 0):=by
 rw[h.led]
 have h1:=Nat.mul_le_mul_right (pI ops redo) (bMW hC k hk)
 have hm:=h.mB
 have hl:=(bM ops).1 hm
 have i1:1≤dM ops∧1≤cH ops:=by
  have s1:=aG1 hm
  have s2:=tO hm
  have o1:=(iO ops (show 0<ops.length by omega)).1 (hl.2.2 0 (by omega))
  have o2:=(iO ops (show ops.length - 1<ops.length by omega)).1 (hl.2.2 (ops.length - 1) (by omega))
  have p1:=((eH _).1 o1.1).1
  have p2:=((eH _).1 o2.1).1
  unfold dM cH
  rw[if_pos hm,if_pos hm,aW (show 0<ops.length by omega),aW (show ops.length - 1<ops.length by omega)]
  exact ⟨p1.2.2.1,p2.2.2.2.2.1⟩
 by_cases hr:redo=true
 ·rw[if_pos hr]
  by_cases k6:kd pl k=6
  ·rw[if_neg (show ¬ (kd pl k=2∧first=false) from fun hh=>by omega),if_neg (show ¬ kd pl k=3 by omega),if_neg (show ¬ kd pl k=7 by omega),if_pos (show kd pl k=6∧redo=true from ⟨k6,hr⟩)]
   split <;> omega
  ·rw[if_neg (show ¬ (kd pl k=6∧redo=true) from fun hh=>k6 hh.1)]
   repeat' split
   all_goals omega
 ·rw[if_neg hr,if_neg (show ¬ (kd pl k=6∧redo=true) from fun hh=>hr hh.2)]
  repeat' split
  all_goals omega
theorem StI.led_ge (h:StI ops pl first last redo k x) (hk:1≤(msF (pl.take k)).length):(pI ops redo:Int)≤vC x:=by
 rw[h.led]
 have h1:=Nat.mul_le_mul_right (pI ops redo) hk
 have hi:0≤dM ops∧0≤cH ops:=by
  have hm:=h.mB
  have hl:=(bM ops).1 hm
  have o1:=(iO ops (show 0<ops.length by omega)).1 (hl.2.2 0 (by omega))
  have o2:=(iO ops (show ops.length - 1<ops.length by omega)).1 (hl.2.2 (ops.length - 1) (by omega))
  have p1:=((eH _).1 o1.1).1
  have p2:=((eH _).1 o2.1).1
  unfold dM cH
  rw[if_pos hm,if_pos hm,aW (show 0<ops.length by omega),aW (show ops.length - 1<ops.length by omega)]
  omega
 repeat' split
 all_goals omega
end
section
variable {c:bB} {b:List cB}
theorem bBR (m:List cZ) (hm:bO m=true) (a:Nat):(k:Nat)→a+k≤m.length→oQ m (a:Int) k=((oG (fun i=>((m.getD (a+i) qY).2.1).toNat) k:Nat):Int)
 | 0,_=>rfl
 | k+1,h=>by
  rw[oQ,oG,bBR m hm a k (by omega)]
  have:=aBM hm (i:=(a:Int)+(k:Int)) (by omega) (by omega)
  unfold aE2 at this ⊢
  rw[show ((a:Int)+(k:Int)).toNat=a+k by omega] at this ⊢
  omega
theorem aPV (h:cE c b=0) {s:Nat} (hs:s<(bA c b).2.1.length):dM (kP c s)=inF c (s:Int)∧cH (kP c s)=oJ c (s:Int)∧(aD3 (kP c s):Int)=mE c (s:Int)∧(pI (kP c s) (c.2.2.2.1.getD s false):Int)=fY c (s:Int)∧lM c (s:Int)=c.2.2.2.1.getD s false:=by
 obtain ⟨h1,h2,h3,h4,h5,h6⟩:=aFV h hs
 obtain ⟨a1,a2,a3,a4,a5,a6,a7,a8⟩:=iZ h
 have hn:=kN h
 obtain ⟨e1,e2⟩:=aJO h hs
 have hr:=aCE a3 (show (0:Int)≤(s:Int) by omega) (show (s:Int)≤(c.2.1.length:Int) by omega)
 have ei:dM (kP c s)=inF c (s:Int):=by
  rw[e1];unfold inF aE2;rw[if_pos hr.2.1]
 have eo:cH (kP c s)=oJ c (s:Int):=by
  rw[e2];unfold oJ aCQ;rw[if_pos hr.2.1,show ((aY c.1 c.2.1 (s:Int)).2 - 1).toNat=(aY c.1 c.2.1 (s:Int)).2.toNat - 1 by omega]
 have ef:(aD3 (kP c s):Int)=mE c (s:Int):=by
  unfold aD3 mE
  rw[oG,tO h4,← eo]
  have hk:=bBR c.1 h1 (aY c.1 c.2.1 (s:Int)).1.toNat ((aY c.1 c.2.1 (s:Int)).2 - (aY c.1 c.2.1 (s:Int)).1).toNat (by omega)
  rw[Int.toNat_of_nonneg hr.1] at hk
  rw[hk]
  have hc:oG (fun i=>(gI (kP c s) i).toNat) (kP c s).length=oG (fun i=>((List.getD c.1 ((aY c.1 c.2.1 (s:Int)).1.toNat+i) qY).2.1).toNat) ((aY c.1 c.2.1 (s:Int)).2 - (aY c.1 c.2.1 (s:Int)).1).toNat:=by
   rw[show (kP c s).length=((aY c.1 c.2.1 (s:Int)).2 - (aY c.1 c.2.1 (s:Int)).1).toNat by omega]
   refine rS _ fun i hi=>?_
   rw[xI (by omega),h6 i (by omega)]
  rw[hc]
  have:0≤cH (kP c s):=by
   have ho:=aBM h1 (i:=(aY c.1 c.2.1 (s:Int)).2 - 1) (by omega) (by omega)
   rw[eo];unfold oJ;rw[if_pos hr.2.1];omega
  omega
 have er:lM c (s:Int)=c.2.2.2.1.getD s false:=by
  unfold lM
  rw[decide_eq_true (show 0≤(s:Int)∧(s:Int)<(c.2.2.2.1.length:Int) by omega),Int.toNat_natCast];rfl
 refine ⟨ei,eo,ef,?_,er⟩
 unfold pI fY
 rw[er]
 split
 ·have ho:=aBM h1 (i:=(aY c.1 c.2.1 (s:Int)).1) hr.1 (by omega)
  have:0≤dM (kP c s):=by rw[ei];unfold inF;rw[if_pos hr.2.1];omega
  omega
 ·exact ef
theorem aT6 (h:cE c b=0) {p:bF} {L:List tM} (hp:PrI (bA c b) (bA c b).2.1.length (kP c) (fun s=>c.2.2.2.1.getD s false) (fun s=>c.2.2.2.2.1.getD s 0) p L) {s:Nat} (hs:s<(bA c b).2.1.length) :
  vC (xM p s)≤jD c (s:Int) (b.length:Int):=by
 obtain ⟨a1,a2,a3,a4,a5,a6,a7,a8⟩:=iZ h
 have hn:=kN h
 have hb:=((nC _ _).1 a2).2.1
 obtain ⟨w1,w2,w3,w4,w5⟩:=aPV h hs
 have hS:=lP h
 have hpc:=hp.tr.pc s hs
 have hl:=(hp.st s hs).led_le (hS.plc s hs) (by omega)
 have hr:=aCE a3 (show (0:Int)≤(s:Int) by omega) (show (s:Int)≤(c.2.1.length:Int) by omega)
 have e:jD c (s:Int) (b.length:Int)=(if c.2.2.1=2 then min (b.length:Int) ((c.2.1.length:Int)+1 - (s:Int)) else (b.length:Int)) * fY c (s:Int)+max (inF c (s:Int)) (oJ c (s:Int))+(if lM c (s:Int)=true then mE c (s:Int) else 0):=if_pos ⟨hr.2.1,by omega,by omega,by omega⟩
 rw[e,← w4,← w1,← w2,← w3,w5]
 have ek:((Kf c.2.2.1 (bC c.1 c.2.1) (b.length:Int) (s:Int):Nat):Int)=(if c.2.2.1=2 then min (b.length:Int) ((c.2.1.length:Int)+1 - (s:Int)) else (b.length:Int)):=by
  unfold Kf
  split <;> omega
 rw[← ek,← Int.natCast_mul]
 exact hl
end
end Go.Proofs.YtpafjioccjpmfaaGreat
