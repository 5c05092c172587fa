/- CoreA: lemmas. No conditions. -/
import Derived.Test.YtabamggdmdednaaGreatCoreL
import Derived.Test.YtabamggdmdednaaGreatTicks2
namespace Go.Proofs.YtabamggdmdednaaGreat
noncomputable section
set_option maxRecDepth 100000
open Go.ChangeShapes Go.WideShapes Go.ChangeAt Go.RowKit Go.Deep
set_option linter.unusedVariables false
set_option linter.unusedSimpArgs false
def bD (m:List dI) (c:List Int) (s:Int):Int × Int :=
 if jY m c=true∧0≤s∧s≤(c.length:Int) then ((if 0<s then c.getD (s - 1).toNat 0 else 0),(if s<(c.length:Int) then c.getD s.toNat 0 else (m.length:Int))) else (0,0)
def aJZ (m:List dI) (i:Int):Int:=(m.getD i.toNat zOp).2.1
def aHR (m:List dI) (i:Int):Int:=(m.getD i.toNat zOp).2.2.1
def rP (m:List dI) (a:Int):Nat→Int
 | 0=>0
 | k+1=>rP m a k+aJZ m (a+(k:Int))
def sM (c:bG) (s:Int):Int:=if (bD c.1 c.2.1 s).1<(bD c.1 c.2.1 s).2 then aHR c.1 ((bD c.1 c.2.1 s).2 - 1) else 0
def inF (c:bG) (s:Int):Int:=if (bD c.1 c.2.1 s).1<(bD c.1 c.2.1 s).2 then aJZ c.1 (bD c.1 c.2.1 s).1 else 0
def qV (c:bG) (s:Int):Int:=rP c.1 (bD c.1 c.2.1 s).1 ((bD c.1 c.2.1 s).2 - (bD c.1 c.2.1 s).1).toNat+sM c s
def pE (c:bG) (s:Int):Bool:=decide (0≤s∧s<(c.2.2.2.1.length:Int))&&c.2.2.2.1.getD s.toNat false
def jG (c:bG) (s:Int):Int:=if pE c s=true then inF c s else qV c s
def qK (c:bG) (s micro:Int):Int :=
 if (bD c.1 c.2.1 s).1<(bD c.1 c.2.1 s).2∧1≤micro∧micro≤5∧(c.2.1.length:Int)+1≤4 then
  (if c.2.2.1=2 then min micro ((c.2.1.length:Int)+1 - s) else micro) * jG c s+max (inF c s) (sM c s)+(if pE c s=true then qV c s else 0) else 0
def qZ (c:bG):Bool:=decide (c.2.2.2.2.1.length=c.2.1.length)&&c.2.2.2.2.1.all fun n=>decide (1≤n∧n≤5)
def bF7 (c:bG) (micro:Int) (s:Nat):Bool:=decide (qK c (s:Int) micro≤c.2.2.2.2.2.getD s 0∧c.2.2.2.2.2.getD s 0≤100000)
def mK (c:bG) (micro:Int):Bool:=decide ((c.2.2.2.2.2.length:Int)=bW c.1 c.2.1)&&(List.range c.2.2.2.2.2.length).all (bF7 c micro)
def fJ (c:bG) (b:List bT):Int :=
 if cR c.1=false then 1 else if iH c.1 b=false then 2 else if bW c.1 c.2.1=0∨4<bW c.1 c.2.1 then 3 else if ¬ (c.2.2.1=1∨c.2.2.1=2) then 4
 else if ¬ (c.2.2.2.1.length:Int)=bW c.1 c.2.1 then 5 else if qZ c=false then 6 else if mK c (b.length:Int)=false then 7 else 0
theorem qG {m:List dI} {c:List Int} {s:Int} (h:jY m c=false∨s<0∨(c.length:Int)<s):bD m c s=(0,0):=by
 unfold bD;rw[if_neg]
 rintro ⟨h1,h2,h3⟩
 rcases h with h|h|h
 ·rw[h] at h1;cases h1
 ·omega
 ·omega
theorem yE {m:List dI} {c:List Int} {s:Int} (h1:jY m c=true) (h2:0≤s) (h3:s≤(c.length:Int)):bD m c s=((if 0<s then c.getD (s - 1).toNat 0 else 0),(if s<(c.length:Int) then c.getD s.toNat 0 else (m.length:Int))):=if_pos ⟨h1,h2,h3⟩
theorem bFR {m:List dI} {c:List Int} {s:Int} (h1:jY m c=true) (h2:0≤s) (h3:s≤(c.length:Int)):0≤(bD m c s).1∧(bD m c s).1<(bD m c s).2∧(bD m c s).2≤(m.length:Int):=by
 obtain ⟨hm,hc⟩:=(xQ m c).1 h1
 have hm1:=((bY m).1 hm).1
 rw[yE h1 h2 h3]
 dsimp only
 by_cases ha:0<s
 ·have e1:=(xN c m.length (show (s - 1).toNat<c.length by omega)).1 (hc _ (by omega))
  rw[if_pos ha,aZ (show (s - 1).toNat<c.length by omega)]
  by_cases hb:s<(c.length:Int)
  ·have e2:=(xN c m.length (show s.toNat<c.length by omega)).1 (hc _ (by omega))
   rw[if_pos hb,aZ (show s.toNat<c.length by omega)]
   have e3:(s - 1).toNat=s.toNat - 1:=by omega
   have e4:c[(s - 1).toNat]'(by omega)=c[s.toNat - 1]'(by omega):=by congr 1
   rw[e4] at e1 ⊢
   omega
  ·rw[if_neg hb];omega
 ·rw[if_neg ha]
  by_cases hb:s<(c.length:Int)
  ·have e2:=(xN c m.length (show s.toNat<c.length by omega)).1 (hc _ (by omega))
   rw[if_pos hb,aZ (show s.toNat<c.length by omega)]
   omega
  ·rw[if_neg hb];omega
theorem vD (m:List dI) (c:List Int) (s:Int):0≤(bD m c s).1∧(bD m c s).1≤(bD m c s).2∧(bD m c s).2≤(m.length:Int)∧((bD m c s).1<(bD m c s).2→cR m=true∧jY m c=true∧0≤s∧s≤(c.length:Int)):=by
 by_cases h:jY m c=true∧0≤s∧s≤(c.length:Int)
 ·have hb:=bFR h.1 h.2.1 h.2.2
  exact ⟨hb.1,by omega,hb.2.2,fun _=>⟨((xQ m c).1 h.1).1,h⟩⟩
 ·have e:bD m c s=(0,0):=if_neg h
  rw[e]
  exact ⟨Int.le_refl _,Int.le_refl _,by show (0:Int)≤_;omega,fun h=>absurd h (Int.lt_irrefl _)⟩
theorem aLQ {m:List dI} (h:cR m=true) {i:Int} (h0:0≤i) (h1:i<(m.length:Int)):1≤aJZ m i∧aJZ m i≤6∧1≤aHR m i∧aHR m i≤6:=by
 have hk:i.toNat<m.length:=by omega
 have h2:=(xI m hk).1 (((bY m).1 h).2.2 _ hk)
 have h3:=((gY _).1 h2.1).1
 unfold aJZ aHR
 rw[aZ hk]
 omega
theorem aL9 {m:List dI} (h:cR m=true) {a:Int} (h0:0≤a):(k:Nat)→a+(k:Int)≤(m.length:Int)→0≤rP m a k∧rP m a k≤6 * (k:Int)
 | 0,_=>by unfold rP;omega
 | k+1,hk=>by
  have h1:=aL9 h h0 k (by omega)
  have h2:=aLQ h (i:=a+(k:Int)) (by omega) (by omega)
  unfold rP;omega
theorem aOQ (c:bG) (s:Int):0≤inF c s∧inF c s≤6∧0≤sM c s∧sM c s≤6∧0≤qV c s∧qV c s≤54∧0≤jG c s∧jG c s≤54:=by
 obtain ⟨h0,h1,h2,h3⟩:=vD c.1 c.2.1 s
 by_cases h:(bD c.1 c.2.1 s).1<(bD c.1 c.2.1 s).2
 ·obtain ⟨hm,-⟩:=h3 h
  have hl:=((bY _).1 hm).2.1
  have a1:=aLQ hm (i:=(bD c.1 c.2.1 s).1) h0 (by omega)
  have a2:=aLQ hm (i:=(bD c.1 c.2.1 s).2 - 1) (by omega) (by omega)
  have a3:=aL9 hm h0 ((bD c.1 c.2.1 s).2 - (bD c.1 c.2.1 s).1).toNat (by omega)
  have e1:inF c s=aJZ c.1 (bD c.1 c.2.1 s).1:=if_pos h
  have e2:sM c s=aHR c.1 ((bD c.1 c.2.1 s).2 - 1):=if_pos h
  have e3:qV c s=rP c.1 (bD c.1 c.2.1 s).1 ((bD c.1 c.2.1 s).2 - (bD c.1 c.2.1 s).1).toNat+sM c s:=rfl
  have e4:jG c s=if pE c s=true then inF c s else qV c s:=rfl
  split at e4 <;> omega
 ·have e1:inF c s=0:=if_neg h
  have e2:sM c s=0:=if_neg h
  have e3:qV c s=rP c.1 (bD c.1 c.2.1 s).1 ((bD c.1 c.2.1 s).2 - (bD c.1 c.2.1 s).1).toNat+sM c s:=rfl
  rw[show ((bD c.1 c.2.1 s).2 - (bD c.1 c.2.1 s).1).toNat=0 by omega] at e3
  have e5:rP c.1 (bD c.1 c.2.1 s).1 0=0:=rfl
  have e4:jG c s=if pE c s=true then inF c s else qV c s:=rfl
  split at e4 <;> omega
theorem bFV {m:List dI} {c:List Int} {s:Int} (h1:jY m c=true) (h2:0<s) (h3:s<(c.length:Int)):(c.getD (s - 1).toNat 0,c.getD s.toNat 0)=bD m c s:=by rw[yE h1 (by omega) (by omega),if_pos h2,if_pos h3]
theorem bER {m:List dI} {c:List Int} {s:Int} (h1:jY m c=true) (h2:0<s) (h3:s=(c.length:Int)):(c.getD (s - 1).toNat 0,(m.length:Int))=bD m c s:=by rw[yE h1 (by omega) (by omega),if_pos h2,if_neg (by omega)]
theorem bFM {m:List dI} {c:List Int} {s:Int} (h1:jY m c=true) (h2:s=0) (h3:s<(c.length:Int)):(0,c.getD s.toNat 0)=bD m c s:=by rw[yE h1 (by omega) (by omega),if_neg (by omega),if_pos h3]
theorem bEX {m:List dI} {c:List Int} {s:Int} (h1:jY m c=true) (h2:s=0) (h3:s=(c.length:Int)):(0,(m.length:Int))=bD m c s:=by rw[yE h1 (by omega) (by omega),if_neg (by omega),if_neg (by omega)]
theorem sZ {c:bG} {s:Int} (h0:0≤s) (h1:s<(c.2.2.2.1.length:Int)):c.2.2.2.1.getD s.toNat false=pE c s:=by unfold pE;rw[decide_eq_true ⟨h0,h1⟩,Bool.true_and]
theorem aJY {c:bG} {s:Int} (h:s<0∨(c.2.2.2.1.length:Int)≤s):false=pE c s:=by unfold pE;rw[decide_eq_false (by omega),Bool.false_and]
theorem bFK {c:bG} {s:Int} (h:(bD c.1 c.2.1 s).1=(bD c.1 c.2.1 s).2):(0,0)=(inF c s,sM c s):=by
 unfold inF sM;rw[if_neg (by omega),if_neg (by omega)]
theorem bFY {c:bG} {s:Int} (h:(bD c.1 c.2.1 s).1<(bD c.1 c.2.1 s).2):(aJZ c.1 (bD c.1 c.2.1 s).1,aHR c.1 ((bD c.1 c.2.1 s).2 - 1))=(inF c s,sM c s):=by
 unfold inF sM;rw[if_pos h,if_pos h]
theorem aUD {c:bG} {s:Int} (h:pE c s=true):inF c s=jG c s:=(if_pos h).symm
theorem aLA {c:bG} {s:Int} (h:pE c s=false):qV c s=jG c s:=(if_neg (by rw[h];simp)).symm
theorem bGV {k v:Int} (h1:0≤k) (h2:k≤5) (h3:0≤v) (h4:v≤54):0≤k * v∧k * v≤270:=by
 refine ⟨Int.mul_nonneg h1 h3,?_⟩
 have:=Int.mul_le_mul h2 h4 h3 (by omega:(0:Int)≤5)
 omega
theorem aLM {c:bG} {s micro:Int} (h:(bD c.1 c.2.1 s).2≤(bD c.1 c.2.1 s).1∨micro<1∨5<micro∨4<(c.2.1.length:Int)+1):0=qK c s micro:=by unfold qK;rw[if_neg (by omega)]
theorem zU {c:bG} {s micro k r:Int} (h1:(bD c.1 c.2.1 s).1<(bD c.1 c.2.1 s).2) (h2:1≤micro) (h3:micro≤5) (h4:(c.2.1.length:Int)+1≤4) (hk:k=if c.2.2.1=2 then min micro ((c.2.1.length:Int)+1 - s) else micro) (hr:r=if pE c s=true then qV c s else 0) :
 k * jG c s+max (inF c s) (sM c s)+r=qK c s micro:=by unfold qK;rw[if_pos ⟨h1,h2,h3,h4⟩,hk,hr]
theorem rN {c:bG} {s micro k:Int} (h1:(bD c.1 c.2.1 s).1<(bD c.1 c.2.1 s).2) (h2:1≤micro) (h3:micro≤5) (h4:(c.2.1.length:Int)+1≤4) (hk:k=if c.2.2.1=2 then min micro ((c.2.1.length:Int)+1 - s) else micro) (hr:pE c s=false) :
  k * jG c s+max (inF c s) (sM c s)=qK c s micro:=by
 have h:=zU (s:=s) h1 h2 h3 h4 hk (r:=0) (if_neg (by rw[hr];simp)).symm
 omega
theorem aC4 {m:List dI} {c:List Int} (h:jY m c=true):bW m c=(c.length:Int)+1:=if_pos h
theorem aN2 {m:List dI} {c:List Int} (h:jY m c=false):bW m c=0:=if_neg (by rw[h];simp)
theorem bNQ {m:List dI} {c:List Int} {s:Int} (h0:0≤s) (h:s<bW m c):jY m c=true:=by
 cases hc:jY m c
 ·rw[aN2 hc] at h;omega
 ·rfl
theorem bHA (m:List dI) (c:List Int):0≤bW m c:=by unfold bW;split <;> omega
theorem bG4 {c:bG} (h:¬ c.2.2.2.2.1.length=c.2.1.length):qZ c=false:=by unfold qZ;rw[decide_eq_false h,Bool.false_and]
theorem bF4 {c:bG} {k:Nat} (hk:k<c.2.2.2.2.1.length) (h:¬ (1≤c.2.2.2.2.1[k]∧c.2.2.2.2.1[k]≤5)):qZ c=false:=by
 have e:c.2.2.2.2.1.all (fun n=>decide (1≤n∧n≤5))=false:=vE hk (decide_eq_false h)
 unfold qZ
 rw[e,Bool.and_false]
theorem bNJ {c:bG} (h:c.2.2.2.2.1.length=c.2.1.length) (h2:c.2.2.2.2.1.all (fun n=>decide (1≤n∧n≤5))=true):qZ c=true:=by unfold qZ;rw[decide_eq_true h,h2];rfl
theorem bMY {c:bG} {m:Int} (h:¬ (c.2.2.2.2.2.length:Int)=bW c.1 c.2.1):mK c m=false:=by unfold mK;rw[decide_eq_false h,Bool.false_and]
theorem bLK {c:bG} {m:Int} {k:Nat} (hk:k<c.2.2.2.2.2.length) (h:¬ (qK c (k:Int) m≤c.2.2.2.2.2.getD k 0∧c.2.2.2.2.2.getD k 0≤100000)):mK c m=false:=by
 refine Bool.eq_false_iff.2 fun hh=>h ?_
 unfold mK at hh
 rw[Bool.and_eq_true,List.all_eq_true] at hh
 exact of_decide_eq_true (hh.2 k (List.mem_range.2 hk))
theorem bPP {c:bG} {m:Int} (h:(c.2.2.2.2.2.length:Int)=bW c.1 c.2.1) (h2:∀ i,i<c.2.2.2.2.2.length→bF7 c m i=true):mK c m=true:=by
 unfold mK;rw[decide_eq_true h,Bool.true_and,List.all_eq_true]
 exact fun i hi=>h2 i (List.mem_range.1 hi)
theorem bR6 {c:bG} {b:List bT} (h:cR c.1=false):1=fJ c b:=by unfold fJ;rw[if_pos h]
theorem bQF {c:bG} {b:List bT} (h1:cR c.1=true) (h:iH c.1 b=false):2=fJ c b:=by unfold fJ;rw[if_neg (by rw[h1];simp),if_pos h]
theorem bNX {c:bG} {b:List bT} (h1:cR c.1=true) (h2:iH c.1 b=true) (h:bW c.1 c.2.1=0∨4<bW c.1 c.2.1):3=fJ c b:=by unfold fJ;rw[if_neg (by rw[h1];simp),if_neg (by rw[h2];simp),if_pos h]
theorem bQC {c:bG} {b:List bT} (h1:cR c.1=true) (h2:iH c.1 b=true) (h3:¬ (bW c.1 c.2.1=0∨4<bW c.1 c.2.1)) (h:¬ (c.2.2.1=1∨c.2.2.1=2)):4=fJ c b:=by unfold fJ;rw[if_neg (by rw[h1];simp),if_neg (by rw[h2];simp),if_neg h3,if_pos h]
theorem bQP {c:bG} {b:List bT} (h1:cR c.1=true) (h2:iH c.1 b=true) (h3:¬ (bW c.1 c.2.1=0∨4<bW c.1 c.2.1)) (h4:c.2.2.1=1∨c.2.2.1=2) (h:¬ (c.2.2.2.1.length:Int)=bW c.1 c.2.1):5=fJ c b:=by
 unfold fJ;rw[if_neg (by rw[h1];simp),if_neg (by rw[h2];simp),if_neg h3,if_neg (Classical.not_not.2 h4),if_pos h]
theorem bNU {c:bG} {b:List bT} (h1:cR c.1=true) (h2:iH c.1 b=true) (h3:¬ (bW c.1 c.2.1=0∨4<bW c.1 c.2.1)) (h4:c.2.2.1=1∨c.2.2.1=2) (h5:(c.2.2.2.1.length:Int)=bW c.1 c.2.1) (h:qZ c=false):6=fJ c b:=by
 unfold fJ;rw[if_neg (by rw[h1];simp),if_neg (by rw[h2];simp),if_neg h3,if_neg (Classical.not_not.2 h4),if_neg (Classical.not_not.2 h5),if_pos h]
theorem bOY {c:bG} {b:List bT} (h1:cR c.1=true) (h2:iH c.1 b=true) (h3:¬ (bW c.1 c.2.1=0∨4<bW c.1 c.2.1)) (h4:c.2.2.1=1∨c.2.2.1=2) (h5:(c.2.2.2.1.length:Int)=bW c.1 c.2.1) (h6:qZ c=true) (h:mK c (b.length:Int)=false):7=fJ c b:=by
 unfold fJ;rw[if_neg (by rw[h1];simp),if_neg (by rw[h2];simp),if_neg h3,if_neg (Classical.not_not.2 h4),if_neg (Classical.not_not.2 h5),if_neg (by rw[h6];simp),if_pos h]
theorem bRC {c:bG} {b:List bT} (h1:cR c.1=true) (h2:iH c.1 b=true) (h3:¬ (bW c.1 c.2.1=0∨4<bW c.1 c.2.1)) (h4:c.2.2.1=1∨c.2.2.1=2) (h5:(c.2.2.2.1.length:Int)=bW c.1 c.2.1) (h6:qZ c=true) (h7:mK c (b.length:Int)=true):0=fJ c b:=by
 unfold fJ;rw[if_neg (by rw[h1];simp),if_neg (by rw[h2];simp),if_neg h3,if_neg (Classical.not_not.2 h4),if_neg (Classical.not_not.2 h5),if_neg (by rw[h6];simp),if_neg (by rw[h7];simp)]
def dU:Con:=⟨28,(.bRW aE (.bRW aB tI)),aD,[.val ⟨true,aE,[]⟩,.val ⟨false,aB,[]⟩,.val ⟨false,tI,[]⟩],[⟨false,tI,[0]⟩,⟨false,tI,[0]⟩],false,none,
 ((fun x=>fQ x.1∧List.length x.2.1≤1000000000):(aY × (bK × Int))→Prop),
 ((fun x=>bD x.1 x.2.1 x.2.2):(aY × (bK × Int))→(Int × Int))⟩
def sV:T:=.call 0 (.bRY aE aB (.p1 aE (.bRW aB tI) (.Z 0)) (aK (.bRW aE (.bRW aB tI)) 1 (.Z 0))) <|
 .bRX .not (.Z 1) <|
 .ite (.Z 2) (
  .ret (.bRY tI tI (.ci .i64 0) (.ci .i64 0))) (
  .bRX (.cmp .lss .i64) (.bRY tI tI (aP (.bRW aE (.bRW aB tI)) 2 (.Z 0)) (.ci .i64 0)) <|
  .ite (.Z 3) (
   .ret (.bRY tI tI (.ci .i64 0) (.ci .i64 0))) (
   .bRX (.bS0 3 tI) (aK (.bRW aE (.bRW aB tI)) 1 (.Z 0)) <|
   .bRX (.cmp .gtr .i64) (.bRY tI tI (aP (.bRW aE (.bRW aB tI)) 2 (.Z 0)) (.Z 4)) <|
   .ite (.Z 5) (
    .ret (.bRY tI tI (.ci .i64 0) (.ci .i64 0))) (
    .bRX (.bS0 88 bF) (.p1 aE (.bRW aB tI) (.Z 0)) <|
    .bRX (.cmp .gtr .i64) (.bRY tI tI (aP (.bRW aE (.bRW aB tI)) 2 (.Z 0)) (.ci .i64 0)) <|
    .ite (.Z 7) (
     .bRX (.ar .sub .i64) (.bRY tI tI (aP (.bRW aE (.bRW aB tI)) 2 (.Z 0)) (.ci .i64 1)) <|
     .bRX (.bS1 3 tI) (.bRY aB tI (aK (.bRW aE (.bRW aB tI)) 1 (.Z 0)) (.Z 8)) <|
     .bRX (.bS0 3 tI) (aK (.bRW aE (.bRW aB tI)) 1 (.Z 0)) <|
     .bRX (.cmp .lss .i64) (.bRY tI tI (aP (.bRW aE (.bRW aB tI)) 2 (.Z 0)) (.Z 10)) <|
     .ite (.Z 11) (
      .bRX (.bS1 3 tI) (.bRY aB tI (aK (.bRW aE (.bRW aB tI)) 1 (.Z 0)) (aP (.bRW aE (.bRW aB tI)) 2 (.Z 0))) <|
      .ret (.bRY tI tI (.Z 9) (.Z 12))) (
      .ret (.bRY tI tI (.Z 9) (.Z 6)))) (
     .bRX (.bS0 3 tI) (aK (.bRW aE (.bRW aB tI)) 1 (.Z 0)) <|
     .bRX (.cmp .lss .i64) (.bRY tI tI (aP (.bRW aE (.bRW aB tI)) 2 (.Z 0)) (.Z 8)) <|
     .ite (.Z 9) (
      .bRX (.bS1 3 tI) (.bRY aB tI (aK (.bRW aE (.bRW aB tI)) 1 (.Z 0)) (aP (.bRW aE (.bRW aB tI)) 2 (.Z 0))) <|
      .ret (.bRY tI tI (.ci .i64 0) (.Z 10))) (
      .ret (.bRY tI tI (.ci .i64 0) (.Z 6)))))))
theorem aMX:bI Tryz.prog [lY] dU false 3000 ⟨[],[]⟩ = .ok sV:=by kernel_rfl
theorem aNH (x:aY × (bK × Int)) (hx:okD (.bRW aE (.bRW aB tI)) x) (hp:(fun x=>fQ x.1∧List.length x.2.1≤1000000000) x):sV.wp [lY] [⟨(.bRW aE (.bRW aB tI)),x⟩] [] (fun v=>v.as aD=(fun x=>bD x.1 x.2.1 x.2.2) x):=by
 obtain ⟨m,c,s⟩:=x
 obtain ⟨hp1,hp2⟩:fQ m∧List.length c≤1000000000:=hp
 delta sV lY;refine cW ?_
 (refine dB ?_;try with_reducible exact True.intro)
 (repeat' first|intro _|(with_reducible apply And.intro))
 all_goals first|omega|exact hp1|exact hp2|exact (qG (.inl (by assumption))).symm|exact (qG (.inr (by omega))).symm|exact bFV (by assumption) (by omega) (by omega)|exact bER (by assumption) (by omega) (by omega)|exact bFM (by assumption) (by omega) (by omega)|exact bEX (by assumption) (by omega) (by omega)|skip
theorem sY:Con.Holds Tryz.prog dU:=aS aV (aI aLE aQ) aMX aNH
def cX:Con:=⟨74,(.bRW aE (.bRW aB tI)),aD,[.val ⟨true,aE,[]⟩,.val ⟨false,aB,[]⟩,.val ⟨false,tI,[]⟩],[⟨false,tI,[0]⟩,⟨false,tI,[0]⟩],false,none,
 ((fun x=>fQ x.1∧List.length x.2.1≤1000000000):(aY × (bK × Int))→Prop),
 ((fun x=>bD x.1 x.2.1 x.2.2):(aY × (bK × Int))→(Int × Int))⟩
def uJ:T:=.call 0 (.bRY aE aB (.p1 aE (.bRW aB tI) (.Z 0)) (aK (.bRW aE (.bRW aB tI)) 1 (.Z 0))) <|
 .bRX .not (.Z 1) <|
 .ite (.Z 2) (
  .ret (.bRY tI tI (.ci .i64 0) (.ci .i64 0))) (
  .bRX (.bS0 3 tI) (aK (.bRW aE (.bRW aB tI)) 1 (.Z 0)) <|
  .call 1 (bB (.bRW tI aD) [(aP (.bRW aE (.bRW aB tI)) 2 (.Z 0)),(.ci .i64 0),(.Z 3)]) <|
  .bRX .not (.Z 4) <|
  .ite (.Z 5) (
   .ret (.bRY tI tI (.ci .i64 0) (.ci .i64 0))) (
   .bRX (.bS0 88 bF) (.p1 aE (.bRW aB tI) (.Z 0)) <|
   .bRX (.cmp .gtr .i64) (.bRY tI tI (aP (.bRW aE (.bRW aB tI)) 2 (.Z 0)) (.ci .i64 0)) <|
   .ite (.Z 7) (
    .bRX (.ar .sub .i64) (.bRY tI tI (aP (.bRW aE (.bRW aB tI)) 2 (.Z 0)) (.ci .i64 1)) <|
    .bRX (.bS1 3 tI) (.bRY aB tI (aK (.bRW aE (.bRW aB tI)) 1 (.Z 0)) (.Z 8)) <|
    .bRX (.bS0 3 tI) (aK (.bRW aE (.bRW aB tI)) 1 (.Z 0)) <|
    .bRX (.cmp .lss .i64) (.bRY tI tI (aP (.bRW aE (.bRW aB tI)) 2 (.Z 0)) (.Z 10)) <|
    .ite (.Z 11) (
     .bRX (.bS1 3 tI) (.bRY aB tI (aK (.bRW aE (.bRW aB tI)) 1 (.Z 0)) (aP (.bRW aE (.bRW aB tI)) 2 (.Z 0))) <|
     .ret (.bRY tI tI (.Z 9) (.Z 12))) (
     .ret (.bRY tI tI (.Z 9) (.Z 6)))) (
    .bRX (.bS0 3 tI) (aK (.bRW aE (.bRW aB tI)) 1 (.Z 0)) <|
    .bRX (.cmp .lss .i64) (.bRY tI tI (aP (.bRW aE (.bRW aB tI)) 2 (.Z 0)) (.Z 8)) <|
    .ite (.Z 9) (
     .bRX (.bS1 3 tI) (.bRY aB tI (aK (.bRW aE (.bRW aB tI)) 1 (.Z 0)) (aP (.bRW aE (.bRW aB tI)) 2 (.Z 0))) <|
     .ret (.bRY tI tI (.ci .i64 0) (.Z 10))) (
     .ret (.bRY tI tI (.ci .i64 0) (.Z 6))))))
theorem aOS:bI Tryz.prog [iM,bL] cX false 3000 ⟨[],[]⟩ = .ok uJ:=by kernel_rfl
theorem aOB (x:aY × (bK × Int)) (hx:okD (.bRW aE (.bRW aB tI)) x) (hp:(fun x=>fQ x.1∧List.length x.2.1≤1000000000) x):uJ.wp [iM,bL] [⟨(.bRW aE (.bRW aB tI)),x⟩] [] (fun v=>v.as aD=(fun x=>bD x.1 x.2.1 x.2.2) x):=by
 obtain ⟨m,c,s⟩:=x
 obtain ⟨hp1,hp2⟩:fQ m∧List.length c≤1000000000:=hp
 delta uJ iM bL;refine cW ?_
 (refine dB ?_;try with_reducible exact True.intro)
 (repeat' first|intro _|(with_reducible apply And.intro))
 all_goals first|omega|exact hp1|exact hp2|exact (qG (.inl (by assumption))).symm|exact (qG (.inr (by omega))).symm|exact bFV (by assumption) (by omega) (by omega)|exact bER (by assumption) (by omega) (by omega)|exact bFM (by assumption) (by omega) (by omega)|exact bEX (by assumption) (by omega) (by omega)|skip
theorem oD:Con.Holds Tryz.prog cX:=aS aV (aI aGE (aI eV aQ)) aOS aOB
def lF:Con:=⟨94,(.bRW aC tI),.bool,[.val ⟨true,aC,[]⟩,.val ⟨false,tI,[]⟩],[⟨false,.bool,[0]⟩],false,none,
 ((fun _=>True):(bG × Int)→Prop),
 ((fun x=>pE x.1 x.2):(bG × Int)→(Bool))⟩
def aGL:T :=
 .bRX (.cmp .geq .i64) (.bRY tI tI (aP (.bRW aC tI) 1 (.Z 0)) (.ci .i64 0)) <|
 .ite (.Z 1) (
  .bRX (.bS0 4 .bool) (aK aC 3 (.p1 aC tI (.Z 0))) <|
  .bRX (.cmp .lss .i64) (.bRY tI tI (aP (.bRW aC tI) 1 (.Z 0)) (.Z 2)) <|
  .ite (.Z 3) (
   .bRX (.bS1 4 .bool) (.bRY bV tI (aK aC 3 (.p1 aC tI (.Z 0))) (aP (.bRW aC tI) 1 (.Z 0))) <|
   .ret (.Z 4)) (
   .ret (.cb false))) (
  .ret (.cb false))
theorem bAO:bI Tryz.prog [] lF false 3000 ⟨[],[]⟩ = .ok aGL:=by kernel_rfl
theorem bEF (x:bG × Int) (hx:okD (.bRW aC tI) x) (hp:(fun _=>True) x):aGL.wp [] [⟨(.bRW aC tI),x⟩] [] (fun v=>v.as .bool=(fun x=>pE x.1 x.2) x):=by
 delta aGL;refine cW ?_
 (refine dB ?_;try with_reducible exact True.intro)
 (repeat' first|intro _|(with_reducible apply And.intro))
 all_goals first|omega|exact aJY (by omega)|exact sZ (by omega) (by omega)|skip
theorem aNW:Con.Holds Tryz.prog lF:=aS aV aQ bAO bEF
def gC:Con:=⟨92,(.bRW aC tI),aD,[.val ⟨true,aC,[]⟩,.val ⟨false,tI,[]⟩],[⟨false,tI,[0]⟩,⟨false,tI,[0]⟩],false,none,
 ((fun x=>fO x.1):(bG × Int)→Prop),
 ((fun x=>(inF x.1 x.2,sM x.1 x.2)):(bG × Int)→(Int × Int))⟩
def aCC:T:=.call 0 (bB (.bRW aE (.bRW aB tI)) [(.p1 aE (.bRW aB (.bRW tI (.bRW bV aO))) (.p1 aC tI (.Z 0))),(aK aC 1 (.p1 aC tI (.Z 0))),(aP (.bRW aC tI) 1 (.Z 0))]) <|
 .bRX (.cmp .eql .i64) (.bRY tI tI (.p1 tI tI (.Z 1)) (aP aD 1 (.Z 1))) <|
 .ite (.Z 2) (
  .ret (.bRY tI tI (.ci .i64 0) (.ci .i64 0))) (
  .bRX (.ar .sub .i64) (.bRY tI tI (aP aD 1 (.Z 1)) (.ci .i64 1)) <|
  .bRX (.bS1 88 bF) (.bRY aE tI (.p1 aE (.bRW aB (.bRW tI (.bRW bV aO))) (.p1 aC tI (.Z 0))) (.p1 tI tI (.Z 1))) <|
  .bRX (.bS1 88 bF) (.bRY aE tI (.p1 aE (.bRW aB (.bRW tI (.bRW bV aO))) (.p1 aC tI (.Z 0))) (.Z 3)) <|
  .ret (.bRY tI tI (aK bF 1 (.Z 4)) (aK bF 2 (.Z 5))))
theorem aYD:bI Tryz.prog [dU] gC false 3000 ⟨[],[]⟩ = .ok aCC:=by kernel_rfl
theorem aVX (x:bG × Int) (hx:okD (.bRW aC tI) x) (hp:(fun x=>fO x.1) x):aCC.wp [dU] [⟨(.bRW aC tI),x⟩] [] (fun v=>v.as aD=(fun x=>(inF x.1 x.2,sM x.1 x.2)) x):=by
 have hp:fO x.1:=hp
 have hr:=vD x.1.1 x.1.2.1 x.2
 have hml:List.length x.1.1≤1000000000:=hp.1.1
 delta aCC dU;refine cW ?_
 (refine dB ?_;try with_reducible exact True.intro)
 (repeat' first|intro _|(with_reducible apply And.intro))
 all_goals first|omega|exact hp.1|exact hp.2.1|exact bFK (by assumption)|exact bFY (by omega)|skip
theorem aBB:Con.Holds Tryz.prog gC:=aS aV (aI sY aQ) aYD aVX
def hN:Con:=⟨95,(.bRW aC tI),tI,[.val ⟨true,aC,[]⟩,.val ⟨false,tI,[]⟩],[⟨false,tI,[0]⟩],false,none,
 ((fun x=>fO x.1):(bG × Int)→Prop),
 ((fun x=>qV x.1 x.2):(bG × Int)→(Int))⟩
def wD:T:=.call 0 (bB (.bRW aE (.bRW aB tI)) [(.p1 aE (.bRW aB (.bRW tI (.bRW bV aO))) (.p1 aC tI (.Z 0))),(aK aC 1 (.p1 aC tI (.Z 0))),(aP (.bRW aC tI) 1 (.Z 0))]) <|.call 1 (.Z 0) <|.loop aD (.bRY tI tI (.p1 tI tI (.Z 1)) (aP aD 1 (.Z 2))) <|
 .bRX (.cmp .lss .i64) (.bRY tI tI (.p1 tI tI (.Z 3)) (aP aD 1 (.Z 1))) <|
 .ite (.Z 4) (
  .bRX (.bS1 88 bF) (.bRY aE tI (.p1 aE (.bRW aB (.bRW tI (.bRW bV aO))) (.p1 aC tI (.Z 0))) (.p1 tI tI (.Z 3))) <|
  .bRX (.ar .add .i64) (.bRY tI tI (aP aD 1 (.Z 3)) (aK bF 1 (.Z 5))) <|
  .bRX (.ar .add .i64) (.bRY tI tI (.p1 tI tI (.Z 3)) (.ci .i64 1)) <|
  .bRZ 0 (.bRY tI tI (.Z 7) (.Z 6))) (
  .ret (aP aD 1 (.Z 3)))
theorem aPX:bI Tryz.prog [dU,gC] hN false 3000 ⟨[(2989,1003,[.dr 25,.dr 7,.dr 24,.dr 23,.dr 19]++gQ 22 20++[.dr 5,.dr 18,.dr 17,.dr 10]++gQ 16 11++[.dr 0,.dr 1,.tm 9 0,.tm 8 0])],[]⟩ = .ok wD:=by kernel_rfl
theorem aP5 (x:bG × Int) (hx:okD (.bRW aC tI) x) (hp:(fun x=>fO x.1) x):wD.wp [dU,gC] [⟨(.bRW aC tI),x⟩] [] (fun v=>v.as tI=(fun x=>qV x.1 x.2) x):=by
 have hp:fO x.1:=hp
 have hr:=vD x.1.1 x.1.2.1 x.2
 have hml:List.length x.1.1≤1000000000:=hp.1.1
 have hb:=aOQ x.1 x.2
 delta wD dU gC;refine cW ?_
 refine dB ?_
 refine ⟨⟨hp.1,hp.2.1⟩,fun _=>⟨hp,fun _=>?_⟩⟩
 refine cN (fun k=>((bD x.1.1 x.1.2.1 x.2).1+(k:Int),sM x.1 x.2+rP x.1.1 (bD x.1.1 x.1.2.1 x.2).1 k)) ((bD x.1.1 x.1.2.1 x.2).2 - (bD x.1.1 x.1.2.1 x.2).1).toNat (Prod.ext (Int.add_zero _).symm (Int.add_zero _).symm) fun I μ k hk _ go=>?_
 dsimp only
 refine dB ?_
 constructor
 ·intro hlt
  have hm:=(hr.2.2.2 (by omega)).1
  have hl:=((bY _).1 hm).2.1
  have h1:=aL9 hm hr.1 k (by omega)
  have h2:=aLQ hm (i:=(bD x.1.1 x.1.2.1 x.2).1+(k:Int)) (by omega) (by omega)
  have e:rP x.1.1 (bD x.1.1 x.1.2.1 x.2).1 (k+1)=rP x.1.1 (bD x.1.1 x.1.2.1 x.2).1 k+aJZ x.1.1 ((bD x.1.1 x.1.2.1 x.2).1+(k:Int)):=rfl
  rw[show (List.getD x.1.1 ((bD x.1.1 x.1.2.1 x.2).1+(k:Int)).toNat (aW bF)).2.1=aJZ x.1.1 ((bD x.1.1 x.1.2.1 x.2).1+(k:Int)) from rfl]
  (repeat' first|intro _|(refine go _ ?_ ?_ ?_)|(refine go _ ?_ ?_)|(with_reducible apply And.intro))
  all_goals first|omega|(refine Prod.ext ?_ ?_ <;> refine @Eq.trans Int _ _ _ ?_ rfl <;> dsimp only <;> omega)|skip
 ·intro hge
  have e:k=((bD x.1.1 x.1.2.1 x.2).2 - (bD x.1.1 x.1.2.1 x.2).1).toNat:=by omega
  subst e
  exact Int.add_comm _ _
theorem aE7:Con.Holds Tryz.prog hN:=aS aV (aI sY (aI aBB aQ)) aPX aP5
def lP:Con:=⟨93,(.bRW aC tI),tI,[.val ⟨true,aC,[]⟩,.val ⟨false,tI,[]⟩],[⟨false,tI,[0]⟩],false,none,
 ((fun x=>fO x.1):(bG × Int)→Prop),
 ((fun x=>jG x.1 x.2):(bG × Int)→(Int))⟩
def sP:T:=.call 0 (.Z 0) <|.ite (.Z 1) (.call 1 (.Z 0) <|.ret (.p1 tI tI (.Z 2))) (.call 2 (.Z 0) <|.ret (.Z 2))
theorem aNB:bI Tryz.prog [lF,gC,hN] lP false 3000 ⟨[],[]⟩ = .ok sP:=by kernel_rfl
theorem aLP (x:bG × Int) (hx:okD (.bRW aC tI) x) (hp:(fun x=>fO x.1) x):sP.wp [lF,gC,hN] [⟨(.bRW aC tI),x⟩] [] (fun v=>v.as tI=(fun x=>jG x.1 x.2) x):=by
 delta sP lF gC hN;refine cW ?_
 refine dB ?_
 exact ⟨fun h=>⟨hp,fun _=>aUD h⟩,fun h=>⟨hp,fun _=>aLA h⟩⟩
theorem aNI:Con.Holds Tryz.prog lP:=aS aV (aI aNW (aI aBB (aI aE7 aQ))) aNB aLP
def uD:Con:=⟨52,(.bRW aC aD),tI,[.val ⟨true,aC,[]⟩,.val ⟨false,tI,[]⟩,.val ⟨false,tI,[]⟩],[⟨false,tI,[0]⟩],false,none,
 ((fun x=>fO x.1):(bG × fX)→Prop),
 ((fun x=>qK x.1 x.2.1 x.2.2):(bG × fX)→(Int))⟩
def aFM:T:=.call 0 (.p1 aC aD (.Z 0)) <|
 .bRX (.cmp .lss .i64) (.bRY tI tI (aK (.bRW aC aD) 1 (.Z 0)) (.ci .i64 0)) <|
 .ite (.Z 2) (
  .ret (.ci .i64 0)) (
  .bRX (.cmp .geq .i64) (.bRY tI tI (aK (.bRW aC aD) 1 (.Z 0)) (.Z 1)) <|
  .ite (.Z 3) (
   .ret (.ci .i64 0)) (
   .bRX (.cmp .lss .i64) (.bRY tI tI (aP (.bRW aC aD) 2 (.Z 0)) (.ci .i64 1)) <|
   .ite (.Z 4) (
    .ret (.ci .i64 0)) (
    .bRX (.cmp .gtr .i64) (.bRY tI tI (aP (.bRW aC aD) 2 (.Z 0)) (.ci .i64 5)) <|
    .ite (.Z 5) (
     .ret (.ci .i64 0)) (
     .bRX (.cmp .gtr .i64) (.bRY tI tI (.Z 1) (.ci .i64 4)) <|
     .ite (.Z 6) (
      .ret (.ci .i64 0)) (
      .bRX (.cmp .eql .i64) (.bRY tI tI (aK aC 2 (.p1 aC aD (.Z 0))) (.ci .i64 2)) <|
      .ite (.Z 7) (
       .bRX (.ar .sub .i64) (.bRY tI tI (.Z 1) (aK (.bRW aC aD) 1 (.Z 0))) <|
       .bRX (.mn .i64) (.bRY tI tI (aP (.bRW aC aD) 2 (.Z 0)) (.Z 8)) <|
       .call 1 (.bRY aC tI (.p1 aC aD (.Z 0)) (aK (.bRW aC aD) 1 (.Z 0))) <|
       .call 2 (.bRY aC tI (.p1 aC aD (.Z 0)) (aK (.bRW aC aD) 1 (.Z 0))) <|
       .bRX (.ar .mul .i64) (.bRY tI tI (.Z 9) (.Z 11)) <|
       .bRX (.mx .i64) (.bRY tI tI (.p1 tI tI (.Z 10)) (aP aD 1 (.Z 10))) <|
       .bRX (.ar .add .i64) (.bRY tI tI (.Z 12) (.Z 13)) <|
       .call 3 (.bRY aC tI (.p1 aC aD (.Z 0)) (aK (.bRW aC aD) 1 (.Z 0))) <|
       .ite (.Z 15) (
        .call 4 (.bRY aC tI (.p1 aC aD (.Z 0)) (aK (.bRW aC aD) 1 (.Z 0))) <|
        .bRX (.ar .add .i64) (.bRY tI tI (.Z 14) (.Z 16)) <|
        .ret (.Z 17)) (
        .ret (.Z 14))) (
       .call 1 (.bRY aC tI (.p1 aC aD (.Z 0)) (aK (.bRW aC aD) 1 (.Z 0))) <|
       .call 2 (.bRY aC tI (.p1 aC aD (.Z 0)) (aK (.bRW aC aD) 1 (.Z 0))) <|
       .bRX (.ar .mul .i64) (.bRY tI tI (aP (.bRW aC aD) 2 (.Z 0)) (.Z 9)) <|
       .bRX (.mx .i64) (.bRY tI tI (.p1 tI tI (.Z 8)) (aP aD 1 (.Z 8))) <|
       .bRX (.ar .add .i64) (.bRY tI tI (.Z 10) (.Z 11)) <|
       .call 3 (.bRY aC tI (.p1 aC aD (.Z 0)) (aK (.bRW aC aD) 1 (.Z 0))) <|
       .ite (.Z 13) (
        .call 4 (.bRY aC tI (.p1 aC aD (.Z 0)) (aK (.bRW aC aD) 1 (.Z 0))) <|
        .bRX (.ar .add .i64) (.bRY tI tI (.Z 12) (.Z 14)) <|
        .ret (.Z 15)) (
        .ret (.Z 12))))))))
theorem aZX:bI Tryz.prog [dN,gC,lP,lF,hN] uD false 3000 ⟨[],[]⟩ = .ok aFM:=by kernel_rfl
theorem bB5 (x:bG × fX) (hx:okD (.bRW aC aD) x) (hp:(fun x=>fO x.1) x):aFM.wp [dN,gC,lP,lF,hN] [⟨(.bRW aC aD),x⟩] [] (fun v=>v.as tI=(fun x=>qK x.1 x.2.1 x.2.2) x):=by
 obtain ⟨c,s,micro⟩:=x
 have hp:fO c:=hp
 have hb:=aOQ c s
 delta aFM dN gC lP lF hN;refine cW ?_
 refine dB ?_
 refine ⟨⟨hp.1,hp.2.1⟩,fun _=>⟨fun h=>?_,fun h0=>⟨fun h=>?_,fun h1=>?_⟩⟩⟩
 ·exact aLM (.inl (by rw[qG (.inr (.inl h))];exact Int.le_refl _))
 ·refine aLM (.inl ?_)
  cases hc:jY c.1 c.2.1
  ·rw[qG (.inl hc)];exact Int.le_refl _
  ·rw[aC4 hc] at h
   rw[qG (.inr (.inr (by omega)))];exact Int.le_refl _
 have hc:=bNQ h0 h1
 rw[aC4 hc] at h1 ⊢
 have hrb:=(bFR hc h0 (by omega)).2.1
 (repeat' first|intro _|(with_reducible apply And.intro))
 all_goals first|omega|exact hp|exact aLM (by omega)|skip
 all_goals have hq1:=bGV (k:=min micro ((c.2.1.length:Int)+1 - s)) (v:=jG c s) (by omega) (by omega) (by omega) (by omega)
 all_goals have hq2:=bGV (k:=micro) (v:=jG c s) (by omega) (by omega) (by omega) (by omega)
 all_goals first|omega|exact zU hrb (by omega) (by omega) (by omega) (if_pos (by assumption)).symm (if_pos (by assumption)).symm|exact zU hrb (by omega) (by omega) (by omega) (if_neg (by assumption)).symm (if_pos (by assumption)).symm|exact rN hrb (by omega) (by omega) (by omega) (if_pos (by assumption)).symm (by assumption)|exact rN hrb (by omega) (by omega) (by omega) (if_neg (by assumption)).symm (by assumption)|exact zU hrb (by omega) (by omega) (by omega) (if_pos (by assumption)).symm (if_pos ((sZ (by omega) (by omega)).symm.trans (by assumption))).symm|exact zU hrb (by omega) (by omega) (by omega) (if_neg (by assumption)).symm (if_pos ((sZ (by omega) (by omega)).symm.trans (by assumption))).symm|exact rN hrb (by omega) (by omega) (by omega) (if_pos (by assumption)).symm ((sZ (by omega) (by omega)).symm.trans (by assumption))|exact rN hrb (by omega) (by omega) (by omega) (if_neg (by assumption)).symm ((sZ (by omega) (by omega)).symm.trans (by assumption))|exact rN hrb (by omega) (by omega) (by omega) (if_pos (by assumption)).symm (aJY (by omega)).symm|exact rN hrb (by omega) (by omega) (by omega) (if_neg (by assumption)).symm (aJY (by omega)).symm|skip
theorem bDY:Con.Holds Tryz.prog uD:=aS aV (aI rX (aI aBB (aI aNI (aI aNW (aI aE7 aQ))))) aZX bB5
def tW:Con:=⟨25,aC,.bool,[.val ⟨true,aC,[]⟩],[⟨false,.bool,[0]⟩],false,none,
 ((fun x=>fO x):(bG)→Prop),
 ((fun x=>qZ x):(bG)→(Bool))⟩
def aGF:T :=
 .bRX (.bS0 3 tI) (aK aC 4 (.Z 0)) <|
 .bRX (.bS0 3 tI) (aK aC 1 (.Z 0)) <|
 .bRX (.cmp .neq .i64) (.bRY tI tI (.Z 1) (.Z 2)) <|
 .ite (.Z 3) (
  .ret (.cb false)) (
  .bRX (.bS0 3 tI) (aK aC 4 (.Z 0)) <|
  .loop tI (.ci .i64 0) <|
   .bRX (.cmp .lss .i64) (.bRY tI tI (.Z 5) (.Z 4)) <|
   .ite (.Z 6) (
    .bRX (.bS1 3 tI) (.bRY aB tI (aK aC 4 (.Z 0)) (.Z 5)) <|
    .bRX (.cmp .lss .i64) (.bRY tI tI (.Z 7) (.ci .i64 1)) <|
    .ite (.Z 8) (
     .ret (.cb false)) (
     .bRX (.cmp .gtr .i64) (.bRY tI tI (.Z 7) (.ci .i64 5)) <|
     .ite (.Z 9) (
      .ret (.cb false)) (
      .bRX (.ar .add .i64) (.bRY tI tI (.Z 5) (.ci .i64 1)) <|
      .bRZ 0 (.Z 10)))) (
    .ret (.cb true)))
theorem bC0:bI Tryz.prog [] tW false 3000 ⟨[(2988,2005,gQ 12 5++[.dr 1,.dr 0,.tm 15 0])],[]⟩ = .ok aGF:=by kernel_rfl
theorem bAS (x:bG) (hx:okD aC x) (hp:(fun x=>fO x) x):aGF.wp [] [⟨aC,x⟩] [] (fun v=>v.as .bool=(fun x=>qZ x) x):=by
 have hp:fO x:=hp
 delta aGF;refine cW ?_
 refine dB ?_
 refine fun _ _=>⟨fun h=>(bG4 (by omega)).symm,fun h _=>?_⟩
 refine pA (fun k=>(k:Int)) (fun k=>(List.take k x.2.2.2.2.1).all (fun n=>decide (1≤n∧n≤5))=true) (List.length x.2.2.2.2.1) rfl rfl fun I μ k hk hG _ go=>?_
 try dsimp only
 refine dB ?_
 constructor
 ·intro hlt
  have hk':k<List.length x.2.2.2.2.1:=by omega
  have e:=mT (fun n:Int=>decide (1≤n∧n≤5)) x.2.2.2.2.1 hk'
  have hl:=hp.2.2.2.1
  simp only[aZ hk']
  (repeat' first|intro _|(refine go _ ?_ ?_ ?_)|(refine go _ ?_ ?_)|(with_reducible apply And.intro))
  all_goals first|omega|exact (bF4 hk' (by omega)).symm|(rw[e,hG,Bool.true_and];exact decide_eq_true ⟨by omega,by omega⟩)|rfl
 ·intro hge
  exact (bNJ (by omega) (aL2 hG (by omega))).symm
theorem bBY:Con.Holds Tryz.prog tW:=aS aV aQ bC0 bAS
def oL:Con:=⟨26,(.bRW aC tI),.bool,[.val ⟨true,aC,[]⟩,.val ⟨false,tI,[]⟩],[⟨false,.bool,[0]⟩],false,none,
 ((fun x=>fO x.1):(bG × Int)→Prop),
 ((fun x=>mK x.1 x.2):(bG × Int)→(Bool))⟩
def zI:T :=
 .bRX (.bS0 3 tI) (aP aC 5 (.p1 aC tI (.Z 0))) <|
 .call 0 (.p1 aC tI (.Z 0)) <|
 .bRX (.cmp .neq .i64) (.bRY tI tI (.Z 1) (.Z 2)) <|
 .ite (.Z 3) (
  .ret (.cb false)) (
  .bRX (.bS0 3 tI) (aP aC 5 (.p1 aC tI (.Z 0))) <|
  .loop tI (.ci .i64 0) <|
   .bRX (.cmp .lss .i64) (.bRY tI tI (.Z 5) (.Z 4)) <|
   .ite (.Z 6) (
    .bRX (.bS1 3 tI) (.bRY aB tI (aP aC 5 (.p1 aC tI (.Z 0))) (.Z 5)) <|
    .call 1 (bB (.bRW aC aD) [(.p1 aC tI (.Z 0)),(.Z 5),(aP (.bRW aC tI) 1 (.Z 0))]) <|
    .bRX (.cmp .lss .i64) (.bRY tI tI (.Z 7) (.Z 8)) <|
    .ite (.Z 9) (
     .ret (.cb false)) (
     .bRX (.cmp .gtr .i64) (.bRY tI tI (.Z 7) (.ci .i64 100000)) <|
     .ite (.Z 10) (
      .ret (.cb false)) (
      .bRX (.ar .add .i64) (.bRY tI tI (.Z 5) (.ci .i64 1)) <|
      .bRZ 0 (.Z 11)))) (
    .ret (.cb true)))
theorem aT2:bI Tryz.prog [dN,uD] oL false 3000 ⟨[(2988,2005,gQ 13 7++[.dr 0,.tm 16 0])],[]⟩ = .ok zI:=by kernel_rfl
theorem aTO (x:bG × Int) (hx:okD (.bRW aC tI) x) (hp:(fun x=>fO x.1) x):zI.wp [dN,uD] [⟨(.bRW aC tI),x⟩] [] (fun v=>v.as .bool=(fun x=>mK x.1 x.2) x):=by
 obtain ⟨c,m⟩:=x
 have hp:fO c:=hp
 delta zI dN uD;refine cW ?_
 refine dB ?_
 refine fun _=>⟨⟨hp.1,hp.2.1⟩,fun _=>⟨fun h=>(bMY h).symm,fun h _=>?_⟩⟩
 refine pA (fun k=>(k:Int)) (fun k=>∀ i,i<k→bF7 c m i=true) (List.length c.2.2.2.2.2) rfl (fun i hi=>absurd hi (Nat.not_lt_zero _)) fun I μ k hk hG _ go=>?_
 try dsimp only
 refine dB ?_
 constructor
 ·intro hlt
  have hk':k<List.length c.2.2.2.2.2:=by omega
  have hl:List.length c.2.2.2.2.2≤1000000000:=hp.2.2.2.2
  (repeat' first|intro _|(refine go _ ?_ ?_ ?_)|(refine go _ ?_ ?_)|(with_reducible apply And.intro))
  all_goals first|omega|exact hp|exact (bLK hk' (fun hh=>by have h1:qK c (k:Int) m≤List.getD c.2.2.2.2.2 k (aW tI):=hh.1;have h2:List.getD c.2.2.2.2.2 k (aW tI)≤100000:=hh.2;omega)).symm|exact vS hG (decide_eq_true ⟨by assumption,by assumption⟩) _ (by assumption)|rfl|skip
 ·intro hge
  exact (bPP (by omega) fun i hi=>hG i (by omega)).symm
theorem aSK:Con.Holds Tryz.prog oL:=aS aV (aI rX (aI bDY aQ)) aT2 aTO
def nS:Con:=⟨11,(.bRW aC aG),tI,[.val ⟨true,aC,[]⟩,.val ⟨false,aG,[]⟩],[⟨false,tI,[0]⟩],false,none,
 ((fun x=>fO x.1):(bG × bO)→Prop),
 ((fun x=>fJ x.1 x.2):(bG × bO)→(Int))⟩
def aJ6:T:=.call 0 (.p1 aC aG (.Z 0)) <|.call 1 (.p1 aE (.bRW aB (.bRW tI (.bRW bV aO))) (.p1 aC aG (.Z 0))) <|
 .bRX .not (.Z 2) <|
 .ite (.Z 3) (
  .ret (.ci .i64 1)) (
  .call 2 (.bRY aE aG (.p1 aE (.bRW aB (.bRW tI (.bRW bV aO))) (.p1 aC aG (.Z 0))) (aP (.bRW aC aG) 1 (.Z 0))) <|
  .bRX .not (.Z 4) <|
  .ite (.Z 5) (
   .ret (.ci .i64 2)) (
   .bRX (.cmp .eql .i64) (.bRY tI tI (.Z 1) (.ci .i64 0)) <|
   .ite (.Z 6) (
    .ret (.ci .i64 3)) (
    .bRX (.cmp .gtr .i64) (.bRY tI tI (.Z 1) (.ci .i64 4)) <|
    .ite (.Z 7) (
     .ret (.ci .i64 3)) (
     .bRX (.cmp .neq .i64) (.bRY tI tI (aK aC 2 (.p1 aC aG (.Z 0))) (.ci .i64 1)) <|
     .ite (.Z 8) (
      .bRX (.cmp .neq .i64) (.bRY tI tI (aK aC 2 (.p1 aC aG (.Z 0))) (.ci .i64 2)) <|
      .ite (.Z 9) (
       .ret (.ci .i64 4)) (
       .bRX (.bS0 4 .bool) (aK aC 3 (.p1 aC aG (.Z 0))) <|
       .bRX (.cmp .neq .i64) (.bRY tI tI (.Z 10) (.Z 1)) <|
       .ite (.Z 11) (
        .ret (.ci .i64 5)) (
        .call 3 (.p1 aC aG (.Z 0)) <|
        .bRX .not (.Z 12) <|
        .ite (.Z 13) (
         .ret (.ci .i64 6)) (
         .bRX (.bS0 92 aO) (aP (.bRW aC aG) 1 (.Z 0)) <|
         .call 4 (.bRY aC tI (.p1 aC aG (.Z 0)) (.Z 14)) <|
         .bRX .not (.Z 15) <|
         .ite (.Z 16) (
          .ret (.ci .i64 7)) (
          .ret (.ci .i64 0)))))) (
      .bRX (.bS0 4 .bool) (aK aC 3 (.p1 aC aG (.Z 0))) <|
      .bRX (.cmp .neq .i64) (.bRY tI tI (.Z 9) (.Z 1)) <|
      .ite (.Z 10) (
       .ret (.ci .i64 5)) (
       .call 3 (.p1 aC aG (.Z 0)) <|
       .bRX .not (.Z 11) <|
       .ite (.Z 12) (
        .ret (.ci .i64 6)) (
        .bRX (.bS0 92 aO) (aP (.bRW aC aG) 1 (.Z 0)) <|
        .call 4 (.bRY aC tI (.p1 aC aG (.Z 0)) (.Z 13)) <|
        .bRX .not (.Z 14) <|
        .ite (.Z 15) (
         .ret (.ci .i64 7)) (
         .ret (.ci .i64 0)))))))))
theorem bIV:bI Tryz.prog [dN,bS,rE,tW,oL] nS false 3000 ⟨[],[]⟩ = .ok aJ6:=by kernel_rfl
theorem bGH (x:bG × bO) (hx:okD (.bRW aC aG) x) (hp:(fun x=>fO x.1) x):aJ6.wp [dN,bS,rE,tW,oL] [⟨(.bRW aC aG),x⟩] [] (fun v=>v.as tI=(fun x=>fJ x.1 x.2) x):=by
 obtain ⟨c,b⟩:=x
 have hp:fO c:=hp
 have hs:=bHA c.1 c.2.1
 delta aJ6 dN bS rE tW oL;refine cW ?_
 (refine dB ?_;try with_reducible exact True.intro)
 (repeat' first|intro _|(with_reducible apply And.intro))
 all_goals first|omega|exact hp|exact hp.1|exact hp.2.1|exact bR6 (by assumption)|exact bQF (by assumption) (by assumption)|exact bNX (by assumption) (by assumption) (by omega)|exact bQC (by assumption) (by assumption) (by omega) (by omega)|exact bQP (by assumption) (by assumption) (by omega) (by omega) (by assumption)|exact bNU (by assumption) (by assumption) (by omega) (by omega) (by assumption) (by assumption)|exact bOY (by assumption) (by assumption) (by omega) (by omega) (by assumption) (by assumption) (by assumption)|exact bRC (by assumption) (by assumption) (by omega) (by omega) (by assumption) (by assumption) (by assumption)|skip
theorem aR5:Con.Holds Tryz.prog nS:=aS aV (aI rX (aI iB (aI aYQ (aI bBY (aI aSK aQ))))) bIV bGH
def hZ:Con:=⟨85,(.bRW aC tI),tI,[.val ⟨true,aC,[]⟩,.val ⟨false,tI,[]⟩],[⟨false,tI,[0]⟩],false,none,
 ((fun x=>fO x.1):(bG × Int)→Prop),
 ((fun x=>qV x.1 x.2):(bG × Int)→(Int))⟩
def vX:T:=.call 0 (bB (.bRW aE (.bRW aB tI)) [(.p1 aE (.bRW aB (.bRW tI (.bRW bV aO))) (.p1 aC tI (.Z 0))),(aK aC 1 (.p1 aC tI (.Z 0))),(aP (.bRW aC tI) 1 (.Z 0))]) <|.loop aD (.bRY tI tI (.p1 tI tI (.Z 1)) (.ci .i64 0)) <|
 .bRX (.cmp .lss .i64) (.bRY tI tI (.p1 tI tI (.Z 2)) (aP aD 1 (.Z 1))) <|
 .ite (.Z 3) (
  .bRX (.bS1 88 bF) (.bRY aE tI (.p1 aE (.bRW aB (.bRW tI (.bRW bV aO))) (.p1 aC tI (.Z 0))) (.p1 tI tI (.Z 2))) <|
  .bRX (.ar .add .i64) (.bRY tI tI (aP aD 1 (.Z 2)) (aK bF 1 (.Z 4))) <|
  .bRX (.ar .add .i64) (.bRY tI tI (.p1 tI tI (.Z 2)) (.ci .i64 1)) <|
  .bRZ 0 (.bRY tI tI (.Z 6) (.Z 5))) (
  .bRX (.cmp .gtr .i64) (.bRY tI tI (aP aD 1 (.Z 1)) (.p1 tI tI (.Z 1))) <|
  .ite (.Z 4) (
   .bRX (.ar .sub .i64) (.bRY tI tI (aP aD 1 (.Z 1)) (.ci .i64 1)) <|
   .bRX (.bS1 88 bF) (.bRY aE tI (.p1 aE (.bRW aB (.bRW tI (.bRW bV aO))) (.p1 aC tI (.Z 0))) (.Z 5)) <|
   .bRX (.ar .add .i64) (.bRY tI tI (aP aD 1 (.Z 2)) (aK bF 2 (.Z 6))) <|
   .ret (.Z 7)) (
   .ret (aP aD 1 (.Z 2))))
theorem aPT:bI Tryz.prog [cX] hZ false 3000 ⟨[(2989,1002,gQ 18 16++[.dr 9]++gQ 15 10++[.dr 0,.dr 1,.tm 8 0,.tm 7 0])],[]⟩ = .ok vX:=by kernel_rfl
theorem aQ4 (x:bG × Int) (hx:okD (.bRW aC tI) x) (hp:(fun x=>fO x.1) x):vX.wp [cX] [⟨(.bRW aC tI),x⟩] [] (fun v=>v.as tI=(fun x=>qV x.1 x.2) x):=by
 have hp:fO x.1:=hp
 have hr:=vD x.1.1 x.1.2.1 x.2
 have hml:List.length x.1.1≤1000000000:=hp.1.1
 have hb:=aOQ x.1 x.2
 delta vX cX;refine cW ?_
 refine dB ?_
 refine ⟨⟨hp.1,hp.2.1⟩,fun _=>?_⟩
 refine cN (fun k=>((bD x.1.1 x.1.2.1 x.2).1+(k:Int),rP x.1.1 (bD x.1.1 x.1.2.1 x.2).1 k)) ((bD x.1.1 x.1.2.1 x.2).2 - (bD x.1.1 x.1.2.1 x.2).1).toNat (Prod.ext (Int.add_zero _).symm rfl) fun I μ k hk _ go=>?_
 dsimp only
 refine dB ?_
 constructor
 ·intro hlt
  have hm:=(hr.2.2.2 (by omega)).1
  have hl:=((bY _).1 hm).2.1
  have h1:=aL9 hm hr.1 k (by omega)
  have h2:=aLQ hm (i:=(bD x.1.1 x.1.2.1 x.2).1+(k:Int)) (by omega) (by omega)
  have e:rP x.1.1 (bD x.1.1 x.1.2.1 x.2).1 (k+1)=rP x.1.1 (bD x.1.1 x.1.2.1 x.2).1 k+aJZ x.1.1 ((bD x.1.1 x.1.2.1 x.2).1+(k:Int)):=rfl
  rw[show (List.getD x.1.1 ((bD x.1.1 x.1.2.1 x.2).1+(k:Int)).toNat (aW bF)).2.1=aJZ x.1.1 ((bD x.1.1 x.1.2.1 x.2).1+(k:Int)) from rfl]
  (repeat' first|intro _|(refine go _ ?_ ?_ ?_)|(refine go _ ?_ ?_)|(with_reducible apply And.intro))
  all_goals first|omega|(refine Prod.ext ?_ ?_ <;> refine @Eq.trans Int _ _ _ ?_ rfl <;> dsimp only <;> omega)|skip
 ·intro hge
  have e:k=((bD x.1.1 x.1.2.1 x.2).2 - (bD x.1.1 x.1.2.1 x.2).1).toNat:=by omega
  subst e
  have e9:qV x.1 x.2=rP x.1.1 (bD x.1.1 x.1.2.1 x.2).1 ((bD x.1.1 x.1.2.1 x.2).2 - (bD x.1.1 x.1.2.1 x.2).1).toNat+sM x.1 x.2:=rfl
  rw[show (List.getD x.1.1 ((bD x.1.1 x.1.2.1 x.2).2 - 1).toNat (aW bF)).2.2.1=aHR x.1.1 ((bD x.1.1 x.1.2.1 x.2).2 - 1) from rfl]
  by_cases hq:(bD x.1.1 x.1.2.1 x.2).1<(bD x.1.1 x.1.2.1 x.2).2
  ·have e8:sM x.1 x.2=aHR x.1.1 ((bD x.1.1 x.1.2.1 x.2).2 - 1):=if_pos hq
   rw[← e8]
   (repeat' first|intro _|(with_reducible apply And.intro))
   all_goals first|omega|exact e9.symm|skip
  ·have e8:sM x.1 x.2=0:=if_neg hq
   (repeat' first|intro _|(with_reducible apply And.intro))
   all_goals first|omega|(rw[e9,e8,Int.add_zero])|skip
theorem aE8:Con.Holds Tryz.prog hZ:=aS aV (aI oD aQ) aPT aQ4
def lT:Con:=⟨84,(.bRW aC tI),tI,[.val ⟨true,aC,[]⟩,.val ⟨false,tI,[]⟩],[⟨false,tI,[0]⟩],false,none,
 ((fun x=>fO x.1):(bG × Int)→Prop),
 ((fun x=>jG x.1 x.2):(bG × Int)→(Int))⟩
def sH:T:=.call 0 (bB (.bRW aE (.bRW aB tI)) [(.p1 aE (.bRW aB (.bRW tI (.bRW bV aO))) (.p1 aC tI (.Z 0))),(aK aC 1 (.p1 aC tI (.Z 0))),(aP (.bRW aC tI) 1 (.Z 0))]) <|
 .bRX (.cmp .gtr .i64) (.bRY tI tI (aP aD 1 (.Z 1)) (.p1 tI tI (.Z 1))) <|
 .ite (.Z 2) (
  .bRX (.bS0 4 .bool) (aK aC 3 (.p1 aC tI (.Z 0))) <|
  .bRX (.cmp .lss .i64) (.bRY tI tI (aP (.bRW aC tI) 1 (.Z 0)) (.Z 3)) <|
  .ite (.Z 4) (
   .bRX (.bS1 4 .bool) (.bRY bV tI (aK aC 3 (.p1 aC tI (.Z 0))) (aP (.bRW aC tI) 1 (.Z 0))) <|
   .ite (.Z 5) (
    .bRX (.bS1 88 bF) (.bRY aE tI (.p1 aE (.bRW aB (.bRW tI (.bRW bV aO))) (.p1 aC tI (.Z 0))) (.p1 tI tI (.Z 1))) <|
    .ret (aK bF 1 (.Z 6))) (
    .call 1 (.Z 0) <|
    .ret (.Z 6))) (
   .call 1 (.Z 0) <|
   .ret (.Z 5))) (
  .call 1 (.Z 0) <|
  .ret (.Z 3))
theorem aMA:bI Tryz.prog [cX,hZ] lT false 3000 ⟨[],[]⟩ = .ok sH:=by kernel_rfl
theorem aLX (x:bG × Int) (hx:okD (.bRW aC tI) x) (hp:(fun x=>fO x.1) x):sH.wp [cX,hZ] [⟨(.bRW aC tI),x⟩] [] (fun v=>v.as tI=(fun x=>jG x.1 x.2) x):=by
 have hp:fO x.1:=hp
 have hr:=vD x.1.1 x.1.2.1 x.2
 have hml:List.length x.1.1≤1000000000:=hp.1.1
 have red:pE x.1 x.2=true∨pE x.1 x.2=false:=by cases pE x.1 x.2 <;> simp
 have none_:(bD x.1.1 x.1.2.1 x.2).2≤(bD x.1.1 x.1.2.1 x.2).1→qV x.1 x.2=jG x.1 x.2:=fun h=>by
  have e0:=bFK (c:=x.1) (s:=x.2) (by omega)
  rcases red with h1|h1
  ·rw[← aUD h1]
   have e1:inF x.1 x.2=0:=(congrArg Prod.fst e0).symm
   have e2:sM x.1 x.2=0:=(congrArg Prod.snd e0).symm
   unfold qV
   rw[e1,e2,show ((bD x.1.1 x.1.2.1 x.2).2 - (bD x.1.1 x.1.2.1 x.2).1).toNat=0 by omega];rfl
  ·exact aLA h1
 have redo_t:(bD x.1.1 x.1.2.1 x.2).1<(bD x.1.1 x.1.2.1 x.2).2→pE x.1 x.2=true→aJZ x.1.1 (bD x.1.1 x.1.2.1 x.2).1=jG x.1 x.2:=fun h h1=>by
  rw[← aUD h1];exact congrArg Prod.fst (bFY h)
 delta sH cX hZ;refine cW ?_
 refine dB ?_
 refine ⟨⟨hp.1,hp.2.1⟩,fun _=>⟨fun hlt _=>?_,fun h=>⟨hp,fun _=>none_ h⟩⟩⟩
 have h0:=(hr.2.2.2 hlt).2.2.1
 refine ⟨fun hl=>⟨by omega,fun h=>⟨by omega,fun _=>?_⟩,fun h=>⟨hp,fun _=>?_⟩⟩,fun h=>⟨hp,fun _=>aLA (aJY (.inr h)).symm⟩⟩
 ·exact redo_t hlt ((sZ h0 hl).symm.trans h)
 ·exact aLA ((sZ h0 hl).symm.trans h)
theorem aMU:Con.Holds Tryz.prog lT:=aS aV (aI oD (aI aE8 aQ)) aMA aLX
def lU:Con:=⟨45,(.bRW aC aD),tI,[.val ⟨true,aC,[]⟩,.val ⟨false,tI,[]⟩,.val ⟨false,tI,[]⟩],[⟨false,tI,[0]⟩],false,none,
 ((fun x=>fO x.1):(bG × fX)→Prop),
 ((fun x=>qK x.1 x.2.1 x.2.2):(bG × fX)→(Int))⟩
def aEU:T:=.call 0 (bB (.bRW aE (.bRW aB tI)) [(.p1 aE (.bRW aB (.bRW tI (.bRW bV aO))) (.p1 aC aD (.Z 0))),(aK aC 1 (.p1 aC aD (.Z 0))),(aK (.bRW aC aD) 1 (.Z 0))]) <|
 .bRX (.cmp .leq .i64) (.bRY tI tI (aP aD 1 (.Z 1)) (.p1 tI tI (.Z 1))) <|
 .ite (.Z 2) (
  .ret (.ci .i64 0)) (
  .call 1 (bB (.bRW tI aD) [(aP (.bRW aC aD) 2 (.Z 0)),(.ci .i64 1),(.ci .i64 5)]) <|
  .bRX .not (.Z 3) <|
  .ite (.Z 4) (
   .ret (.ci .i64 0)) (
   .bRX (.bS0 3 tI) (aK aC 1 (.p1 aC aD (.Z 0))) <|
   .bRX (.ar .add .i64) (.bRY tI tI (.Z 5) (.ci .i64 1)) <|
   .call 1 (bB (.bRW tI aD) [(.Z 6),(.ci .i64 1),(.ci .i64 4)]) <|
   .bRX .not (.Z 7) <|
   .ite (.Z 8) (
    .ret (.ci .i64 0)) (
    .bRX (.cmp .eql .i64) (.bRY tI tI (aK aC 2 (.p1 aC aD (.Z 0))) (.ci .i64 2)) <|
    .ite (.Z 9) (
     .bRX (.bS0 3 tI) (aK aC 1 (.p1 aC aD (.Z 0))) <|
     .bRX (.ar .add .i64) (.bRY tI tI (.Z 10) (.ci .i64 1)) <|
     .bRX (.ar .sub .i64) (.bRY tI tI (.Z 11) (aK (.bRW aC aD) 1 (.Z 0))) <|
     .bRX (.mn .i64) (.bRY tI tI (aP (.bRW aC aD) 2 (.Z 0)) (.Z 12)) <|
     .bRX (.ar .sub .i64) (.bRY tI tI (aP aD 1 (.Z 1)) (.ci .i64 1)) <|
     .bRX (.bS1 88 bF) (.bRY aE tI (.p1 aE (.bRW aB (.bRW tI (.bRW bV aO))) (.p1 aC aD (.Z 0))) (.p1 tI tI (.Z 1))) <|
     .bRX (.bS1 88 bF) (.bRY aE tI (.p1 aE (.bRW aB (.bRW tI (.bRW bV aO))) (.p1 aC aD (.Z 0))) (.Z 14)) <|
     .bRX (.mx .i64) (.bRY tI tI (aK bF 1 (.Z 15)) (aK bF 2 (.Z 16))) <|
     .call 2 (.bRY aC tI (.p1 aC aD (.Z 0)) (aK (.bRW aC aD) 1 (.Z 0))) <|
     .bRX (.ar .mul .i64) (.bRY tI tI (.Z 13) (.Z 18)) <|
     .bRX (.ar .add .i64) (.bRY tI tI (.Z 19) (.Z 17)) <|
     .bRX (.bS0 4 .bool) (aK aC 3 (.p1 aC aD (.Z 0))) <|
     .bRX (.cmp .lss .i64) (.bRY tI tI (aK (.bRW aC aD) 1 (.Z 0)) (.Z 21)) <|
     .ite (.Z 22) (
      .bRX (.bS1 4 .bool) (.bRY bV tI (aK aC 3 (.p1 aC aD (.Z 0))) (aK (.bRW aC aD) 1 (.Z 0))) <|
      .ite (.Z 23) (
       .call 3 (.bRY aC tI (.p1 aC aD (.Z 0)) (aK (.bRW aC aD) 1 (.Z 0))) <|
       .bRX (.ar .add .i64) (.bRY tI tI (.Z 20) (.Z 24)) <|
       .ret (.Z 25)) (
       .ret (.Z 20))) (
      .ret (.Z 20))) (
     .bRX (.ar .sub .i64) (.bRY tI tI (aP aD 1 (.Z 1)) (.ci .i64 1)) <|
     .bRX (.bS1 88 bF) (.bRY aE tI (.p1 aE (.bRW aB (.bRW tI (.bRW bV aO))) (.p1 aC aD (.Z 0))) (.p1 tI tI (.Z 1))) <|
     .bRX (.bS1 88 bF) (.bRY aE tI (.p1 aE (.bRW aB (.bRW tI (.bRW bV aO))) (.p1 aC aD (.Z 0))) (.Z 10)) <|
     .bRX (.mx .i64) (.bRY tI tI (aK bF 1 (.Z 11)) (aK bF 2 (.Z 12))) <|
     .call 2 (.bRY aC tI (.p1 aC aD (.Z 0)) (aK (.bRW aC aD) 1 (.Z 0))) <|
     .bRX (.ar .mul .i64) (.bRY tI tI (aP (.bRW aC aD) 2 (.Z 0)) (.Z 14)) <|
     .bRX (.ar .add .i64) (.bRY tI tI (.Z 15) (.Z 13)) <|
     .bRX (.bS0 4 .bool) (aK aC 3 (.p1 aC aD (.Z 0))) <|
     .bRX (.cmp .lss .i64) (.bRY tI tI (aK (.bRW aC aD) 1 (.Z 0)) (.Z 17)) <|
     .ite (.Z 18) (
      .bRX (.bS1 4 .bool) (.bRY bV tI (aK aC 3 (.p1 aC aD (.Z 0))) (aK (.bRW aC aD) 1 (.Z 0))) <|
      .ite (.Z 19) (
       .call 3 (.bRY aC tI (.p1 aC aD (.Z 0)) (aK (.bRW aC aD) 1 (.Z 0))) <|
       .bRX (.ar .add .i64) (.bRY tI tI (.Z 16) (.Z 20)) <|
       .ret (.Z 21)) (
       .ret (.Z 16))) (
      .ret (.Z 16))))))
theorem bD5:bI Tryz.prog [cX,bL,lT,hZ] lU false 3000 ⟨[],[]⟩ = .ok aEU:=by kernel_rfl
theorem bDK (x:bG × fX) (hx:okD (.bRW aC aD) x) (hp:(fun x=>fO x.1) x):aEU.wp [cX,bL,lT,hZ] [⟨(.bRW aC aD),x⟩] [] (fun v=>v.as tI=(fun x=>qK x.1 x.2.1 x.2.2) x):=by
 obtain ⟨c,s,micro⟩:=x
 have hp:fO c:=hp
 have hb:=aOQ c s
 have hr:=vD c.1 c.2.1 s
 have hml:List.length c.1≤1000000000:=hp.1.1
 delta aEU cX bL lT hZ;refine cW ?_
 refine dB ?_
 refine ⟨⟨hp.1,hp.2.1⟩,fun _=>⟨fun h=>aLM (.inl h),fun hrb=>?_⟩⟩
 have h0:=(hr.2.2.2 hrb).2.2
 have hl:=hp.2.1
 have hrl:=hp.2.2.1
 have e1:inF c s=aJZ c.1 (bD c.1 c.2.1 s).1:=if_pos hrb
 have e2:sM c s=aHR c.1 ((bD c.1 c.2.1 s).2 - 1):=if_pos hrb
 rw[show (List.getD c.1 (Int.toNat (bD c.1 c.2.1 s).1) (aW bF)).2.1=inF c s from e1.symm,show (List.getD c.1 ((bD c.1 c.2.1 s).2 - 1).toNat (aW bF)).2.2.1=sM c s from e2.symm]
 (repeat' first|intro _|(with_reducible apply And.intro))
 all_goals first|omega|exact hp|exact aLM (by omega)|skip
 all_goals have hq1:=bGV (k:=min micro ((c.2.1.length:Int)+1 - s)) (v:=jG c s) (by omega) (by omega) (by omega) (by omega)
 all_goals have hq2:=bGV (k:=micro) (v:=jG c s) (by omega) (by omega) (by omega) (by omega)
 all_goals first|omega|exact zU hrb (by omega) (by omega) (by omega) (if_pos (by assumption)).symm (if_pos (by assumption)).symm|exact zU hrb (by omega) (by omega) (by omega) (if_neg (by assumption)).symm (if_pos (by assumption)).symm|exact rN hrb (by omega) (by omega) (by omega) (if_pos (by assumption)).symm (by assumption)|exact rN hrb (by omega) (by omega) (by omega) (if_neg (by assumption)).symm (by assumption)|exact zU hrb (by omega) (by omega) (by omega) (if_pos (by assumption)).symm (if_pos ((sZ (by omega) (by omega)).symm.trans (by assumption))).symm|exact zU hrb (by omega) (by omega) (by omega) (if_neg (by assumption)).symm (if_pos ((sZ (by omega) (by omega)).symm.trans (by assumption))).symm|exact rN hrb (by omega) (by omega) (by omega) (if_pos (by assumption)).symm ((sZ (by omega) (by omega)).symm.trans (by assumption))|exact rN hrb (by omega) (by omega) (by omega) (if_neg (by assumption)).symm ((sZ (by omega) (by omega)).symm.trans (by assumption))|exact rN hrb (by omega) (by omega) (by omega) (if_pos (by assumption)).symm (aJY (by omega)).symm|exact rN hrb (by omega) (by omega) (by omega) (if_neg (by assumption)).symm (aJY (by omega)).symm|skip
theorem aMS:Con.Holds Tryz.prog lU:=aS aV (aI oD (aI eV (aI aMU (aI aE8 aQ)))) bD5 bDK
def nO:Con:=⟨36,(.bRW aC aG),tI,[.val ⟨true,aC,[]⟩,.val ⟨false,aG,[]⟩],[⟨false,tI,[0]⟩],false,none,
 ((fun x=>fO x.1):(bG × bO)→Prop),
 ((fun x=>fJ x.1 x.2):(bG × bO)→(Int))⟩
def aIX:T:=.call 0 (.p1 aE (.bRW aB (.bRW tI (.bRW bV aO))) (.p1 aC aG (.Z 0))) <|
 .bRX .not (.Z 1) <|
 .ite (.Z 2) (
  .ret (.ci .i64 1)) (
  .call 1 (.bRY aE aG (.p1 aE (.bRW aB (.bRW tI (.bRW bV aO))) (.p1 aC aG (.Z 0))) (aP (.bRW aC aG) 1 (.Z 0))) <|
  .bRX .not (.Z 3) <|
  .ite (.Z 4) (
   .ret (.ci .i64 2)) (
   .call 2 (.bRY aE aB (.p1 aE (.bRW aB (.bRW tI (.bRW bV aO))) (.p1 aC aG (.Z 0))) (aK aC 1 (.p1 aC aG (.Z 0)))) <|
   .bRX .not (.Z 5) <|
   .ite (.Z 6) (
    .ret (.ci .i64 3)) (
    .bRX (.bS0 3 tI) (aK aC 1 (.p1 aC aG (.Z 0))) <|
    .bRX (.ar .add .i64) (.bRY tI tI (.Z 7) (.ci .i64 1)) <|
    .bRX (.cmp .gtr .i64) (.bRY tI tI (.Z 8) (.ci .i64 4)) <|
    .ite (.Z 9) (
     .ret (.ci .i64 3)) (
     .call 3 (bB (.bRW tI aD) [(aK aC 2 (.p1 aC aG (.Z 0))),(.ci .i64 1),(.ci .i64 2)]) <|
     .bRX .not (.Z 10) <|
     .ite (.Z 11) (
      .ret (.ci .i64 4)) (
      .bRX (.bS0 4 .bool) (aK aC 3 (.p1 aC aG (.Z 0))) <|
      .bRX (.bS0 3 tI) (aK aC 1 (.p1 aC aG (.Z 0))) <|
      .bRX (.ar .add .i64) (.bRY tI tI (.Z 13) (.ci .i64 1)) <|
      .bRX (.cmp .neq .i64) (.bRY tI tI (.Z 12) (.Z 14)) <|
      .ite (.Z 15) (
       .ret (.ci .i64 5)) (
       .bRX (.bS0 3 tI) (aK aC 4 (.p1 aC aG (.Z 0))) <|
       .bRX (.bS0 3 tI) (aK aC 1 (.p1 aC aG (.Z 0))) <|
       .bRX (.cmp .neq .i64) (.bRY tI tI (.Z 16) (.Z 17)) <|
       .ite (.Z 18) (
        .ret (.ci .i64 6)) (
        .loop tI (.ci .i64 0) <|
         .bRX (.bS0 3 tI) (aK aC 4 (.p1 aC aG (.Z 0))) <|
         .bRX (.cmp .lss .i64) (.bRY tI tI (.Z 19) (.Z 20)) <|
         .ite (.Z 21) (
          .bRX (.bS1 3 tI) (.bRY aB tI (aK aC 4 (.p1 aC aG (.Z 0))) (.Z 19)) <|
          .call 3 (bB (.bRW tI aD) [(.Z 22),(.ci .i64 1),(.ci .i64 5)]) <|
          .bRX .not (.Z 23) <|
          .ite (.Z 24) (
           .ret (.ci .i64 6)) (
           .bRX (.ar .add .i64) (.bRY tI tI (.Z 19) (.ci .i64 1)) <|
           .bRZ 0 (.Z 25))) (
          .bRX (.bS0 3 tI) (aP aC 5 (.p1 aC aG (.Z 0))) <|
          .bRX (.bS0 3 tI) (aK aC 1 (.p1 aC aG (.Z 0))) <|
          .bRX (.ar .add .i64) (.bRY tI tI (.Z 23) (.ci .i64 1)) <|
          .bRX (.cmp .neq .i64) (.bRY tI tI (.Z 22) (.Z 24)) <|
          .ite (.Z 25) (
           .ret (.ci .i64 7)) (
           .loop tI (.ci .i64 0) <|
            .bRX (.bS0 3 tI) (aP aC 5 (.p1 aC aG (.Z 0))) <|
            .bRX (.cmp .lss .i64) (.bRY tI tI (.Z 26) (.Z 27)) <|
            .ite (.Z 28) (
             .bRX (.bS1 3 tI) (.bRY aB tI (aP aC 5 (.p1 aC aG (.Z 0))) (.Z 26)) <|
             .bRX (.bS0 92 aO) (aP (.bRW aC aG) 1 (.Z 0)) <|
             .call 4 (bB (.bRW aC aD) [(.p1 aC aG (.Z 0)),(.Z 26),(.Z 30)]) <|
             .call 3 (bB (.bRW tI aD) [(.Z 29),(.Z 31),(.ci .i64 100000)]) <|
             .bRX .not (.Z 32) <|
             .ite (.Z 33) (
              .ret (.ci .i64 7)) (
              .bRX (.ar .add .i64) (.bRY tI tI (.Z 26) (.ci .i64 1)) <|
              .bRZ 0 (.Z 34))) (
             .ret (.ci .i64 0)))))))))))
theorem bJ0:bI Tryz.prog [cD,rC,iM,bL,lU] nO false 3000 ⟨[(2963,128019,gQ 47 7++[.dr 0,.tm 5 0]),(2948,512026,gQ 69 62++gQ 52 48++[.dr 5,.tm 6 0])],[]⟩ = .ok aIX:=by kernel_rfl
theorem bJA (x:bG × bO) (hx:okD (.bRW aC aG) x) (hp:(fun x=>fO x.1) x):aIX.wp [cD,rC,iM,bL,lU] [⟨(.bRW aC aG),x⟩] [] (fun v=>v.as tI=(fun x=>fJ x.1 x.2) x):=by
 obtain ⟨c,b⟩:=x
 have hp:fO c:=hp
 have hl1:=hp.2.1
 have hl2:=hp.2.2.1
 have hl3:=hp.2.2.2.1
 have hl4:List.length c.2.2.2.2.2≤1000000000:=hp.2.2.2.2
 delta aIX cD rC iM bL lU;refine cW ?_
 refine dB ?_
 refine ⟨fun h=>bR6 h,fun h1=>⟨fun h=>bQF h1 h,fun h2=>⟨⟨hp.1,hp.2.1⟩,fun h=>bNX h1 h2 (.inl (aN2 h)),fun hc _=>⟨by omega,fun _=>⟨fun h=>bNX h1 h2 (.inr (by rw[aC4 hc];exact h)),fun h3=>?_⟩⟩⟩⟩⟩
 have hst:=aC4 hc
 have h3':¬ (bW c.1 c.2.1=0∨4<bW c.1 c.2.1):=by omega
 refine ⟨fun h=>bQC h1 h2 h3' (by omega),fun h4 _ _=>⟨by omega,fun _=>⟨fun h=>bQP h1 h2 h3' (by omega) (by omega),fun h5=>?_⟩⟩⟩
 have h4':c.2.2.1=1∨c.2.2.1=2:=by omega
 have h5':(c.2.2.2.1.length:Int)=bW c.1 c.2.1:=by omega
 refine fun _ _=>⟨fun h=>bNU h1 h2 h3' h4' h5' (bG4 (by omega)),fun h6=>?_⟩
 refine pA (fun k=>(k:Int)) (fun k=>(List.take k c.2.2.2.2.1).all (fun n=>decide (1≤n∧n≤5))=true) (List.length c.2.2.2.2.1) rfl rfl fun I μ k hk hG _ go=>?_
 try dsimp only
 refine dB ?_
 intro _
 constructor
 ·intro hlt
  have hk':k<List.length c.2.2.2.2.1:=by omega
  have e:=mT (fun n:Int=>decide (1≤n∧n≤5)) c.2.2.2.2.1 hk'
  simp only[aZ hk']
  (repeat' first|intro _|(refine go _ ?_ ?_ ?_)|(refine go _ ?_ ?_)|(with_reducible apply And.intro))
  all_goals first|omega|exact bNU h1 h2 h3' h4' h5' (bF4 hk' (by omega))|(rw[e,hG,Bool.true_and];exact decide_eq_true ⟨by omega,by omega⟩)|rfl
 intro hge
 have h6':qZ c=true:=bNJ (by omega) (aL2 hG (by omega))
 clear go hG
 refine fun _ _=>⟨by omega,fun _=>⟨fun h=>bOY h1 h2 h3' h4' h5' h6' (bMY (by omega)),fun h7=>?_⟩⟩
 refine pA (fun k=>(k:Int)) (fun k=>∀ i,i<k→bF7 c (b.length:Int) i=true) (List.length c.2.2.2.2.2) rfl (fun i hi=>absurd hi (Nat.not_lt_zero _)) fun I μ k hk hG _ go=>?_
 try dsimp only
 refine dB ?_
 intro _
 constructor
 ·intro hlt
  have hk':k<List.length c.2.2.2.2.2:=by omega
  (repeat' first|intro _|(refine go _ ?_ ?_ ?_)|(refine go _ ?_ ?_)|(with_reducible apply And.intro))
  all_goals first|omega|exact hp|exact bOY h1 h2 h3' h4' h5' h6' (bLK hk' (fun hh=>by have h1:qK c (k:Int) (b.length:Int)≤List.getD c.2.2.2.2.2 k (aW tI):=hh.1;have h2:List.getD c.2.2.2.2.2 k (aW tI)≤100000:=hh.2;omega))|exact vS hG (decide_eq_true (by assumption)) _ (by assumption)|exact vS hG (decide_eq_true ⟨by omega,by omega⟩) _ (by assumption)|rfl|skip
 ·intro hge
  exact bRC h1 h2 h3' h4' h5' h6' (bPP (by omega) fun i hi=>hG i (by omega))
theorem aQM:Con.Holds Tryz.prog nO:=aS aV (aI kF (aI aYP (aI aGE (aI eV (aI aMS aQ))))) bJ0 bJA
end
end Go.Proofs.YtabamggdmdednaaGreat
