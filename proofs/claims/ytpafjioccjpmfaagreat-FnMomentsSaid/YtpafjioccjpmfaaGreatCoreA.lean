/- CoreA: lemmas. No conditions. -/
import Derived.Test.YtpafjioccjpmfaaGreatCoreL
import Derived.Test.YtpafjioccjpmfaaGreatTicks2
namespace Go.Proofs.YtpafjioccjpmfaaGreat
noncomputable section
set_option maxRecDepth 100000
open Go.ChangeShapes Go.WideShapes Go.ChangeAt Go.RowKit Go.Deep
set_option linter.unusedVariables false
set_option linter.unusedSimpArgs false
def aY (m:List cZ) (c:List Int) (s:Int):Int × Int :=
 if iL m c=true∧0≤s∧s≤(c.length:Int) then ((if 0<s then c.getD (s - 1).toNat 0 else 0),(if s<(c.length:Int) then c.getD s.toNat 0 else (m.length:Int))) else (0,0)
def aE2 (m:List cZ) (i:Int):Int:=(m.getD i.toNat qY).2.1
def aCQ (m:List cZ) (i:Int):Int:=(m.getD i.toNat qY).2.2.1
def oQ (m:List cZ) (a:Int):Nat→Int
 | 0=>0
 | k+1=>oQ m a k+aE2 m (a+(k:Int))
def oJ (c:bB) (s:Int):Int:=if (aY c.1 c.2.1 s).1<(aY c.1 c.2.1 s).2 then aCQ c.1 ((aY c.1 c.2.1 s).2 - 1) else 0
def inF (c:bB) (s:Int):Int:=if (aY c.1 c.2.1 s).1<(aY c.1 c.2.1 s).2 then aE2 c.1 (aY c.1 c.2.1 s).1 else 0
def mE (c:bB) (s:Int):Int:=oQ c.1 (aY c.1 c.2.1 s).1 ((aY c.1 c.2.1 s).2 - (aY c.1 c.2.1 s).1).toNat+oJ c s
def lM (c:bB) (s:Int):Bool:=decide (0≤s∧s<(c.2.2.2.1.length:Int))&&c.2.2.2.1.getD s.toNat false
def fY (c:bB) (s:Int):Int:=if lM c s=true then inF c s else mE c s
def jD (c:bB) (s micro:Int):Int :=
 if (aY c.1 c.2.1 s).1<(aY c.1 c.2.1 s).2∧1≤micro∧micro≤5∧(c.2.1.length:Int)+1≤4 then
  (if c.2.2.1=2 then min micro ((c.2.1.length:Int)+1 - s) else micro) * fY c s+max (inF c s) (oJ c s)+(if lM c s=true then mE c s else 0) else 0
def oM (c:bB):Bool:=decide (c.2.2.2.2.1.length=c.2.1.length)&&c.2.2.2.2.1.all fun n=>decide (1≤n∧n≤5)
def aOF (c:bB) (micro:Int) (s:Nat):Bool:=decide (jD c (s:Int) micro≤c.2.2.2.2.2.getD s 0∧c.2.2.2.2.2.getD s 0≤100000)
def jF (c:bB) (micro:Int):Bool:=decide ((c.2.2.2.2.2.length:Int)=bC c.1 c.2.1)&&(List.range c.2.2.2.2.2.length).all (aOF c micro)
def cE (c:bB) (b:List cB):Int :=
 if bO c.1=false then 1 else if eK c.1 b=false then 2 else if bC c.1 c.2.1=0∨4<bC c.1 c.2.1 then 3 else if ¬ (c.2.2.1=1∨c.2.2.1=2) then 4
 else if ¬ (c.2.2.2.1.length:Int)=bC c.1 c.2.1 then 5 else if oM c=false then 6 else if jF c (b.length:Int)=false then 7 else 0
theorem pX {m:List cZ} {c:List Int} {s:Int} (h:iL m c=false∨s<0∨(c.length:Int)<s):aY m c s=(0,0):=by
 unfold aY;rw[if_neg]
 rintro ⟨h1,h2,h3⟩
 rcases h with h|h|h
 ·rw[h] at h1;cases h1
 ·omega
 ·omega
theorem mD {m:List cZ} {c:List Int} {s:Int} (h1:iL m c=true) (h2:0≤s) (h3:s≤(c.length:Int)):aY m c s=((if 0<s then c.getD (s - 1).toNat 0 else 0),(if s<(c.length:Int) then c.getD s.toNat 0 else (m.length:Int))):=if_pos ⟨h1,h2,h3⟩
theorem aCE {m:List cZ} {c:List Int} {s:Int} (h1:iL m c=true) (h2:0≤s) (h3:s≤(c.length:Int)):0≤(aY m c s).1∧(aY m c s).1<(aY m c s).2∧(aY m c s).2≤(m.length:Int):=by
 obtain ⟨hm,hc⟩:=(rO m c).1 h1
 have hm1:=((bM m).1 hm).1
 rw[mD h1 h2 h3]
 dsimp only
 by_cases ha:0<s
 ·have e1:=(xK c m.length (show (s - 1).toNat<c.length by omega)).1 (hc _ (by omega))
  rw[if_pos ha,aW (show (s - 1).toNat<c.length by omega)]
  by_cases hb:s<(c.length:Int)
  ·have e2:=(xK c m.length (show s.toNat<c.length by omega)).1 (hc _ (by omega))
   rw[if_pos hb,aW (show s.toNat<c.length by omega)]
   have e3:(s - 1).toNat=s.toNat - 1:=by omega
   have e4:c[(s - 1).toNat]'(by omega)=c[s.toNat - 1]'(by omega):=by congr 1
   rw[e4] at e1 ⊢
   omega
  ·rw[if_neg hb];omega
 ·rw[if_neg ha]
  by_cases hb:s<(c.length:Int)
  ·have e2:=(xK c m.length (show s.toNat<c.length by omega)).1 (hc _ (by omega))
   rw[if_pos hb,aW (show s.toNat<c.length by omega)]
   omega
  ·rw[if_neg hb];omega
theorem uM (m:List cZ) (c:List Int) (s:Int):0≤(aY m c s).1∧(aY m c s).1≤(aY m c s).2∧(aY m c s).2≤(m.length:Int)∧((aY m c s).1<(aY m c s).2→bO m=true∧iL m c=true∧0≤s∧s≤(c.length:Int)):=by
 by_cases h:iL m c=true∧0≤s∧s≤(c.length:Int)
 ·have hb:=aCE h.1 h.2.1 h.2.2
  exact ⟨hb.1,by omega,hb.2.2,fun _=>⟨((rO m c).1 h.1).1,h⟩⟩
 ·have e:aY m c s=(0,0):=if_neg h
  rw[e]
  exact ⟨Int.le_refl _,Int.le_refl _,by show (0:Int)≤_;omega,fun h=>absurd h (Int.lt_irrefl _)⟩
theorem aBM {m:List cZ} (h:bO m=true) {i:Int} (h0:0≤i) (h1:i<(m.length:Int)):1≤aE2 m i∧aE2 m i≤6∧1≤aCQ m i∧aCQ m i≤6:=by
 have hk:i.toNat<m.length:=by omega
 have h2:=(iO m hk).1 (((bM m).1 h).2.2 _ hk)
 have h3:=((eH _).1 h2.1).1
 unfold aE2 aCQ
 rw[aW hk]
 omega
theorem aJ4 {m:List cZ} (h:bO m=true) {a:Int} (h0:0≤a):(k:Nat)→a+(k:Int)≤(m.length:Int)→0≤oQ m a k∧oQ m a k≤6 * (k:Int)
 | 0,_=>by unfold oQ;omega
 | k+1,hk=>by
  have h1:=aJ4 h h0 k (by omega)
  have h2:=aBM h (i:=a+(k:Int)) (by omega) (by omega)
  unfold oQ;omega
theorem aGZ (c:bB) (s:Int):0≤inF c s∧inF c s≤6∧0≤oJ c s∧oJ c s≤6∧0≤mE c s∧mE c s≤54∧0≤fY c s∧fY c s≤54:=by
 obtain ⟨h0,h1,h2,h3⟩:=uM c.1 c.2.1 s
 by_cases h:(aY c.1 c.2.1 s).1<(aY c.1 c.2.1 s).2
 ·obtain ⟨hm,-⟩:=h3 h
  have hl:=((bM _).1 hm).2.1
  have a1:=aBM hm (i:=(aY c.1 c.2.1 s).1) h0 (by omega)
  have a2:=aBM hm (i:=(aY c.1 c.2.1 s).2 - 1) (by omega) (by omega)
  have a3:=aJ4 hm h0 ((aY c.1 c.2.1 s).2 - (aY c.1 c.2.1 s).1).toNat (by omega)
  have e1:inF c s=aE2 c.1 (aY c.1 c.2.1 s).1:=if_pos h
  have e2:oJ c s=aCQ c.1 ((aY c.1 c.2.1 s).2 - 1):=if_pos h
  have e3:mE c s=oQ c.1 (aY c.1 c.2.1 s).1 ((aY c.1 c.2.1 s).2 - (aY c.1 c.2.1 s).1).toNat+oJ c s:=rfl
  have e4:fY c s=if lM c s=true then inF c s else mE c s:=rfl
  split at e4 <;> omega
 ·have e1:inF c s=0:=if_neg h
  have e2:oJ c s=0:=if_neg h
  have e3:mE c s=oQ c.1 (aY c.1 c.2.1 s).1 ((aY c.1 c.2.1 s).2 - (aY c.1 c.2.1 s).1).toNat+oJ c s:=rfl
  rw[show ((aY c.1 c.2.1 s).2 - (aY c.1 c.2.1 s).1).toNat=0 by omega] at e3
  have e5:oQ c.1 (aY c.1 c.2.1 s).1 0=0:=rfl
  have e4:fY c s=if lM c s=true then inF c s else mE c s:=rfl
  split at e4 <;> omega
theorem bC4 {m:List cZ} {c:List Int} {s:Int} (h1:iL m c=true) (h2:0<s) (h3:s<(c.length:Int)):(c.getD (s - 1).toNat 0,c.getD s.toNat 0)=aY m c s:=by rw[mD h1 (by omega) (by omega),if_pos h2,if_pos h3]
theorem bCA {m:List cZ} {c:List Int} {s:Int} (h1:iL m c=true) (h2:0<s) (h3:s=(c.length:Int)):(c.getD (s - 1).toNat 0,(m.length:Int))=aY m c s:=by rw[mD h1 (by omega) (by omega),if_pos h2,if_neg (by omega)]
theorem bBG {m:List cZ} {c:List Int} {s:Int} (h1:iL m c=true) (h2:s=0) (h3:s<(c.length:Int)):(0,c.getD s.toNat 0)=aY m c s:=by rw[mD h1 (by omega) (by omega),if_neg (by omega),if_pos h3]
theorem bBI {m:List cZ} {c:List Int} {s:Int} (h1:iL m c=true) (h2:s=0) (h3:s=(c.length:Int)):(0,(m.length:Int))=aY m c s:=by rw[mD h1 (by omega) (by omega),if_neg (by omega),if_neg (by omega)]
theorem sC {c:bB} {s:Int} (h0:0≤s) (h1:s<(c.2.2.2.1.length:Int)):c.2.2.2.1.getD s.toNat false=lM c s:=by unfold lM;rw[decide_eq_true ⟨h0,h1⟩,Bool.true_and]
theorem aGQ {c:bB} {s:Int} (h:s<0∨(c.2.2.2.1.length:Int)≤s):false=lM c s:=by unfold lM;rw[decide_eq_false (by omega),Bool.false_and]
theorem bB2 {c:bB} {s:Int} (h:(aY c.1 c.2.1 s).1=(aY c.1 c.2.1 s).2):(0,0)=(inF c s,oJ c s):=by
 unfold inF oJ;rw[if_neg (by omega),if_neg (by omega)]
theorem bD4 {c:bB} {s:Int} (h:(aY c.1 c.2.1 s).1<(aY c.1 c.2.1 s).2):(aE2 c.1 (aY c.1 c.2.1 s).1,aCQ c.1 ((aY c.1 c.2.1 s).2 - 1))=(inF c s,oJ c s):=by
 unfold inF oJ;rw[if_pos h,if_pos h]
theorem aST {c:bB} {s:Int} (h:lM c s=true):inF c s=fY c s:=(if_pos h).symm
theorem aJ0 {c:bB} {s:Int} (h:lM c s=false):mE c s=fY c s:=(if_neg (by rw[h];simp)).symm
theorem aZM {k v:Int} (h1:0≤k) (h2:k≤5) (h3:0≤v) (h4:v≤54):0≤k * v∧k * v≤270:=by
 refine ⟨Int.mul_nonneg h1 h3,?_⟩
 have:=Int.mul_le_mul h2 h4 h3 (by omega:(0:Int)≤5)
 omega
theorem aN1 {c:bB} {s micro:Int} (h:(aY c.1 c.2.1 s).2≤(aY c.1 c.2.1 s).1∨micro<1∨5<micro∨4<(c.2.1.length:Int)+1):0=jD c s micro:=by unfold jD;rw[if_neg (by omega)]
theorem zC {c:bB} {s micro k r:Int} (h1:(aY c.1 c.2.1 s).1<(aY c.1 c.2.1 s).2) (h2:1≤micro) (h3:micro≤5) (h4:(c.2.1.length:Int)+1≤4) (hk:k=if c.2.2.1=2 then min micro ((c.2.1.length:Int)+1 - s) else micro) (hr:r=if lM c s=true then mE c s else 0) :
 k * fY c s+max (inF c s) (oJ c s)+r=jD c s micro:=by unfold jD;rw[if_pos ⟨h1,h2,h3,h4⟩,hk,hr]
theorem qV {c:bB} {s micro k:Int} (h1:(aY c.1 c.2.1 s).1<(aY c.1 c.2.1 s).2) (h2:1≤micro) (h3:micro≤5) (h4:(c.2.1.length:Int)+1≤4) (hk:k=if c.2.2.1=2 then min micro ((c.2.1.length:Int)+1 - s) else micro) (hr:lM c s=false) :
  k * fY c s+max (inF c s) (oJ c s)=jD c s micro:=by
 have h:=zC (s:=s) h1 h2 h3 h4 hk (r:=0) (if_neg (by rw[hr];simp)).symm
 omega
theorem xE {m:List cZ} {c:List Int} (h:iL m c=true):bC m c=(c.length:Int)+1:=if_pos h
theorem aJQ {m:List cZ} {c:List Int} (h:iL m c=false):bC m c=0:=if_neg (by rw[h];simp)
theorem bJ1 {m:List cZ} {c:List Int} {s:Int} (h0:0≤s) (h:s<bC m c):iL m c=true:=by
 cases hc:iL m c
 ·rw[aJQ hc] at h;omega
 ·rfl
theorem bFC (m:List cZ) (c:List Int):0≤bC m c:=by unfold bC;split <;> omega
theorem bBZ {c:bB} (h:¬ c.2.2.2.2.1.length=c.2.1.length):oM c=false:=by unfold oM;rw[decide_eq_false h,Bool.false_and]
theorem bB6 {c:bB} {k:Nat} (hk:k<c.2.2.2.2.1.length) (h:¬ (1≤c.2.2.2.2.1[k]∧c.2.2.2.2.1[k]≤5)):oM c=false:=by
 have e:c.2.2.2.2.1.all (fun n=>decide (1≤n∧n≤5))=false:=yF hk (decide_eq_false h)
 unfold oM
 rw[e,Bool.and_false]
theorem aZG {c:bB} (h:c.2.2.2.2.1.length=c.2.1.length) (h2:c.2.2.2.2.1.all (fun n=>decide (1≤n∧n≤5))=true):oM c=true:=by unfold oM;rw[decide_eq_true h,h2];rfl
theorem bJV {c:bB} {m:Int} (h:¬ (c.2.2.2.2.2.length:Int)=bC c.1 c.2.1):jF c m=false:=by unfold jF;rw[decide_eq_false h,Bool.false_and]
theorem bGS {c:bB} {m:Int} {k:Nat} (hk:k<c.2.2.2.2.2.length) (h:¬ (jD c (k:Int) m≤c.2.2.2.2.2.getD k 0∧c.2.2.2.2.2.getD k 0≤100000)):jF c m=false:=by
 refine Bool.eq_false_iff.2 fun hh=>h ?_
 unfold jF at hh
 rw[Bool.and_eq_true,List.all_eq_true] at hh
 exact of_decide_eq_true (hh.2 k (List.mem_range.2 hk))
theorem bMV {c:bB} {m:Int} (h:(c.2.2.2.2.2.length:Int)=bC c.1 c.2.1) (h2:∀ i,i<c.2.2.2.2.2.length→aOF c m i=true):jF c m=true:=by
 unfold jF;rw[decide_eq_true h,Bool.true_and,List.all_eq_true]
 exact fun i hi=>h2 i (List.mem_range.1 hi)
theorem bOJ {c:bB} {b:List cB} (h:bO c.1=false):1=cE c b:=by unfold cE;rw[if_pos h]
theorem bNU {c:bB} {b:List cB} (h1:bO c.1=true) (h:eK c.1 b=false):2=cE c b:=by unfold cE;rw[if_neg (by rw[h1];simp),if_pos h]
theorem bME {c:bB} {b:List cB} (h1:bO c.1=true) (h2:eK c.1 b=true) (h:bC c.1 c.2.1=0∨4<bC c.1 c.2.1):3=cE c b:=by unfold cE;rw[if_neg (by rw[h1];simp),if_neg (by rw[h2];simp),if_pos h]
theorem bKP {c:bB} {b:List cB} (h1:bO c.1=true) (h2:eK c.1 b=true) (h3:¬ (bC c.1 c.2.1=0∨4<bC c.1 c.2.1)) (h:¬ (c.2.2.1=1∨c.2.2.1=2)):4=cE c b:=by unfold cE;rw[if_neg (by rw[h1];simp),if_neg (by rw[h2];simp),if_neg h3,if_pos h]
theorem bN3 {c:bB} {b:List cB} (h1:bO c.1=true) (h2:eK c.1 b=true) (h3:¬ (bC c.1 c.2.1=0∨4<bC c.1 c.2.1)) (h4:c.2.2.1=1∨c.2.2.1=2) (h:¬ (c.2.2.2.1.length:Int)=bC c.1 c.2.1):5=cE c b:=by
 unfold cE;rw[if_neg (by rw[h1];simp),if_neg (by rw[h2];simp),if_neg h3,if_neg (Classical.not_not.2 h4),if_pos h]
theorem bKX {c:bB} {b:List cB} (h1:bO c.1=true) (h2:eK c.1 b=true) (h3:¬ (bC c.1 c.2.1=0∨4<bC c.1 c.2.1)) (h4:c.2.2.1=1∨c.2.2.1=2) (h5:(c.2.2.2.1.length:Int)=bC c.1 c.2.1) (h:oM c=false):6=cE c b:=by
 unfold cE;rw[if_neg (by rw[h1];simp),if_neg (by rw[h2];simp),if_neg h3,if_neg (Classical.not_not.2 h4),if_neg (Classical.not_not.2 h5),if_pos h]
theorem bKY {c:bB} {b:List cB} (h1:bO c.1=true) (h2:eK c.1 b=true) (h3:¬ (bC c.1 c.2.1=0∨4<bC c.1 c.2.1)) (h4:c.2.2.1=1∨c.2.2.1=2) (h5:(c.2.2.2.1.length:Int)=bC c.1 c.2.1) (h6:oM c=true) (h:jF c (b.length:Int)=false):7=cE c b:=by
 unfold cE;rw[if_neg (by rw[h1];simp),if_neg (by rw[h2];simp),if_neg h3,if_neg (Classical.not_not.2 h4),if_neg (Classical.not_not.2 h5),if_neg (by rw[h6];simp),if_pos h]
theorem bNS {c:bB} {b:List cB} (h1:bO c.1=true) (h2:eK c.1 b=true) (h3:¬ (bC c.1 c.2.1=0∨4<bC c.1 c.2.1)) (h4:c.2.2.1=1∨c.2.2.1=2) (h5:(c.2.2.2.1.length:Int)=bC c.1 c.2.1) (h6:oM c=true) (h7:jF c (b.length:Int)=true):0=cE c b:=by
 unfold cE;rw[if_neg (by rw[h1];simp),if_neg (by rw[h2];simp),if_neg h3,if_neg (Classical.not_not.2 h4),if_neg (Classical.not_not.2 h5),if_neg (by rw[h6];simp),if_neg (by rw[h7];simp)]
def dW:Con:=⟨55,(.bPW aE (.bPW aB tI)),aD,[.val ⟨true,aE,[]⟩,.val ⟨false,aB,[]⟩,.val ⟨false,tI,[]⟩],[⟨false,tI,[0]⟩,⟨false,tI,[0]⟩],false,none,
 ((fun x=>iH x.1∧List.length x.2.1≤1000000000):(bE × (bK × Int))→Prop),
 ((fun x=>aY x.1 x.2.1 x.2.2):(bE × (bK × Int))→(Int × Int))⟩
def sD:T:=.call 0 (.bPY aE aB (.p1 aE (.bPW aB tI) (.Z 0)) (aH (.bPW aE (.bPW aB tI)) 1 (.Z 0))) <|
 .bPX .not (.Z 1) <|
 .ite (.Z 2) (
  .ret (.bPY tI tI (.ci .i64 0) (.ci .i64 0))) (
  .bPX (.cmp .lss .i64) (.bPY tI tI (aS (.bPW aE (.bPW aB tI)) 2 (.Z 0)) (.ci .i64 0)) <|
  .ite (.Z 3) (
   .ret (.bPY tI tI (.ci .i64 0) (.ci .i64 0))) (
   .bPX (.bQ0 3 tI) (aH (.bPW aE (.bPW aB tI)) 1 (.Z 0)) <|
   .bPX (.cmp .gtr .i64) (.bPY tI tI (aS (.bPW aE (.bPW aB tI)) 2 (.Z 0)) (.Z 4)) <|
   .ite (.Z 5) (
    .ret (.bPY tI tI (.ci .i64 0) (.ci .i64 0))) (
    .bPX (.bQ0 80 bU) (.p1 aE (.bPW aB tI) (.Z 0)) <|
    .bPX (.cmp .gtr .i64) (.bPY tI tI (aS (.bPW aE (.bPW aB tI)) 2 (.Z 0)) (.ci .i64 0)) <|
    .ite (.Z 7) (
     .bPX (.ar .sub .i64) (.bPY tI tI (aS (.bPW aE (.bPW aB tI)) 2 (.Z 0)) (.ci .i64 1)) <|
     .bPX (.bQ1 3 tI) (.bPY aB tI (aH (.bPW aE (.bPW aB tI)) 1 (.Z 0)) (.Z 8)) <|
     .bPX (.bQ0 3 tI) (aH (.bPW aE (.bPW aB tI)) 1 (.Z 0)) <|
     .bPX (.cmp .lss .i64) (.bPY tI tI (aS (.bPW aE (.bPW aB tI)) 2 (.Z 0)) (.Z 10)) <|
     .ite (.Z 11) (
      .bPX (.bQ1 3 tI) (.bPY aB tI (aH (.bPW aE (.bPW aB tI)) 1 (.Z 0)) (aS (.bPW aE (.bPW aB tI)) 2 (.Z 0))) <|
      .ret (.bPY tI tI (.Z 9) (.Z 12))) (
      .ret (.bPY tI tI (.Z 9) (.Z 6)))) (
     .bPX (.bQ0 3 tI) (aH (.bPW aE (.bPW aB tI)) 1 (.Z 0)) <|
     .bPX (.cmp .lss .i64) (.bPY tI tI (aS (.bPW aE (.bPW aB tI)) 2 (.Z 0)) (.Z 8)) <|
     .ite (.Z 9) (
      .bPX (.bQ1 3 tI) (.bPY aB tI (aH (.bPW aE (.bPW aB tI)) 1 (.Z 0)) (aS (.bPW aE (.bPW aB tI)) 2 (.Z 0))) <|
      .ret (.bPY tI tI (.ci .i64 0) (.Z 10))) (
      .ret (.bPY tI tI (.ci .i64 0) (.Z 6)))))))
theorem aMX:bW Tryz.prog [lE] dW false 3000 ⟨[],[]⟩ = .ok sD:=by kernel_rfl
theorem aLY (x:bE × (bK × Int)) (hx:okD (.bPW aE (.bPW aB tI)) x) (hp:(fun x=>iH x.1∧List.length x.2.1≤1000000000) x):sD.wp [lE] [⟨(.bPW aE (.bPW aB tI)),x⟩] [] (fun v=>v.as aD=(fun x=>aY x.1 x.2.1 x.2.2) x):=by
 obtain ⟨m,c,s⟩:=x
 obtain ⟨hp1,hp2⟩:iH m∧List.length c≤1000000000:=hp
 delta sD lE;refine dY ?_
 (refine eD ?_;try with_reducible exact True.intro)
 (repeat' first|intro _|(with_reducible apply And.intro))
 all_goals first|omega|exact hp1|exact hp2|exact (pX (.inl (by assumption))).symm|exact (pX (.inr (by omega))).symm|exact bC4 (by assumption) (by omega) (by omega)|exact bCA (by assumption) (by omega) (by omega)|exact bBG (by assumption) (by omega) (by omega)|exact bBI (by assumption) (by omega) (by omega)|skip
theorem tJ:Con.Holds Tryz.prog dW:=aX aZ (aG aMD aT) aMX aLY
def dU:Con:=⟨36,(.bPW aE (.bPW aB tI)),aD,[.val ⟨true,aE,[]⟩,.val ⟨false,aB,[]⟩,.val ⟨false,tI,[]⟩],[⟨false,tI,[0]⟩,⟨false,tI,[0]⟩],false,none,
 ((fun x=>iH x.1∧List.length x.2.1≤1000000000):(bE × (bK × Int))→Prop),
 ((fun x=>aY x.1 x.2.1 x.2.2):(bE × (bK × Int))→(Int × Int))⟩
def sK:T:=.call 0 (.bPY aE aB (.p1 aE (.bPW aB tI) (.Z 0)) (aH (.bPW aE (.bPW aB tI)) 1 (.Z 0))) <|
 .bPX .not (.Z 1) <|
 .ite (.Z 2) (
  .ret (.bPY tI tI (.ci .i64 0) (.ci .i64 0))) (
  .bPX (.bQ0 3 tI) (aH (.bPW aE (.bPW aB tI)) 1 (.Z 0)) <|
  .call 1 (bP (.bPW tI aD) [(aS (.bPW aE (.bPW aB tI)) 2 (.Z 0)),(.ci .i64 0),(.Z 3)]) <|
  .bPX .not (.Z 4) <|
  .ite (.Z 5) (
   .ret (.bPY tI tI (.ci .i64 0) (.ci .i64 0))) (
   .bPX (.bQ0 80 bU) (.p1 aE (.bPW aB tI) (.Z 0)) <|
   .bPX (.cmp .gtr .i64) (.bPY tI tI (aS (.bPW aE (.bPW aB tI)) 2 (.Z 0)) (.ci .i64 0)) <|
   .ite (.Z 7) (
    .bPX (.ar .sub .i64) (.bPY tI tI (aS (.bPW aE (.bPW aB tI)) 2 (.Z 0)) (.ci .i64 1)) <|
    .bPX (.bQ1 3 tI) (.bPY aB tI (aH (.bPW aE (.bPW aB tI)) 1 (.Z 0)) (.Z 8)) <|
    .bPX (.bQ0 3 tI) (aH (.bPW aE (.bPW aB tI)) 1 (.Z 0)) <|
    .bPX (.cmp .lss .i64) (.bPY tI tI (aS (.bPW aE (.bPW aB tI)) 2 (.Z 0)) (.Z 10)) <|
    .ite (.Z 11) (
     .bPX (.bQ1 3 tI) (.bPY aB tI (aH (.bPW aE (.bPW aB tI)) 1 (.Z 0)) (aS (.bPW aE (.bPW aB tI)) 2 (.Z 0))) <|
     .ret (.bPY tI tI (.Z 9) (.Z 12))) (
     .ret (.bPY tI tI (.Z 9) (.Z 6)))) (
    .bPX (.bQ0 3 tI) (aH (.bPW aE (.bPW aB tI)) 1 (.Z 0)) <|
    .bPX (.cmp .lss .i64) (.bPY tI tI (aS (.bPW aE (.bPW aB tI)) 2 (.Z 0)) (.Z 8)) <|
    .ite (.Z 9) (
     .bPX (.bQ1 3 tI) (.bPY aB tI (aH (.bPW aE (.bPW aB tI)) 1 (.Z 0)) (aS (.bPW aE (.bPW aB tI)) 2 (.Z 0))) <|
     .ret (.bPY tI tI (.ci .i64 0) (.Z 10))) (
     .ret (.bPY tI tI (.ci .i64 0) (.Z 6))))))
theorem aMF:bW Tryz.prog [iG,cJ] dU false 3000 ⟨[],[]⟩ = .ok sK:=by kernel_rfl
theorem aK4 (x:bE × (bK × Int)) (hx:okD (.bPW aE (.bPW aB tI)) x) (hp:(fun x=>iH x.1∧List.length x.2.1≤1000000000) x):sK.wp [iG,cJ] [⟨(.bPW aE (.bPW aB tI)),x⟩] [] (fun v=>v.as aD=(fun x=>aY x.1 x.2.1 x.2.2) x):=by
 obtain ⟨m,c,s⟩:=x
 obtain ⟨hp1,hp2⟩:iH m∧List.length c≤1000000000:=hp
 delta sK iG cJ;refine dY ?_
 (refine eD ?_;try with_reducible exact True.intro)
 (repeat' first|intro _|(with_reducible apply And.intro))
 all_goals first|omega|exact hp1|exact hp2|exact (pX (.inl (by assumption))).symm|exact (pX (.inr (by omega))).symm|exact bC4 (by assumption) (by omega) (by omega)|exact bCA (by assumption) (by omega) (by omega)|exact bBG (by assumption) (by omega) (by omega)|exact bBI (by assumption) (by omega) (by omega)|skip
theorem sG:Con.Holds Tryz.prog dU:=aX aZ (aG aDS (aG kF aT)) aMF aK4
def kV:Con:=⟨119,(.bPW aC tI),.bool,[.val ⟨true,aC,[]⟩,.val ⟨false,tI,[]⟩],[⟨false,.bool,[0]⟩],false,none,
 ((fun _=>True):(bB × Int)→Prop),
 ((fun x=>lM x.1 x.2):(bB × Int)→(Bool))⟩
def aDL:T :=
 .bPX (.cmp .geq .i64) (.bPY tI tI (aS (.bPW aC tI) 1 (.Z 0)) (.ci .i64 0)) <|
 .ite (.Z 1) (
  .bPX (.bQ0 4 .bool) (aH aC 3 (.p1 aC tI (.Z 0))) <|
  .bPX (.cmp .lss .i64) (.bPY tI tI (aS (.bPW aC tI) 1 (.Z 0)) (.Z 2)) <|
  .ite (.Z 3) (
   .bPX (.bQ1 4 .bool) (.bPY cA tI (aH aC 3 (.p1 aC tI (.Z 0))) (aS (.bPW aC tI) 1 (.Z 0))) <|
   .ret (.Z 4)) (
   .ret (.cb false))) (
  .ret (.cb false))
theorem bAN:bW Tryz.prog [] kV false 3000 ⟨[],[]⟩ = .ok aDL:=by kernel_rfl
theorem aXB (x:bB × Int) (hx:okD (.bPW aC tI) x) (hp:(fun _=>True) x):aDL.wp [] [⟨(.bPW aC tI),x⟩] [] (fun v=>v.as .bool=(fun x=>lM x.1 x.2) x):=by
 delta aDL;refine dY ?_
 (refine eD ?_;try with_reducible exact True.intro)
 (repeat' first|intro _|(with_reducible apply And.intro))
 all_goals first|omega|exact aGQ (by omega)|exact sC (by omega) (by omega)|skip
theorem aKN:Con.Holds Tryz.prog kV:=aX aZ aT bAN aXB
def fZ:Con:=⟨117,(.bPW aC tI),aD,[.val ⟨true,aC,[]⟩,.val ⟨false,tI,[]⟩],[⟨false,tI,[0]⟩,⟨false,tI,[0]⟩],false,none,
 ((fun x=>dO x.1):(bB × Int)→Prop),
 ((fun x=>(inF x.1 x.2,oJ x.1 x.2)):(bB × Int)→(Int × Int))⟩
def zU:T:=.call 0 (bP (.bPW aE (.bPW aB tI)) [(.p1 aE (.bPW aB (.bPW tI (.bPW cA aQ))) (.p1 aC tI (.Z 0))),(aH aC 1 (.p1 aC tI (.Z 0))),(aS (.bPW aC tI) 1 (.Z 0))]) <|
 .bPX (.cmp .eql .i64) (.bPY tI tI (.p1 tI tI (.Z 1)) (aS aD 1 (.Z 1))) <|
 .ite (.Z 2) (
  .ret (.bPY tI tI (.ci .i64 0) (.ci .i64 0))) (
  .bPX (.ar .sub .i64) (.bPY tI tI (aS aD 1 (.Z 1)) (.ci .i64 1)) <|
  .bPX (.bQ1 80 bU) (.bPY aE tI (.p1 aE (.bPW aB (.bPW tI (.bPW cA aQ))) (.p1 aC tI (.Z 0))) (.p1 tI tI (.Z 1))) <|
  .bPX (.bQ1 80 bU) (.bPY aE tI (.p1 aE (.bPW aB (.bPW tI (.bPW cA aQ))) (.p1 aC tI (.Z 0))) (.Z 3)) <|
  .ret (.bPY tI tI (aH bU 1 (.Z 4)) (aH bU 2 (.Z 5))))
theorem aUZ:bW Tryz.prog [dW] fZ false 3000 ⟨[],[]⟩ = .ok zU:=by kernel_rfl
theorem aVI (x:bB × Int) (hx:okD (.bPW aC tI) x) (hp:(fun x=>dO x.1) x):zU.wp [dW] [⟨(.bPW aC tI),x⟩] [] (fun v=>v.as aD=(fun x=>(inF x.1 x.2,oJ x.1 x.2)) x):=by
 have hp:dO x.1:=hp
 have hr:=uM x.1.1 x.1.2.1 x.2
 have hml:List.length x.1.1≤1000000000:=hp.1.1
 delta zU dW;refine dY ?_
 (refine eD ?_;try with_reducible exact True.intro)
 (repeat' first|intro _|(with_reducible apply And.intro))
 all_goals first|omega|exact hp.1|exact hp.2.1|exact bB2 (by assumption)|exact bD4 (by omega)|skip
theorem aAX:Con.Holds Tryz.prog fZ:=aX aZ (aG tJ aT) aUZ aVI
def gV:Con:=⟨120,(.bPW aC tI),tI,[.val ⟨true,aC,[]⟩,.val ⟨false,tI,[]⟩],[⟨false,tI,[0]⟩],false,none,
 ((fun x=>dO x.1):(bB × Int)→Prop),
 ((fun x=>mE x.1 x.2):(bB × Int)→(Int))⟩
def wE:T:=.call 0 (bP (.bPW aE (.bPW aB tI)) [(.p1 aE (.bPW aB (.bPW tI (.bPW cA aQ))) (.p1 aC tI (.Z 0))),(aH aC 1 (.p1 aC tI (.Z 0))),(aS (.bPW aC tI) 1 (.Z 0))]) <|.call 1 (.Z 0) <|.loop aD (.bPY tI tI (.p1 tI tI (.Z 1)) (aS aD 1 (.Z 2))) <|
 .bPX (.cmp .lss .i64) (.bPY tI tI (.p1 tI tI (.Z 3)) (aS aD 1 (.Z 1))) <|
 .ite (.Z 4) (
  .bPX (.bQ1 80 bU) (.bPY aE tI (.p1 aE (.bPW aB (.bPW tI (.bPW cA aQ))) (.p1 aC tI (.Z 0))) (.p1 tI tI (.Z 3))) <|
  .bPX (.ar .add .i64) (.bPY tI tI (aS aD 1 (.Z 3)) (aH bU 1 (.Z 5))) <|
  .bPX (.ar .add .i64) (.bPY tI tI (.p1 tI tI (.Z 3)) (.ci .i64 1)) <|
  .bPZ 0 (.bPY tI tI (.Z 7) (.Z 6))) (
  .ret (aS aD 1 (.Z 3)))
theorem aNN:bW Tryz.prog [dW,fZ] gV false 3000 ⟨[(2989,1003,[.dr 25,.dr 7,.dr 24,.dr 23,.dr 19]++jV 22 20++[.dr 5,.dr 18,.dr 17,.dr 10]++jV 16 11++[.dr 0,.dr 1,.tm 9 0,.tm 8 0])],[]⟩ = .ok wE:=by kernel_rfl
theorem aNK (x:bB × Int) (hx:okD (.bPW aC tI) x) (hp:(fun x=>dO x.1) x):wE.wp [dW,fZ] [⟨(.bPW aC tI),x⟩] [] (fun v=>v.as tI=(fun x=>mE x.1 x.2) x):=by
 have hp:dO x.1:=hp
 have hr:=uM x.1.1 x.1.2.1 x.2
 have hml:List.length x.1.1≤1000000000:=hp.1.1
 have hb:=aGZ x.1 x.2
 delta wE dW fZ;refine dY ?_
 refine eD ?_
 refine ⟨⟨hp.1,hp.2.1⟩,fun _=>⟨hp,fun _=>?_⟩⟩
 refine eW (fun k=>((aY x.1.1 x.1.2.1 x.2).1+(k:Int),oJ x.1 x.2+oQ x.1.1 (aY x.1.1 x.1.2.1 x.2).1 k)) ((aY x.1.1 x.1.2.1 x.2).2 - (aY x.1.1 x.1.2.1 x.2).1).toNat (Prod.ext (Int.add_zero _).symm (Int.add_zero _).symm) fun I μ k hk _ go=>?_
 dsimp only
 refine eD ?_
 constructor
 ·intro hlt
  have hm:=(hr.2.2.2 (by omega)).1
  have hl:=((bM _).1 hm).2.1
  have h1:=aJ4 hm hr.1 k (by omega)
  have h2:=aBM hm (i:=(aY x.1.1 x.1.2.1 x.2).1+(k:Int)) (by omega) (by omega)
  have e:oQ x.1.1 (aY x.1.1 x.1.2.1 x.2).1 (k+1)=oQ x.1.1 (aY x.1.1 x.1.2.1 x.2).1 k+aE2 x.1.1 ((aY x.1.1 x.1.2.1 x.2).1+(k:Int)):=rfl
  rw[show (List.getD x.1.1 ((aY x.1.1 x.1.2.1 x.2).1+(k:Int)).toNat (aP bU)).2.1=aE2 x.1.1 ((aY x.1.1 x.1.2.1 x.2).1+(k:Int)) from rfl]
  (repeat' first|intro _|(refine go _ ?_ ?_ ?_)|(refine go _ ?_ ?_)|(with_reducible apply And.intro))
  all_goals first|omega|(refine Prod.ext ?_ ?_ <;> refine @Eq.trans Int _ _ _ ?_ rfl <;> dsimp only <;> omega)|skip
 ·intro hge
  have e:k=((aY x.1.1 x.1.2.1 x.2).2 - (aY x.1.1 x.1.2.1 x.2).1).toNat:=by omega
  subst e
  exact Int.add_comm _ _
theorem aCT:Con.Holds Tryz.prog gV:=aX aZ (aG tJ (aG aAX aT)) aNN aNK
def lG:Con:=⟨118,(.bPW aC tI),tI,[.val ⟨true,aC,[]⟩,.val ⟨false,tI,[]⟩],[⟨false,tI,[0]⟩],false,none,
 ((fun x=>dO x.1):(bB × Int)→Prop),
 ((fun x=>fY x.1 x.2):(bB × Int)→(Int))⟩
def sA:T:=.call 0 (.Z 0) <|.ite (.Z 1) (.call 1 (.Z 0) <|.ret (.p1 tI tI (.Z 2))) (.call 2 (.Z 0) <|.ret (.Z 2))
theorem aKJ:bW Tryz.prog [kV,fZ,gV] lG false 3000 ⟨[],[]⟩ = .ok sA:=by kernel_rfl
theorem aLK (x:bB × Int) (hx:okD (.bPW aC tI) x) (hp:(fun x=>dO x.1) x):sA.wp [kV,fZ,gV] [⟨(.bPW aC tI),x⟩] [] (fun v=>v.as tI=(fun x=>fY x.1 x.2) x):=by
 delta sA kV fZ gV;refine dY ?_
 refine eD ?_
 exact ⟨fun h=>⟨hp,fun _=>aST h⟩,fun h=>⟨hp,fun _=>aJ0 h⟩⟩
theorem aJG:Con.Holds Tryz.prog lG:=aX aZ (aG aKN (aG aAX (aG aCT aT))) aKJ aLK
def tC:Con:=⟨87,(.bPW aC aD),tI,[.val ⟨true,aC,[]⟩,.val ⟨false,tI,[]⟩,.val ⟨false,tI,[]⟩],[⟨false,tI,[0]⟩],false,none,
 ((fun x=>dO x.1):(bB × cP)→Prop),
 ((fun x=>jD x.1 x.2.1 x.2.2):(bB × cP)→(Int))⟩
def aDG:T:=.call 0 (.p1 aC aD (.Z 0)) <|
 .bPX (.cmp .lss .i64) (.bPY tI tI (aH (.bPW aC aD) 1 (.Z 0)) (.ci .i64 0)) <|
 .ite (.Z 2) (
  .ret (.ci .i64 0)) (
  .bPX (.cmp .geq .i64) (.bPY tI tI (aH (.bPW aC aD) 1 (.Z 0)) (.Z 1)) <|
  .ite (.Z 3) (
   .ret (.ci .i64 0)) (
   .bPX (.cmp .lss .i64) (.bPY tI tI (aS (.bPW aC aD) 2 (.Z 0)) (.ci .i64 1)) <|
   .ite (.Z 4) (
    .ret (.ci .i64 0)) (
    .bPX (.cmp .gtr .i64) (.bPY tI tI (aS (.bPW aC aD) 2 (.Z 0)) (.ci .i64 5)) <|
    .ite (.Z 5) (
     .ret (.ci .i64 0)) (
     .bPX (.cmp .gtr .i64) (.bPY tI tI (.Z 1) (.ci .i64 4)) <|
     .ite (.Z 6) (
      .ret (.ci .i64 0)) (
      .bPX (.cmp .eql .i64) (.bPY tI tI (aH aC 2 (.p1 aC aD (.Z 0))) (.ci .i64 2)) <|
      .ite (.Z 7) (
       .bPX (.ar .sub .i64) (.bPY tI tI (.Z 1) (aH (.bPW aC aD) 1 (.Z 0))) <|
       .bPX (.mn .i64) (.bPY tI tI (aS (.bPW aC aD) 2 (.Z 0)) (.Z 8)) <|
       .call 1 (.bPY aC tI (.p1 aC aD (.Z 0)) (aH (.bPW aC aD) 1 (.Z 0))) <|
       .call 2 (.bPY aC tI (.p1 aC aD (.Z 0)) (aH (.bPW aC aD) 1 (.Z 0))) <|
       .bPX (.ar .mul .i64) (.bPY tI tI (.Z 9) (.Z 11)) <|
       .bPX (.mx .i64) (.bPY tI tI (.p1 tI tI (.Z 10)) (aS aD 1 (.Z 10))) <|
       .bPX (.ar .add .i64) (.bPY tI tI (.Z 12) (.Z 13)) <|
       .call 3 (.bPY aC tI (.p1 aC aD (.Z 0)) (aH (.bPW aC aD) 1 (.Z 0))) <|
       .ite (.Z 15) (
        .call 4 (.bPY aC tI (.p1 aC aD (.Z 0)) (aH (.bPW aC aD) 1 (.Z 0))) <|
        .bPX (.ar .add .i64) (.bPY tI tI (.Z 14) (.Z 16)) <|
        .ret (.Z 17)) (
        .ret (.Z 14))) (
       .call 1 (.bPY aC tI (.p1 aC aD (.Z 0)) (aH (.bPW aC aD) 1 (.Z 0))) <|
       .call 2 (.bPY aC tI (.p1 aC aD (.Z 0)) (aH (.bPW aC aD) 1 (.Z 0))) <|
       .bPX (.ar .mul .i64) (.bPY tI tI (aS (.bPW aC aD) 2 (.Z 0)) (.Z 9)) <|
       .bPX (.mx .i64) (.bPY tI tI (.p1 tI tI (.Z 8)) (aS aD 1 (.Z 8))) <|
       .bPX (.ar .add .i64) (.bPY tI tI (.Z 10) (.Z 11)) <|
       .call 3 (.bPY aC tI (.p1 aC aD (.Z 0)) (aH (.bPW aC aD) 1 (.Z 0))) <|
       .ite (.Z 13) (
        .call 4 (.bPY aC tI (.p1 aC aD (.Z 0)) (aH (.bPW aC aD) 1 (.Z 0))) <|
        .bPX (.ar .add .i64) (.bPY tI tI (.Z 12) (.Z 14)) <|
        .ret (.Z 15)) (
        .ret (.Z 12))))))))
theorem aXI:bW Tryz.prog [cO,fZ,lG,kV,gV] tC false 3000 ⟨[],[]⟩ = .ok aDG:=by kernel_rfl
theorem bA3 (x:bB × cP) (hx:okD (.bPW aC aD) x) (hp:(fun x=>dO x.1) x):aDG.wp [cO,fZ,lG,kV,gV] [⟨(.bPW aC aD),x⟩] [] (fun v=>v.as tI=(fun x=>jD x.1 x.2.1 x.2.2) x):=by
 obtain ⟨c,s,micro⟩:=x
 have hp:dO c:=hp
 have hb:=aGZ c s
 delta aDG cO fZ lG kV gV;refine dY ?_
 refine eD ?_
 refine ⟨⟨hp.1,hp.2.1⟩,fun _=>⟨fun h=>?_,fun h0=>⟨fun h=>?_,fun h1=>?_⟩⟩⟩
 ·exact aN1 (.inl (by rw[pX (.inr (.inl h))];exact Int.le_refl _))
 ·refine aN1 (.inl ?_)
  cases hc:iL c.1 c.2.1
  ·rw[pX (.inl hc)];exact Int.le_refl _
  ·rw[xE hc] at h
   rw[pX (.inr (.inr (by omega)))];exact Int.le_refl _
 have hc:=bJ1 h0 h1
 rw[xE hc] at h1 ⊢
 have hrb:=(aCE hc h0 (by omega)).2.1
 (repeat' first|intro _|(with_reducible apply And.intro))
 all_goals first|omega|exact hp|exact aN1 (by omega)|skip
 all_goals have hq1:=aZM (k:=min micro ((c.2.1.length:Int)+1 - s)) (v:=fY c s) (by omega) (by omega) (by omega) (by omega)
 all_goals have hq2:=aZM (k:=micro) (v:=fY c s) (by omega) (by omega) (by omega) (by omega)
 all_goals first|omega|exact zC hrb (by omega) (by omega) (by omega) (if_pos (by assumption)).symm (if_pos (by assumption)).symm|exact zC hrb (by omega) (by omega) (by omega) (if_neg (by assumption)).symm (if_pos (by assumption)).symm|exact qV hrb (by omega) (by omega) (by omega) (if_pos (by assumption)).symm (by assumption)|exact qV hrb (by omega) (by omega) (by omega) (if_neg (by assumption)).symm (by assumption)|exact zC hrb (by omega) (by omega) (by omega) (if_pos (by assumption)).symm (if_pos ((sC (by omega) (by omega)).symm.trans (by assumption))).symm|exact zC hrb (by omega) (by omega) (by omega) (if_neg (by assumption)).symm (if_pos ((sC (by omega) (by omega)).symm.trans (by assumption))).symm|exact qV hrb (by omega) (by omega) (by omega) (if_pos (by assumption)).symm ((sC (by omega) (by omega)).symm.trans (by assumption))|exact qV hrb (by omega) (by omega) (by omega) (if_neg (by assumption)).symm ((sC (by omega) (by omega)).symm.trans (by assumption))|exact qV hrb (by omega) (by omega) (by omega) (if_pos (by assumption)).symm (aGQ (by omega)).symm|exact qV hrb (by omega) (by omega) (by omega) (if_neg (by assumption)).symm (aGQ (by omega)).symm|skip
theorem aZI:Con.Holds Tryz.prog tC:=aX aZ (aG lZ (aG aAX (aG aJG (aG aKN (aG aCT aT))))) aXI bA3
def tU:Con:=⟨52,aC,.bool,[.val ⟨true,aC,[]⟩],[⟨false,.bool,[0]⟩],false,none,
 ((fun x=>dO x):(bB)→Prop),
 ((fun x=>oM x):(bB)→(Bool))⟩
def aD6:T :=
 .bPX (.bQ0 3 tI) (aH aC 4 (.Z 0)) <|
 .bPX (.bQ0 3 tI) (aH aC 1 (.Z 0)) <|
 .bPX (.cmp .neq .i64) (.bPY tI tI (.Z 1) (.Z 2)) <|
 .ite (.Z 3) (
  .ret (.cb false)) (
  .bPX (.bQ0 3 tI) (aH aC 4 (.Z 0)) <|
  .loop tI (.ci .i64 0) <|
   .bPX (.cmp .lss .i64) (.bPY tI tI (.Z 5) (.Z 4)) <|
   .ite (.Z 6) (
    .bPX (.bQ1 3 tI) (.bPY aB tI (aH aC 4 (.Z 0)) (.Z 5)) <|
    .bPX (.cmp .lss .i64) (.bPY tI tI (.Z 7) (.ci .i64 1)) <|
    .ite (.Z 8) (
     .ret (.cb false)) (
     .bPX (.cmp .gtr .i64) (.bPY tI tI (.Z 7) (.ci .i64 5)) <|
     .ite (.Z 9) (
      .ret (.cb false)) (
      .bPX (.ar .add .i64) (.bPY tI tI (.Z 5) (.ci .i64 1)) <|
      .bPZ 0 (.Z 10)))) (
    .ret (.cb true)))
theorem aZE:bW Tryz.prog [] tU false 3000 ⟨[(2988,2005,jV 12 5++[.dr 1,.dr 0,.tm 15 0])],[]⟩ = .ok aD6:=by kernel_rfl
theorem bA5 (x:bB) (hx:okD aC x) (hp:(fun x=>dO x) x):aD6.wp [] [⟨aC,x⟩] [] (fun v=>v.as .bool=(fun x=>oM x) x):=by
 have hp:dO x:=hp
 delta aD6;refine dY ?_
 refine eD ?_
 refine fun _ _=>⟨fun h=>(bBZ (by omega)).symm,fun h _=>?_⟩
 refine aAT (fun k=>(k:Int)) (fun k=>(List.take k x.2.2.2.2.1).all (fun n=>decide (1≤n∧n≤5))=true) (List.length x.2.2.2.2.1) rfl rfl fun I μ k hk hG _ go=>?_
 try dsimp only
 refine eD ?_
 constructor
 ·intro hlt
  have hk':k<List.length x.2.2.2.2.1:=by omega
  have e:=qF (fun n:Int=>decide (1≤n∧n≤5)) x.2.2.2.2.1 hk'
  have hl:=hp.2.2.2.1
  simp only[aW hk']
  (repeat' first|intro _|(refine go _ ?_ ?_ ?_)|(refine go _ ?_ ?_)|(with_reducible apply And.intro))
  all_goals first|omega|exact (bB6 hk' (by omega)).symm|(rw[e,hG,Bool.true_and];exact decide_eq_true ⟨by omega,by omega⟩)|rfl
 ·intro hge
  exact (aZG (by omega) (aQ8 hG (by omega))).symm
theorem bAM:Con.Holds Tryz.prog tU:=aX aZ aT aZE bA5
def nZ:Con:=⟨53,(.bPW aC tI),.bool,[.val ⟨true,aC,[]⟩,.val ⟨false,tI,[]⟩],[⟨false,.bool,[0]⟩],false,none,
 ((fun x=>dO x.1):(bB × Int)→Prop),
 ((fun x=>jF x.1 x.2):(bB × Int)→(Bool))⟩
def yO:T :=
 .bPX (.bQ0 3 tI) (aS aC 5 (.p1 aC tI (.Z 0))) <|
 .call 0 (.p1 aC tI (.Z 0)) <|
 .bPX (.cmp .neq .i64) (.bPY tI tI (.Z 1) (.Z 2)) <|
 .ite (.Z 3) (
  .ret (.cb false)) (
  .bPX (.bQ0 3 tI) (aS aC 5 (.p1 aC tI (.Z 0))) <|
  .loop tI (.ci .i64 0) <|
   .bPX (.cmp .lss .i64) (.bPY tI tI (.Z 5) (.Z 4)) <|
   .ite (.Z 6) (
    .bPX (.bQ1 3 tI) (.bPY aB tI (aS aC 5 (.p1 aC tI (.Z 0))) (.Z 5)) <|
    .call 1 (bP (.bPW aC aD) [(.p1 aC tI (.Z 0)),(.Z 5),(aS (.bPW aC tI) 1 (.Z 0))]) <|
    .bPX (.cmp .lss .i64) (.bPY tI tI (.Z 7) (.Z 8)) <|
    .ite (.Z 9) (
     .ret (.cb false)) (
     .bPX (.cmp .gtr .i64) (.bPY tI tI (.Z 7) (.ci .i64 100000)) <|
     .ite (.Z 10) (
      .ret (.cb false)) (
      .bPX (.ar .add .i64) (.bPY tI tI (.Z 5) (.ci .i64 1)) <|
      .bPZ 0 (.Z 11)))) (
    .ret (.cb true)))
theorem aQS:bW Tryz.prog [cO,tC] nZ false 3000 ⟨[(2988,2005,jV 13 7++[.dr 0,.tm 16 0])],[]⟩ = .ok yO:=by kernel_rfl
theorem aQ9 (x:bB × Int) (hx:okD (.bPW aC tI) x) (hp:(fun x=>dO x.1) x):yO.wp [cO,tC] [⟨(.bPW aC tI),x⟩] [] (fun v=>v.as .bool=(fun x=>jF x.1 x.2) x):=by
 obtain ⟨c,m⟩:=x
 have hp:dO c:=hp
 delta yO cO tC;refine dY ?_
 refine eD ?_
 refine fun _=>⟨⟨hp.1,hp.2.1⟩,fun _=>⟨fun h=>(bJV h).symm,fun h _=>?_⟩⟩
 refine aAT (fun k=>(k:Int)) (fun k=>∀ i,i<k→aOF c m i=true) (List.length c.2.2.2.2.2) rfl (fun i hi=>absurd hi (Nat.not_lt_zero _)) fun I μ k hk hG _ go=>?_
 try dsimp only
 refine eD ?_
 constructor
 ·intro hlt
  have hk':k<List.length c.2.2.2.2.2:=by omega
  have hl:List.length c.2.2.2.2.2≤1000000000:=hp.2.2.2.2
  (repeat' first|intro _|(refine go _ ?_ ?_ ?_)|(refine go _ ?_ ?_)|(with_reducible apply And.intro))
  all_goals first|omega|exact hp|exact (bGS hk' (fun hh=>by have h1:jD c (k:Int) m≤List.getD c.2.2.2.2.2 k (aP tI):=hh.1;have h2:List.getD c.2.2.2.2.2 k (aP tI)≤100000:=hh.2;omega)).symm|exact aI1 hG (decide_eq_true ⟨by assumption,by assumption⟩) _ (by assumption)|rfl|skip
 ·intro hge
  exact (bMV (by omega) fun i hi=>hG i (by omega)).symm
theorem aSL:Con.Holds Tryz.prog nZ:=aX aZ (aG lZ (aG aZI aT)) aQS aQ9
def jL:Con:=⟨24,(.bPW aC aF),tI,[.val ⟨true,aC,[]⟩,.val ⟨false,aF,[]⟩],[⟨false,tI,[0]⟩],false,none,
 ((fun x=>dO x.1):(bB × bL)→Prop),
 ((fun x=>cE x.1 x.2):(bB × bL)→(Int))⟩
def aHQ:T:=.call 0 (.p1 aC aF (.Z 0)) <|.call 1 (.p1 aE (.bPW aB (.bPW tI (.bPW cA aQ))) (.p1 aC aF (.Z 0))) <|
 .bPX .not (.Z 2) <|
 .ite (.Z 3) (
  .ret (.ci .i64 1)) (
  .call 2 (.bPY aE aF (.p1 aE (.bPW aB (.bPW tI (.bPW cA aQ))) (.p1 aC aF (.Z 0))) (aS (.bPW aC aF) 1 (.Z 0))) <|
  .bPX .not (.Z 4) <|
  .ite (.Z 5) (
   .ret (.ci .i64 2)) (
   .bPX (.cmp .eql .i64) (.bPY tI tI (.Z 1) (.ci .i64 0)) <|
   .ite (.Z 6) (
    .ret (.ci .i64 3)) (
    .bPX (.cmp .gtr .i64) (.bPY tI tI (.Z 1) (.ci .i64 4)) <|
    .ite (.Z 7) (
     .ret (.ci .i64 3)) (
     .bPX (.cmp .neq .i64) (.bPY tI tI (aH aC 2 (.p1 aC aF (.Z 0))) (.ci .i64 1)) <|
     .ite (.Z 8) (
      .bPX (.cmp .neq .i64) (.bPY tI tI (aH aC 2 (.p1 aC aF (.Z 0))) (.ci .i64 2)) <|
      .ite (.Z 9) (
       .ret (.ci .i64 4)) (
       .bPX (.bQ0 4 .bool) (aH aC 3 (.p1 aC aF (.Z 0))) <|
       .bPX (.cmp .neq .i64) (.bPY tI tI (.Z 10) (.Z 1)) <|
       .ite (.Z 11) (
        .ret (.ci .i64 5)) (
        .call 3 (.p1 aC aF (.Z 0)) <|
        .bPX .not (.Z 12) <|
        .ite (.Z 13) (
         .ret (.ci .i64 6)) (
         .bPX (.bQ0 108 aQ) (aS (.bPW aC aF) 1 (.Z 0)) <|
         .call 4 (.bPY aC tI (.p1 aC aF (.Z 0)) (.Z 14)) <|
         .bPX .not (.Z 15) <|
         .ite (.Z 16) (
          .ret (.ci .i64 7)) (
          .ret (.ci .i64 0)))))) (
      .bPX (.bQ0 4 .bool) (aH aC 3 (.p1 aC aF (.Z 0))) <|
      .bPX (.cmp .neq .i64) (.bPY tI tI (.Z 9) (.Z 1)) <|
      .ite (.Z 10) (
       .ret (.ci .i64 5)) (
       .call 3 (.p1 aC aF (.Z 0)) <|
       .bPX .not (.Z 11) <|
       .ite (.Z 12) (
        .ret (.ci .i64 6)) (
        .bPX (.bQ0 108 aQ) (aS (.bPW aC aF) 1 (.Z 0)) <|
        .call 4 (.bPY aC tI (.p1 aC aF (.Z 0)) (.Z 13)) <|
        .bPX .not (.Z 14) <|
        .ite (.Z 15) (
         .ret (.ci .i64 7)) (
         .ret (.ci .i64 0)))))))))
theorem bFS:bW Tryz.prog [cO,bV,qI,tU,nZ] jL false 3000 ⟨[],[]⟩ = .ok aHQ:=by kernel_rfl
theorem bDT (x:bB × bL) (hx:okD (.bPW aC aF) x) (hp:(fun x=>dO x.1) x):aHQ.wp [cO,bV,qI,tU,nZ] [⟨(.bPW aC aF),x⟩] [] (fun v=>v.as tI=(fun x=>cE x.1 x.2) x):=by
 obtain ⟨c,b⟩:=x
 have hp:dO c:=hp
 have hs:=bFC c.1 c.2.1
 delta aHQ cO bV qI tU nZ;refine dY ?_
 (refine eD ?_;try with_reducible exact True.intro)
 (repeat' first|intro _|(with_reducible apply And.intro))
 all_goals first|omega|exact hp|exact hp.1|exact hp.2.1|exact bOJ (by assumption)|exact bNU (by assumption) (by assumption)|exact bME (by assumption) (by assumption) (by omega)|exact bKP (by assumption) (by assumption) (by omega) (by omega)|exact bN3 (by assumption) (by assumption) (by omega) (by omega) (by assumption)|exact bKX (by assumption) (by assumption) (by omega) (by omega) (by assumption) (by assumption)|exact bKY (by assumption) (by assumption) (by omega) (by omega) (by assumption) (by assumption) (by assumption)|exact bNS (by assumption) (by assumption) (by omega) (by omega) (by assumption) (by assumption) (by assumption)|skip
theorem aHW:Con.Holds Tryz.prog jL:=aX aZ (aG lZ (aG gZ (aG aTT (aG bAM (aG aSL aT))))) bFS bDT
def gW:Con:=⟨37,(.bPW aC tI),tI,[.val ⟨true,aC,[]⟩,.val ⟨false,tI,[]⟩],[⟨false,tI,[0]⟩],false,none,
 ((fun x=>dO x.1):(bB × Int)→Prop),
 ((fun x=>mE x.1 x.2):(bB × Int)→(Int))⟩
def vI:T:=.call 0 (bP (.bPW aE (.bPW aB tI)) [(.p1 aE (.bPW aB (.bPW tI (.bPW cA aQ))) (.p1 aC tI (.Z 0))),(aH aC 1 (.p1 aC tI (.Z 0))),(aS (.bPW aC tI) 1 (.Z 0))]) <|.loop aD (.bPY tI tI (.p1 tI tI (.Z 1)) (.ci .i64 0)) <|
 .bPX (.cmp .lss .i64) (.bPY tI tI (.p1 tI tI (.Z 2)) (aS aD 1 (.Z 1))) <|
 .ite (.Z 3) (
  .bPX (.bQ1 80 bU) (.bPY aE tI (.p1 aE (.bPW aB (.bPW tI (.bPW cA aQ))) (.p1 aC tI (.Z 0))) (.p1 tI tI (.Z 2))) <|
  .bPX (.ar .add .i64) (.bPY tI tI (aS aD 1 (.Z 2)) (aH bU 1 (.Z 4))) <|
  .bPX (.ar .add .i64) (.bPY tI tI (.p1 tI tI (.Z 2)) (.ci .i64 1)) <|
  .bPZ 0 (.bPY tI tI (.Z 6) (.Z 5))) (
  .bPX (.cmp .gtr .i64) (.bPY tI tI (aS aD 1 (.Z 1)) (.p1 tI tI (.Z 1))) <|
  .ite (.Z 4) (
   .bPX (.ar .sub .i64) (.bPY tI tI (aS aD 1 (.Z 1)) (.ci .i64 1)) <|
   .bPX (.bQ1 80 bU) (.bPY aE tI (.p1 aE (.bPW aB (.bPW tI (.bPW cA aQ))) (.p1 aC tI (.Z 0))) (.Z 5)) <|
   .bPX (.ar .add .i64) (.bPY tI tI (aS aD 1 (.Z 2)) (aH bU 2 (.Z 6))) <|
   .ret (.Z 7)) (
   .ret (aS aD 1 (.Z 2))))
theorem aOD:bW Tryz.prog [dU] gW false 3000 ⟨[(2989,1002,jV 18 16++[.dr 9]++jV 15 10++[.dr 0,.dr 1,.tm 8 0,.tm 7 0])],[]⟩ = .ok vI:=by kernel_rfl
theorem aNW (x:bB × Int) (hx:okD (.bPW aC tI) x) (hp:(fun x=>dO x.1) x):vI.wp [dU] [⟨(.bPW aC tI),x⟩] [] (fun v=>v.as tI=(fun x=>mE x.1 x.2) x):=by
 have hp:dO x.1:=hp
 have hr:=uM x.1.1 x.1.2.1 x.2
 have hml:List.length x.1.1≤1000000000:=hp.1.1
 have hb:=aGZ x.1 x.2
 delta vI dU;refine dY ?_
 refine eD ?_
 refine ⟨⟨hp.1,hp.2.1⟩,fun _=>?_⟩
 refine eW (fun k=>((aY x.1.1 x.1.2.1 x.2).1+(k:Int),oQ x.1.1 (aY x.1.1 x.1.2.1 x.2).1 k)) ((aY x.1.1 x.1.2.1 x.2).2 - (aY x.1.1 x.1.2.1 x.2).1).toNat (Prod.ext (Int.add_zero _).symm rfl) fun I μ k hk _ go=>?_
 dsimp only
 refine eD ?_
 constructor
 ·intro hlt
  have hm:=(hr.2.2.2 (by omega)).1
  have hl:=((bM _).1 hm).2.1
  have h1:=aJ4 hm hr.1 k (by omega)
  have h2:=aBM hm (i:=(aY x.1.1 x.1.2.1 x.2).1+(k:Int)) (by omega) (by omega)
  have e:oQ x.1.1 (aY x.1.1 x.1.2.1 x.2).1 (k+1)=oQ x.1.1 (aY x.1.1 x.1.2.1 x.2).1 k+aE2 x.1.1 ((aY x.1.1 x.1.2.1 x.2).1+(k:Int)):=rfl
  rw[show (List.getD x.1.1 ((aY x.1.1 x.1.2.1 x.2).1+(k:Int)).toNat (aP bU)).2.1=aE2 x.1.1 ((aY x.1.1 x.1.2.1 x.2).1+(k:Int)) from rfl]
  (repeat' first|intro _|(refine go _ ?_ ?_ ?_)|(refine go _ ?_ ?_)|(with_reducible apply And.intro))
  all_goals first|omega|(refine Prod.ext ?_ ?_ <;> refine @Eq.trans Int _ _ _ ?_ rfl <;> dsimp only <;> omega)|skip
 ·intro hge
  have e:k=((aY x.1.1 x.1.2.1 x.2).2 - (aY x.1.1 x.1.2.1 x.2).1).toNat:=by omega
  subst e
  have e9:mE x.1 x.2=oQ x.1.1 (aY x.1.1 x.1.2.1 x.2).1 ((aY x.1.1 x.1.2.1 x.2).2 - (aY x.1.1 x.1.2.1 x.2).1).toNat+oJ x.1 x.2:=rfl
  rw[show (List.getD x.1.1 ((aY x.1.1 x.1.2.1 x.2).2 - 1).toNat (aP bU)).2.2.1=aCQ x.1.1 ((aY x.1.1 x.1.2.1 x.2).2 - 1) from rfl]
  by_cases hq:(aY x.1.1 x.1.2.1 x.2).1<(aY x.1.1 x.1.2.1 x.2).2
  ·have e8:oJ x.1 x.2=aCQ x.1.1 ((aY x.1.1 x.1.2.1 x.2).2 - 1):=if_pos hq
   rw[← e8]
   (repeat' first|intro _|(with_reducible apply And.intro))
   all_goals first|omega|exact e9.symm|skip
  ·have e8:oJ x.1 x.2=0:=if_neg hq
   (repeat' first|intro _|(with_reducible apply And.intro))
   all_goals first|omega|(rw[e9,e8,Int.add_zero])|skip
theorem aD1:Con.Holds Tryz.prog gW:=aX aZ (aG sG aT) aOD aNW
def fX:Con:=⟨11,(.bPW aC tI),tI,[.val ⟨true,aC,[]⟩,.val ⟨false,tI,[]⟩],[⟨false,tI,[0]⟩],false,none,
 ((fun x=>dO x.1):(bB × Int)→Prop),
 ((fun x=>fY x.1 x.2):(bB × Int)→(Int))⟩
def uA:T:=.call 0 (bP (.bPW aE (.bPW aB tI)) [(.p1 aE (.bPW aB (.bPW tI (.bPW cA aQ))) (.p1 aC tI (.Z 0))),(aH aC 1 (.p1 aC tI (.Z 0))),(aS (.bPW aC tI) 1 (.Z 0))]) <|
 .bPX (.cmp .gtr .i64) (.bPY tI tI (aS aD 1 (.Z 1)) (.p1 tI tI (.Z 1))) <|
 .ite (.Z 2) (
  .bPX (.bQ0 4 .bool) (aH aC 3 (.p1 aC tI (.Z 0))) <|
  .bPX (.cmp .lss .i64) (.bPY tI tI (aS (.bPW aC tI) 1 (.Z 0)) (.Z 3)) <|
  .ite (.Z 4) (
   .bPX (.bQ1 4 .bool) (.bPY cA tI (aH aC 3 (.p1 aC tI (.Z 0))) (aS (.bPW aC tI) 1 (.Z 0))) <|
   .ite (.Z 5) (
    .bPX (.bQ1 80 bU) (.bPY aE tI (.p1 aE (.bPW aB (.bPW tI (.bPW cA aQ))) (.p1 aC tI (.Z 0))) (.p1 tI tI (.Z 1))) <|
    .ret (aH bU 1 (.Z 6))) (
    .call 1 (.Z 0) <|
    .ret (.Z 6))) (
   .call 1 (.Z 0) <|
   .ret (.Z 5))) (
  .call 1 (.Z 0) <|
  .ret (.Z 3))
theorem aM7:bW Tryz.prog [dU,gW] fX false 3000 ⟨[],[]⟩ = .ok uA:=by kernel_rfl
theorem aL8 (x:bB × Int) (hx:okD (.bPW aC tI) x) (hp:(fun x=>dO x.1) x):uA.wp [dU,gW] [⟨(.bPW aC tI),x⟩] [] (fun v=>v.as tI=(fun x=>fY x.1 x.2) x):=by
 have hp:dO x.1:=hp
 have hr:=uM x.1.1 x.1.2.1 x.2
 have hml:List.length x.1.1≤1000000000:=hp.1.1
 have red:lM x.1 x.2=true∨lM x.1 x.2=false:=by cases lM x.1 x.2 <;> simp
 have none_:(aY x.1.1 x.1.2.1 x.2).2≤(aY x.1.1 x.1.2.1 x.2).1→mE x.1 x.2=fY x.1 x.2:=fun h=>by
  have e0:=bB2 (c:=x.1) (s:=x.2) (by omega)
  rcases red with h1|h1
  ·rw[← aST h1]
   have e1:inF x.1 x.2=0:=(congrArg Prod.fst e0).symm
   have e2:oJ x.1 x.2=0:=(congrArg Prod.snd e0).symm
   unfold mE
   rw[e1,e2,show ((aY x.1.1 x.1.2.1 x.2).2 - (aY x.1.1 x.1.2.1 x.2).1).toNat=0 by omega];rfl
  ·exact aJ0 h1
 have redo_t:(aY x.1.1 x.1.2.1 x.2).1<(aY x.1.1 x.1.2.1 x.2).2→lM x.1 x.2=true→aE2 x.1.1 (aY x.1.1 x.1.2.1 x.2).1=fY x.1 x.2:=fun h h1=>by
  rw[← aST h1];exact congrArg Prod.fst (bD4 h)
 delta uA dU gW;refine dY ?_
 refine eD ?_
 refine ⟨⟨hp.1,hp.2.1⟩,fun _=>⟨fun hlt _=>?_,fun h=>⟨hp,fun _=>none_ h⟩⟩⟩
 have h0:=(hr.2.2.2 hlt).2.2.1
 refine ⟨fun hl=>⟨by omega,fun h=>⟨by omega,fun _=>?_⟩,fun h=>⟨hp,fun _=>?_⟩⟩,fun h=>⟨hp,fun _=>aJ0 (aGQ (.inr h)).symm⟩⟩
 ·exact redo_t hlt ((sC h0 hl).symm.trans h)
 ·exact aJ0 ((sC h0 hl).symm.trans h)
theorem aAG:Con.Holds Tryz.prog fX:=aX aZ (aG sG (aG aD1 aT)) aM7 aL8
def fB:Con:=⟨10,(.bPW aC aD),tI,[.val ⟨true,aC,[]⟩,.val ⟨false,tI,[]⟩,.val ⟨false,tI,[]⟩],[⟨false,tI,[0]⟩],false,none,
 ((fun x=>dO x.1):(bB × cP)→Prop),
 ((fun x=>jD x.1 x.2.1 x.2.2):(bB × cP)→(Int))⟩
def aE8:T:=.call 0 (bP (.bPW aE (.bPW aB tI)) [(.p1 aE (.bPW aB (.bPW tI (.bPW cA aQ))) (.p1 aC aD (.Z 0))),(aH aC 1 (.p1 aC aD (.Z 0))),(aH (.bPW aC aD) 1 (.Z 0))]) <|
 .bPX (.cmp .leq .i64) (.bPY tI tI (aS aD 1 (.Z 1)) (.p1 tI tI (.Z 1))) <|
 .ite (.Z 2) (
  .ret (.ci .i64 0)) (
  .call 1 (bP (.bPW tI aD) [(aS (.bPW aC aD) 2 (.Z 0)),(.ci .i64 1),(.ci .i64 5)]) <|
  .bPX .not (.Z 3) <|
  .ite (.Z 4) (
   .ret (.ci .i64 0)) (
   .bPX (.bQ0 3 tI) (aH aC 1 (.p1 aC aD (.Z 0))) <|
   .bPX (.ar .add .i64) (.bPY tI tI (.Z 5) (.ci .i64 1)) <|
   .call 1 (bP (.bPW tI aD) [(.Z 6),(.ci .i64 1),(.ci .i64 4)]) <|
   .bPX .not (.Z 7) <|
   .ite (.Z 8) (
    .ret (.ci .i64 0)) (
    .bPX (.cmp .eql .i64) (.bPY tI tI (aH aC 2 (.p1 aC aD (.Z 0))) (.ci .i64 2)) <|
    .ite (.Z 9) (
     .bPX (.bQ0 3 tI) (aH aC 1 (.p1 aC aD (.Z 0))) <|
     .bPX (.ar .add .i64) (.bPY tI tI (.Z 10) (.ci .i64 1)) <|
     .bPX (.ar .sub .i64) (.bPY tI tI (.Z 11) (aH (.bPW aC aD) 1 (.Z 0))) <|
     .bPX (.mn .i64) (.bPY tI tI (aS (.bPW aC aD) 2 (.Z 0)) (.Z 12)) <|
     .bPX (.ar .sub .i64) (.bPY tI tI (aS aD 1 (.Z 1)) (.ci .i64 1)) <|
     .bPX (.bQ1 80 bU) (.bPY aE tI (.p1 aE (.bPW aB (.bPW tI (.bPW cA aQ))) (.p1 aC aD (.Z 0))) (.p1 tI tI (.Z 1))) <|
     .bPX (.bQ1 80 bU) (.bPY aE tI (.p1 aE (.bPW aB (.bPW tI (.bPW cA aQ))) (.p1 aC aD (.Z 0))) (.Z 14)) <|
     .bPX (.mx .i64) (.bPY tI tI (aH bU 1 (.Z 15)) (aH bU 2 (.Z 16))) <|
     .call 2 (.bPY aC tI (.p1 aC aD (.Z 0)) (aH (.bPW aC aD) 1 (.Z 0))) <|
     .bPX (.ar .mul .i64) (.bPY tI tI (.Z 13) (.Z 18)) <|
     .bPX (.ar .add .i64) (.bPY tI tI (.Z 19) (.Z 17)) <|
     .bPX (.bQ0 4 .bool) (aH aC 3 (.p1 aC aD (.Z 0))) <|
     .bPX (.cmp .lss .i64) (.bPY tI tI (aH (.bPW aC aD) 1 (.Z 0)) (.Z 21)) <|
     .ite (.Z 22) (
      .bPX (.bQ1 4 .bool) (.bPY cA tI (aH aC 3 (.p1 aC aD (.Z 0))) (aH (.bPW aC aD) 1 (.Z 0))) <|
      .ite (.Z 23) (
       .call 3 (.bPY aC tI (.p1 aC aD (.Z 0)) (aH (.bPW aC aD) 1 (.Z 0))) <|
       .bPX (.ar .add .i64) (.bPY tI tI (.Z 20) (.Z 24)) <|
       .ret (.Z 25)) (
       .ret (.Z 20))) (
      .ret (.Z 20))) (
     .bPX (.ar .sub .i64) (.bPY tI tI (aS aD 1 (.Z 1)) (.ci .i64 1)) <|
     .bPX (.bQ1 80 bU) (.bPY aE tI (.p1 aE (.bPW aB (.bPW tI (.bPW cA aQ))) (.p1 aC aD (.Z 0))) (.p1 tI tI (.Z 1))) <|
     .bPX (.bQ1 80 bU) (.bPY aE tI (.p1 aE (.bPW aB (.bPW tI (.bPW cA aQ))) (.p1 aC aD (.Z 0))) (.Z 10)) <|
     .bPX (.mx .i64) (.bPY tI tI (aH bU 1 (.Z 11)) (aH bU 2 (.Z 12))) <|
     .call 2 (.bPY aC tI (.p1 aC aD (.Z 0)) (aH (.bPW aC aD) 1 (.Z 0))) <|
     .bPX (.ar .mul .i64) (.bPY tI tI (aS (.bPW aC aD) 2 (.Z 0)) (.Z 14)) <|
     .bPX (.ar .add .i64) (.bPY tI tI (.Z 15) (.Z 13)) <|
     .bPX (.bQ0 4 .bool) (aH aC 3 (.p1 aC aD (.Z 0))) <|
     .bPX (.cmp .lss .i64) (.bPY tI tI (aH (.bPW aC aD) 1 (.Z 0)) (.Z 17)) <|
     .ite (.Z 18) (
      .bPX (.bQ1 4 .bool) (.bPY cA tI (aH aC 3 (.p1 aC aD (.Z 0))) (aH (.bPW aC aD) 1 (.Z 0))) <|
      .ite (.Z 19) (
       .call 3 (.bPY aC tI (.p1 aC aD (.Z 0)) (aH (.bPW aC aD) 1 (.Z 0))) <|
       .bPX (.ar .add .i64) (.bPY tI tI (.Z 16) (.Z 20)) <|
       .ret (.Z 21)) (
       .ret (.Z 16))) (
      .ret (.Z 16))))))
theorem aXC:bW Tryz.prog [dU,cJ,fX,gW] fB false 3000 ⟨[],[]⟩ = .ok aE8:=by kernel_rfl
theorem aYT (x:bB × cP) (hx:okD (.bPW aC aD) x) (hp:(fun x=>dO x.1) x):aE8.wp [dU,cJ,fX,gW] [⟨(.bPW aC aD),x⟩] [] (fun v=>v.as tI=(fun x=>jD x.1 x.2.1 x.2.2) x):=by
 obtain ⟨c,s,micro⟩:=x
 have hp:dO c:=hp
 have hb:=aGZ c s
 have hr:=uM c.1 c.2.1 s
 have hml:List.length c.1≤1000000000:=hp.1.1
 delta aE8 dU cJ fX gW;refine dY ?_
 refine eD ?_
 refine ⟨⟨hp.1,hp.2.1⟩,fun _=>⟨fun h=>aN1 (.inl h),fun hrb=>?_⟩⟩
 have h0:=(hr.2.2.2 hrb).2.2
 have hl:=hp.2.1
 have hrl:=hp.2.2.1
 have e1:inF c s=aE2 c.1 (aY c.1 c.2.1 s).1:=if_pos hrb
 have e2:oJ c s=aCQ c.1 ((aY c.1 c.2.1 s).2 - 1):=if_pos hrb
 rw[show (List.getD c.1 (Int.toNat (aY c.1 c.2.1 s).1) (aP bU)).2.1=inF c s from e1.symm,show (List.getD c.1 ((aY c.1 c.2.1 s).2 - 1).toNat (aP bU)).2.2.1=oJ c s from e2.symm]
 (repeat' first|intro _|(with_reducible apply And.intro))
 all_goals first|omega|exact hp|exact aN1 (by omega)|skip
 all_goals have hq1:=aZM (k:=min micro ((c.2.1.length:Int)+1 - s)) (v:=fY c s) (by omega) (by omega) (by omega) (by omega)
 all_goals have hq2:=aZM (k:=micro) (v:=fY c s) (by omega) (by omega) (by omega) (by omega)
 all_goals first|omega|exact zC hrb (by omega) (by omega) (by omega) (if_pos (by assumption)).symm (if_pos (by assumption)).symm|exact zC hrb (by omega) (by omega) (by omega) (if_neg (by assumption)).symm (if_pos (by assumption)).symm|exact qV hrb (by omega) (by omega) (by omega) (if_pos (by assumption)).symm (by assumption)|exact qV hrb (by omega) (by omega) (by omega) (if_neg (by assumption)).symm (by assumption)|exact zC hrb (by omega) (by omega) (by omega) (if_pos (by assumption)).symm (if_pos ((sC (by omega) (by omega)).symm.trans (by assumption))).symm|exact zC hrb (by omega) (by omega) (by omega) (if_neg (by assumption)).symm (if_pos ((sC (by omega) (by omega)).symm.trans (by assumption))).symm|exact qV hrb (by omega) (by omega) (by omega) (if_pos (by assumption)).symm ((sC (by omega) (by omega)).symm.trans (by assumption))|exact qV hrb (by omega) (by omega) (by omega) (if_neg (by assumption)).symm ((sC (by omega) (by omega)).symm.trans (by assumption))|exact qV hrb (by omega) (by omega) (by omega) (if_pos (by assumption)).symm (aGQ (by omega)).symm|exact qV hrb (by omega) (by omega) (by omega) (if_neg (by assumption)).symm (aGQ (by omega)).symm|skip
theorem yU:Con.Holds Tryz.prog fB:=aX aZ (aG sG (aG kF (aG aAG (aG aD1 aT)))) aXC aYT
def nI:Con:=⟨8,(.bPW aC aF),tI,[.val ⟨true,aC,[]⟩,.val ⟨false,aF,[]⟩],[⟨false,tI,[0]⟩],false,none,
 ((fun x=>dO x.1):(bB × bL)→Prop),
 ((fun x=>cE x.1 x.2):(bB × bL)→(Int))⟩
def aHH:T:=.call 0 (.p1 aE (.bPW aB (.bPW tI (.bPW cA aQ))) (.p1 aC aF (.Z 0))) <|
 .bPX .not (.Z 1) <|
 .ite (.Z 2) (
  .ret (.ci .i64 1)) (
  .call 1 (.bPY aE aF (.p1 aE (.bPW aB (.bPW tI (.bPW cA aQ))) (.p1 aC aF (.Z 0))) (aS (.bPW aC aF) 1 (.Z 0))) <|
  .bPX .not (.Z 3) <|
  .ite (.Z 4) (
   .ret (.ci .i64 2)) (
   .call 2 (.bPY aE aB (.p1 aE (.bPW aB (.bPW tI (.bPW cA aQ))) (.p1 aC aF (.Z 0))) (aH aC 1 (.p1 aC aF (.Z 0)))) <|
   .bPX .not (.Z 5) <|
   .ite (.Z 6) (
    .ret (.ci .i64 3)) (
    .bPX (.bQ0 3 tI) (aH aC 1 (.p1 aC aF (.Z 0))) <|
    .bPX (.ar .add .i64) (.bPY tI tI (.Z 7) (.ci .i64 1)) <|
    .bPX (.cmp .gtr .i64) (.bPY tI tI (.Z 8) (.ci .i64 4)) <|
    .ite (.Z 9) (
     .ret (.ci .i64 3)) (
     .call 3 (bP (.bPW tI aD) [(aH aC 2 (.p1 aC aF (.Z 0))),(.ci .i64 1),(.ci .i64 2)]) <|
     .bPX .not (.Z 10) <|
     .ite (.Z 11) (
      .ret (.ci .i64 4)) (
      .bPX (.bQ0 4 .bool) (aH aC 3 (.p1 aC aF (.Z 0))) <|
      .bPX (.bQ0 3 tI) (aH aC 1 (.p1 aC aF (.Z 0))) <|
      .bPX (.ar .add .i64) (.bPY tI tI (.Z 13) (.ci .i64 1)) <|
      .bPX (.cmp .neq .i64) (.bPY tI tI (.Z 12) (.Z 14)) <|
      .ite (.Z 15) (
       .ret (.ci .i64 5)) (
       .bPX (.bQ0 3 tI) (aH aC 4 (.p1 aC aF (.Z 0))) <|
       .bPX (.bQ0 3 tI) (aH aC 1 (.p1 aC aF (.Z 0))) <|
       .bPX (.cmp .neq .i64) (.bPY tI tI (.Z 16) (.Z 17)) <|
       .ite (.Z 18) (
        .ret (.ci .i64 6)) (
        .loop tI (.ci .i64 0) <|
         .bPX (.bQ0 3 tI) (aH aC 4 (.p1 aC aF (.Z 0))) <|
         .bPX (.cmp .lss .i64) (.bPY tI tI (.Z 19) (.Z 20)) <|
         .ite (.Z 21) (
          .bPX (.bQ1 3 tI) (.bPY aB tI (aH aC 4 (.p1 aC aF (.Z 0))) (.Z 19)) <|
          .call 3 (bP (.bPW tI aD) [(.Z 22),(.ci .i64 1),(.ci .i64 5)]) <|
          .bPX .not (.Z 23) <|
          .ite (.Z 24) (
           .ret (.ci .i64 6)) (
           .bPX (.ar .add .i64) (.bPY tI tI (.Z 19) (.ci .i64 1)) <|
           .bPZ 0 (.Z 25))) (
          .bPX (.bQ0 3 tI) (aS aC 5 (.p1 aC aF (.Z 0))) <|
          .bPX (.bQ0 3 tI) (aH aC 1 (.p1 aC aF (.Z 0))) <|
          .bPX (.ar .add .i64) (.bPY tI tI (.Z 23) (.ci .i64 1)) <|
          .bPX (.cmp .neq .i64) (.bPY tI tI (.Z 22) (.Z 24)) <|
          .ite (.Z 25) (
           .ret (.ci .i64 7)) (
           .loop tI (.ci .i64 0) <|
            .bPX (.bQ0 3 tI) (aS aC 5 (.p1 aC aF (.Z 0))) <|
            .bPX (.cmp .lss .i64) (.bPY tI tI (.Z 26) (.Z 27)) <|
            .ite (.Z 28) (
             .bPX (.bQ1 3 tI) (.bPY aB tI (aS aC 5 (.p1 aC aF (.Z 0))) (.Z 26)) <|
             .bPX (.bQ0 108 aQ) (aS (.bPW aC aF) 1 (.Z 0)) <|
             .call 4 (bP (.bPW aC aD) [(.p1 aC aF (.Z 0)),(.Z 26),(.Z 30)]) <|
             .call 3 (bP (.bPW tI aD) [(.Z 29),(.Z 31),(.ci .i64 100000)]) <|
             .bPX .not (.Z 32) <|
             .ite (.Z 33) (
              .ret (.ci .i64 7)) (
              .bPX (.ar .add .i64) (.bPY tI tI (.Z 26) (.ci .i64 1)) <|
              .bPZ 0 (.Z 34))) (
             .ret (.ci .i64 0)))))))))))
theorem bEJ:bW Tryz.prog [dJ,qG,iG,cJ,fB] nI false 3000 ⟨[(2963,128019,jV 47 7++[.dr 0,.tm 5 0]),(2948,512026,jV 69 62++jV 52 48++[.dr 5,.tm 6 0])],[]⟩ = .ok aHH:=by kernel_rfl
theorem bF1 (x:bB × bL) (hx:okD (.bPW aC aF) x) (hp:(fun x=>dO x.1) x):aHH.wp [dJ,qG,iG,cJ,fB] [⟨(.bPW aC aF),x⟩] [] (fun v=>v.as tI=(fun x=>cE x.1 x.2) x):=by
 obtain ⟨c,b⟩:=x
 have hp:dO c:=hp
 have hl1:=hp.2.1
 have hl2:=hp.2.2.1
 have hl3:=hp.2.2.2.1
 have hl4:List.length c.2.2.2.2.2≤1000000000:=hp.2.2.2.2
 delta aHH dJ qG iG cJ fB;refine dY ?_
 refine eD ?_
 refine ⟨fun h=>bOJ h,fun h1=>⟨fun h=>bNU h1 h,fun h2=>⟨⟨hp.1,hp.2.1⟩,fun h=>bME h1 h2 (.inl (aJQ h)),fun hc _=>⟨by omega,fun _=>⟨fun h=>bME h1 h2 (.inr (by rw[xE hc];exact h)),fun h3=>?_⟩⟩⟩⟩⟩
 have hst:=xE hc
 have h3':¬ (bC c.1 c.2.1=0∨4<bC c.1 c.2.1):=by omega
 refine ⟨fun h=>bKP h1 h2 h3' (by omega),fun h4 _ _=>⟨by omega,fun _=>⟨fun h=>bN3 h1 h2 h3' (by omega) (by omega),fun h5=>?_⟩⟩⟩
 have h4':c.2.2.1=1∨c.2.2.1=2:=by omega
 have h5':(c.2.2.2.1.length:Int)=bC c.1 c.2.1:=by omega
 refine fun _ _=>⟨fun h=>bKX h1 h2 h3' h4' h5' (bBZ (by omega)),fun h6=>?_⟩
 refine aAT (fun k=>(k:Int)) (fun k=>(List.take k c.2.2.2.2.1).all (fun n=>decide (1≤n∧n≤5))=true) (List.length c.2.2.2.2.1) rfl rfl fun I μ k hk hG _ go=>?_
 try dsimp only
 refine eD ?_
 intro _
 constructor
 ·intro hlt
  have hk':k<List.length c.2.2.2.2.1:=by omega
  have e:=qF (fun n:Int=>decide (1≤n∧n≤5)) c.2.2.2.2.1 hk'
  simp only[aW hk']
  (repeat' first|intro _|(refine go _ ?_ ?_ ?_)|(refine go _ ?_ ?_)|(with_reducible apply And.intro))
  all_goals first|omega|exact bKX h1 h2 h3' h4' h5' (bB6 hk' (by omega))|(rw[e,hG,Bool.true_and];exact decide_eq_true ⟨by omega,by omega⟩)|rfl
 intro hge
 have h6':oM c=true:=aZG (by omega) (aQ8 hG (by omega))
 clear go hG
 refine fun _ _=>⟨by omega,fun _=>⟨fun h=>bKY h1 h2 h3' h4' h5' h6' (bJV (by omega)),fun h7=>?_⟩⟩
 refine aAT (fun k=>(k:Int)) (fun k=>∀ i,i<k→aOF c (b.length:Int) i=true) (List.length c.2.2.2.2.2) rfl (fun i hi=>absurd hi (Nat.not_lt_zero _)) fun I μ k hk hG _ go=>?_
 try dsimp only
 refine eD ?_
 intro _
 constructor
 ·intro hlt
  have hk':k<List.length c.2.2.2.2.2:=by omega
  (repeat' first|intro _|(refine go _ ?_ ?_ ?_)|(refine go _ ?_ ?_)|(with_reducible apply And.intro))
  all_goals first|omega|exact hp|exact bKY h1 h2 h3' h4' h5' h6' (bGS hk' (fun hh=>by have h1:jD c (k:Int) (b.length:Int)≤List.getD c.2.2.2.2.2 k (aP tI):=hh.1;have h2:List.getD c.2.2.2.2.2 k (aP tI)≤100000:=hh.2;omega))|exact aI1 hG (decide_eq_true (by assumption)) _ (by assumption)|exact aI1 hG (decide_eq_true ⟨by omega,by omega⟩) _ (by assumption)|rfl|skip
 ·intro hge
  exact bNS h1 h2 h3' h4' h5' h6' (bMV (by omega) fun i hi=>hG i (by omega))
theorem aPM:Con.Holds Tryz.prog nI:=aX aZ (aG qJ (aG aSV (aG aDS (aG kF (aG yU aT))))) bEJ bF1
end
end Go.Proofs.YtpafjioccjpmfaaGreat
