/- CoreA: lemmas. No conditions. -/
import Derived.Test.YtpleleanibgniaaGreatCoreL
import Derived.Test.YtpleleanibgniaaGreatTicks2
namespace Go.Proofs.YtpleleanibgniaaGreat
noncomputable section
set_option maxRecDepth 100000
open Go.ChangeShapes Go.WideShapes Go.ChangeAt Go.RowKit Go.Deep
set_option linter.unusedVariables false
set_option linter.unusedSimpArgs false
def bA (m:List dE) (c:List Int) (s:Int):Int × Int :=
 if jY m c=true∧0≤s∧s≤(c.length:Int) then ((if 0<s then c.getD (s - 1).toNat 0 else 0),(if s<(c.length:Int) then c.getD s.toNat 0 else (m.length:Int))) else (0,0)
def aGG (m:List dE) (i:Int):Int:=(m.getD i.toNat zOp).2.1
def aC9 (m:List dE) (i:Int):Int:=(m.getD i.toNat zOp).2.2.1
def sP (m:List dE) (a:Int):Nat→Int
 | 0=>0
 | k+1=>sP m a k+aGG m (a+(k:Int))
def tG (c:bK) (s:Int):Int:=if (bA c.1 c.2.1 s).1<(bA c.1 c.2.1 s).2 then aC9 c.1 ((bA c.1 c.2.1 s).2 - 1) else 0
def inF (c:bK) (s:Int):Int:=if (bA c.1 c.2.1 s).1<(bA c.1 c.2.1 s).2 then aGG c.1 (bA c.1 c.2.1 s).1 else 0
def oQ (c:bK) (s:Int):Int:=sP c.1 (bA c.1 c.2.1 s).1 ((bA c.1 c.2.1 s).2 - (bA c.1 c.2.1 s).1).toNat+tG c s
def nZ (c:bK) (s:Int):Bool:=decide (0≤s∧s<(c.2.2.2.1.length:Int))&&c.2.2.2.1.getD s.toNat false
def jD (c:bK) (s:Int):Int:=if nZ c s=true then inF c s else oQ c s
def lX (c:bK) (s micro:Int):Int :=
 if (bA c.1 c.2.1 s).1<(bA c.1 c.2.1 s).2∧1≤micro∧micro≤5∧(c.2.1.length:Int)+1≤4 then
  (if c.2.2.1=2 then min micro ((c.2.1.length:Int)+1 - s) else micro) * jD c s+max (inF c s) (tG c s)+(if nZ c s=true then oQ c s else 0) else 0
def qA (c:bK):Bool:=decide (c.2.2.2.2.1.length=c.2.1.length)&&c.2.2.2.2.1.all fun n=>decide (1≤n∧n≤5)
def aVY (c:bK) (micro:Int) (s:Nat):Bool:=decide (lX c (s:Int) micro≤c.2.2.2.2.2.getD s 0∧c.2.2.2.2.2.getD s 0≤100000)
def lL (c:bK) (micro:Int):Bool:=decide ((c.2.2.2.2.2.length:Int)=bL c.1 c.2.1)&&(List.range c.2.2.2.2.2.length).all (aVY c micro)
def dH (c:bK) (b:List cI):Int :=
 if bT c.1=false then 1 else if dY c.1 b=false then 2 else if bL c.1 c.2.1=0∨4<bL c.1 c.2.1 then 3 else if ¬ (c.2.2.1=1∨c.2.2.1=2) then 4
 else if ¬ (c.2.2.2.1.length:Int)=bL c.1 c.2.1 then 5 else if qA c=false then 6 else if lL c (b.length:Int)=false then 7 else 0
theorem aGI {m:List dE} {c:List Int} {s:Int} (h:jY m c=false∨s<0∨(c.length:Int)<s):bA m c s=(0,0):=by
 unfold bA;rw[if_neg]
 rintro ⟨h1,h2,h3⟩
 rcases h with h|h|h
 ·rw[h] at h1;cases h1
 ·omega
 ·omega
theorem tD {m:List dE} {c:List Int} {s:Int} (h1:jY m c=true) (h2:0≤s) (h3:s≤(c.length:Int)):bA m c s=((if 0<s then c.getD (s - 1).toNat 0 else 0),(if s<(c.length:Int) then c.getD s.toNat 0 else (m.length:Int))):=if_pos ⟨h1,h2,h3⟩
theorem aWG {m:List dE} {c:List Int} {s:Int} (h1:jY m c=true) (h2:0≤s) (h3:s≤(c.length:Int)):0≤(bA m c s).1∧(bA m c s).1<(bA m c s).2∧(bA m c s).2≤(m.length:Int):=by
 obtain ⟨hm,hc⟩:=(tJ m c).1 h1
 have hm1:=((bR m).1 hm).1
 rw[tD h1 h2 h3]
 dsimp only
 by_cases ha:0<s
 ·have e1:=(yS c m.length (show (s - 1).toNat<c.length by omega)).1 (hc _ (by omega))
  rw[if_pos ha,bD (show (s - 1).toNat<c.length by omega)]
  by_cases hb:s<(c.length:Int)
  ·have e2:=(yS c m.length (show s.toNat<c.length by omega)).1 (hc _ (by omega))
   rw[if_pos hb,bD (show s.toNat<c.length by omega)]
   have e3:(s - 1).toNat=s.toNat - 1:=by omega
   have e4:c[(s - 1).toNat]'(by omega)=c[s.toNat - 1]'(by omega):=by congr 1
   rw[e4] at e1 ⊢
   omega
  ·rw[if_neg hb];omega
 ·rw[if_neg ha]
  by_cases hb:s<(c.length:Int)
  ·have e2:=(yS c m.length (show s.toNat<c.length by omega)).1 (hc _ (by omega))
   rw[if_pos hb,bD (show s.toNat<c.length by omega)]
   omega
  ·rw[if_neg hb];omega
theorem aCE (m:List dE) (c:List Int) (s:Int):0≤(bA m c s).1∧(bA m c s).1≤(bA m c s).2∧(bA m c s).2≤(m.length:Int)∧((bA m c s).1<(bA m c s).2→bT m=true∧jY m c=true∧0≤s∧s≤(c.length:Int)):=by
 by_cases h:jY m c=true∧0≤s∧s≤(c.length:Int)
 ·have hb:=aWG h.1 h.2.1 h.2.2
  exact ⟨hb.1,by omega,hb.2.2,fun _=>⟨((tJ m c).1 h.1).1,h⟩⟩
 ·have e:bA m c s=(0,0):=if_neg h
  rw[e]
  exact ⟨Int.le_refl _,Int.le_refl _,by show (0:Int)≤_;omega,fun h=>absurd h (Int.lt_irrefl _)⟩
theorem aMJ {m:List dE} (h:bT m=true) {i:Int} (h0:0≤i) (h1:i<(m.length:Int)):1≤aGG m i∧aGG m i≤6∧1≤aC9 m i∧aC9 m i≤6:=by
 have hk:i.toNat<m.length:=by omega
 have h2:=(xB m hk).1 (((bR m).1 h).2.2 _ hk)
 have h3:=((gG _).1 h2.1).1
 unfold aGG aC9
 rw[bD hk]
 omega
theorem aNU {m:List dE} (h:bT m=true) {a:Int} (h0:0≤a):(k:Nat)→a+(k:Int)≤(m.length:Int)→0≤sP m a k∧sP m a k≤6 * (k:Int)
 | 0,_=>by unfold sP;omega
 | k+1,hk=>by
  have h1:=aNU h h0 k (by omega)
  have h2:=aMJ h (i:=a+(k:Int)) (by omega) (by omega)
  unfold sP;omega
theorem aTX (c:bK) (s:Int):0≤inF c s∧inF c s≤6∧0≤tG c s∧tG c s≤6∧0≤oQ c s∧oQ c s≤54∧0≤jD c s∧jD c s≤54:=by
 obtain ⟨h0,h1,h2,h3⟩:=aCE c.1 c.2.1 s
 by_cases h:(bA c.1 c.2.1 s).1<(bA c.1 c.2.1 s).2
 ·obtain ⟨hm,-⟩:=h3 h
  have hl:=((bR _).1 hm).2.1
  have a1:=aMJ hm (i:=(bA c.1 c.2.1 s).1) h0 (by omega)
  have a2:=aMJ hm (i:=(bA c.1 c.2.1 s).2 - 1) (by omega) (by omega)
  have a3:=aNU hm h0 ((bA c.1 c.2.1 s).2 - (bA c.1 c.2.1 s).1).toNat (by omega)
  have e1:inF c s=aGG c.1 (bA c.1 c.2.1 s).1:=if_pos h
  have e2:tG c s=aC9 c.1 ((bA c.1 c.2.1 s).2 - 1):=if_pos h
  have e3:oQ c s=sP c.1 (bA c.1 c.2.1 s).1 ((bA c.1 c.2.1 s).2 - (bA c.1 c.2.1 s).1).toNat+tG c s:=rfl
  have e4:jD c s=if nZ c s=true then inF c s else oQ c s:=rfl
  split at e4 <;> omega
 ·have e1:inF c s=0:=if_neg h
  have e2:tG c s=0:=if_neg h
  have e3:oQ c s=sP c.1 (bA c.1 c.2.1 s).1 ((bA c.1 c.2.1 s).2 - (bA c.1 c.2.1 s).1).toNat+tG c s:=rfl
  rw[show ((bA c.1 c.2.1 s).2 - (bA c.1 c.2.1 s).1).toNat=0 by omega] at e3
  have e5:sP c.1 (bA c.1 c.2.1 s).1 0=0:=rfl
  have e4:jD c s=if nZ c s=true then inF c s else oQ c s:=rfl
  split at e4 <;> omega
theorem bEY {m:List dE} {c:List Int} {s:Int} (h1:jY m c=true) (h2:0<s) (h3:s<(c.length:Int)):(c.getD (s - 1).toNat 0,c.getD s.toNat 0)=bA m c s:=by rw[tD h1 (by omega) (by omega),if_pos h2,if_pos h3]
theorem bEL {m:List dE} {c:List Int} {s:Int} (h1:jY m c=true) (h2:0<s) (h3:s=(c.length:Int)):(c.getD (s - 1).toNat 0,(m.length:Int))=bA m c s:=by rw[tD h1 (by omega) (by omega),if_pos h2,if_neg (by omega)]
theorem bFU {m:List dE} {c:List Int} {s:Int} (h1:jY m c=true) (h2:s=0) (h3:s<(c.length:Int)):(0,c.getD s.toNat 0)=bA m c s:=by rw[tD h1 (by omega) (by omega),if_neg (by omega),if_pos h3]
theorem bEF {m:List dE} {c:List Int} {s:Int} (h1:jY m c=true) (h2:s=0) (h3:s=(c.length:Int)):(0,(m.length:Int))=bA m c s:=by rw[tD h1 (by omega) (by omega),if_neg (by omega),if_neg (by omega)]
theorem aEE {c:bK} {s:Int} (h0:0≤s) (h1:s<(c.2.2.2.1.length:Int)):c.2.2.2.1.getD s.toNat false=nZ c s:=by unfold nZ;rw[decide_eq_true ⟨h0,h1⟩,Bool.true_and]
theorem aT6 {c:bK} {s:Int} (h:s<0∨(c.2.2.2.1.length:Int)≤s):false=nZ c s:=by unfold nZ;rw[decide_eq_false (by omega),Bool.false_and]
theorem bEG {c:bK} {s:Int} (h:(bA c.1 c.2.1 s).1=(bA c.1 c.2.1 s).2):(0,0)=(inF c s,tG c s):=by
 unfold inF tG;rw[if_neg (by omega),if_neg (by omega)]
theorem bDZ {c:bK} {s:Int} (h:(bA c.1 c.2.1 s).1<(bA c.1 c.2.1 s).2):(aGG c.1 (bA c.1 c.2.1 s).1,aC9 c.1 ((bA c.1 c.2.1 s).2 - 1))=(inF c s,tG c s):=by
 unfold inF tG;rw[if_pos h,if_pos h]
theorem aVZ {c:bK} {s:Int} (h:nZ c s=true):inF c s=jD c s:=(if_pos h).symm
theorem aM4 {c:bK} {s:Int} (h:nZ c s=false):oQ c s=jD c s:=(if_neg (by rw[h];simp)).symm
theorem bDI {k v:Int} (h1:0≤k) (h2:k≤5) (h3:0≤v) (h4:v≤54):0≤k * v∧k * v≤270:=by
 refine ⟨Int.mul_nonneg h1 h3,?_⟩
 have:=Int.mul_le_mul h2 h4 h3 (by omega:(0:Int)≤5)
 omega
theorem bBV {c:bK} {s micro:Int} (h:(bA c.1 c.2.1 s).2≤(bA c.1 c.2.1 s).1∨micro<1∨5<micro∨4<(c.2.1.length:Int)+1):0=lX c s micro:=by unfold lX;rw[if_neg (by omega)]
theorem aG2 {c:bK} {s micro k r:Int} (h1:(bA c.1 c.2.1 s).1<(bA c.1 c.2.1 s).2) (h2:1≤micro) (h3:micro≤5) (h4:(c.2.1.length:Int)+1≤4) (hk:k=if c.2.2.1=2 then min micro ((c.2.1.length:Int)+1 - s) else micro) (hr:r=if nZ c s=true then oQ c s else 0) :
 k * jD c s+max (inF c s) (tG c s)+r=lX c s micro:=by unfold lX;rw[if_pos ⟨h1,h2,h3,h4⟩,hk,hr]
theorem aEN {c:bK} {s micro k:Int} (h1:(bA c.1 c.2.1 s).1<(bA c.1 c.2.1 s).2) (h2:1≤micro) (h3:micro≤5) (h4:(c.2.1.length:Int)+1≤4) (hk:k=if c.2.2.1=2 then min micro ((c.2.1.length:Int)+1 - s) else micro) (hr:nZ c s=false) :
  k * jD c s+max (inF c s) (tG c s)=lX c s micro:=by
 have h:=aG2 (s:=s) h1 h2 h3 h4 hk (r:=0) (if_neg (by rw[hr];simp)).symm
 omega
theorem aC6 {m:List dE} {c:List Int} (h:jY m c=true):bL m c=(c.length:Int)+1:=if_pos h
theorem aP8 {m:List dE} {c:List Int} (h:jY m c=false):bL m c=0:=if_neg (by rw[h];simp)
theorem bF6 {c:bK} (h:¬ c.2.2.2.2.1.length=c.2.1.length):qA c=false:=by unfold qA;rw[decide_eq_false h,Bool.false_and]
theorem bFR {c:bK} {k:Nat} (hk:k<c.2.2.2.2.1.length) (h:¬ (1≤c.2.2.2.2.1[k]∧c.2.2.2.2.1[k]≤5)):qA c=false:=by
 have e:c.2.2.2.2.1.all (fun n=>decide (1≤n∧n≤5))=false:=zI hk (decide_eq_false h)
 unfold qA
 rw[e,Bool.and_false]
theorem bC9 {c:bK} (h:c.2.2.2.2.1.length=c.2.1.length) (h2:c.2.2.2.2.1.all (fun n=>decide (1≤n∧n≤5))=true):qA c=true:=by unfold qA;rw[decide_eq_true h,h2];rfl
theorem bG8 {c:bK} {m:Int} (h:¬ (c.2.2.2.2.2.length:Int)=bL c.1 c.2.1):lL c m=false:=by unfold lL;rw[decide_eq_false h,Bool.false_and]
theorem bGG {c:bK} {m:Int} {k:Nat} (hk:k<c.2.2.2.2.2.length) (h:¬ (lX c (k:Int) m≤c.2.2.2.2.2.getD k 0∧c.2.2.2.2.2.getD k 0≤100000)):lL c m=false:=by
 refine Bool.eq_false_iff.2 fun hh=>h ?_
 unfold lL at hh
 rw[Bool.and_eq_true,List.all_eq_true] at hh
 exact of_decide_eq_true (hh.2 k (List.mem_range.2 hk))
theorem bID {c:bK} {m:Int} (h:(c.2.2.2.2.2.length:Int)=bL c.1 c.2.1) (h2:∀ i,i<c.2.2.2.2.2.length→aVY c m i=true):lL c m=true:=by
 unfold lL;rw[decide_eq_true h,Bool.true_and,List.all_eq_true]
 exact fun i hi=>h2 i (List.mem_range.1 hi)
theorem bIE {c:bK} {b:List cI} (h:bT c.1=false):1=dH c b:=by unfold dH;rw[if_pos h]
theorem bI3 {c:bK} {b:List cI} (h1:bT c.1=true) (h:dY c.1 b=false):2=dH c b:=by unfold dH;rw[if_neg (by rw[h1];simp),if_pos h]
theorem bGM {c:bK} {b:List cI} (h1:bT c.1=true) (h2:dY c.1 b=true) (h:bL c.1 c.2.1=0∨4<bL c.1 c.2.1):3=dH c b:=by unfold dH;rw[if_neg (by rw[h1];simp),if_neg (by rw[h2];simp),if_pos h]
theorem bHF {c:bK} {b:List cI} (h1:bT c.1=true) (h2:dY c.1 b=true) (h3:¬ (bL c.1 c.2.1=0∨4<bL c.1 c.2.1)) (h:¬ (c.2.2.1=1∨c.2.2.1=2)):4=dH c b:=by unfold dH;rw[if_neg (by rw[h1];simp),if_neg (by rw[h2];simp),if_neg h3,if_pos h]
theorem bIS {c:bK} {b:List cI} (h1:bT c.1=true) (h2:dY c.1 b=true) (h3:¬ (bL c.1 c.2.1=0∨4<bL c.1 c.2.1)) (h4:c.2.2.1=1∨c.2.2.1=2) (h:¬ (c.2.2.2.1.length:Int)=bL c.1 c.2.1):5=dH c b:=by
 unfold dH;rw[if_neg (by rw[h1];simp),if_neg (by rw[h2];simp),if_neg h3,if_neg (Classical.not_not.2 h4),if_pos h]
theorem bH2 {c:bK} {b:List cI} (h1:bT c.1=true) (h2:dY c.1 b=true) (h3:¬ (bL c.1 c.2.1=0∨4<bL c.1 c.2.1)) (h4:c.2.2.1=1∨c.2.2.1=2) (h5:(c.2.2.2.1.length:Int)=bL c.1 c.2.1) (h:qA c=false):6=dH c b:=by
 unfold dH;rw[if_neg (by rw[h1];simp),if_neg (by rw[h2];simp),if_neg h3,if_neg (Classical.not_not.2 h4),if_neg (Classical.not_not.2 h5),if_pos h]
theorem bGT {c:bK} {b:List cI} (h1:bT c.1=true) (h2:dY c.1 b=true) (h3:¬ (bL c.1 c.2.1=0∨4<bL c.1 c.2.1)) (h4:c.2.2.1=1∨c.2.2.1=2) (h5:(c.2.2.2.1.length:Int)=bL c.1 c.2.1) (h6:qA c=true) (h:lL c (b.length:Int)=false):7=dH c b:=by
 unfold dH;rw[if_neg (by rw[h1];simp),if_neg (by rw[h2];simp),if_neg h3,if_neg (Classical.not_not.2 h4),if_neg (Classical.not_not.2 h5),if_neg (by rw[h6];simp),if_pos h]
theorem bI5 {c:bK} {b:List cI} (h1:bT c.1=true) (h2:dY c.1 b=true) (h3:¬ (bL c.1 c.2.1=0∨4<bL c.1 c.2.1)) (h4:c.2.2.1=1∨c.2.2.1=2) (h5:(c.2.2.2.1.length:Int)=bL c.1 c.2.1) (h6:qA c=true) (h7:lL c (b.length:Int)=true):0=dH c b:=by
 unfold dH;rw[if_neg (by rw[h1];simp),if_neg (by rw[h2];simp),if_neg h3,if_neg (Classical.not_not.2 h4),if_neg (Classical.not_not.2 h5),if_neg (by rw[h6];simp),if_neg (by rw[h7];simp)]
def cO:Con:=⟨25,(.bJ2 aD (.bJ2 aB tI)),aC,[.val ⟨true,aD,[]⟩,.val ⟨false,aB,[]⟩,.val ⟨false,tI,[]⟩],[⟨false,tI,[0]⟩,⟨false,tI,[0]⟩],false,none,
 ((fun x=>lR x.1∧List.length x.2.1≤1000000000):(aW × (bH × Int))→Prop),
 ((fun x=>bA x.1 x.2.1 x.2.2):(aW × (bH × Int))→(Int × Int))⟩
def qD:T:=.call 0 (.bJ4 aD aB (.p1 aD (.bJ2 aB tI) (.Z 0)) (aJ (.bJ2 aD (.bJ2 aB tI)) 1 (.Z 0))) <|
 .bJ3 .not (.Z 1) <|
 .ite (.Z 2) (
  .ret (.bJ4 tI tI (.ci .i64 0) (.ci .i64 0))) (
  .bJ3 (.bJ6 3 tI) (aJ (.bJ2 aD (.bJ2 aB tI)) 1 (.Z 0)) <|
  .call 1 (bJ (.bJ2 tI aC) [(aR (.bJ2 aD (.bJ2 aB tI)) 2 (.Z 0)),(.ci .i64 0),(.Z 3)]) <|
  .bJ3 .not (.Z 4) <|
  .ite (.Z 5) (
   .ret (.bJ4 tI tI (.ci .i64 0) (.ci .i64 0))) (
   .bJ3 (.bJ6 93 bN) (.p1 aD (.bJ2 aB tI) (.Z 0)) <|
   .bJ3 (.cmp .gtr .i64) (.bJ4 tI tI (aR (.bJ2 aD (.bJ2 aB tI)) 2 (.Z 0)) (.ci .i64 0)) <|
   .ite (.Z 7) (
    .bJ3 (.ar .sub .i64) (.bJ4 tI tI (aR (.bJ2 aD (.bJ2 aB tI)) 2 (.Z 0)) (.ci .i64 1)) <|
    .bJ3 (.bJ7 3 tI) (.bJ4 aB tI (aJ (.bJ2 aD (.bJ2 aB tI)) 1 (.Z 0)) (.Z 8)) <|
    .bJ3 (.bJ6 3 tI) (aJ (.bJ2 aD (.bJ2 aB tI)) 1 (.Z 0)) <|
    .bJ3 (.cmp .lss .i64) (.bJ4 tI tI (aR (.bJ2 aD (.bJ2 aB tI)) 2 (.Z 0)) (.Z 10)) <|
    .ite (.Z 11) (
     .bJ3 (.bJ7 3 tI) (.bJ4 aB tI (aJ (.bJ2 aD (.bJ2 aB tI)) 1 (.Z 0)) (aR (.bJ2 aD (.bJ2 aB tI)) 2 (.Z 0))) <|
     .ret (.bJ4 tI tI (.Z 9) (.Z 12))) (
     .ret (.bJ4 tI tI (.Z 9) (.Z 6)))) (
    .bJ3 (.bJ6 3 tI) (aJ (.bJ2 aD (.bJ2 aB tI)) 1 (.Z 0)) <|
    .bJ3 (.cmp .lss .i64) (.bJ4 tI tI (aR (.bJ2 aD (.bJ2 aB tI)) 2 (.Z 0)) (.Z 8)) <|
    .ite (.Z 9) (
     .bJ3 (.bJ7 3 tI) (.bJ4 aB tI (aJ (.bJ2 aD (.bJ2 aB tI)) 1 (.Z 0)) (aR (.bJ2 aD (.bJ2 aB tI)) 2 (.Z 0))) <|
     .ret (.bJ4 tI tI (.ci .i64 0) (.Z 10))) (
     .ret (.bJ4 tI tI (.ci .i64 0) (.Z 6))))))
theorem aGN:bV Tryz.prog [fV,bY] cO false 3000 ⟨[],[]⟩ = .ok qD:=by kernel_rfl
theorem aIL (x:aW × (bH × Int)) (hx:okD (.bJ2 aD (.bJ2 aB tI)) x) (hp:(fun x=>lR x.1∧List.length x.2.1≤1000000000) x):qD.wp [fV,bY] [⟨(.bJ2 aD (.bJ2 aB tI)),x⟩] [] (fun v=>v.as aC=(fun x=>bA x.1 x.2.1 x.2.2) x):=by
 obtain ⟨m,c,s⟩:=x
 obtain ⟨hp1,hp2⟩:lR m∧List.length c≤1000000000:=hp
 delta qD fV bY;refine eE ?_
 (refine eL ?_;try with_reducible exact True.intro)
 (repeat' first|intro _|(with_reducible apply And.intro))
 all_goals first|omega|exact hp1|exact hp2|exact (aGI (.inl (by assumption))).symm|exact (aGI (.inr (by omega))).symm|exact bEY (by assumption) (by omega) (by omega)|exact bEL (by assumption) (by omega) (by omega)|exact bFU (by assumption) (by omega) (by omega)|exact bEF (by assumption) (by omega) (by omega)|skip
theorem lH:Con.Holds Tryz.prog cO:=aV aX (aG aAM (aG iJ aT)) aGN aIL
def fQ:Con:=⟨47,(.bJ2 aE tI),tI,[.val ⟨true,aE,[]⟩,.val ⟨false,tI,[]⟩],[⟨false,tI,[0]⟩],false,none,
 ((fun x=>pN x.1):(bK × Int)→Prop),
 ((fun x=>oQ x.1 x.2):(bK × Int)→(Int))⟩
def rX:T:=.call 0 (bJ (.bJ2 aD (.bJ2 aB tI)) [(.p1 aD (.bJ2 aB (.bJ2 tI (.bJ2 cB aQ))) (.p1 aE tI (.Z 0))),(aJ aE 1 (.p1 aE tI (.Z 0))),(aR (.bJ2 aE tI) 1 (.Z 0))]) <|.loop aC (.bJ4 tI tI (.p1 tI tI (.Z 1)) (.ci .i64 0)) <|
 .bJ3 (.cmp .lss .i64) (.bJ4 tI tI (.p1 tI tI (.Z 2)) (aR aC 1 (.Z 1))) <|
 .ite (.Z 3) (
  .bJ3 (.bJ7 93 bN) (.bJ4 aD tI (.p1 aD (.bJ2 aB (.bJ2 tI (.bJ2 cB aQ))) (.p1 aE tI (.Z 0))) (.p1 tI tI (.Z 2))) <|
  .bJ3 (.ar .add .i64) (.bJ4 tI tI (aR aC 1 (.Z 2)) (aJ bN 1 (.Z 4))) <|
  .bJ3 (.ar .add .i64) (.bJ4 tI tI (.p1 tI tI (.Z 2)) (.ci .i64 1)) <|
  .bJ5 0 (.bJ4 tI tI (.Z 6) (.Z 5))) (
  .bJ3 (.cmp .gtr .i64) (.bJ4 tI tI (aR aC 1 (.Z 1)) (.p1 tI tI (.Z 1))) <|
  .ite (.Z 4) (
   .bJ3 (.ar .sub .i64) (.bJ4 tI tI (aR aC 1 (.Z 1)) (.ci .i64 1)) <|
   .bJ3 (.bJ7 93 bN) (.bJ4 aD tI (.p1 aD (.bJ2 aB (.bJ2 tI (.bJ2 cB aQ))) (.p1 aE tI (.Z 0))) (.Z 5)) <|
   .bJ3 (.ar .add .i64) (.bJ4 tI tI (aR aC 1 (.Z 2)) (aJ bN 2 (.Z 6))) <|
   .ret (.Z 7)) (
   .ret (aR aC 1 (.Z 2))))
theorem aJL:bV Tryz.prog [cO] fQ false 3000 ⟨[(2989,1002,mW 18 16++[.dr 9]++mW 15 10++[.dr 0,.dr 1,.tm 8 0,.tm 7 0])],[]⟩ = .ok rX:=by kernel_rfl
theorem aJK (x:bK × Int) (hx:okD (.bJ2 aE tI) x) (hp:(fun x=>pN x.1) x):rX.wp [cO] [⟨(.bJ2 aE tI),x⟩] [] (fun v=>v.as tI=(fun x=>oQ x.1 x.2) x):=by
 have hp:pN x.1:=hp
 have hr:=aCE x.1.1 x.1.2.1 x.2
 have hml:List.length x.1.1≤1000000000:=hp.1.1
 have hb:=aTX x.1 x.2
 delta rX cO;refine eE ?_
 refine eL ?_
 refine ⟨⟨hp.1,hp.2.1⟩,fun _=>?_⟩
 refine fC (fun k=>((bA x.1.1 x.1.2.1 x.2).1+(k:Int),sP x.1.1 (bA x.1.1 x.1.2.1 x.2).1 k)) ((bA x.1.1 x.1.2.1 x.2).2 - (bA x.1.1 x.1.2.1 x.2).1).toNat (Prod.ext (Int.add_zero _).symm rfl) fun I μ k hk _ go=>?_
 dsimp only
 refine eL ?_
 constructor
 ·intro hlt
  have hm:=(hr.2.2.2 (by omega)).1
  have hl:=((bR _).1 hm).2.1
  have h1:=aNU hm hr.1 k (by omega)
  have h2:=aMJ hm (i:=(bA x.1.1 x.1.2.1 x.2).1+(k:Int)) (by omega) (by omega)
  have e:sP x.1.1 (bA x.1.1 x.1.2.1 x.2).1 (k+1)=sP x.1.1 (bA x.1.1 x.1.2.1 x.2).1 k+aGG x.1.1 ((bA x.1.1 x.1.2.1 x.2).1+(k:Int)):=rfl
  rw[show (List.getD x.1.1 ((bA x.1.1 x.1.2.1 x.2).1+(k:Int)).toNat (aS bN)).2.1=aGG x.1.1 ((bA x.1.1 x.1.2.1 x.2).1+(k:Int)) from rfl]
  (repeat' first|intro _|(refine go _ ?_ ?_ ?_)|(refine go _ ?_ ?_)|(with_reducible apply And.intro))
  all_goals first|omega|(refine Prod.ext ?_ ?_ <;> refine @Eq.trans Int _ _ _ ?_ rfl <;> dsimp only <;> omega)|skip
 ·intro hge
  have e:k=((bA x.1.1 x.1.2.1 x.2).2 - (bA x.1.1 x.1.2.1 x.2).1).toNat:=by omega
  subst e
  have e9:oQ x.1 x.2=sP x.1.1 (bA x.1.1 x.1.2.1 x.2).1 ((bA x.1.1 x.1.2.1 x.2).2 - (bA x.1.1 x.1.2.1 x.2).1).toNat+tG x.1 x.2:=rfl
  rw[show (List.getD x.1.1 ((bA x.1.1 x.1.2.1 x.2).2 - 1).toNat (aS bN)).2.2.1=aC9 x.1.1 ((bA x.1.1 x.1.2.1 x.2).2 - 1) from rfl]
  by_cases hq:(bA x.1.1 x.1.2.1 x.2).1<(bA x.1.1 x.1.2.1 x.2).2
  ·have e8:tG x.1 x.2=aC9 x.1.1 ((bA x.1.1 x.1.2.1 x.2).2 - 1):=if_pos hq
   rw[← e8]
   (repeat' first|intro _|(with_reducible apply And.intro))
   all_goals first|omega|exact e9.symm|skip
  ·have e8:tG x.1 x.2=0:=if_neg hq
   (repeat' first|intro _|(with_reducible apply And.intro))
   all_goals first|omega|(rw[e9,e8,Int.add_zero])|skip
theorem zX:Con.Holds Tryz.prog fQ:=aV aX (aG lH aT) aJL aJK
def jF:Con:=⟨46,(.bJ2 aE tI),tI,[.val ⟨true,aE,[]⟩,.val ⟨false,tI,[]⟩],[⟨false,tI,[0]⟩],false,none,
 ((fun x=>pN x.1):(bK × Int)→Prop),
 ((fun x=>jD x.1 x.2):(bK × Int)→(Int))⟩
def oY:T:=.call 0 (bJ (.bJ2 aD (.bJ2 aB tI)) [(.p1 aD (.bJ2 aB (.bJ2 tI (.bJ2 cB aQ))) (.p1 aE tI (.Z 0))),(aJ aE 1 (.p1 aE tI (.Z 0))),(aR (.bJ2 aE tI) 1 (.Z 0))]) <|
 .bJ3 (.cmp .gtr .i64) (.bJ4 tI tI (aR aC 1 (.Z 1)) (.p1 tI tI (.Z 1))) <|
 .ite (.Z 2) (
  .bJ3 (.bJ6 4 .bool) (aJ aE 3 (.p1 aE tI (.Z 0))) <|
  .bJ3 (.cmp .lss .i64) (.bJ4 tI tI (aR (.bJ2 aE tI) 1 (.Z 0)) (.Z 3)) <|
  .ite (.Z 4) (
   .bJ3 (.bJ7 4 .bool) (.bJ4 cB tI (aJ aE 3 (.p1 aE tI (.Z 0))) (aR (.bJ2 aE tI) 1 (.Z 0))) <|
   .ite (.Z 5) (
    .bJ3 (.bJ7 93 bN) (.bJ4 aD tI (.p1 aD (.bJ2 aB (.bJ2 tI (.bJ2 cB aQ))) (.p1 aE tI (.Z 0))) (.p1 tI tI (.Z 1))) <|
    .ret (aJ bN 1 (.Z 6))) (
    .call 1 (.Z 0) <|
    .ret (.Z 6))) (
   .call 1 (.Z 0) <|
   .ret (.Z 5))) (
  .call 1 (.Z 0) <|
  .ret (.Z 3))
theorem aIB:bV Tryz.prog [cO,fQ] jF false 3000 ⟨[],[]⟩ = .ok oY:=by kernel_rfl
theorem aHP (x:bK × Int) (hx:okD (.bJ2 aE tI) x) (hp:(fun x=>pN x.1) x):oY.wp [cO,fQ] [⟨(.bJ2 aE tI),x⟩] [] (fun v=>v.as tI=(fun x=>jD x.1 x.2) x):=by
 have hp:pN x.1:=hp
 have hr:=aCE x.1.1 x.1.2.1 x.2
 have hml:List.length x.1.1≤1000000000:=hp.1.1
 have red:nZ x.1 x.2=true∨nZ x.1 x.2=false:=by cases nZ x.1 x.2 <;> simp
 have none_:(bA x.1.1 x.1.2.1 x.2).2≤(bA x.1.1 x.1.2.1 x.2).1→oQ x.1 x.2=jD x.1 x.2:=fun h=>by
  have e0:=bEG (c:=x.1) (s:=x.2) (by omega)
  rcases red with h1|h1
  ·rw[← aVZ h1]
   have e1:inF x.1 x.2=0:=(congrArg Prod.fst e0).symm
   have e2:tG x.1 x.2=0:=(congrArg Prod.snd e0).symm
   unfold oQ
   rw[e1,e2,show ((bA x.1.1 x.1.2.1 x.2).2 - (bA x.1.1 x.1.2.1 x.2).1).toNat=0 by omega];rfl
  ·exact aM4 h1
 have redo_t:(bA x.1.1 x.1.2.1 x.2).1<(bA x.1.1 x.1.2.1 x.2).2→nZ x.1 x.2=true→aGG x.1.1 (bA x.1.1 x.1.2.1 x.2).1=jD x.1 x.2:=fun h h1=>by
  rw[← aVZ h1];exact congrArg Prod.fst (bDZ h)
 delta oY cO fQ;refine eE ?_
 refine eL ?_
 refine ⟨⟨hp.1,hp.2.1⟩,fun _=>⟨fun hlt _=>?_,fun h=>⟨hp,fun _=>none_ h⟩⟩⟩
 have h0:=(hr.2.2.2 hlt).2.2.1
 refine ⟨fun hl=>⟨by omega,fun h=>⟨by omega,fun _=>?_⟩,fun h=>⟨hp,fun _=>?_⟩⟩,fun h=>⟨hp,fun _=>aM4 (aT6 (.inr h)).symm⟩⟩
 ·exact redo_t hlt ((aEE h0 hl).symm.trans h)
 ·exact aM4 ((aEE h0 hl).symm.trans h)
theorem aGD:Con.Holds Tryz.prog jF:=aV aX (aG lH (aG zX aT)) aIB aHP
def jK:Con:=⟨23,(.bJ2 aE aC),tI,[.val ⟨true,aE,[]⟩,.val ⟨false,tI,[]⟩,.val ⟨false,tI,[]⟩],[⟨false,tI,[0]⟩],false,none,
 ((fun x=>pN x.1):(bK × cQ)→Prop),
 ((fun x=>lX x.1 x.2.1 x.2.2):(bK × cQ)→(Int))⟩
def aAI:T:=.call 0 (bJ (.bJ2 aD (.bJ2 aB tI)) [(.p1 aD (.bJ2 aB (.bJ2 tI (.bJ2 cB aQ))) (.p1 aE aC (.Z 0))),(aJ aE 1 (.p1 aE aC (.Z 0))),(aJ (.bJ2 aE aC) 1 (.Z 0))]) <|
 .bJ3 (.cmp .leq .i64) (.bJ4 tI tI (aR aC 1 (.Z 1)) (.p1 tI tI (.Z 1))) <|
 .ite (.Z 2) (
  .ret (.ci .i64 0)) (
  .call 1 (bJ (.bJ2 tI aC) [(aR (.bJ2 aE aC) 2 (.Z 0)),(.ci .i64 1),(.ci .i64 5)]) <|
  .bJ3 .not (.Z 3) <|
  .ite (.Z 4) (
   .ret (.ci .i64 0)) (
   .bJ3 (.bJ6 3 tI) (aJ aE 1 (.p1 aE aC (.Z 0))) <|
   .bJ3 (.ar .add .i64) (.bJ4 tI tI (.Z 5) (.ci .i64 1)) <|
   .call 1 (bJ (.bJ2 tI aC) [(.Z 6),(.ci .i64 1),(.ci .i64 4)]) <|
   .bJ3 .not (.Z 7) <|
   .ite (.Z 8) (
    .ret (.ci .i64 0)) (
    .bJ3 (.cmp .eql .i64) (.bJ4 tI tI (aJ aE 2 (.p1 aE aC (.Z 0))) (.ci .i64 2)) <|
    .ite (.Z 9) (
     .bJ3 (.bJ6 3 tI) (aJ aE 1 (.p1 aE aC (.Z 0))) <|
     .bJ3 (.ar .add .i64) (.bJ4 tI tI (.Z 10) (.ci .i64 1)) <|
     .bJ3 (.ar .sub .i64) (.bJ4 tI tI (.Z 11) (aJ (.bJ2 aE aC) 1 (.Z 0))) <|
     .bJ3 (.mn .i64) (.bJ4 tI tI (aR (.bJ2 aE aC) 2 (.Z 0)) (.Z 12)) <|
     .bJ3 (.ar .sub .i64) (.bJ4 tI tI (aR aC 1 (.Z 1)) (.ci .i64 1)) <|
     .bJ3 (.bJ7 93 bN) (.bJ4 aD tI (.p1 aD (.bJ2 aB (.bJ2 tI (.bJ2 cB aQ))) (.p1 aE aC (.Z 0))) (.p1 tI tI (.Z 1))) <|
     .bJ3 (.bJ7 93 bN) (.bJ4 aD tI (.p1 aD (.bJ2 aB (.bJ2 tI (.bJ2 cB aQ))) (.p1 aE aC (.Z 0))) (.Z 14)) <|
     .bJ3 (.mx .i64) (.bJ4 tI tI (aJ bN 1 (.Z 15)) (aJ bN 2 (.Z 16))) <|
     .call 2 (.bJ4 aE tI (.p1 aE aC (.Z 0)) (aJ (.bJ2 aE aC) 1 (.Z 0))) <|
     .bJ3 (.ar .mul .i64) (.bJ4 tI tI (.Z 13) (.Z 18)) <|
     .bJ3 (.ar .add .i64) (.bJ4 tI tI (.Z 19) (.Z 17)) <|
     .bJ3 (.bJ6 4 .bool) (aJ aE 3 (.p1 aE aC (.Z 0))) <|
     .bJ3 (.cmp .lss .i64) (.bJ4 tI tI (aJ (.bJ2 aE aC) 1 (.Z 0)) (.Z 21)) <|
     .ite (.Z 22) (
      .bJ3 (.bJ7 4 .bool) (.bJ4 cB tI (aJ aE 3 (.p1 aE aC (.Z 0))) (aJ (.bJ2 aE aC) 1 (.Z 0))) <|
      .ite (.Z 23) (
       .call 3 (.bJ4 aE tI (.p1 aE aC (.Z 0)) (aJ (.bJ2 aE aC) 1 (.Z 0))) <|
       .bJ3 (.ar .add .i64) (.bJ4 tI tI (.Z 20) (.Z 24)) <|
       .ret (.Z 25)) (
       .ret (.Z 20))) (
      .ret (.Z 20))) (
     .bJ3 (.ar .sub .i64) (.bJ4 tI tI (aR aC 1 (.Z 1)) (.ci .i64 1)) <|
     .bJ3 (.bJ7 93 bN) (.bJ4 aD tI (.p1 aD (.bJ2 aB (.bJ2 tI (.bJ2 cB aQ))) (.p1 aE aC (.Z 0))) (.p1 tI tI (.Z 1))) <|
     .bJ3 (.bJ7 93 bN) (.bJ4 aD tI (.p1 aD (.bJ2 aB (.bJ2 tI (.bJ2 cB aQ))) (.p1 aE aC (.Z 0))) (.Z 10)) <|
     .bJ3 (.mx .i64) (.bJ4 tI tI (aJ bN 1 (.Z 11)) (aJ bN 2 (.Z 12))) <|
     .call 2 (.bJ4 aE tI (.p1 aE aC (.Z 0)) (aJ (.bJ2 aE aC) 1 (.Z 0))) <|
     .bJ3 (.ar .mul .i64) (.bJ4 tI tI (aR (.bJ2 aE aC) 2 (.Z 0)) (.Z 14)) <|
     .bJ3 (.ar .add .i64) (.bJ4 tI tI (.Z 15) (.Z 13)) <|
     .bJ3 (.bJ6 4 .bool) (aJ aE 3 (.p1 aE aC (.Z 0))) <|
     .bJ3 (.cmp .lss .i64) (.bJ4 tI tI (aJ (.bJ2 aE aC) 1 (.Z 0)) (.Z 17)) <|
     .ite (.Z 18) (
      .bJ3 (.bJ7 4 .bool) (.bJ4 cB tI (aJ aE 3 (.p1 aE aC (.Z 0))) (aJ (.bJ2 aE aC) 1 (.Z 0))) <|
      .ite (.Z 19) (
       .call 3 (.bJ4 aE tI (.p1 aE aC (.Z 0)) (aJ (.bJ2 aE aC) 1 (.Z 0))) <|
       .bJ3 (.ar .add .i64) (.bJ4 tI tI (.Z 16) (.Z 20)) <|
       .ret (.Z 21)) (
       .ret (.Z 16))) (
      .ret (.Z 16))))))
theorem aUJ:bV Tryz.prog [cO,bY,jF,fQ] jK false 3000 ⟨[],[]⟩ = .ok aAI:=by kernel_rfl
theorem aS8 (x:bK × cQ) (hx:okD (.bJ2 aE aC) x) (hp:(fun x=>pN x.1) x):aAI.wp [cO,bY,jF,fQ] [⟨(.bJ2 aE aC),x⟩] [] (fun v=>v.as tI=(fun x=>lX x.1 x.2.1 x.2.2) x):=by
 obtain ⟨c,s,micro⟩:=x
 have hp:pN c:=hp
 have hb:=aTX c s
 have hr:=aCE c.1 c.2.1 s
 have hml:List.length c.1≤1000000000:=hp.1.1
 delta aAI cO bY jF fQ;refine eE ?_
 refine eL ?_
 refine ⟨⟨hp.1,hp.2.1⟩,fun _=>⟨fun h=>bBV (.inl h),fun hrb=>?_⟩⟩
 have h0:=(hr.2.2.2 hrb).2.2
 have hl:=hp.2.1
 have hrl:=hp.2.2.1
 have e1:inF c s=aGG c.1 (bA c.1 c.2.1 s).1:=if_pos hrb
 have e2:tG c s=aC9 c.1 ((bA c.1 c.2.1 s).2 - 1):=if_pos hrb
 rw[show (List.getD c.1 (Int.toNat (bA c.1 c.2.1 s).1) (aS bN)).2.1=inF c s from e1.symm,show (List.getD c.1 ((bA c.1 c.2.1 s).2 - 1).toNat (aS bN)).2.2.1=tG c s from e2.symm]
 (repeat' first|intro _|(with_reducible apply And.intro))
 all_goals first|omega|exact hp|exact bBV (by omega)|skip
 all_goals have hq1:=bDI (k:=min micro ((c.2.1.length:Int)+1 - s)) (v:=jD c s) (by omega) (by omega) (by omega) (by omega)
 all_goals have hq2:=bDI (k:=micro) (v:=jD c s) (by omega) (by omega) (by omega) (by omega)
 all_goals first|omega|exact aG2 hrb (by omega) (by omega) (by omega) (if_pos (by assumption)).symm (if_pos (by assumption)).symm|exact aG2 hrb (by omega) (by omega) (by omega) (if_neg (by assumption)).symm (if_pos (by assumption)).symm|exact aEN hrb (by omega) (by omega) (by omega) (if_pos (by assumption)).symm (by assumption)|exact aEN hrb (by omega) (by omega) (by omega) (if_neg (by assumption)).symm (by assumption)|exact aG2 hrb (by omega) (by omega) (by omega) (if_pos (by assumption)).symm (if_pos ((aEE (by omega) (by omega)).symm.trans (by assumption))).symm|exact aG2 hrb (by omega) (by omega) (by omega) (if_neg (by assumption)).symm (if_pos ((aEE (by omega) (by omega)).symm.trans (by assumption))).symm|exact aEN hrb (by omega) (by omega) (by omega) (if_pos (by assumption)).symm ((aEE (by omega) (by omega)).symm.trans (by assumption))|exact aEN hrb (by omega) (by omega) (by omega) (if_neg (by assumption)).symm ((aEE (by omega) (by omega)).symm.trans (by assumption))|exact aEN hrb (by omega) (by omega) (by omega) (if_pos (by assumption)).symm (aT6 (by omega)).symm|exact aEN hrb (by omega) (by omega) (by omega) (if_neg (by assumption)).symm (aT6 (by omega)).symm|skip
theorem aH1:Con.Holds Tryz.prog jK:=aV aX (aG lH (aG iJ (aG aGD (aG zX aT)))) aUJ aS8
def lC:Con:=⟨6,(.bJ2 aE aF),tI,[.val ⟨true,aE,[]⟩,.val ⟨false,aF,[]⟩],[⟨false,tI,[0]⟩],false,none,
 ((fun x=>pN x.1):(bK × bS)→Prop),
 ((fun x=>dH x.1 x.2):(bK × bS)→(Int))⟩
def aEG:T:=.call 0 (.p1 aD (.bJ2 aB (.bJ2 tI (.bJ2 cB aQ))) (.p1 aE aF (.Z 0))) <|
 .bJ3 .not (.Z 1) <|
 .ite (.Z 2) (
  .ret (.ci .i64 1)) (
  .call 1 (.bJ4 aD aF (.p1 aD (.bJ2 aB (.bJ2 tI (.bJ2 cB aQ))) (.p1 aE aF (.Z 0))) (aR (.bJ2 aE aF) 1 (.Z 0))) <|
  .bJ3 .not (.Z 3) <|
  .ite (.Z 4) (
   .ret (.ci .i64 2)) (
   .call 2 (.bJ4 aD aB (.p1 aD (.bJ2 aB (.bJ2 tI (.bJ2 cB aQ))) (.p1 aE aF (.Z 0))) (aJ aE 1 (.p1 aE aF (.Z 0)))) <|
   .bJ3 .not (.Z 5) <|
   .ite (.Z 6) (
    .ret (.ci .i64 3)) (
    .bJ3 (.bJ6 3 tI) (aJ aE 1 (.p1 aE aF (.Z 0))) <|
    .bJ3 (.ar .add .i64) (.bJ4 tI tI (.Z 7) (.ci .i64 1)) <|
    .bJ3 (.cmp .gtr .i64) (.bJ4 tI tI (.Z 8) (.ci .i64 4)) <|
    .ite (.Z 9) (
     .ret (.ci .i64 3)) (
     .call 3 (bJ (.bJ2 tI aC) [(aJ aE 2 (.p1 aE aF (.Z 0))),(.ci .i64 1),(.ci .i64 2)]) <|
     .bJ3 .not (.Z 10) <|
     .ite (.Z 11) (
      .ret (.ci .i64 4)) (
      .bJ3 (.bJ6 4 .bool) (aJ aE 3 (.p1 aE aF (.Z 0))) <|
      .bJ3 (.bJ6 3 tI) (aJ aE 1 (.p1 aE aF (.Z 0))) <|
      .bJ3 (.ar .add .i64) (.bJ4 tI tI (.Z 13) (.ci .i64 1)) <|
      .bJ3 (.cmp .neq .i64) (.bJ4 tI tI (.Z 12) (.Z 14)) <|
      .ite (.Z 15) (
       .ret (.ci .i64 5)) (
       .bJ3 (.bJ6 3 tI) (aJ aE 4 (.p1 aE aF (.Z 0))) <|
       .bJ3 (.bJ6 3 tI) (aJ aE 1 (.p1 aE aF (.Z 0))) <|
       .bJ3 (.cmp .neq .i64) (.bJ4 tI tI (.Z 16) (.Z 17)) <|
       .ite (.Z 18) (
        .ret (.ci .i64 6)) (
        .loop tI (.ci .i64 0) <|
         .bJ3 (.bJ6 3 tI) (aJ aE 4 (.p1 aE aF (.Z 0))) <|
         .bJ3 (.cmp .lss .i64) (.bJ4 tI tI (.Z 19) (.Z 20)) <|
         .ite (.Z 21) (
          .bJ3 (.bJ7 3 tI) (.bJ4 aB tI (aJ aE 4 (.p1 aE aF (.Z 0))) (.Z 19)) <|
          .call 3 (bJ (.bJ2 tI aC) [(.Z 22),(.ci .i64 1),(.ci .i64 5)]) <|
          .bJ3 .not (.Z 23) <|
          .ite (.Z 24) (
           .ret (.ci .i64 6)) (
           .bJ3 (.ar .add .i64) (.bJ4 tI tI (.Z 19) (.ci .i64 1)) <|
           .bJ5 0 (.Z 25))) (
          .bJ3 (.bJ6 3 tI) (aR aE 5 (.p1 aE aF (.Z 0))) <|
          .bJ3 (.bJ6 3 tI) (aJ aE 1 (.p1 aE aF (.Z 0))) <|
          .bJ3 (.ar .add .i64) (.bJ4 tI tI (.Z 23) (.ci .i64 1)) <|
          .bJ3 (.cmp .neq .i64) (.bJ4 tI tI (.Z 22) (.Z 24)) <|
          .ite (.Z 25) (
           .ret (.ci .i64 7)) (
           .loop tI (.ci .i64 0) <|
            .bJ3 (.bJ6 3 tI) (aR aE 5 (.p1 aE aF (.Z 0))) <|
            .bJ3 (.cmp .lss .i64) (.bJ4 tI tI (.Z 26) (.Z 27)) <|
            .ite (.Z 28) (
             .bJ3 (.bJ7 3 tI) (.bJ4 aB tI (aR aE 5 (.p1 aE aF (.Z 0))) (.Z 26)) <|
             .bJ3 (.bJ6 67 aQ) (aR (.bJ2 aE aF) 1 (.Z 0)) <|
             .call 4 (bJ (.bJ2 aE aC) [(.p1 aE aF (.Z 0)),(.Z 26),(.Z 30)]) <|
             .call 3 (bJ (.bJ2 tI aC) [(.Z 29),(.Z 31),(.ci .i64 100000)]) <|
             .bJ3 .not (.Z 32) <|
             .ite (.Z 33) (
              .ret (.ci .i64 7)) (
              .bJ3 (.ar .add .i64) (.bJ4 tI tI (.Z 26) (.ci .i64 1)) <|
              .bJ5 0 (.Z 34))) (
             .ret (.ci .i64 0)))))))))))
theorem aZD:bV Tryz.prog [cE,mZ,fV,bY,jK] lC false 3000 ⟨[(2963,128019,mW 47 7++[.dr 0,.tm 5 0]),(2948,512026,mW 69 62++mW 52 48++[.dr 5,.tm 6 0])],[]⟩ = .ok aEG:=by kernel_rfl
theorem aYZ (x:bK × bS) (hx:okD (.bJ2 aE aF) x) (hp:(fun x=>pN x.1) x):aEG.wp [cE,mZ,fV,bY,jK] [⟨(.bJ2 aE aF),x⟩] [] (fun v=>v.as tI=(fun x=>dH x.1 x.2) x):=by
 obtain ⟨c,b⟩:=x
 have hp:pN c:=hp
 have hl1:=hp.2.1
 have hl2:=hp.2.2.1
 have hl3:=hp.2.2.2.1
 have hl4:List.length c.2.2.2.2.2≤1000000000:=hp.2.2.2.2
 delta aEG cE mZ fV bY jK;refine eE ?_
 refine eL ?_
 refine ⟨fun h=>bIE h,fun h1=>⟨fun h=>bI3 h1 h,fun h2=>⟨⟨hp.1,hp.2.1⟩,fun h=>bGM h1 h2 (.inl (aP8 h)),fun hc _=>⟨by omega,fun _=>⟨fun h=>bGM h1 h2 (.inr (by rw[aC6 hc];exact h)),fun h3=>?_⟩⟩⟩⟩⟩
 have hst:=aC6 hc
 have h3':¬ (bL c.1 c.2.1=0∨4<bL c.1 c.2.1):=by omega
 refine ⟨fun h=>bHF h1 h2 h3' (by omega),fun h4 _ _=>⟨by omega,fun _=>⟨fun h=>bIS h1 h2 h3' (by omega) (by omega),fun h5=>?_⟩⟩⟩
 have h4':c.2.2.1=1∨c.2.2.1=2:=by omega
 have h5':(c.2.2.2.1.length:Int)=bL c.1 c.2.1:=by omega
 refine fun _ _=>⟨fun h=>bH2 h1 h2 h3' h4' h5' (bF6 (by omega)),fun h6=>?_⟩
 refine aKD (fun k=>(k:Int)) (fun k=>(List.take k c.2.2.2.2.1).all (fun n=>decide (1≤n∧n≤5))=true) (List.length c.2.2.2.2.1) rfl rfl fun I μ k hk hG _ go=>?_
 try dsimp only
 refine eL ?_
 intro _
 constructor
 ·intro hlt
  have hk':k<List.length c.2.2.2.2.1:=by omega
  have e:=tE (fun n:Int=>decide (1≤n∧n≤5)) c.2.2.2.2.1 hk'
  simp only[bD hk']
  (repeat' first|intro _|(refine go _ ?_ ?_ ?_)|(refine go _ ?_ ?_)|(with_reducible apply And.intro))
  all_goals first|omega|exact bH2 h1 h2 h3' h4' h5' (bFR hk' (by omega))|(rw[e,hG,Bool.true_and];exact decide_eq_true ⟨by omega,by omega⟩)|rfl
 intro hge
 have h6':qA c=true:=bC9 (by omega) (aWK hG (by omega))
 clear go hG
 refine fun _ _=>⟨by omega,fun _=>⟨fun h=>bGT h1 h2 h3' h4' h5' h6' (bG8 (by omega)),fun h7=>?_⟩⟩
 refine aKD (fun k=>(k:Int)) (fun k=>∀ i,i<k→aVY c (b.length:Int) i=true) (List.length c.2.2.2.2.2) rfl (fun i hi=>absurd hi (Nat.not_lt_zero _)) fun I μ k hk hG _ go=>?_
 try dsimp only
 refine eL ?_
 intro _
 constructor
 ·intro hlt
  have hk':k<List.length c.2.2.2.2.2:=by omega
  (repeat' first|intro _|(refine go _ ?_ ?_ ?_)|(refine go _ ?_ ?_)|(with_reducible apply And.intro))
  all_goals first|omega|exact hp|exact bGT h1 h2 h3' h4' h5' h6' (bGG hk' (fun hh=>by have h1:lX c (k:Int) (b.length:Int)≤List.getD c.2.2.2.2.2 k (aS tI):=hh.1;have h2:List.getD c.2.2.2.2.2 k (aS tI)≤100000:=hh.2;omega))|exact aIJ hG (decide_eq_true (by assumption)) _ (by assumption)|exact aIJ hG (decide_eq_true ⟨by omega,by omega⟩) _ (by assumption)|rfl|skip
 ·intro hge
  exact bI5 h1 h2 h3' h4' h5' h6' (bID (by omega) fun i hi=>hG i (by omega))
theorem aL4:Con.Holds Tryz.prog lC:=aV aX (aG jH (aG aRA (aG aAM (aG iJ (aG aH1 aT))))) aZD aYZ
end
end Go.Proofs.YtpleleanibgniaaGreat
