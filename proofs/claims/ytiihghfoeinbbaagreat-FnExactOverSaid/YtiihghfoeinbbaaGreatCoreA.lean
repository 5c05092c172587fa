/- CoreA: lemmas. No conditions. -/
import Derived.Test.YtiihghfoeinbbaaGreatCoreL
import Derived.Test.YtiihghfoeinbbaaGreatTicks2
namespace Go.Proofs.YtiihghfoeinbbaaGreat
noncomputable section
set_option maxRecDepth 100000
open Go.ChangeShapes Go.WideShapes Go.ChangeAt Go.RowKit Go.Deep
set_option linter.unusedVariables false
set_option linter.unusedSimpArgs false
def bB (m:List eK) (c:List Int) (s:Int):Int × Int :=
 if jM m c=true∧0≤s∧s≤(c.length:Int) then ((if 0<s then c.getD (s - 1).toNat 0 else 0),(if s<(c.length:Int) then c.getD s.toNat 0 else (m.length:Int))) else (0,0)
def aG0 (m:List eK) (i:Int):Int:=(m.getD i.toNat zOp).2.1
def aFM (m:List eK) (i:Int):Int:=(m.getD i.toNat zOp).2.2.1
def qO (m:List eK) (a:Int):Nat→Int
 | 0=>0
 | k+1=>qO m a k+aG0 m (a+(k:Int))
def tE (c:bN) (s:Int):Int:=if (bB c.1 c.2.1 s).1<(bB c.1 c.2.1 s).2 then aFM c.1 ((bB c.1 c.2.1 s).2 - 1) else 0
def inF (c:bN) (s:Int):Int:=if (bB c.1 c.2.1 s).1<(bB c.1 c.2.1 s).2 then aG0 c.1 (bB c.1 c.2.1 s).1 else 0
def pE (c:bN) (s:Int):Int:=qO c.1 (bB c.1 c.2.1 s).1 ((bB c.1 c.2.1 s).2 - (bB c.1 c.2.1 s).1).toNat+tE c s
def nZ (c:bN) (s:Int):Bool:=decide (0≤s∧s<(c.2.2.2.1.length:Int))&&c.2.2.2.1.getD s.toNat false
def kA (c:bN) (s:Int):Int:=if nZ c s=true then inF c s else pE c s
def wZ (c:bN) (s micro:Int):Int :=
 if (bB c.1 c.2.1 s).1<(bB c.1 c.2.1 s).2∧1≤micro∧micro≤5∧(c.2.1.length:Int)+1≤4 then
  (if c.2.2.1=2 then min micro ((c.2.1.length:Int)+1 - s) else micro) * kA c s+max (inF c s) (tE c s)+(if nZ c s=true then pE c s else 0) else 0
def pH (c:bN):Bool:=decide (c.2.2.2.2.1.length=c.2.1.length)&&c.2.2.2.2.1.all fun n=>decide (1≤n∧n≤5)
def bAR (c:bN) (micro:Int) (s:Nat):Bool:=decide (wZ c (s:Int) micro≤c.2.2.2.2.2.getD s 0∧c.2.2.2.2.2.getD s 0≤100000)
def lS (c:bN) (micro:Int):Bool:=decide ((c.2.2.2.2.2.length:Int)=bS c.1 c.2.1)&&(List.range c.2.2.2.2.2.length).all (bAR c micro)
def gQ (c:bN) (b:List bW):Int :=
 if cQ c.1=false then 1 else if iG c.1 b=false then 2 else if bS c.1 c.2.1=0∨4<bS c.1 c.2.1 then 3 else if ¬ (c.2.2.1=1∨c.2.2.1=2) then 4
 else if ¬ (c.2.2.2.1.length:Int)=bS c.1 c.2.1 then 5 else if pH c=false then 6 else if lS c (b.length:Int)=false then 7 else 0
theorem tH {m:List eK} {c:List Int} {s:Int} (h:jM m c=false∨s<0∨(c.length:Int)<s):bB m c s=(0,0):=by
 unfold bB;rw[if_neg]
 rintro ⟨h1,h2,h3⟩
 rcases h with h|h|h
 ·rw[h] at h1;cases h1
 ·omega
 ·omega
theorem wE {m:List eK} {c:List Int} {s:Int} (h1:jM m c=true) (h2:0≤s) (h3:s≤(c.length:Int)):bB m c s=((if 0<s then c.getD (s - 1).toNat 0 else 0),(if s<(c.length:Int) then c.getD s.toNat 0 else (m.length:Int))):=if_pos ⟨h1,h2,h3⟩
theorem bA2 {m:List eK} {c:List Int} {s:Int} (h1:jM m c=true) (h2:0≤s) (h3:s≤(c.length:Int)):0≤(bB m c s).1∧(bB m c s).1<(bB m c s).2∧(bB m c s).2≤(m.length:Int):=by
 obtain ⟨hm,hc⟩:=(wQ m c).1 h1
 have hm1:=((bY m).1 hm).1
 rw[wE h1 h2 h3]
 dsimp only
 by_cases ha:0<s
 ·have e1:=(wM c m.length (show (s - 1).toNat<c.length by omega)).1 (hc _ (by omega))
  rw[if_pos ha,aZ (show (s - 1).toNat<c.length by omega)]
  by_cases hb:s<(c.length:Int)
  ·have e2:=(wM c m.length (show s.toNat<c.length by omega)).1 (hc _ (by omega))
   rw[if_pos hb,aZ (show s.toNat<c.length by omega)]
   have e3:(s - 1).toNat=s.toNat - 1:=by omega
   have e4:c[(s - 1).toNat]'(by omega)=c[s.toNat - 1]'(by omega):=by congr 1
   rw[e4] at e1 ⊢
   omega
  ·rw[if_neg hb];omega
 ·rw[if_neg ha]
  by_cases hb:s<(c.length:Int)
  ·have e2:=(wM c m.length (show s.toNat<c.length by omega)).1 (hc _ (by omega))
   rw[if_pos hb,aZ (show s.toNat<c.length by omega)]
   omega
  ·rw[if_neg hb];omega
theorem tS (m:List eK) (c:List Int) (s:Int):0≤(bB m c s).1∧(bB m c s).1≤(bB m c s).2∧(bB m c s).2≤(m.length:Int)∧((bB m c s).1<(bB m c s).2→cQ m=true∧jM m c=true∧0≤s∧s≤(c.length:Int)):=by
 by_cases h:jM m c=true∧0≤s∧s≤(c.length:Int)
 ·have hb:=bA2 h.1 h.2.1 h.2.2
  exact ⟨hb.1,by omega,hb.2.2,fun _=>⟨((wQ m c).1 h.1).1,h⟩⟩
 ·have e:bB m c s=(0,0):=if_neg h
  rw[e]
  exact ⟨Int.le_refl _,Int.le_refl _,by show (0:Int)≤_;omega,fun h=>absurd h (Int.lt_irrefl _)⟩
theorem aJ2 {m:List eK} (h:cQ m=true) {i:Int} (h0:0≤i) (h1:i<(m.length:Int)):1≤aG0 m i∧aG0 m i≤6∧1≤aFM m i∧aFM m i≤6:=by
 have hk:i.toNat<m.length:=by omega
 have h2:=(zO m hk).1 (((bY m).1 h).2.2 _ hk)
 have h3:=((kL _).1 h2.1).1
 unfold aG0 aFM
 rw[aZ hk]
 omega
theorem aIE {m:List eK} (h:cQ m=true) {a:Int} (h0:0≤a):(k:Nat)→a+(k:Int)≤(m.length:Int)→0≤qO m a k∧qO m a k≤6 * (k:Int)
 | 0,_=>by unfold qO;omega
 | k+1,hk=>by
  have h1:=aIE h h0 k (by omega)
  have h2:=aJ2 h (i:=a+(k:Int)) (by omega) (by omega)
  unfold qO;omega
theorem aOP (c:bN) (s:Int):0≤inF c s∧inF c s≤6∧0≤tE c s∧tE c s≤6∧0≤pE c s∧pE c s≤54∧0≤kA c s∧kA c s≤54:=by
 obtain ⟨h0,h1,h2,h3⟩:=tS c.1 c.2.1 s
 by_cases h:(bB c.1 c.2.1 s).1<(bB c.1 c.2.1 s).2
 ·obtain ⟨hm,-⟩:=h3 h
  have hl:=((bY _).1 hm).2.1
  have a1:=aJ2 hm (i:=(bB c.1 c.2.1 s).1) h0 (by omega)
  have a2:=aJ2 hm (i:=(bB c.1 c.2.1 s).2 - 1) (by omega) (by omega)
  have a3:=aIE hm h0 ((bB c.1 c.2.1 s).2 - (bB c.1 c.2.1 s).1).toNat (by omega)
  have e1:inF c s=aG0 c.1 (bB c.1 c.2.1 s).1:=if_pos h
  have e2:tE c s=aFM c.1 ((bB c.1 c.2.1 s).2 - 1):=if_pos h
  have e3:pE c s=qO c.1 (bB c.1 c.2.1 s).1 ((bB c.1 c.2.1 s).2 - (bB c.1 c.2.1 s).1).toNat+tE c s:=rfl
  have e4:kA c s=if nZ c s=true then inF c s else pE c s:=rfl
  split at e4 <;> omega
 ·have e1:inF c s=0:=if_neg h
  have e2:tE c s=0:=if_neg h
  have e3:pE c s=qO c.1 (bB c.1 c.2.1 s).1 ((bB c.1 c.2.1 s).2 - (bB c.1 c.2.1 s).1).toNat+tE c s:=rfl
  rw[show ((bB c.1 c.2.1 s).2 - (bB c.1 c.2.1 s).1).toNat=0 by omega] at e3
  have e5:qO c.1 (bB c.1 c.2.1 s).1 0=0:=rfl
  have e4:kA c s=if nZ c s=true then inF c s else pE c s:=rfl
  split at e4 <;> omega
theorem bBS {m:List eK} {c:List Int} {s:Int} (h1:jM m c=true) (h2:0<s) (h3:s<(c.length:Int)):(c.getD (s - 1).toNat 0,c.getD s.toNat 0)=bB m c s:=by rw[wE h1 (by omega) (by omega),if_pos h2,if_pos h3]
theorem bAM {m:List eK} {c:List Int} {s:Int} (h1:jM m c=true) (h2:0<s) (h3:s=(c.length:Int)):(c.getD (s - 1).toNat 0,(m.length:Int))=bB m c s:=by rw[wE h1 (by omega) (by omega),if_pos h2,if_neg (by omega)]
theorem bBG {m:List eK} {c:List Int} {s:Int} (h1:jM m c=true) (h2:s=0) (h3:s<(c.length:Int)):(0,c.getD s.toNat 0)=bB m c s:=by rw[wE h1 (by omega) (by omega),if_neg (by omega),if_pos h3]
theorem bA1 {m:List eK} {c:List Int} {s:Int} (h1:jM m c=true) (h2:s=0) (h3:s=(c.length:Int)):(0,(m.length:Int))=bB m c s:=by rw[wE h1 (by omega) (by omega),if_neg (by omega),if_neg (by omega)]
theorem sG {c:bN} {s:Int} (h0:0≤s) (h1:s<(c.2.2.2.1.length:Int)):c.2.2.2.1.getD s.toNat false=nZ c s:=by unfold nZ;rw[decide_eq_true ⟨h0,h1⟩,Bool.true_and]
theorem aH3 {c:bN} {s:Int} (h:s<0∨(c.2.2.2.1.length:Int)≤s):false=nZ c s:=by unfold nZ;rw[decide_eq_false (by omega),Bool.false_and]
theorem bAW {c:bN} {s:Int} (h:(bB c.1 c.2.1 s).1=(bB c.1 c.2.1 s).2):(0,0)=(inF c s,tE c s):=by
 unfold inF tE;rw[if_neg (by omega),if_neg (by omega)]
theorem bBN {c:bN} {s:Int} (h:(bB c.1 c.2.1 s).1<(bB c.1 c.2.1 s).2):(aG0 c.1 (bB c.1 c.2.1 s).1,aFM c.1 ((bB c.1 c.2.1 s).2 - 1))=(inF c s,tE c s):=by
 unfold inF tE;rw[if_pos h,if_pos h]
theorem aPT {c:bN} {s:Int} (h:nZ c s=true):inF c s=kA c s:=(if_pos h).symm
theorem aI7 {c:bN} {s:Int} (h:nZ c s=false):pE c s=kA c s:=(if_neg (by rw[h];simp)).symm
theorem bJ8 {k v:Int} (h1:0≤k) (h2:k≤5) (h3:0≤v) (h4:v≤54):0≤k * v∧k * v≤270:=by
 refine ⟨Int.mul_nonneg h1 h3,?_⟩
 have:=Int.mul_le_mul h2 h4 h3 (by omega:(0:Int)≤5)
 omega
theorem aKO {c:bN} {s micro:Int} (h:(bB c.1 c.2.1 s).2≤(bB c.1 c.2.1 s).1∨micro<1∨5<micro∨4<(c.2.1.length:Int)+1):0=wZ c s micro:=by unfold wZ;rw[if_neg (by omega)]
theorem yQ {c:bN} {s micro k r:Int} (h1:(bB c.1 c.2.1 s).1<(bB c.1 c.2.1 s).2) (h2:1≤micro) (h3:micro≤5) (h4:(c.2.1.length:Int)+1≤4) (hk:k=if c.2.2.1=2 then min micro ((c.2.1.length:Int)+1 - s) else micro) (hr:r=if nZ c s=true then pE c s else 0) :
 k * kA c s+max (inF c s) (tE c s)+r=wZ c s micro:=by unfold wZ;rw[if_pos ⟨h1,h2,h3,h4⟩,hk,hr]
theorem qG {c:bN} {s micro k:Int} (h1:(bB c.1 c.2.1 s).1<(bB c.1 c.2.1 s).2) (h2:1≤micro) (h3:micro≤5) (h4:(c.2.1.length:Int)+1≤4) (hk:k=if c.2.2.1=2 then min micro ((c.2.1.length:Int)+1 - s) else micro) (hr:nZ c s=false) :
  k * kA c s+max (inF c s) (tE c s)=wZ c s micro:=by
 have h:=yQ (s:=s) h1 h2 h3 h4 hk (r:=0) (if_neg (by rw[hr];simp)).symm
 omega
theorem aAW {m:List eK} {c:List Int} (h:jM m c=true):bS m c=(c.length:Int)+1:=if_pos h
theorem aII {m:List eK} {c:List Int} (h:jM m c=false):bS m c=0:=if_neg (by rw[h];simp)
theorem bG0 {m:List eK} {c:List Int} {s:Int} (h0:0≤s) (h:s<bS m c):jM m c=true:=by
 cases hc:jM m c
 ·rw[aII hc] at h;omega
 ·rfl
theorem bDF (m:List eK) (c:List Int):0≤bS m c:=by unfold bS;split <;> omega
theorem bAV {c:bN} (h:¬ c.2.2.2.2.1.length=c.2.1.length):pH c=false:=by unfold pH;rw[decide_eq_false h,Bool.false_and]
theorem bBL {c:bN} {k:Nat} (hk:k<c.2.2.2.2.1.length) (h:¬ (1≤c.2.2.2.2.1[k]∧c.2.2.2.2.1[k]≤5)):pH c=false:=by
 have e:c.2.2.2.2.1.all (fun n=>decide (1≤n∧n≤5))=false:=uP hk (decide_eq_false h)
 unfold pH
 rw[e,Bool.and_false]
theorem bF3 {c:bN} (h:c.2.2.2.2.1.length=c.2.1.length) (h2:c.2.2.2.2.1.all (fun n=>decide (1≤n∧n≤5))=true):pH c=true:=by unfold pH;rw[decide_eq_true h,h2];rfl
theorem bEG {c:bN} {m:Int} (h:¬ (c.2.2.2.2.2.length:Int)=bS c.1 c.2.1):lS c m=false:=by unfold lS;rw[decide_eq_false h,Bool.false_and]
theorem bGE {c:bN} {m:Int} {k:Nat} (hk:k<c.2.2.2.2.2.length) (h:¬ (wZ c (k:Int) m≤c.2.2.2.2.2.getD k 0∧c.2.2.2.2.2.getD k 0≤100000)):lS c m=false:=by
 refine Bool.eq_false_iff.2 fun hh=>h ?_
 unfold lS at hh
 rw[Bool.and_eq_true,List.all_eq_true] at hh
 exact of_decide_eq_true (hh.2 k (List.mem_range.2 hk))
theorem bKO {c:bN} {m:Int} (h:(c.2.2.2.2.2.length:Int)=bS c.1 c.2.1) (h2:∀ i,i<c.2.2.2.2.2.length→bAR c m i=true):lS c m=true:=by
 unfold lS;rw[decide_eq_true h,Bool.true_and,List.all_eq_true]
 exact fun i hi=>h2 i (List.mem_range.1 hi)
theorem bLB {c:bN} {b:List bW} (h:cQ c.1=false):1=gQ c b:=by unfold gQ;rw[if_pos h]
theorem bKX {c:bN} {b:List bW} (h1:cQ c.1=true) (h:iG c.1 b=false):2=gQ c b:=by unfold gQ;rw[if_neg (by rw[h1];simp),if_pos h]
theorem bK1 {c:bN} {b:List bW} (h1:cQ c.1=true) (h2:iG c.1 b=true) (h:bS c.1 c.2.1=0∨4<bS c.1 c.2.1):3=gQ c b:=by unfold gQ;rw[if_neg (by rw[h1];simp),if_neg (by rw[h2];simp),if_pos h]
theorem bLF {c:bN} {b:List bW} (h1:cQ c.1=true) (h2:iG c.1 b=true) (h3:¬ (bS c.1 c.2.1=0∨4<bS c.1 c.2.1)) (h:¬ (c.2.2.1=1∨c.2.2.1=2)):4=gQ c b:=by unfold gQ;rw[if_neg (by rw[h1];simp),if_neg (by rw[h2];simp),if_neg h3,if_pos h]
theorem bL6 {c:bN} {b:List bW} (h1:cQ c.1=true) (h2:iG c.1 b=true) (h3:¬ (bS c.1 c.2.1=0∨4<bS c.1 c.2.1)) (h4:c.2.2.1=1∨c.2.2.1=2) (h:¬ (c.2.2.2.1.length:Int)=bS c.1 c.2.1):5=gQ c b:=by
 unfold gQ;rw[if_neg (by rw[h1];simp),if_neg (by rw[h2];simp),if_neg h3,if_neg (Classical.not_not.2 h4),if_pos h]
theorem bJ6 {c:bN} {b:List bW} (h1:cQ c.1=true) (h2:iG c.1 b=true) (h3:¬ (bS c.1 c.2.1=0∨4<bS c.1 c.2.1)) (h4:c.2.2.1=1∨c.2.2.1=2) (h5:(c.2.2.2.1.length:Int)=bS c.1 c.2.1) (h:pH c=false):6=gQ c b:=by
 unfold gQ;rw[if_neg (by rw[h1];simp),if_neg (by rw[h2];simp),if_neg h3,if_neg (Classical.not_not.2 h4),if_neg (Classical.not_not.2 h5),if_pos h]
theorem bIN {c:bN} {b:List bW} (h1:cQ c.1=true) (h2:iG c.1 b=true) (h3:¬ (bS c.1 c.2.1=0∨4<bS c.1 c.2.1)) (h4:c.2.2.1=1∨c.2.2.1=2) (h5:(c.2.2.2.1.length:Int)=bS c.1 c.2.1) (h6:pH c=true) (h:lS c (b.length:Int)=false):7=gQ c b:=by
 unfold gQ;rw[if_neg (by rw[h1];simp),if_neg (by rw[h2];simp),if_neg h3,if_neg (Classical.not_not.2 h4),if_neg (Classical.not_not.2 h5),if_neg (by rw[h6];simp),if_pos h]
theorem bM0 {c:bN} {b:List bW} (h1:cQ c.1=true) (h2:iG c.1 b=true) (h3:¬ (bS c.1 c.2.1=0∨4<bS c.1 c.2.1)) (h4:c.2.2.1=1∨c.2.2.1=2) (h5:(c.2.2.2.1.length:Int)=bS c.1 c.2.1) (h6:pH c=true) (h7:lS c (b.length:Int)=true):0=gQ c b:=by
 unfold gQ;rw[if_neg (by rw[h1];simp),if_neg (by rw[h2];simp),if_neg h3,if_neg (Classical.not_not.2 h4),if_neg (Classical.not_not.2 h5),if_neg (by rw[h6];simp),if_neg (by rw[h7];simp)]
def dN:Con:=⟨165,(.bMC aE (.bMC aB tI)),aO,[.val ⟨true,aE,[]⟩,.val ⟨false,aB,[]⟩,.val ⟨false,tI,[]⟩],[⟨false,tI,[0]⟩,⟨false,tI,[0]⟩],false,none,
 ((fun x=>fN x.1∧List.length x.2.1≤1000000000):(bM × (cD × Int))→Prop),
 ((fun x=>bB x.1 x.2.1 x.2.2):(bM × (cD × Int))→(Int × Int))⟩
def tL:T:=.call 0 (.bME aE aB (.p1 aE (.bMC aB tI) (.Z 0)) (aJ (.bMC aE (.bMC aB tI)) 1 (.Z 0))) <|
 .bMD .not (.Z 1) <|
 .ite (.Z 2) (
  .ret (.bME tI tI (.ci .i64 0) (.ci .i64 0))) (
  .bMD (.cmp .lss .i64) (.bME tI tI (aQ (.bMC aE (.bMC aB tI)) 2 (.Z 0)) (.ci .i64 0)) <|
  .ite (.Z 3) (
   .ret (.bME tI tI (.ci .i64 0) (.ci .i64 0))) (
   .bMD (.bMG 3 tI) (aJ (.bMC aE (.bMC aB tI)) 1 (.Z 0)) <|
   .bMD (.cmp .gtr .i64) (.bME tI tI (aQ (.bMC aE (.bMC aB tI)) 2 (.Z 0)) (.Z 4)) <|
   .ite (.Z 5) (
    .ret (.bME tI tI (.ci .i64 0) (.ci .i64 0))) (
    .bMD (.bMG 146 bA) (.p1 aE (.bMC aB tI) (.Z 0)) <|
    .bMD (.cmp .gtr .i64) (.bME tI tI (aQ (.bMC aE (.bMC aB tI)) 2 (.Z 0)) (.ci .i64 0)) <|
    .ite (.Z 7) (
     .bMD (.ar .sub .i64) (.bME tI tI (aQ (.bMC aE (.bMC aB tI)) 2 (.Z 0)) (.ci .i64 1)) <|
     .bMD (.bMH 3 tI) (.bME aB tI (aJ (.bMC aE (.bMC aB tI)) 1 (.Z 0)) (.Z 8)) <|
     .bMD (.bMG 3 tI) (aJ (.bMC aE (.bMC aB tI)) 1 (.Z 0)) <|
     .bMD (.cmp .lss .i64) (.bME tI tI (aQ (.bMC aE (.bMC aB tI)) 2 (.Z 0)) (.Z 10)) <|
     .ite (.Z 11) (
      .bMD (.bMH 3 tI) (.bME aB tI (aJ (.bMC aE (.bMC aB tI)) 1 (.Z 0)) (aQ (.bMC aE (.bMC aB tI)) 2 (.Z 0))) <|
      .ret (.bME tI tI (.Z 9) (.Z 12))) (
      .ret (.bME tI tI (.Z 9) (.Z 6)))) (
     .bMD (.bMG 3 tI) (aJ (.bMC aE (.bMC aB tI)) 1 (.Z 0)) <|
     .bMD (.cmp .lss .i64) (.bME tI tI (aQ (.bMC aE (.bMC aB tI)) 2 (.Z 0)) (.Z 8)) <|
     .ite (.Z 9) (
      .bMD (.bMH 3 tI) (.bME aB tI (aJ (.bMC aE (.bMC aB tI)) 1 (.Z 0)) (aQ (.bMC aE (.bMC aB tI)) 2 (.Z 0))) <|
      .ret (.bME tI tI (.ci .i64 0) (.Z 10))) (
      .ret (.bME tI tI (.ci .i64 0) (.Z 6)))))))
theorem aLQ:bL Tryz.prog [kO] dN false 3000 ⟨[],[]⟩ = .ok tL:=by kernel_rfl
theorem aLG (x:bM × (cD × Int)) (hx:okD (.bMC aE (.bMC aB tI)) x) (hp:(fun x=>fN x.1∧List.length x.2.1≤1000000000) x):tL.wp [kO] [⟨(.bMC aE (.bMC aB tI)),x⟩] [] (fun v=>v.as aO=(fun x=>bB x.1 x.2.1 x.2.2) x):=by
 obtain ⟨m,c,s⟩:=x
 obtain ⟨hp1,hp2⟩:fN m∧List.length c≤1000000000:=hp
 delta tL kO;refine dD ?_
 (refine eE ?_;try with_reducible exact True.intro)
 (repeat' first|intro _|(with_reducible apply And.intro))
 all_goals first|omega|exact hp1|exact hp2|exact (tH (.inl (by assumption))).symm|exact (tH (.inr (by omega))).symm|exact bBS (by assumption) (by omega) (by omega)|exact bAM (by assumption) (by omega) (by omega)|exact bBG (by assumption) (by omega) (by omega)|exact bA1 (by assumption) (by omega) (by omega)|skip
theorem sI:Con.Holds Tryz.prog dN:=aR aW (aG aKT aS) aLQ aLG
def cT:Con:=⟨152,(.bMC aE (.bMC aB tI)),aO,[.val ⟨true,aE,[]⟩,.val ⟨false,aB,[]⟩,.val ⟨false,tI,[]⟩],[⟨false,tI,[0]⟩,⟨false,tI,[0]⟩],false,none,
 ((fun x=>fN x.1∧List.length x.2.1≤1000000000):(bM × (cD × Int))→Prop),
 ((fun x=>bB x.1 x.2.1 x.2.2):(bM × (cD × Int))→(Int × Int))⟩
def sX:T:=.call 0 (.bME aE aB (.p1 aE (.bMC aB tI) (.Z 0)) (aJ (.bMC aE (.bMC aB tI)) 1 (.Z 0))) <|
 .bMD .not (.Z 1) <|
 .ite (.Z 2) (
  .ret (.bME tI tI (.ci .i64 0) (.ci .i64 0))) (
  .bMD (.bMG 3 tI) (aJ (.bMC aE (.bMC aB tI)) 1 (.Z 0)) <|
  .call 1 (bE (.bMC tI aO) [(aQ (.bMC aE (.bMC aB tI)) 2 (.Z 0)),(.ci .i64 0),(.Z 3)]) <|
  .bMD .not (.Z 4) <|
  .ite (.Z 5) (
   .ret (.bME tI tI (.ci .i64 0) (.ci .i64 0))) (
   .bMD (.bMG 146 bA) (.p1 aE (.bMC aB tI) (.Z 0)) <|
   .bMD (.cmp .gtr .i64) (.bME tI tI (aQ (.bMC aE (.bMC aB tI)) 2 (.Z 0)) (.ci .i64 0)) <|
   .ite (.Z 7) (
    .bMD (.ar .sub .i64) (.bME tI tI (aQ (.bMC aE (.bMC aB tI)) 2 (.Z 0)) (.ci .i64 1)) <|
    .bMD (.bMH 3 tI) (.bME aB tI (aJ (.bMC aE (.bMC aB tI)) 1 (.Z 0)) (.Z 8)) <|
    .bMD (.bMG 3 tI) (aJ (.bMC aE (.bMC aB tI)) 1 (.Z 0)) <|
    .bMD (.cmp .lss .i64) (.bME tI tI (aQ (.bMC aE (.bMC aB tI)) 2 (.Z 0)) (.Z 10)) <|
    .ite (.Z 11) (
     .bMD (.bMH 3 tI) (.bME aB tI (aJ (.bMC aE (.bMC aB tI)) 1 (.Z 0)) (aQ (.bMC aE (.bMC aB tI)) 2 (.Z 0))) <|
     .ret (.bME tI tI (.Z 9) (.Z 12))) (
     .ret (.bME tI tI (.Z 9) (.Z 6)))) (
    .bMD (.bMG 3 tI) (aJ (.bMC aE (.bMC aB tI)) 1 (.Z 0)) <|
    .bMD (.cmp .lss .i64) (.bME tI tI (aQ (.bMC aE (.bMC aB tI)) 2 (.Z 0)) (.Z 8)) <|
    .ite (.Z 9) (
     .bMD (.bMH 3 tI) (.bME aB tI (aJ (.bMC aE (.bMC aB tI)) 1 (.Z 0)) (aQ (.bMC aE (.bMC aB tI)) 2 (.Z 0))) <|
     .ret (.bME tI tI (.ci .i64 0) (.Z 10))) (
     .ret (.bME tI tI (.ci .i64 0) (.Z 6))))))
theorem aK2:bL Tryz.prog [iE,bH] cT false 3000 ⟨[],[]⟩ = .ok sX:=by kernel_rfl
theorem aJC (x:bM × (cD × Int)) (hx:okD (.bMC aE (.bMC aB tI)) x) (hp:(fun x=>fN x.1∧List.length x.2.1≤1000000000) x):sX.wp [iE,bH] [⟨(.bMC aE (.bMC aB tI)),x⟩] [] (fun v=>v.as aO=(fun x=>bB x.1 x.2.1 x.2.2) x):=by
 obtain ⟨m,c,s⟩:=x
 obtain ⟨hp1,hp2⟩:fN m∧List.length c≤1000000000:=hp
 delta sX iE bH;refine dD ?_
 (refine eE ?_;try with_reducible exact True.intro)
 (repeat' first|intro _|(with_reducible apply And.intro))
 all_goals first|omega|exact hp1|exact hp2|exact (tH (.inl (by assumption))).symm|exact (tH (.inr (by omega))).symm|exact bBS (by assumption) (by omega) (by omega)|exact bAM (by assumption) (by omega) (by omega)|exact bBG (by assumption) (by omega) (by omega)|exact bA1 (by assumption) (by omega) (by omega)|skip
theorem nN:Con.Holds Tryz.prog cT:=aR aW (aG aE0 (aG eS aS)) aK2 aJC
def kN:Con:=⟨316,(.bMC aC tI),.bool,[.val ⟨true,aC,[]⟩,.val ⟨false,tI,[]⟩],[⟨false,.bool,[0]⟩],false,none,
 ((fun _=>True):(bN × Int)→Prop),
 ((fun x=>nZ x.1 x.2):(bN × Int)→(Bool))⟩
def aCZ:T :=
 .bMD (.cmp .geq .i64) (.bME tI tI (aQ (.bMC aC tI) 1 (.Z 0)) (.ci .i64 0)) <|
 .ite (.Z 1) (
  .bMD (.bMG 4 .bool) (aJ aC 3 (.p1 aC tI (.Z 0))) <|
  .bMD (.cmp .lss .i64) (.bME tI tI (aQ (.bMC aC tI) 1 (.Z 0)) (.Z 2)) <|
  .ite (.Z 3) (
   .bMD (.bMH 4 .bool) (.bME bX tI (aJ aC 3 (.p1 aC tI (.Z 0))) (aQ (.bMC aC tI) 1 (.Z 0))) <|
   .ret (.Z 4)) (
   .ret (.cb false))) (
  .ret (.cb false))
theorem aZU:bL Tryz.prog [] kN false 3000 ⟨[],[]⟩ = .ok aCZ:=by kernel_rfl
theorem aY4 (x:bN × Int) (hx:okD (.bMC aC tI) x) (hp:(fun _=>True) x):aCZ.wp [] [⟨(.bMC aC tI),x⟩] [] (fun v=>v.as .bool=(fun x=>nZ x.1 x.2) x):=by
 delta aCZ;refine dD ?_
 (refine eE ?_;try with_reducible exact True.intro)
 (repeat' first|intro _|(with_reducible apply And.intro))
 all_goals first|omega|exact aH3 (by omega)|exact sG (by omega) (by omega)|skip
theorem aJY:Con.Holds Tryz.prog kN:=aR aW aS aZU aY4
def fX:Con:=⟨314,(.bMC aC tI),aO,[.val ⟨true,aC,[]⟩,.val ⟨false,tI,[]⟩],[⟨false,tI,[0]⟩,⟨false,tI,[0]⟩],false,none,
 ((fun x=>fY x.1):(bN × Int)→Prop),
 ((fun x=>(inF x.1 x.2,tE x.1 x.2)):(bN × Int)→(Int × Int))⟩
def aBJ:T:=.call 0 (bE (.bMC aE (.bMC aB tI)) [(.p1 aE (.bMC aB (.bMC tI (.bMC bX aI))) (.p1 aC tI (.Z 0))),(aJ aC 1 (.p1 aC tI (.Z 0))),(aQ (.bMC aC tI) 1 (.Z 0))]) <|
 .bMD (.cmp .eql .i64) (.bME tI tI (.p1 tI tI (.Z 1)) (aQ aO 1 (.Z 1))) <|
 .ite (.Z 2) (
  .ret (.bME tI tI (.ci .i64 0) (.ci .i64 0))) (
  .bMD (.ar .sub .i64) (.bME tI tI (aQ aO 1 (.Z 1)) (.ci .i64 1)) <|
  .bMD (.bMH 146 bA) (.bME aE tI (.p1 aE (.bMC aB (.bMC tI (.bMC bX aI))) (.p1 aC tI (.Z 0))) (.p1 tI tI (.Z 1))) <|
  .bMD (.bMH 146 bA) (.bME aE tI (.p1 aE (.bMC aB (.bMC tI (.bMC bX aI))) (.p1 aC tI (.Z 0))) (.Z 3)) <|
  .ret (.bME tI tI (aJ bA 1 (.Z 4)) (aJ bA 2 (.Z 5))))
theorem aSN:bL Tryz.prog [dN] fX false 3000 ⟨[],[]⟩ = .ok aBJ:=by kernel_rfl
theorem aUA (x:bN × Int) (hx:okD (.bMC aC tI) x) (hp:(fun x=>fY x.1) x):aBJ.wp [dN] [⟨(.bMC aC tI),x⟩] [] (fun v=>v.as aO=(fun x=>(inF x.1 x.2,tE x.1 x.2)) x):=by
 have hp:fY x.1:=hp
 have hr:=tS x.1.1 x.1.2.1 x.2
 have hml:List.length x.1.1≤1000000000:=hp.1.1
 delta aBJ dN;refine dD ?_
 (refine eE ?_;try with_reducible exact True.intro)
 (repeat' first|intro _|(with_reducible apply And.intro))
 all_goals first|omega|exact hp.1|exact hp.2.1|exact bAW (by assumption)|exact bBN (by omega)|skip
theorem aAT:Con.Holds Tryz.prog fX:=aR aW (aG sI aS) aSN aUA
def gV:Con:=⟨317,(.bMC aC tI),tI,[.val ⟨true,aC,[]⟩,.val ⟨false,tI,[]⟩],[⟨false,tI,[0]⟩],false,none,
 ((fun x=>fY x.1):(bN × Int)→Prop),
 ((fun x=>pE x.1 x.2):(bN × Int)→(Int))⟩
def vD:T:=.call 0 (bE (.bMC aE (.bMC aB tI)) [(.p1 aE (.bMC aB (.bMC tI (.bMC bX aI))) (.p1 aC tI (.Z 0))),(aJ aC 1 (.p1 aC tI (.Z 0))),(aQ (.bMC aC tI) 1 (.Z 0))]) <|.call 1 (.Z 0) <|.loop aO (.bME tI tI (.p1 tI tI (.Z 1)) (aQ aO 1 (.Z 2))) <|
 .bMD (.cmp .lss .i64) (.bME tI tI (.p1 tI tI (.Z 3)) (aQ aO 1 (.Z 1))) <|
 .ite (.Z 4) (
  .bMD (.bMH 146 bA) (.bME aE tI (.p1 aE (.bMC aB (.bMC tI (.bMC bX aI))) (.p1 aC tI (.Z 0))) (.p1 tI tI (.Z 3))) <|
  .bMD (.ar .add .i64) (.bME tI tI (aQ aO 1 (.Z 3)) (aJ bA 1 (.Z 5))) <|
  .bMD (.ar .add .i64) (.bME tI tI (.p1 tI tI (.Z 3)) (.ci .i64 1)) <|
  .bMF 0 (.bME tI tI (.Z 7) (.Z 6))) (
  .ret (aQ aO 1 (.Z 3)))
theorem aN0:bL Tryz.prog [dN,fX] gV false 3000 ⟨[(2989,1003,[.dr 25,.dr 7,.dr 24,.dr 23,.dr 19]++iQ 22 20++[.dr 5,.dr 18,.dr 17,.dr 10]++iQ 16 11++[.dr 0,.dr 1,.tm 9 0,.tm 8 0])],[]⟩ = .ok vD:=by kernel_rfl
theorem aMG (x:bN × Int) (hx:okD (.bMC aC tI) x) (hp:(fun x=>fY x.1) x):vD.wp [dN,fX] [⟨(.bMC aC tI),x⟩] [] (fun v=>v.as tI=(fun x=>pE x.1 x.2) x):=by
 have hp:fY x.1:=hp
 have hr:=tS x.1.1 x.1.2.1 x.2
 have hml:List.length x.1.1≤1000000000:=hp.1.1
 have hb:=aOP x.1 x.2
 delta vD dN fX;refine dD ?_
 refine eE ?_
 refine ⟨⟨hp.1,hp.2.1⟩,fun _=>⟨hp,fun _=>?_⟩⟩
 refine cS (fun k=>((bB x.1.1 x.1.2.1 x.2).1+(k:Int),tE x.1 x.2+qO x.1.1 (bB x.1.1 x.1.2.1 x.2).1 k)) ((bB x.1.1 x.1.2.1 x.2).2 - (bB x.1.1 x.1.2.1 x.2).1).toNat (Prod.ext (Int.add_zero _).symm (Int.add_zero _).symm) fun I μ k hk _ go=>?_
 dsimp only
 refine eE ?_
 constructor
 ·intro hlt
  have hm:=(hr.2.2.2 (by omega)).1
  have hl:=((bY _).1 hm).2.1
  have h1:=aIE hm hr.1 k (by omega)
  have h2:=aJ2 hm (i:=(bB x.1.1 x.1.2.1 x.2).1+(k:Int)) (by omega) (by omega)
  have e:qO x.1.1 (bB x.1.1 x.1.2.1 x.2).1 (k+1)=qO x.1.1 (bB x.1.1 x.1.2.1 x.2).1 k+aG0 x.1.1 ((bB x.1.1 x.1.2.1 x.2).1+(k:Int)):=rfl
  rw[show (List.getD x.1.1 ((bB x.1.1 x.1.2.1 x.2).1+(k:Int)).toNat (aX bA)).2.1=aG0 x.1.1 ((bB x.1.1 x.1.2.1 x.2).1+(k:Int)) from rfl]
  (repeat' first|intro _|(refine go _ ?_ ?_ ?_)|(refine go _ ?_ ?_)|(with_reducible apply And.intro))
  all_goals first|omega|(refine Prod.ext ?_ ?_ <;> refine @Eq.trans Int _ _ _ ?_ rfl <;> dsimp only <;> omega)|skip
 ·intro hge
  have e:k=((bB x.1.1 x.1.2.1 x.2).2 - (bB x.1.1 x.1.2.1 x.2).1).toNat:=by omega
  subst e
  exact Int.add_comm _ _
theorem aCE:Con.Holds Tryz.prog gV:=aR aW (aG sI (aG aAT aS)) aN0 aMG
def kS:Con:=⟨315,(.bMC aC tI),tI,[.val ⟨true,aC,[]⟩,.val ⟨false,tI,[]⟩],[⟨false,tI,[0]⟩],false,none,
 ((fun x=>fY x.1):(bN × Int)→Prop),
 ((fun x=>kA x.1 x.2):(bN × Int)→(Int))⟩
def rJ:T:=.call 0 (.Z 0) <|.ite (.Z 1) (.call 1 (.Z 0) <|.ret (.p1 tI tI (.Z 2))) (.call 2 (.Z 0) <|.ret (.Z 2))
theorem aLS:bL Tryz.prog [kN,fX,gV] kS false 3000 ⟨[],[]⟩ = .ok rJ:=by kernel_rfl
theorem aJP (x:bN × Int) (hx:okD (.bMC aC tI) x) (hp:(fun x=>fY x.1) x):rJ.wp [kN,fX,gV] [⟨(.bMC aC tI),x⟩] [] (fun v=>v.as tI=(fun x=>kA x.1 x.2) x):=by
 delta rJ kN fX gV;refine dD ?_
 refine eE ?_
 exact ⟨fun h=>⟨hp,fun _=>aPT h⟩,fun h=>⟨hp,fun _=>aI7 h⟩⟩
theorem aJ1:Con.Holds Tryz.prog kS:=aR aW (aG aJY (aG aAT (aG aCE aS))) aLS aJP
def tF:Con:=⟨287,(.bMC aC aO),tI,[.val ⟨true,aC,[]⟩,.val ⟨false,tI,[]⟩,.val ⟨false,tI,[]⟩],[⟨false,tI,[0]⟩],false,none,
 ((fun x=>fY x.1):(bN × fI)→Prop),
 ((fun x=>wZ x.1 x.2.1 x.2.2):(bN × fI)→(Int))⟩
def aCW:T:=.call 0 (.p1 aC aO (.Z 0)) <|
 .bMD (.cmp .lss .i64) (.bME tI tI (aJ (.bMC aC aO) 1 (.Z 0)) (.ci .i64 0)) <|
 .ite (.Z 2) (
  .ret (.ci .i64 0)) (
  .bMD (.cmp .geq .i64) (.bME tI tI (aJ (.bMC aC aO) 1 (.Z 0)) (.Z 1)) <|
  .ite (.Z 3) (
   .ret (.ci .i64 0)) (
   .bMD (.cmp .lss .i64) (.bME tI tI (aQ (.bMC aC aO) 2 (.Z 0)) (.ci .i64 1)) <|
   .ite (.Z 4) (
    .ret (.ci .i64 0)) (
    .bMD (.cmp .gtr .i64) (.bME tI tI (aQ (.bMC aC aO) 2 (.Z 0)) (.ci .i64 5)) <|
    .ite (.Z 5) (
     .ret (.ci .i64 0)) (
     .bMD (.cmp .gtr .i64) (.bME tI tI (.Z 1) (.ci .i64 4)) <|
     .ite (.Z 6) (
      .ret (.ci .i64 0)) (
      .bMD (.cmp .eql .i64) (.bME tI tI (aJ aC 2 (.p1 aC aO (.Z 0))) (.ci .i64 2)) <|
      .ite (.Z 7) (
       .bMD (.ar .sub .i64) (.bME tI tI (.Z 1) (aJ (.bMC aC aO) 1 (.Z 0))) <|
       .bMD (.mn .i64) (.bME tI tI (aQ (.bMC aC aO) 2 (.Z 0)) (.Z 8)) <|
       .call 1 (.bME aC tI (.p1 aC aO (.Z 0)) (aJ (.bMC aC aO) 1 (.Z 0))) <|
       .call 2 (.bME aC tI (.p1 aC aO (.Z 0)) (aJ (.bMC aC aO) 1 (.Z 0))) <|
       .bMD (.ar .mul .i64) (.bME tI tI (.Z 9) (.Z 11)) <|
       .bMD (.mx .i64) (.bME tI tI (.p1 tI tI (.Z 10)) (aQ aO 1 (.Z 10))) <|
       .bMD (.ar .add .i64) (.bME tI tI (.Z 12) (.Z 13)) <|
       .call 3 (.bME aC tI (.p1 aC aO (.Z 0)) (aJ (.bMC aC aO) 1 (.Z 0))) <|
       .ite (.Z 15) (
        .call 4 (.bME aC tI (.p1 aC aO (.Z 0)) (aJ (.bMC aC aO) 1 (.Z 0))) <|
        .bMD (.ar .add .i64) (.bME tI tI (.Z 14) (.Z 16)) <|
        .ret (.Z 17)) (
        .ret (.Z 14))) (
       .call 1 (.bME aC tI (.p1 aC aO (.Z 0)) (aJ (.bMC aC aO) 1 (.Z 0))) <|
       .call 2 (.bME aC tI (.p1 aC aO (.Z 0)) (aJ (.bMC aC aO) 1 (.Z 0))) <|
       .bMD (.ar .mul .i64) (.bME tI tI (aQ (.bMC aC aO) 2 (.Z 0)) (.Z 9)) <|
       .bMD (.mx .i64) (.bME tI tI (.p1 tI tI (.Z 8)) (aQ aO 1 (.Z 8))) <|
       .bMD (.ar .add .i64) (.bME tI tI (.Z 10) (.Z 11)) <|
       .call 3 (.bME aC tI (.p1 aC aO (.Z 0)) (aJ (.bMC aC aO) 1 (.Z 0))) <|
       .ite (.Z 13) (
        .call 4 (.bME aC tI (.p1 aC aO (.Z 0)) (aJ (.bMC aC aO) 1 (.Z 0))) <|
        .bMD (.ar .add .i64) (.bME tI tI (.Z 12) (.Z 14)) <|
        .ret (.Z 15)) (
        .ret (.Z 12))))))))
theorem aXX:bL Tryz.prog [dH,fX,kS,kN,gV] tF false 3000 ⟨[],[]⟩ = .ok aCW:=by kernel_rfl
theorem aX5 (x:bN × fI) (hx:okD (.bMC aC aO) x) (hp:(fun x=>fY x.1) x):aCW.wp [dH,fX,kS,kN,gV] [⟨(.bMC aC aO),x⟩] [] (fun v=>v.as tI=(fun x=>wZ x.1 x.2.1 x.2.2) x):=by
 obtain ⟨c,s,micro⟩:=x
 have hp:fY c:=hp
 have hb:=aOP c s
 delta aCW dH fX kS kN gV;refine dD ?_
 refine eE ?_
 refine ⟨⟨hp.1,hp.2.1⟩,fun _=>⟨fun h=>?_,fun h0=>⟨fun h=>?_,fun h1=>?_⟩⟩⟩
 ·exact aKO (.inl (by rw[tH (.inr (.inl h))];exact Int.le_refl _))
 ·refine aKO (.inl ?_)
  cases hc:jM c.1 c.2.1
  ·rw[tH (.inl hc)];exact Int.le_refl _
  ·rw[aAW hc] at h
   rw[tH (.inr (.inr (by omega)))];exact Int.le_refl _
 have hc:=bG0 h0 h1
 rw[aAW hc] at h1 ⊢
 have hrb:=(bA2 hc h0 (by omega)).2.1
 (repeat' first|intro _|(with_reducible apply And.intro))
 all_goals first|omega|exact hp|exact aKO (by omega)|skip
 all_goals have hq1:=bJ8 (k:=min micro ((c.2.1.length:Int)+1 - s)) (v:=kA c s) (by omega) (by omega) (by omega) (by omega)
 all_goals have hq2:=bJ8 (k:=micro) (v:=kA c s) (by omega) (by omega) (by omega) (by omega)
 all_goals first|omega|exact yQ hrb (by omega) (by omega) (by omega) (if_pos (by assumption)).symm (if_pos (by assumption)).symm|exact yQ hrb (by omega) (by omega) (by omega) (if_neg (by assumption)).symm (if_pos (by assumption)).symm|exact qG hrb (by omega) (by omega) (by omega) (if_pos (by assumption)).symm (by assumption)|exact qG hrb (by omega) (by omega) (by omega) (if_neg (by assumption)).symm (by assumption)|exact yQ hrb (by omega) (by omega) (by omega) (if_pos (by assumption)).symm (if_pos ((sG (by omega) (by omega)).symm.trans (by assumption))).symm|exact yQ hrb (by omega) (by omega) (by omega) (if_neg (by assumption)).symm (if_pos ((sG (by omega) (by omega)).symm.trans (by assumption))).symm|exact qG hrb (by omega) (by omega) (by omega) (if_pos (by assumption)).symm ((sG (by omega) (by omega)).symm.trans (by assumption))|exact qG hrb (by omega) (by omega) (by omega) (if_neg (by assumption)).symm ((sG (by omega) (by omega)).symm.trans (by assumption))|exact qG hrb (by omega) (by omega) (by omega) (if_pos (by assumption)).symm (aH3 (by omega)).symm|exact qG hrb (by omega) (by omega) (by omega) (if_neg (by assumption)).symm (aH3 (by omega)).symm|skip
theorem aVT:Con.Holds Tryz.prog tF:=aR aW (aG qW (aG aAT (aG aJ1 (aG aJY (aG aCE aS))))) aXX aX5
def rK:Con:=⟨235,aC,.bool,[.val ⟨true,aC,[]⟩],[⟨false,.bool,[0]⟩],false,none,
 ((fun x=>fY x):(bN)→Prop),
 ((fun x=>pH x):(bN)→(Bool))⟩
def aE6:T :=
 .bMD (.bMG 3 tI) (aJ aC 4 (.Z 0)) <|
 .bMD (.bMG 3 tI) (aJ aC 1 (.Z 0)) <|
 .bMD (.cmp .neq .i64) (.bME tI tI (.Z 1) (.Z 2)) <|
 .ite (.Z 3) (
  .ret (.cb false)) (
  .bMD (.bMG 3 tI) (aJ aC 4 (.Z 0)) <|
  .loop tI (.ci .i64 0) <|
   .bMD (.cmp .lss .i64) (.bME tI tI (.Z 5) (.Z 4)) <|
   .ite (.Z 6) (
    .bMD (.bMH 3 tI) (.bME aB tI (aJ aC 4 (.Z 0)) (.Z 5)) <|
    .bMD (.cmp .lss .i64) (.bME tI tI (.Z 7) (.ci .i64 1)) <|
    .ite (.Z 8) (
     .ret (.cb false)) (
     .bMD (.cmp .gtr .i64) (.bME tI tI (.Z 7) (.ci .i64 5)) <|
     .ite (.Z 9) (
      .ret (.cb false)) (
      .bMD (.ar .add .i64) (.bME tI tI (.Z 5) (.ci .i64 1)) <|
      .bMF 0 (.Z 10)))) (
    .ret (.cb true)))
theorem aY5:bL Tryz.prog [] rK false 3000 ⟨[(2988,2005,iQ 12 5++[.dr 1,.dr 0,.tm 15 0])],[]⟩ = .ok aE6:=by kernel_rfl
theorem aWA (x:bN) (hx:okD aC x) (hp:(fun x=>fY x) x):aE6.wp [] [⟨aC,x⟩] [] (fun v=>v.as .bool=(fun x=>pH x) x):=by
 have hp:fY x:=hp
 delta aE6;refine dD ?_
 refine eE ?_
 refine fun _ _=>⟨fun h=>(bAV (by omega)).symm,fun h _=>?_⟩
 refine uK (fun k=>(k:Int)) (fun k=>(List.take k x.2.2.2.2.1).all (fun n=>decide (1≤n∧n≤5))=true) (List.length x.2.2.2.2.1) rfl rfl fun I μ k hk hG _ go=>?_
 try dsimp only
 refine eE ?_
 constructor
 ·intro hlt
  have hk':k<List.length x.2.2.2.2.1:=by omega
  have e:=mL (fun n:Int=>decide (1≤n∧n≤5)) x.2.2.2.2.1 hk'
  have hl:=hp.2.2.2.1
  simp only[aZ hk']
  (repeat' first|intro _|(refine go _ ?_ ?_ ?_)|(refine go _ ?_ ?_)|(with_reducible apply And.intro))
  all_goals first|omega|exact (bBL hk' (by omega)).symm|(rw[e,hG,Bool.true_and];exact decide_eq_true ⟨by omega,by omega⟩)|rfl
 ·intro hge
  exact (bF3 (by omega) (aI9 hG (by omega))).symm
theorem aY2:Con.Holds Tryz.prog rK:=aR aW aS aY5 aWA
def nM:Con:=⟨236,(.bMC aC tI),.bool,[.val ⟨true,aC,[]⟩,.val ⟨false,tI,[]⟩],[⟨false,.bool,[0]⟩],false,none,
 ((fun x=>fY x.1):(bN × Int)→Prop),
 ((fun x=>lS x.1 x.2):(bN × Int)→(Bool))⟩
def xX:T :=
 .bMD (.bMG 3 tI) (aQ aC 5 (.p1 aC tI (.Z 0))) <|
 .call 0 (.p1 aC tI (.Z 0)) <|
 .bMD (.cmp .neq .i64) (.bME tI tI (.Z 1) (.Z 2)) <|
 .ite (.Z 3) (
  .ret (.cb false)) (
  .bMD (.bMG 3 tI) (aQ aC 5 (.p1 aC tI (.Z 0))) <|
  .loop tI (.ci .i64 0) <|
   .bMD (.cmp .lss .i64) (.bME tI tI (.Z 5) (.Z 4)) <|
   .ite (.Z 6) (
    .bMD (.bMH 3 tI) (.bME aB tI (aQ aC 5 (.p1 aC tI (.Z 0))) (.Z 5)) <|
    .call 1 (bE (.bMC aC aO) [(.p1 aC tI (.Z 0)),(.Z 5),(aQ (.bMC aC tI) 1 (.Z 0))]) <|
    .bMD (.cmp .lss .i64) (.bME tI tI (.Z 7) (.Z 8)) <|
    .ite (.Z 9) (
     .ret (.cb false)) (
     .bMD (.cmp .gtr .i64) (.bME tI tI (.Z 7) (.ci .i64 100000)) <|
     .ite (.Z 10) (
      .ret (.cb false)) (
      .bMD (.ar .add .i64) (.bME tI tI (.Z 5) (.ci .i64 1)) <|
      .bMF 0 (.Z 11)))) (
    .ret (.cb true)))
theorem aPG:bL Tryz.prog [dH,tF] nM false 3000 ⟨[(2988,2005,iQ 13 7++[.dr 0,.tm 16 0])],[]⟩ = .ok xX:=by kernel_rfl
theorem aP4 (x:bN × Int) (hx:okD (.bMC aC tI) x) (hp:(fun x=>fY x.1) x):xX.wp [dH,tF] [⟨(.bMC aC tI),x⟩] [] (fun v=>v.as .bool=(fun x=>lS x.1 x.2) x):=by
 obtain ⟨c,m⟩:=x
 have hp:fY c:=hp
 delta xX dH tF;refine dD ?_
 refine eE ?_
 refine fun _=>⟨⟨hp.1,hp.2.1⟩,fun _=>⟨fun h=>(bEG h).symm,fun h _=>?_⟩⟩
 refine uK (fun k=>(k:Int)) (fun k=>∀ i,i<k→bAR c m i=true) (List.length c.2.2.2.2.2) rfl (fun i hi=>absurd hi (Nat.not_lt_zero _)) fun I μ k hk hG _ go=>?_
 try dsimp only
 refine eE ?_
 constructor
 ·intro hlt
  have hk':k<List.length c.2.2.2.2.2:=by omega
  have hl:List.length c.2.2.2.2.2≤1000000000:=hp.2.2.2.2
  (repeat' first|intro _|(refine go _ ?_ ?_ ?_)|(refine go _ ?_ ?_)|(with_reducible apply And.intro))
  all_goals first|omega|exact hp|exact (bGE hk' (fun hh=>by have h1:wZ c (k:Int) m≤List.getD c.2.2.2.2.2 k (aX tI):=hh.1;have h2:List.getD c.2.2.2.2.2 k (aX tI)≤100000:=hh.2;omega)).symm|exact uH hG (decide_eq_true ⟨by assumption,by assumption⟩) _ (by assumption)|rfl|skip
 ·intro hge
  exact (bKO (by omega) fun i hi=>hG i (by omega)).symm
theorem aQS:Con.Holds Tryz.prog nM:=aR aW (aG qW (aG aVT aS)) aPG aP4
def wO:Con:=⟨162,(.bMC aC aN),tI,[.val ⟨true,aC,[]⟩,.val ⟨false,aN,[]⟩],[⟨false,tI,[0]⟩],false,none,
 ((fun x=>fY x.1):(bN × fG)→Prop),
 ((fun x=>gQ x.1 x.2):(bN × fG)→(Int))⟩
def aG7:T:=.call 0 (.p1 aC aN (.Z 0)) <|.call 1 (.p1 aE (.bMC aB (.bMC tI (.bMC bX aI))) (.p1 aC aN (.Z 0))) <|
 .bMD .not (.Z 2) <|
 .ite (.Z 3) (
  .ret (.ci .i64 1)) (
  .call 2 (.bME aE aN (.p1 aE (.bMC aB (.bMC tI (.bMC bX aI))) (.p1 aC aN (.Z 0))) (aQ (.bMC aC aN) 1 (.Z 0))) <|
  .bMD .not (.Z 4) <|
  .ite (.Z 5) (
   .ret (.ci .i64 2)) (
   .bMD (.cmp .eql .i64) (.bME tI tI (.Z 1) (.ci .i64 0)) <|
   .ite (.Z 6) (
    .ret (.ci .i64 3)) (
    .bMD (.cmp .gtr .i64) (.bME tI tI (.Z 1) (.ci .i64 4)) <|
    .ite (.Z 7) (
     .ret (.ci .i64 3)) (
     .bMD (.cmp .neq .i64) (.bME tI tI (aJ aC 2 (.p1 aC aN (.Z 0))) (.ci .i64 1)) <|
     .ite (.Z 8) (
      .bMD (.cmp .neq .i64) (.bME tI tI (aJ aC 2 (.p1 aC aN (.Z 0))) (.ci .i64 2)) <|
      .ite (.Z 9) (
       .ret (.ci .i64 4)) (
       .bMD (.bMG 4 .bool) (aJ aC 3 (.p1 aC aN (.Z 0))) <|
       .bMD (.cmp .neq .i64) (.bME tI tI (.Z 10) (.Z 1)) <|
       .ite (.Z 11) (
        .ret (.ci .i64 5)) (
        .call 3 (.p1 aC aN (.Z 0)) <|
        .bMD .not (.Z 12) <|
        .ite (.Z 13) (
         .ret (.ci .i64 6)) (
         .bMD (.bMG 130 aI) (aQ (.bMC aC aN) 1 (.Z 0)) <|
         .call 4 (.bME aC tI (.p1 aC aN (.Z 0)) (.Z 14)) <|
         .bMD .not (.Z 15) <|
         .ite (.Z 16) (
          .ret (.ci .i64 7)) (
          .ret (.ci .i64 0)))))) (
      .bMD (.bMG 4 .bool) (aJ aC 3 (.p1 aC aN (.Z 0))) <|
      .bMD (.cmp .neq .i64) (.bME tI tI (.Z 9) (.Z 1)) <|
      .ite (.Z 10) (
       .ret (.ci .i64 5)) (
       .call 3 (.p1 aC aN (.Z 0)) <|
       .bMD .not (.Z 11) <|
       .ite (.Z 12) (
        .ret (.ci .i64 6)) (
        .bMD (.bMG 130 aI) (aQ (.bMC aC aN) 1 (.Z 0)) <|
        .call 4 (.bME aC tI (.p1 aC aN (.Z 0)) (.Z 13)) <|
        .bMD .not (.Z 14) <|
        .ite (.Z 15) (
         .ret (.ci .i64 7)) (
         .ret (.ci .i64 0)))))))))
theorem bD4:bL Tryz.prog [dH,bQ,pM,rK,nM] wO false 3000 ⟨[],[]⟩ = .ok aG7:=by kernel_rfl
theorem bD5 (x:bN × fG) (hx:okD (.bMC aC aN) x) (hp:(fun x=>fY x.1) x):aG7.wp [dH,bQ,pM,rK,nM] [⟨(.bMC aC aN),x⟩] [] (fun v=>v.as tI=(fun x=>gQ x.1 x.2) x):=by
 obtain ⟨c,b⟩:=x
 have hp:fY c:=hp
 have hs:=bDF c.1 c.2.1
 delta aG7 dH bQ pM rK nM;refine dD ?_
 (refine eE ?_;try with_reducible exact True.intro)
 (repeat' first|intro _|(with_reducible apply And.intro))
 all_goals first|omega|exact hp|exact hp.1|exact hp.2.1|exact bLB (by assumption)|exact bKX (by assumption) (by assumption)|exact bK1 (by assumption) (by assumption) (by omega)|exact bLF (by assumption) (by assumption) (by omega) (by omega)|exact bL6 (by assumption) (by assumption) (by omega) (by omega) (by assumption)|exact bJ6 (by assumption) (by assumption) (by omega) (by omega) (by assumption) (by assumption)|exact bIN (by assumption) (by assumption) (by omega) (by omega) (by assumption) (by assumption) (by assumption)|exact bM0 (by assumption) (by assumption) (by omega) (by omega) (by assumption) (by assumption) (by assumption)|skip
theorem bCK:Con.Holds Tryz.prog wO:=aR aW (aG qW (aG gW (aG aSB (aG aY2 (aG aQS aS))))) bD4 bD5
def gZ:Con:=⟨286,(.bMC aC tI),tI,[.val ⟨true,aC,[]⟩,.val ⟨false,tI,[]⟩],[⟨false,tI,[0]⟩],false,none,
 ((fun x=>fY x.1):(bN × Int)→Prop),
 ((fun x=>pE x.1 x.2):(bN × Int)→(Int))⟩
def vE:T:=.call 0 (bE (.bMC aE (.bMC aB tI)) [(.p1 aE (.bMC aB (.bMC tI (.bMC bX aI))) (.p1 aC tI (.Z 0))),(aJ aC 1 (.p1 aC tI (.Z 0))),(aQ (.bMC aC tI) 1 (.Z 0))]) <|.loop aO (.bME tI tI (.p1 tI tI (.Z 1)) (.ci .i64 0)) <|
 .bMD (.cmp .lss .i64) (.bME tI tI (.p1 tI tI (.Z 2)) (aQ aO 1 (.Z 1))) <|
 .ite (.Z 3) (
  .bMD (.bMH 146 bA) (.bME aE tI (.p1 aE (.bMC aB (.bMC tI (.bMC bX aI))) (.p1 aC tI (.Z 0))) (.p1 tI tI (.Z 2))) <|
  .bMD (.ar .add .i64) (.bME tI tI (aQ aO 1 (.Z 2)) (aJ bA 1 (.Z 4))) <|
  .bMD (.ar .add .i64) (.bME tI tI (.p1 tI tI (.Z 2)) (.ci .i64 1)) <|
  .bMF 0 (.bME tI tI (.Z 6) (.Z 5))) (
  .bMD (.cmp .gtr .i64) (.bME tI tI (aQ aO 1 (.Z 1)) (.p1 tI tI (.Z 1))) <|
  .ite (.Z 4) (
   .bMD (.ar .sub .i64) (.bME tI tI (aQ aO 1 (.Z 1)) (.ci .i64 1)) <|
   .bMD (.bMH 146 bA) (.bME aE tI (.p1 aE (.bMC aB (.bMC tI (.bMC bX aI))) (.p1 aC tI (.Z 0))) (.Z 5)) <|
   .bMD (.ar .add .i64) (.bME tI tI (aQ aO 1 (.Z 2)) (aJ bA 2 (.Z 6))) <|
   .ret (.Z 7)) (
   .ret (aQ aO 1 (.Z 2))))
theorem aMR:bL Tryz.prog [cT] gZ false 3000 ⟨[(2989,1002,iQ 18 16++[.dr 9]++iQ 15 10++[.dr 0,.dr 1,.tm 8 0,.tm 7 0])],[]⟩ = .ok vE:=by kernel_rfl
theorem aMK (x:bN × Int) (hx:okD (.bMC aC tI) x) (hp:(fun x=>fY x.1) x):vE.wp [cT] [⟨(.bMC aC tI),x⟩] [] (fun v=>v.as tI=(fun x=>pE x.1 x.2) x):=by
 have hp:fY x.1:=hp
 have hr:=tS x.1.1 x.1.2.1 x.2
 have hml:List.length x.1.1≤1000000000:=hp.1.1
 have hb:=aOP x.1 x.2
 delta vE cT;refine dD ?_
 refine eE ?_
 refine ⟨⟨hp.1,hp.2.1⟩,fun _=>?_⟩
 refine cS (fun k=>((bB x.1.1 x.1.2.1 x.2).1+(k:Int),qO x.1.1 (bB x.1.1 x.1.2.1 x.2).1 k)) ((bB x.1.1 x.1.2.1 x.2).2 - (bB x.1.1 x.1.2.1 x.2).1).toNat (Prod.ext (Int.add_zero _).symm rfl) fun I μ k hk _ go=>?_
 dsimp only
 refine eE ?_
 constructor
 ·intro hlt
  have hm:=(hr.2.2.2 (by omega)).1
  have hl:=((bY _).1 hm).2.1
  have h1:=aIE hm hr.1 k (by omega)
  have h2:=aJ2 hm (i:=(bB x.1.1 x.1.2.1 x.2).1+(k:Int)) (by omega) (by omega)
  have e:qO x.1.1 (bB x.1.1 x.1.2.1 x.2).1 (k+1)=qO x.1.1 (bB x.1.1 x.1.2.1 x.2).1 k+aG0 x.1.1 ((bB x.1.1 x.1.2.1 x.2).1+(k:Int)):=rfl
  rw[show (List.getD x.1.1 ((bB x.1.1 x.1.2.1 x.2).1+(k:Int)).toNat (aX bA)).2.1=aG0 x.1.1 ((bB x.1.1 x.1.2.1 x.2).1+(k:Int)) from rfl]
  (repeat' first|intro _|(refine go _ ?_ ?_ ?_)|(refine go _ ?_ ?_)|(with_reducible apply And.intro))
  all_goals first|omega|(refine Prod.ext ?_ ?_ <;> refine @Eq.trans Int _ _ _ ?_ rfl <;> dsimp only <;> omega)|skip
 ·intro hge
  have e:k=((bB x.1.1 x.1.2.1 x.2).2 - (bB x.1.1 x.1.2.1 x.2).1).toNat:=by omega
  subst e
  have e9:pE x.1 x.2=qO x.1.1 (bB x.1.1 x.1.2.1 x.2).1 ((bB x.1.1 x.1.2.1 x.2).2 - (bB x.1.1 x.1.2.1 x.2).1).toNat+tE x.1 x.2:=rfl
  rw[show (List.getD x.1.1 ((bB x.1.1 x.1.2.1 x.2).2 - 1).toNat (aX bA)).2.2.1=aFM x.1.1 ((bB x.1.1 x.1.2.1 x.2).2 - 1) from rfl]
  by_cases hq:(bB x.1.1 x.1.2.1 x.2).1<(bB x.1.1 x.1.2.1 x.2).2
  ·have e8:tE x.1 x.2=aFM x.1.1 ((bB x.1.1 x.1.2.1 x.2).2 - 1):=if_pos hq
   rw[← e8]
   (repeat' first|intro _|(with_reducible apply And.intro))
   all_goals first|omega|exact e9.symm|skip
  ·have e8:tE x.1 x.2=0:=if_neg hq
   (repeat' first|intro _|(with_reducible apply And.intro))
   all_goals first|omega|(rw[e9,e8,Int.add_zero])|skip
theorem aCJ:Con.Holds Tryz.prog gZ:=aR aW (aG nN aS) aMR aMK
def kY:Con:=⟨285,(.bMC aC tI),tI,[.val ⟨true,aC,[]⟩,.val ⟨false,tI,[]⟩],[⟨false,tI,[0]⟩],false,none,
 ((fun x=>fY x.1):(bN × Int)→Prop),
 ((fun x=>kA x.1 x.2):(bN × Int)→(Int))⟩
def rZ:T:=.call 0 (bE (.bMC aE (.bMC aB tI)) [(.p1 aE (.bMC aB (.bMC tI (.bMC bX aI))) (.p1 aC tI (.Z 0))),(aJ aC 1 (.p1 aC tI (.Z 0))),(aQ (.bMC aC tI) 1 (.Z 0))]) <|
 .bMD (.cmp .gtr .i64) (.bME tI tI (aQ aO 1 (.Z 1)) (.p1 tI tI (.Z 1))) <|
 .ite (.Z 2) (
  .bMD (.bMG 4 .bool) (aJ aC 3 (.p1 aC tI (.Z 0))) <|
  .bMD (.cmp .lss .i64) (.bME tI tI (aQ (.bMC aC tI) 1 (.Z 0)) (.Z 3)) <|
  .ite (.Z 4) (
   .bMD (.bMH 4 .bool) (.bME bX tI (aJ aC 3 (.p1 aC tI (.Z 0))) (aQ (.bMC aC tI) 1 (.Z 0))) <|
   .ite (.Z 5) (
    .bMD (.bMH 146 bA) (.bME aE tI (.p1 aE (.bMC aB (.bMC tI (.bMC bX aI))) (.p1 aC tI (.Z 0))) (.p1 tI tI (.Z 1))) <|
    .ret (aJ bA 1 (.Z 6))) (
    .call 1 (.Z 0) <|
    .ret (.Z 6))) (
   .call 1 (.Z 0) <|
   .ret (.Z 5))) (
  .call 1 (.Z 0) <|
  .ret (.Z 3))
theorem aIM:bL Tryz.prog [cT,gZ] kY false 3000 ⟨[],[]⟩ = .ok rZ:=by kernel_rfl
theorem aK7 (x:bN × Int) (hx:okD (.bMC aC tI) x) (hp:(fun x=>fY x.1) x):rZ.wp [cT,gZ] [⟨(.bMC aC tI),x⟩] [] (fun v=>v.as tI=(fun x=>kA x.1 x.2) x):=by
 have hp:fY x.1:=hp
 have hr:=tS x.1.1 x.1.2.1 x.2
 have hml:List.length x.1.1≤1000000000:=hp.1.1
 have red:nZ x.1 x.2=true∨nZ x.1 x.2=false:=by cases nZ x.1 x.2 <;> simp
 have none_:(bB x.1.1 x.1.2.1 x.2).2≤(bB x.1.1 x.1.2.1 x.2).1→pE x.1 x.2=kA x.1 x.2:=fun h=>by
  have e0:=bAW (c:=x.1) (s:=x.2) (by omega)
  rcases red with h1|h1
  ·rw[← aPT h1]
   have e1:inF x.1 x.2=0:=(congrArg Prod.fst e0).symm
   have e2:tE x.1 x.2=0:=(congrArg Prod.snd e0).symm
   unfold pE
   rw[e1,e2,show ((bB x.1.1 x.1.2.1 x.2).2 - (bB x.1.1 x.1.2.1 x.2).1).toNat=0 by omega];rfl
  ·exact aI7 h1
 have redo_t:(bB x.1.1 x.1.2.1 x.2).1<(bB x.1.1 x.1.2.1 x.2).2→nZ x.1 x.2=true→aG0 x.1.1 (bB x.1.1 x.1.2.1 x.2).1=kA x.1 x.2:=fun h h1=>by
  rw[← aPT h1];exact congrArg Prod.fst (bBN h)
 delta rZ cT gZ;refine dD ?_
 refine eE ?_
 refine ⟨⟨hp.1,hp.2.1⟩,fun _=>⟨fun hlt _=>?_,fun h=>⟨hp,fun _=>none_ h⟩⟩⟩
 have h0:=(hr.2.2.2 hlt).2.2.1
 refine ⟨fun hl=>⟨by omega,fun h=>⟨by omega,fun _=>?_⟩,fun h=>⟨hp,fun _=>?_⟩⟩,fun h=>⟨hp,fun _=>aI7 (aH3 (.inr h)).symm⟩⟩
 ·exact redo_t hlt ((sG h0 hl).symm.trans h)
 ·exact aI7 ((sG h0 hl).symm.trans h)
theorem aJA:Con.Holds Tryz.prog kY:=aR aW (aG nN (aG aCJ aS)) aIM aK7
def sR:Con:=⟨230,(.bMC aC aO),tI,[.val ⟨true,aC,[]⟩,.val ⟨false,tI,[]⟩,.val ⟨false,tI,[]⟩],[⟨false,tI,[0]⟩],false,none,
 ((fun x=>fY x.1):(bN × fI)→Prop),
 ((fun x=>wZ x.1 x.2.1 x.2.2):(bN × fI)→(Int))⟩
def aD8:T:=.call 0 (bE (.bMC aE (.bMC aB tI)) [(.p1 aE (.bMC aB (.bMC tI (.bMC bX aI))) (.p1 aC aO (.Z 0))),(aJ aC 1 (.p1 aC aO (.Z 0))),(aJ (.bMC aC aO) 1 (.Z 0))]) <|
 .bMD (.cmp .leq .i64) (.bME tI tI (aQ aO 1 (.Z 1)) (.p1 tI tI (.Z 1))) <|
 .ite (.Z 2) (
  .ret (.ci .i64 0)) (
  .call 1 (bE (.bMC tI aO) [(aQ (.bMC aC aO) 2 (.Z 0)),(.ci .i64 1),(.ci .i64 5)]) <|
  .bMD .not (.Z 3) <|
  .ite (.Z 4) (
   .ret (.ci .i64 0)) (
   .bMD (.bMG 3 tI) (aJ aC 1 (.p1 aC aO (.Z 0))) <|
   .bMD (.ar .add .i64) (.bME tI tI (.Z 5) (.ci .i64 1)) <|
   .call 1 (bE (.bMC tI aO) [(.Z 6),(.ci .i64 1),(.ci .i64 4)]) <|
   .bMD .not (.Z 7) <|
   .ite (.Z 8) (
    .ret (.ci .i64 0)) (
    .bMD (.cmp .eql .i64) (.bME tI tI (aJ aC 2 (.p1 aC aO (.Z 0))) (.ci .i64 2)) <|
    .ite (.Z 9) (
     .bMD (.bMG 3 tI) (aJ aC 1 (.p1 aC aO (.Z 0))) <|
     .bMD (.ar .add .i64) (.bME tI tI (.Z 10) (.ci .i64 1)) <|
     .bMD (.ar .sub .i64) (.bME tI tI (.Z 11) (aJ (.bMC aC aO) 1 (.Z 0))) <|
     .bMD (.mn .i64) (.bME tI tI (aQ (.bMC aC aO) 2 (.Z 0)) (.Z 12)) <|
     .bMD (.ar .sub .i64) (.bME tI tI (aQ aO 1 (.Z 1)) (.ci .i64 1)) <|
     .bMD (.bMH 146 bA) (.bME aE tI (.p1 aE (.bMC aB (.bMC tI (.bMC bX aI))) (.p1 aC aO (.Z 0))) (.p1 tI tI (.Z 1))) <|
     .bMD (.bMH 146 bA) (.bME aE tI (.p1 aE (.bMC aB (.bMC tI (.bMC bX aI))) (.p1 aC aO (.Z 0))) (.Z 14)) <|
     .bMD (.mx .i64) (.bME tI tI (aJ bA 1 (.Z 15)) (aJ bA 2 (.Z 16))) <|
     .call 2 (.bME aC tI (.p1 aC aO (.Z 0)) (aJ (.bMC aC aO) 1 (.Z 0))) <|
     .bMD (.ar .mul .i64) (.bME tI tI (.Z 13) (.Z 18)) <|
     .bMD (.ar .add .i64) (.bME tI tI (.Z 19) (.Z 17)) <|
     .bMD (.bMG 4 .bool) (aJ aC 3 (.p1 aC aO (.Z 0))) <|
     .bMD (.cmp .lss .i64) (.bME tI tI (aJ (.bMC aC aO) 1 (.Z 0)) (.Z 21)) <|
     .ite (.Z 22) (
      .bMD (.bMH 4 .bool) (.bME bX tI (aJ aC 3 (.p1 aC aO (.Z 0))) (aJ (.bMC aC aO) 1 (.Z 0))) <|
      .ite (.Z 23) (
       .call 3 (.bME aC tI (.p1 aC aO (.Z 0)) (aJ (.bMC aC aO) 1 (.Z 0))) <|
       .bMD (.ar .add .i64) (.bME tI tI (.Z 20) (.Z 24)) <|
       .ret (.Z 25)) (
       .ret (.Z 20))) (
      .ret (.Z 20))) (
     .bMD (.ar .sub .i64) (.bME tI tI (aQ aO 1 (.Z 1)) (.ci .i64 1)) <|
     .bMD (.bMH 146 bA) (.bME aE tI (.p1 aE (.bMC aB (.bMC tI (.bMC bX aI))) (.p1 aC aO (.Z 0))) (.p1 tI tI (.Z 1))) <|
     .bMD (.bMH 146 bA) (.bME aE tI (.p1 aE (.bMC aB (.bMC tI (.bMC bX aI))) (.p1 aC aO (.Z 0))) (.Z 10)) <|
     .bMD (.mx .i64) (.bME tI tI (aJ bA 1 (.Z 11)) (aJ bA 2 (.Z 12))) <|
     .call 2 (.bME aC tI (.p1 aC aO (.Z 0)) (aJ (.bMC aC aO) 1 (.Z 0))) <|
     .bMD (.ar .mul .i64) (.bME tI tI (aQ (.bMC aC aO) 2 (.Z 0)) (.Z 14)) <|
     .bMD (.ar .add .i64) (.bME tI tI (.Z 15) (.Z 13)) <|
     .bMD (.bMG 4 .bool) (aJ aC 3 (.p1 aC aO (.Z 0))) <|
     .bMD (.cmp .lss .i64) (.bME tI tI (aJ (.bMC aC aO) 1 (.Z 0)) (.Z 17)) <|
     .ite (.Z 18) (
      .bMD (.bMH 4 .bool) (.bME bX tI (aJ aC 3 (.p1 aC aO (.Z 0))) (aJ (.bMC aC aO) 1 (.Z 0))) <|
      .ite (.Z 19) (
       .call 3 (.bME aC tI (.p1 aC aO (.Z 0)) (aJ (.bMC aC aO) 1 (.Z 0))) <|
       .bMD (.ar .add .i64) (.bME tI tI (.Z 16) (.Z 20)) <|
       .ret (.Z 21)) (
       .ret (.Z 16))) (
      .ret (.Z 16))))))
theorem aYY:bL Tryz.prog [cT,bH,kY,gZ] sR false 3000 ⟨[],[]⟩ = .ok aD8:=by kernel_rfl
theorem aWW (x:bN × fI) (hx:okD (.bMC aC aO) x) (hp:(fun x=>fY x.1) x):aD8.wp [cT,bH,kY,gZ] [⟨(.bMC aC aO),x⟩] [] (fun v=>v.as tI=(fun x=>wZ x.1 x.2.1 x.2.2) x):=by
 obtain ⟨c,s,micro⟩:=x
 have hp:fY c:=hp
 have hb:=aOP c s
 have hr:=tS c.1 c.2.1 s
 have hml:List.length c.1≤1000000000:=hp.1.1
 delta aD8 cT bH kY gZ;refine dD ?_
 refine eE ?_
 refine ⟨⟨hp.1,hp.2.1⟩,fun _=>⟨fun h=>aKO (.inl h),fun hrb=>?_⟩⟩
 have h0:=(hr.2.2.2 hrb).2.2
 have hl:=hp.2.1
 have hrl:=hp.2.2.1
 have e1:inF c s=aG0 c.1 (bB c.1 c.2.1 s).1:=if_pos hrb
 have e2:tE c s=aFM c.1 ((bB c.1 c.2.1 s).2 - 1):=if_pos hrb
 rw[show (List.getD c.1 (Int.toNat (bB c.1 c.2.1 s).1) (aX bA)).2.1=inF c s from e1.symm,show (List.getD c.1 ((bB c.1 c.2.1 s).2 - 1).toNat (aX bA)).2.2.1=tE c s from e2.symm]
 (repeat' first|intro _|(with_reducible apply And.intro))
 all_goals first|omega|exact hp|exact aKO (by omega)|skip
 all_goals have hq1:=bJ8 (k:=min micro ((c.2.1.length:Int)+1 - s)) (v:=kA c s) (by omega) (by omega) (by omega) (by omega)
 all_goals have hq2:=bJ8 (k:=micro) (v:=kA c s) (by omega) (by omega) (by omega) (by omega)
 all_goals first|omega|exact yQ hrb (by omega) (by omega) (by omega) (if_pos (by assumption)).symm (if_pos (by assumption)).symm|exact yQ hrb (by omega) (by omega) (by omega) (if_neg (by assumption)).symm (if_pos (by assumption)).symm|exact qG hrb (by omega) (by omega) (by omega) (if_pos (by assumption)).symm (by assumption)|exact qG hrb (by omega) (by omega) (by omega) (if_neg (by assumption)).symm (by assumption)|exact yQ hrb (by omega) (by omega) (by omega) (if_pos (by assumption)).symm (if_pos ((sG (by omega) (by omega)).symm.trans (by assumption))).symm|exact yQ hrb (by omega) (by omega) (by omega) (if_neg (by assumption)).symm (if_pos ((sG (by omega) (by omega)).symm.trans (by assumption))).symm|exact qG hrb (by omega) (by omega) (by omega) (if_pos (by assumption)).symm ((sG (by omega) (by omega)).symm.trans (by assumption))|exact qG hrb (by omega) (by omega) (by omega) (if_neg (by assumption)).symm ((sG (by omega) (by omega)).symm.trans (by assumption))|exact qG hrb (by omega) (by omega) (by omega) (if_pos (by assumption)).symm (aH3 (by omega)).symm|exact qG hrb (by omega) (by omega) (by omega) (if_neg (by assumption)).symm (aH3 (by omega)).symm|skip
theorem aW1:Con.Holds Tryz.prog sR:=aR aW (aG nN (aG eS (aG aJA (aG aCJ aS)))) aYY aWW
def xA:Con:=⟨150,(.bMC aC aN),tI,[.val ⟨true,aC,[]⟩,.val ⟨false,aN,[]⟩],[⟨false,tI,[0]⟩],false,none,
 ((fun x=>fY x.1):(bN × fG)→Prop),
 ((fun x=>gQ x.1 x.2):(bN × fG)→(Int))⟩
def aGP:T:=.call 0 (.p1 aE (.bMC aB (.bMC tI (.bMC bX aI))) (.p1 aC aN (.Z 0))) <|
 .bMD .not (.Z 1) <|
 .ite (.Z 2) (
  .ret (.ci .i64 1)) (
  .call 1 (.bME aE aN (.p1 aE (.bMC aB (.bMC tI (.bMC bX aI))) (.p1 aC aN (.Z 0))) (aQ (.bMC aC aN) 1 (.Z 0))) <|
  .bMD .not (.Z 3) <|
  .ite (.Z 4) (
   .ret (.ci .i64 2)) (
   .call 2 (.bME aE aB (.p1 aE (.bMC aB (.bMC tI (.bMC bX aI))) (.p1 aC aN (.Z 0))) (aJ aC 1 (.p1 aC aN (.Z 0)))) <|
   .bMD .not (.Z 5) <|
   .ite (.Z 6) (
    .ret (.ci .i64 3)) (
    .bMD (.bMG 3 tI) (aJ aC 1 (.p1 aC aN (.Z 0))) <|
    .bMD (.ar .add .i64) (.bME tI tI (.Z 7) (.ci .i64 1)) <|
    .bMD (.cmp .gtr .i64) (.bME tI tI (.Z 8) (.ci .i64 4)) <|
    .ite (.Z 9) (
     .ret (.ci .i64 3)) (
     .call 3 (bE (.bMC tI aO) [(aJ aC 2 (.p1 aC aN (.Z 0))),(.ci .i64 1),(.ci .i64 2)]) <|
     .bMD .not (.Z 10) <|
     .ite (.Z 11) (
      .ret (.ci .i64 4)) (
      .bMD (.bMG 4 .bool) (aJ aC 3 (.p1 aC aN (.Z 0))) <|
      .bMD (.bMG 3 tI) (aJ aC 1 (.p1 aC aN (.Z 0))) <|
      .bMD (.ar .add .i64) (.bME tI tI (.Z 13) (.ci .i64 1)) <|
      .bMD (.cmp .neq .i64) (.bME tI tI (.Z 12) (.Z 14)) <|
      .ite (.Z 15) (
       .ret (.ci .i64 5)) (
       .bMD (.bMG 3 tI) (aJ aC 4 (.p1 aC aN (.Z 0))) <|
       .bMD (.bMG 3 tI) (aJ aC 1 (.p1 aC aN (.Z 0))) <|
       .bMD (.cmp .neq .i64) (.bME tI tI (.Z 16) (.Z 17)) <|
       .ite (.Z 18) (
        .ret (.ci .i64 6)) (
        .loop tI (.ci .i64 0) <|
         .bMD (.bMG 3 tI) (aJ aC 4 (.p1 aC aN (.Z 0))) <|
         .bMD (.cmp .lss .i64) (.bME tI tI (.Z 19) (.Z 20)) <|
         .ite (.Z 21) (
          .bMD (.bMH 3 tI) (.bME aB tI (aJ aC 4 (.p1 aC aN (.Z 0))) (.Z 19)) <|
          .call 3 (bE (.bMC tI aO) [(.Z 22),(.ci .i64 1),(.ci .i64 5)]) <|
          .bMD .not (.Z 23) <|
          .ite (.Z 24) (
           .ret (.ci .i64 6)) (
           .bMD (.ar .add .i64) (.bME tI tI (.Z 19) (.ci .i64 1)) <|
           .bMF 0 (.Z 25))) (
          .bMD (.bMG 3 tI) (aQ aC 5 (.p1 aC aN (.Z 0))) <|
          .bMD (.bMG 3 tI) (aJ aC 1 (.p1 aC aN (.Z 0))) <|
          .bMD (.ar .add .i64) (.bME tI tI (.Z 23) (.ci .i64 1)) <|
          .bMD (.cmp .neq .i64) (.bME tI tI (.Z 22) (.Z 24)) <|
          .ite (.Z 25) (
           .ret (.ci .i64 7)) (
           .loop tI (.ci .i64 0) <|
            .bMD (.bMG 3 tI) (aQ aC 5 (.p1 aC aN (.Z 0))) <|
            .bMD (.cmp .lss .i64) (.bME tI tI (.Z 26) (.Z 27)) <|
            .ite (.Z 28) (
             .bMD (.bMH 3 tI) (.bME aB tI (aQ aC 5 (.p1 aC aN (.Z 0))) (.Z 26)) <|
             .bMD (.bMG 130 aI) (aQ (.bMC aC aN) 1 (.Z 0)) <|
             .call 4 (bE (.bMC aC aO) [(.p1 aC aN (.Z 0)),(.Z 26),(.Z 30)]) <|
             .call 3 (bE (.bMC tI aO) [(.Z 29),(.Z 31),(.ci .i64 100000)]) <|
             .bMD .not (.Z 32) <|
             .ite (.Z 33) (
              .ret (.ci .i64 7)) (
              .bMD (.ar .add .i64) (.bME tI tI (.Z 26) (.ci .i64 1)) <|
              .bMF 0 (.Z 34))) (
             .ret (.ci .i64 0)))))))))))
theorem bC6:bL Tryz.prog [cB,oZ,iE,bH,sR] xA false 3000 ⟨[(2963,128019,iQ 47 7++[.dr 0,.tm 5 0]),(2948,512026,iQ 69 62++iQ 52 48++[.dr 5,.tm 6 0])],[]⟩ = .ok aGP:=by kernel_rfl
theorem bDU (x:bN × fG) (hx:okD (.bMC aC aN) x) (hp:(fun x=>fY x.1) x):aGP.wp [cB,oZ,iE,bH,sR] [⟨(.bMC aC aN),x⟩] [] (fun v=>v.as tI=(fun x=>gQ x.1 x.2) x):=by
 obtain ⟨c,b⟩:=x
 have hp:fY c:=hp
 have hl1:=hp.2.1
 have hl2:=hp.2.2.1
 have hl3:=hp.2.2.2.1
 have hl4:List.length c.2.2.2.2.2≤1000000000:=hp.2.2.2.2
 delta aGP cB oZ iE bH sR;refine dD ?_
 refine eE ?_
 refine ⟨fun h=>bLB h,fun h1=>⟨fun h=>bKX h1 h,fun h2=>⟨⟨hp.1,hp.2.1⟩,fun h=>bK1 h1 h2 (.inl (aII h)),fun hc _=>⟨by omega,fun _=>⟨fun h=>bK1 h1 h2 (.inr (by rw[aAW hc];exact h)),fun h3=>?_⟩⟩⟩⟩⟩
 have hst:=aAW hc
 have h3':¬ (bS c.1 c.2.1=0∨4<bS c.1 c.2.1):=by omega
 refine ⟨fun h=>bLF h1 h2 h3' (by omega),fun h4 _ _=>⟨by omega,fun _=>⟨fun h=>bL6 h1 h2 h3' (by omega) (by omega),fun h5=>?_⟩⟩⟩
 have h4':c.2.2.1=1∨c.2.2.1=2:=by omega
 have h5':(c.2.2.2.1.length:Int)=bS c.1 c.2.1:=by omega
 refine fun _ _=>⟨fun h=>bJ6 h1 h2 h3' h4' h5' (bAV (by omega)),fun h6=>?_⟩
 refine uK (fun k=>(k:Int)) (fun k=>(List.take k c.2.2.2.2.1).all (fun n=>decide (1≤n∧n≤5))=true) (List.length c.2.2.2.2.1) rfl rfl fun I μ k hk hG _ go=>?_
 try dsimp only
 refine eE ?_
 intro _
 constructor
 ·intro hlt
  have hk':k<List.length c.2.2.2.2.1:=by omega
  have e:=mL (fun n:Int=>decide (1≤n∧n≤5)) c.2.2.2.2.1 hk'
  simp only[aZ hk']
  (repeat' first|intro _|(refine go _ ?_ ?_ ?_)|(refine go _ ?_ ?_)|(with_reducible apply And.intro))
  all_goals first|omega|exact bJ6 h1 h2 h3' h4' h5' (bBL hk' (by omega))|(rw[e,hG,Bool.true_and];exact decide_eq_true ⟨by omega,by omega⟩)|rfl
 intro hge
 have h6':pH c=true:=bF3 (by omega) (aI9 hG (by omega))
 clear go hG
 refine fun _ _=>⟨by omega,fun _=>⟨fun h=>bIN h1 h2 h3' h4' h5' h6' (bEG (by omega)),fun h7=>?_⟩⟩
 refine uK (fun k=>(k:Int)) (fun k=>∀ i,i<k→bAR c (b.length:Int) i=true) (List.length c.2.2.2.2.2) rfl (fun i hi=>absurd hi (Nat.not_lt_zero _)) fun I μ k hk hG _ go=>?_
 try dsimp only
 refine eE ?_
 intro _
 constructor
 ·intro hlt
  have hk':k<List.length c.2.2.2.2.2:=by omega
  (repeat' first|intro _|(refine go _ ?_ ?_ ?_)|(refine go _ ?_ ?_)|(with_reducible apply And.intro))
  all_goals first|omega|exact hp|exact bIN h1 h2 h3' h4' h5' h6' (bGE hk' (fun hh=>by have h1:wZ c (k:Int) (b.length:Int)≤List.getD c.2.2.2.2.2 k (aX tI):=hh.1;have h2:List.getD c.2.2.2.2.2 k (aX tI)≤100000:=hh.2;omega))|exact uH hG (decide_eq_true (by assumption)) _ (by assumption)|exact uH hG (decide_eq_true ⟨by omega,by omega⟩) _ (by assumption)|rfl|skip
 ·intro hge
  exact bM0 h1 h2 h3' h4' h5' h6' (bKO (by omega) fun i hi=>hG i (by omega))
theorem bDN:Con.Holds Tryz.prog xA:=aR aW (aG jV (aG aT9 (aG aE0 (aG eS (aG aW1 aS))))) bC6 bDU
end
end Go.Proofs.YtiihghfoeinbbaaGreat
