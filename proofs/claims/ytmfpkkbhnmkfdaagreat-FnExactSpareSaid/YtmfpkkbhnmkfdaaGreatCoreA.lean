/- CoreA: lemmas. No conditions. -/
import Derived.Test.YtmfpkkbhnmkfdaaGreatCoreL
import Derived.Test.YtmfpkkbhnmkfdaaGreatTicks2
namespace Go.Proofs.YtmfpkkbhnmkfdaaGreat
noncomputable section
set_option maxRecDepth 100000
open Go.ChangeShapes Go.WideShapes Go.ChangeAt Go.RowKit Go.Deep
set_option linter.unusedVariables false
set_option linter.unusedSimpArgs false
def bE (m:List eV) (c:List Int) (s:Int):Int × Int :=
 if jS m c=true∧0≤s∧s≤(c.length:Int) then ((if 0<s then c.getD (s - 1).toNat 0 else 0),(if s<(c.length:Int) then c.getD s.toNat 0 else (m.length:Int))) else (0,0)
def aH1 (m:List eV) (i:Int):Int:=(m.getD i.toNat zOp).2.1
def aGN (m:List eV) (i:Int):Int:=(m.getD i.toNat zOp).2.2.1
def rK (m:List eV) (a:Int):Nat→Int
 | 0=>0
 | k+1=>rK m a k+aH1 m (a+(k:Int))
def tB (c:bI) (s:Int):Int:=if (bE c.1 c.2.1 s).1<(bE c.1 c.2.1 s).2 then aGN c.1 ((bE c.1 c.2.1 s).2 - 1) else 0
def inF (c:bI) (s:Int):Int:=if (bE c.1 c.2.1 s).1<(bE c.1 c.2.1 s).2 then aH1 c.1 (bE c.1 c.2.1 s).1 else 0
def oW (c:bI) (s:Int):Int:=rK c.1 (bE c.1 c.2.1 s).1 ((bE c.1 c.2.1 s).2 - (bE c.1 c.2.1 s).1).toNat+tB c s
def oG (c:bI) (s:Int):Bool:=decide (0≤s∧s<(c.2.2.2.1.length:Int))&&c.2.2.2.1.getD s.toNat false
def jW (c:bI) (s:Int):Int:=if oG c s=true then inF c s else oW c s
def tX (c:bI) (s micro:Int):Int :=
 if (bE c.1 c.2.1 s).1<(bE c.1 c.2.1 s).2∧1≤micro∧micro≤5∧(c.2.1.length:Int)+1≤4 then
  (if c.2.2.1=2 then min micro ((c.2.1.length:Int)+1 - s) else micro) * jW c s+max (inF c s) (tB c s)+(if oG c s=true then oW c s else 0) else 0
def qV (c:bI):Bool:=decide (c.2.2.2.2.1.length=c.2.1.length)&&c.2.2.2.2.1.all fun n=>decide (1≤n∧n≤5)
def bDG (c:bI) (micro:Int) (s:Nat):Bool:=decide (tX c (s:Int) micro≤c.2.2.2.2.2.getD s 0∧c.2.2.2.2.2.getD s 0≤100000)
def lF (c:bI) (micro:Int):Bool:=decide ((c.2.2.2.2.2.length:Int)=bS c.1 c.2.1)&&(List.range c.2.2.2.2.2.length).all (bDG c micro)
def eL (c:bI) (b:List bP):Int :=
 if cS c.1=false then 1 else if iN c.1 b=false then 2 else if bS c.1 c.2.1=0∨4<bS c.1 c.2.1 then 3 else if ¬ (c.2.2.1=1∨c.2.2.1=2) then 4
 else if ¬ (c.2.2.2.1.length:Int)=bS c.1 c.2.1 then 5 else if qV c=false then 6 else if lF c (b.length:Int)=false then 7 else 0
theorem tP {m:List eV} {c:List Int} {s:Int} (h:jS m c=false∨s<0∨(c.length:Int)<s):bE m c s=(0,0):=by
 unfold bE;rw[if_neg]
 rintro ⟨h1,h2,h3⟩
 rcases h with h|h|h
 ·rw[h] at h1;cases h1
 ·omega
 ·omega
theorem xO {m:List eV} {c:List Int} {s:Int} (h1:jS m c=true) (h2:0≤s) (h3:s≤(c.length:Int)):bE m c s=((if 0<s then c.getD (s - 1).toNat 0 else 0),(if s<(c.length:Int) then c.getD s.toNat 0 else (m.length:Int))):=if_pos ⟨h1,h2,h3⟩
theorem bCL {m:List eV} {c:List Int} {s:Int} (h1:jS m c=true) (h2:0≤s) (h3:s≤(c.length:Int)):0≤(bE m c s).1∧(bE m c s).1<(bE m c s).2∧(bE m c s).2≤(m.length:Int):=by
 obtain ⟨hm,hc⟩:=(xL m c).1 h1
 have hm1:=((bY m).1 hm).1
 rw[xO h1 h2 h3]
 dsimp only
 by_cases ha:0<s
 ·have e1:=(xC c m.length (show (s - 1).toNat<c.length by omega)).1 (hc _ (by omega))
  rw[if_pos ha,aZ (show (s - 1).toNat<c.length by omega)]
  by_cases hb:s<(c.length:Int)
  ·have e2:=(xC c m.length (show s.toNat<c.length by omega)).1 (hc _ (by omega))
   rw[if_pos hb,aZ (show s.toNat<c.length by omega)]
   have e3:(s - 1).toNat=s.toNat - 1:=by omega
   have e4:c[(s - 1).toNat]'(by omega)=c[s.toNat - 1]'(by omega):=by congr 1
   rw[e4] at e1 ⊢
   omega
  ·rw[if_neg hb];omega
 ·rw[if_neg ha]
  by_cases hb:s<(c.length:Int)
  ·have e2:=(xC c m.length (show s.toNat<c.length by omega)).1 (hc _ (by omega))
   rw[if_pos hb,aZ (show s.toNat<c.length by omega)]
   omega
  ·rw[if_neg hb];omega
theorem rT (m:List eV) (c:List Int) (s:Int):0≤(bE m c s).1∧(bE m c s).1≤(bE m c s).2∧(bE m c s).2≤(m.length:Int)∧((bE m c s).1<(bE m c s).2→cS m=true∧jS m c=true∧0≤s∧s≤(c.length:Int)):=by
 by_cases h:jS m c=true∧0≤s∧s≤(c.length:Int)
 ·have hb:=bCL h.1 h.2.1 h.2.2
  exact ⟨hb.1,by omega,hb.2.2,fun _=>⟨((xL m c).1 h.1).1,h⟩⟩
 ·have e:bE m c s=(0,0):=if_neg h
  rw[e]
  exact ⟨Int.le_refl _,Int.le_refl _,by show (0:Int)≤_;omega,fun h=>absurd h (Int.lt_irrefl _)⟩
theorem aLR {m:List eV} (h:cS m=true) {i:Int} (h0:0≤i) (h1:i<(m.length:Int)):1≤aH1 m i∧aH1 m i≤6∧1≤aGN m i∧aGN m i≤6:=by
 have hk:i.toNat<m.length:=by omega
 have h2:=(aBS m hk).1 (((bY m).1 h).2.2 _ hk)
 have h3:=((lE _).1 h2.1).1
 unfold aH1 aGN
 rw[aZ hk]
 omega
theorem aJU {m:List eV} (h:cS m=true) {a:Int} (h0:0≤a):(k:Nat)→a+(k:Int)≤(m.length:Int)→0≤rK m a k∧rK m a k≤6 * (k:Int)
 | 0,_=>by unfold rK;omega
 | k+1,hk=>by
  have h1:=aJU h h0 k (by omega)
  have h2:=aLR h (i:=a+(k:Int)) (by omega) (by omega)
  unfold rK;omega
theorem aK8 (c:bI) (s:Int):0≤inF c s∧inF c s≤6∧0≤tB c s∧tB c s≤6∧0≤oW c s∧oW c s≤54∧0≤jW c s∧jW c s≤54:=by
 obtain ⟨h0,h1,h2,h3⟩:=rT c.1 c.2.1 s
 by_cases h:(bE c.1 c.2.1 s).1<(bE c.1 c.2.1 s).2
 ·obtain ⟨hm,-⟩:=h3 h
  have hl:=((bY _).1 hm).2.1
  have a1:=aLR hm (i:=(bE c.1 c.2.1 s).1) h0 (by omega)
  have a2:=aLR hm (i:=(bE c.1 c.2.1 s).2 - 1) (by omega) (by omega)
  have a3:=aJU hm h0 ((bE c.1 c.2.1 s).2 - (bE c.1 c.2.1 s).1).toNat (by omega)
  have e1:inF c s=aH1 c.1 (bE c.1 c.2.1 s).1:=if_pos h
  have e2:tB c s=aGN c.1 ((bE c.1 c.2.1 s).2 - 1):=if_pos h
  have e3:oW c s=rK c.1 (bE c.1 c.2.1 s).1 ((bE c.1 c.2.1 s).2 - (bE c.1 c.2.1 s).1).toNat+tB c s:=rfl
  have e4:jW c s=if oG c s=true then inF c s else oW c s:=rfl
  split at e4 <;> omega
 ·have e1:inF c s=0:=if_neg h
  have e2:tB c s=0:=if_neg h
  have e3:oW c s=rK c.1 (bE c.1 c.2.1 s).1 ((bE c.1 c.2.1 s).2 - (bE c.1 c.2.1 s).1).toNat+tB c s:=rfl
  rw[show ((bE c.1 c.2.1 s).2 - (bE c.1 c.2.1 s).1).toNat=0 by omega] at e3
  have e5:rK c.1 (bE c.1 c.2.1 s).1 0=0:=rfl
  have e4:jW c s=if oG c s=true then inF c s else oW c s:=rfl
  split at e4 <;> omega
theorem bE2 {m:List eV} {c:List Int} {s:Int} (h1:jS m c=true) (h2:0<s) (h3:s<(c.length:Int)):(c.getD (s - 1).toNat 0,c.getD s.toNat 0)=bE m c s:=by rw[xO h1 (by omega) (by omega),if_pos h2,if_pos h3]
theorem bCE {m:List eV} {c:List Int} {s:Int} (h1:jS m c=true) (h2:0<s) (h3:s=(c.length:Int)):(c.getD (s - 1).toNat 0,(m.length:Int))=bE m c s:=by rw[xO h1 (by omega) (by omega),if_pos h2,if_neg (by omega)]
theorem bCT {m:List eV} {c:List Int} {s:Int} (h1:jS m c=true) (h2:s=0) (h3:s<(c.length:Int)):(0,c.getD s.toNat 0)=bE m c s:=by rw[xO h1 (by omega) (by omega),if_neg (by omega),if_pos h3]
theorem bE6 {m:List eV} {c:List Int} {s:Int} (h1:jS m c=true) (h2:s=0) (h3:s=(c.length:Int)):(0,(m.length:Int))=bE m c s:=by rw[xO h1 (by omega) (by omega),if_neg (by omega),if_neg (by omega)]
theorem sF {c:bI} {s:Int} (h0:0≤s) (h1:s<(c.2.2.2.1.length:Int)):c.2.2.2.1.getD s.toNat false=oG c s:=by unfold oG;rw[decide_eq_true ⟨h0,h1⟩,Bool.true_and]
theorem aIA {c:bI} {s:Int} (h:s<0∨(c.2.2.2.1.length:Int)≤s):false=oG c s:=by unfold oG;rw[decide_eq_false (by omega),Bool.false_and]
theorem bDP {c:bI} {s:Int} (h:(bE c.1 c.2.1 s).1=(bE c.1 c.2.1 s).2):(0,0)=(inF c s,tB c s):=by
 unfold inF tB;rw[if_neg (by omega),if_neg (by omega)]
theorem bDY {c:bI} {s:Int} (h:(bE c.1 c.2.1 s).1<(bE c.1 c.2.1 s).2):(aH1 c.1 (bE c.1 c.2.1 s).1,aGN c.1 ((bE c.1 c.2.1 s).2 - 1))=(inF c s,tB c s):=by
 unfold inF tB;rw[if_pos h,if_pos h]
theorem aSA {c:bI} {s:Int} (h:oG c s=true):inF c s=jW c s:=(if_pos h).symm
theorem aK0 {c:bI} {s:Int} (h:oG c s=false):oW c s=jW c s:=(if_neg (by rw[h];simp)).symm
theorem bHU {k v:Int} (h1:0≤k) (h2:k≤5) (h3:0≤v) (h4:v≤54):0≤k * v∧k * v≤270:=by
 refine ⟨Int.mul_nonneg h1 h3,?_⟩
 have:=Int.mul_le_mul h2 h4 h3 (by omega:(0:Int)≤5)
 omega
theorem aNF {c:bI} {s micro:Int} (h:(bE c.1 c.2.1 s).2≤(bE c.1 c.2.1 s).1∨micro<1∨5<micro∨4<(c.2.1.length:Int)+1):0=tX c s micro:=by unfold tX;rw[if_neg (by omega)]
theorem yJ {c:bI} {s micro k r:Int} (h1:(bE c.1 c.2.1 s).1<(bE c.1 c.2.1 s).2) (h2:1≤micro) (h3:micro≤5) (h4:(c.2.1.length:Int)+1≤4) (hk:k=if c.2.2.1=2 then min micro ((c.2.1.length:Int)+1 - s) else micro) (hr:r=if oG c s=true then oW c s else 0) :
 k * jW c s+max (inF c s) (tB c s)+r=tX c s micro:=by unfold tX;rw[if_pos ⟨h1,h2,h3,h4⟩,hk,hr]
theorem rG {c:bI} {s micro k:Int} (h1:(bE c.1 c.2.1 s).1<(bE c.1 c.2.1 s).2) (h2:1≤micro) (h3:micro≤5) (h4:(c.2.1.length:Int)+1≤4) (hk:k=if c.2.2.1=2 then min micro ((c.2.1.length:Int)+1 - s) else micro) (hr:oG c s=false) :
  k * jW c s+max (inF c s) (tB c s)=tX c s micro:=by
 have h:=yJ (s:=s) h1 h2 h3 h4 hk (r:=0) (if_neg (by rw[hr];simp)).symm
 omega
theorem aAO {m:List eV} {c:List Int} (h:jS m c=true):bS m c=(c.length:Int)+1:=if_pos h
theorem aNA {m:List eV} {c:List Int} (h:jS m c=false):bS m c=0:=if_neg (by rw[h];simp)
theorem bKB {m:List eV} {c:List Int} {s:Int} (h0:0≤s) (h:s<bS m c):jS m c=true:=by
 cases hc:jS m c
 ·rw[aNA hc] at h;omega
 ·rfl
theorem bET (m:List eV) (c:List Int):0≤bS m c:=by unfold bS;split <;> omega
theorem bE1 {c:bI} (h:¬ c.2.2.2.2.1.length=c.2.1.length):qV c=false:=by unfold qV;rw[decide_eq_false h,Bool.false_and]
theorem bCJ {c:bI} {k:Nat} (hk:k<c.2.2.2.2.1.length) (h:¬ (1≤c.2.2.2.2.1[k]∧c.2.2.2.2.1[k]≤5)):qV c=false:=by
 have e:c.2.2.2.2.1.all (fun n=>decide (1≤n∧n≤5))=false:=vH hk (decide_eq_false h)
 unfold qV
 rw[e,Bool.and_false]
theorem bIL {c:bI} (h:c.2.2.2.2.1.length=c.2.1.length) (h2:c.2.2.2.2.1.all (fun n=>decide (1≤n∧n≤5))=true):qV c=true:=by unfold qV;rw[decide_eq_true h,h2];rfl
theorem bKY {c:bI} {m:Int} (h:¬ (c.2.2.2.2.2.length:Int)=bS c.1 c.2.1):lF c m=false:=by unfold lF;rw[decide_eq_false h,Bool.false_and]
theorem bIK {c:bI} {m:Int} {k:Nat} (hk:k<c.2.2.2.2.2.length) (h:¬ (tX c (k:Int) m≤c.2.2.2.2.2.getD k 0∧c.2.2.2.2.2.getD k 0≤100000)):lF c m=false:=by
 refine Bool.eq_false_iff.2 fun hh=>h ?_
 unfold lF at hh
 rw[Bool.and_eq_true,List.all_eq_true] at hh
 exact of_decide_eq_true (hh.2 k (List.mem_range.2 hk))
theorem bNR {c:bI} {m:Int} (h:(c.2.2.2.2.2.length:Int)=bS c.1 c.2.1) (h2:∀ i,i<c.2.2.2.2.2.length→bDG c m i=true):lF c m=true:=by
 unfold lF;rw[decide_eq_true h,Bool.true_and,List.all_eq_true]
 exact fun i hi=>h2 i (List.mem_range.1 hi)
theorem bNZ {c:bI} {b:List bP} (h:cS c.1=false):1=eL c b:=by unfold eL;rw[if_pos h]
theorem bOJ {c:bI} {b:List bP} (h1:cS c.1=true) (h:iN c.1 b=false):2=eL c b:=by unfold eL;rw[if_neg (by rw[h1];simp),if_pos h]
theorem bLZ {c:bI} {b:List bP} (h1:cS c.1=true) (h2:iN c.1 b=true) (h:bS c.1 c.2.1=0∨4<bS c.1 c.2.1):3=eL c b:=by unfold eL;rw[if_neg (by rw[h1];simp),if_neg (by rw[h2];simp),if_pos h]
theorem bNU {c:bI} {b:List bP} (h1:cS c.1=true) (h2:iN c.1 b=true) (h3:¬ (bS c.1 c.2.1=0∨4<bS c.1 c.2.1)) (h:¬ (c.2.2.1=1∨c.2.2.1=2)):4=eL c b:=by unfold eL;rw[if_neg (by rw[h1];simp),if_neg (by rw[h2];simp),if_neg h3,if_pos h]
theorem bOL {c:bI} {b:List bP} (h1:cS c.1=true) (h2:iN c.1 b=true) (h3:¬ (bS c.1 c.2.1=0∨4<bS c.1 c.2.1)) (h4:c.2.2.1=1∨c.2.2.1=2) (h:¬ (c.2.2.2.1.length:Int)=bS c.1 c.2.1):5=eL c b:=by
 unfold eL;rw[if_neg (by rw[h1];simp),if_neg (by rw[h2];simp),if_neg h3,if_neg (Classical.not_not.2 h4),if_pos h]
theorem bMI {c:bI} {b:List bP} (h1:cS c.1=true) (h2:iN c.1 b=true) (h3:¬ (bS c.1 c.2.1=0∨4<bS c.1 c.2.1)) (h4:c.2.2.1=1∨c.2.2.1=2) (h5:(c.2.2.2.1.length:Int)=bS c.1 c.2.1) (h:qV c=false):6=eL c b:=by
 unfold eL;rw[if_neg (by rw[h1];simp),if_neg (by rw[h2];simp),if_neg h3,if_neg (Classical.not_not.2 h4),if_neg (Classical.not_not.2 h5),if_pos h]
theorem bN5 {c:bI} {b:List bP} (h1:cS c.1=true) (h2:iN c.1 b=true) (h3:¬ (bS c.1 c.2.1=0∨4<bS c.1 c.2.1)) (h4:c.2.2.1=1∨c.2.2.1=2) (h5:(c.2.2.2.1.length:Int)=bS c.1 c.2.1) (h6:qV c=true) (h:lF c (b.length:Int)=false):7=eL c b:=by
 unfold eL;rw[if_neg (by rw[h1];simp),if_neg (by rw[h2];simp),if_neg h3,if_neg (Classical.not_not.2 h4),if_neg (Classical.not_not.2 h5),if_neg (by rw[h6];simp),if_pos h]
theorem bP3 {c:bI} {b:List bP} (h1:cS c.1=true) (h2:iN c.1 b=true) (h3:¬ (bS c.1 c.2.1=0∨4<bS c.1 c.2.1)) (h4:c.2.2.1=1∨c.2.2.1=2) (h5:(c.2.2.2.1.length:Int)=bS c.1 c.2.1) (h6:qV c=true) (h7:lF c (b.length:Int)=true):0=eL c b:=by
 unfold eL;rw[if_neg (by rw[h1];simp),if_neg (by rw[h2];simp),if_neg h3,if_neg (Classical.not_not.2 h4),if_neg (Classical.not_not.2 h5),if_neg (by rw[h6];simp),if_neg (by rw[h7];simp)]
def dV:Con:=⟨146,(.bP9 aE (.bP9 aB tI)),aP,[.val ⟨true,aE,[]⟩,.val ⟨false,aB,[]⟩,.val ⟨false,tI,[]⟩],[⟨false,tI,[0]⟩,⟨false,tI,[0]⟩],false,none,
 ((fun x=>gC x.1∧List.length x.2.1≤1000000000):(bO × (cF × Int))→Prop),
 ((fun x=>bE x.1 x.2.1 x.2.2):(bO × (cF × Int))→(Int × Int))⟩
def tO:T:=.call 0 (.bPB aE aB (.p1 aE (.bP9 aB tI) (.Z 0)) (aK (.bP9 aE (.bP9 aB tI)) 1 (.Z 0))) <|
 .bPA .not (.Z 1) <|
 .ite (.Z 2) (
  .ret (.bPB tI tI (.ci .i64 0) (.ci .i64 0))) (
  .bPA (.cmp .lss .i64) (.bPB tI tI (aQ (.bP9 aE (.bP9 aB tI)) 2 (.Z 0)) (.ci .i64 0)) <|
  .ite (.Z 3) (
   .ret (.bPB tI tI (.ci .i64 0) (.ci .i64 0))) (
   .bPA (.bPD 3 tI) (aK (.bP9 aE (.bP9 aB tI)) 1 (.Z 0)) <|
   .bPA (.cmp .gtr .i64) (.bPB tI tI (aQ (.bP9 aE (.bP9 aB tI)) 2 (.Z 0)) (.Z 4)) <|
   .ite (.Z 5) (
    .ret (.bPB tI tI (.ci .i64 0) (.ci .i64 0))) (
    .bPA (.bPD 219 bD) (.p1 aE (.bP9 aB tI) (.Z 0)) <|
    .bPA (.cmp .gtr .i64) (.bPB tI tI (aQ (.bP9 aE (.bP9 aB tI)) 2 (.Z 0)) (.ci .i64 0)) <|
    .ite (.Z 7) (
     .bPA (.ar .sub .i64) (.bPB tI tI (aQ (.bP9 aE (.bP9 aB tI)) 2 (.Z 0)) (.ci .i64 1)) <|
     .bPA (.bPE 3 tI) (.bPB aB tI (aK (.bP9 aE (.bP9 aB tI)) 1 (.Z 0)) (.Z 8)) <|
     .bPA (.bPD 3 tI) (aK (.bP9 aE (.bP9 aB tI)) 1 (.Z 0)) <|
     .bPA (.cmp .lss .i64) (.bPB tI tI (aQ (.bP9 aE (.bP9 aB tI)) 2 (.Z 0)) (.Z 10)) <|
     .ite (.Z 11) (
      .bPA (.bPE 3 tI) (.bPB aB tI (aK (.bP9 aE (.bP9 aB tI)) 1 (.Z 0)) (aQ (.bP9 aE (.bP9 aB tI)) 2 (.Z 0))) <|
      .ret (.bPB tI tI (.Z 9) (.Z 12))) (
      .ret (.bPB tI tI (.Z 9) (.Z 6)))) (
     .bPA (.bPD 3 tI) (aK (.bP9 aE (.bP9 aB tI)) 1 (.Z 0)) <|
     .bPA (.cmp .lss .i64) (.bPB tI tI (aQ (.bP9 aE (.bP9 aB tI)) 2 (.Z 0)) (.Z 8)) <|
     .ite (.Z 9) (
      .bPA (.bPE 3 tI) (.bPB aB tI (aK (.bP9 aE (.bP9 aB tI)) 1 (.Z 0)) (aQ (.bP9 aE (.bP9 aB tI)) 2 (.Z 0))) <|
      .ret (.bPB tI tI (.ci .i64 0) (.Z 10))) (
      .ret (.bPB tI tI (.ci .i64 0) (.Z 6)))))))
theorem aL4:bN Tryz.prog [mJ] dV false 3000 ⟨[],[]⟩ = .ok tO:=by kernel_rfl
theorem aK5 (x:bO × (cF × Int)) (hx:okD (.bP9 aE (.bP9 aB tI)) x) (hp:(fun x=>gC x.1∧List.length x.2.1≤1000000000) x):tO.wp [mJ] [⟨(.bP9 aE (.bP9 aB tI)),x⟩] [] (fun v=>v.as aP=(fun x=>bE x.1 x.2.1 x.2.2) x):=by
 obtain ⟨m,c,s⟩:=x
 obtain ⟨hp1,hp2⟩:gC m∧List.length c≤1000000000:=hp
 delta tO mJ;refine dD ?_
 (refine dM ?_;try with_reducible exact True.intro)
 (repeat' first|intro _|(with_reducible apply And.intro))
 all_goals first|omega|exact hp1|exact hp2|exact (tP (.inl (by assumption))).symm|exact (tP (.inr (by omega))).symm|exact bE2 (by assumption) (by omega) (by omega)|exact bCE (by assumption) (by omega) (by omega)|exact bCT (by assumption) (by omega) (by omega)|exact bE6 (by assumption) (by omega) (by omega)|skip
theorem tL:Con.Holds Tryz.prog dV:=aS aV (aH aL8 aT) aL4 aK5
def cV:Con:=⟨140,(.bP9 aE (.bP9 aB tI)),aP,[.val ⟨true,aE,[]⟩,.val ⟨false,aB,[]⟩,.val ⟨false,tI,[]⟩],[⟨false,tI,[0]⟩,⟨false,tI,[0]⟩],false,none,
 ((fun x=>gC x.1∧List.length x.2.1≤1000000000):(bO × (cF × Int))→Prop),
 ((fun x=>bE x.1 x.2.1 x.2.2):(bO × (cF × Int))→(Int × Int))⟩
def tY:T:=.call 0 (.bPB aE aB (.p1 aE (.bP9 aB tI) (.Z 0)) (aK (.bP9 aE (.bP9 aB tI)) 1 (.Z 0))) <|
 .bPA .not (.Z 1) <|
 .ite (.Z 2) (
  .ret (.bPB tI tI (.ci .i64 0) (.ci .i64 0))) (
  .bPA (.bPD 3 tI) (aK (.bP9 aE (.bP9 aB tI)) 1 (.Z 0)) <|
  .call 1 (bG (.bP9 tI aP) [(aQ (.bP9 aE (.bP9 aB tI)) 2 (.Z 0)),(.ci .i64 0),(.Z 3)]) <|
  .bPA .not (.Z 4) <|
  .ite (.Z 5) (
   .ret (.bPB tI tI (.ci .i64 0) (.ci .i64 0))) (
   .bPA (.bPD 219 bD) (.p1 aE (.bP9 aB tI) (.Z 0)) <|
   .bPA (.cmp .gtr .i64) (.bPB tI tI (aQ (.bP9 aE (.bP9 aB tI)) 2 (.Z 0)) (.ci .i64 0)) <|
   .ite (.Z 7) (
    .bPA (.ar .sub .i64) (.bPB tI tI (aQ (.bP9 aE (.bP9 aB tI)) 2 (.Z 0)) (.ci .i64 1)) <|
    .bPA (.bPE 3 tI) (.bPB aB tI (aK (.bP9 aE (.bP9 aB tI)) 1 (.Z 0)) (.Z 8)) <|
    .bPA (.bPD 3 tI) (aK (.bP9 aE (.bP9 aB tI)) 1 (.Z 0)) <|
    .bPA (.cmp .lss .i64) (.bPB tI tI (aQ (.bP9 aE (.bP9 aB tI)) 2 (.Z 0)) (.Z 10)) <|
    .ite (.Z 11) (
     .bPA (.bPE 3 tI) (.bPB aB tI (aK (.bP9 aE (.bP9 aB tI)) 1 (.Z 0)) (aQ (.bP9 aE (.bP9 aB tI)) 2 (.Z 0))) <|
     .ret (.bPB tI tI (.Z 9) (.Z 12))) (
     .ret (.bPB tI tI (.Z 9) (.Z 6)))) (
    .bPA (.bPD 3 tI) (aK (.bP9 aE (.bP9 aB tI)) 1 (.Z 0)) <|
    .bPA (.cmp .lss .i64) (.bPB tI tI (aQ (.bP9 aE (.bP9 aB tI)) 2 (.Z 0)) (.Z 8)) <|
    .ite (.Z 9) (
     .bPA (.bPE 3 tI) (.bPB aB tI (aK (.bP9 aE (.bP9 aB tI)) 1 (.Z 0)) (aQ (.bP9 aE (.bP9 aB tI)) 2 (.Z 0))) <|
     .ret (.bPB tI tI (.ci .i64 0) (.Z 10))) (
     .ret (.bPB tI tI (.ci .i64 0) (.Z 6))))))
theorem aKD:bN Tryz.prog [iQ,bK] cV false 3000 ⟨[],[]⟩ = .ok tY:=by kernel_rfl
theorem aML (x:bO × (cF × Int)) (hx:okD (.bP9 aE (.bP9 aB tI)) x) (hp:(fun x=>gC x.1∧List.length x.2.1≤1000000000) x):tY.wp [iQ,bK] [⟨(.bP9 aE (.bP9 aB tI)),x⟩] [] (fun v=>v.as aP=(fun x=>bE x.1 x.2.1 x.2.2) x):=by
 obtain ⟨m,c,s⟩:=x
 obtain ⟨hp1,hp2⟩:gC m∧List.length c≤1000000000:=hp
 delta tY iQ bK;refine dD ?_
 (refine dM ?_;try with_reducible exact True.intro)
 (repeat' first|intro _|(with_reducible apply And.intro))
 all_goals first|omega|exact hp1|exact hp2|exact (tP (.inl (by assumption))).symm|exact (tP (.inr (by omega))).symm|exact bE2 (by assumption) (by omega) (by omega)|exact bCE (by assumption) (by omega) (by omega)|exact bCT (by assumption) (by omega) (by omega)|exact bE6 (by assumption) (by omega) (by omega)|skip
theorem oF:Con.Holds Tryz.prog cV:=aS aV (aH aE3 (aH fM aT)) aKD aML
def lJ:Con:=⟨298,(.bP9 aC tI),.bool,[.val ⟨true,aC,[]⟩,.val ⟨false,tI,[]⟩],[⟨false,.bool,[0]⟩],false,none,
 ((fun _=>True):(bI × Int)→Prop),
 ((fun x=>oG x.1 x.2):(bI × Int)→(Bool))⟩
def aF4:T :=
 .bPA (.cmp .geq .i64) (.bPB tI tI (aQ (.bP9 aC tI) 1 (.Z 0)) (.ci .i64 0)) <|
 .ite (.Z 1) (
  .bPA (.bPD 4 .bool) (aK aC 3 (.p1 aC tI (.Z 0))) <|
  .bPA (.cmp .lss .i64) (.bPB tI tI (aQ (.bP9 aC tI) 1 (.Z 0)) (.Z 2)) <|
  .ite (.Z 3) (
   .bPA (.bPE 4 .bool) (.bPB bW tI (aK aC 3 (.p1 aC tI (.Z 0))) (aQ (.bP9 aC tI) 1 (.Z 0))) <|
   .ret (.Z 4)) (
   .ret (.cb false))) (
  .ret (.cb false))
theorem bBJ:bN Tryz.prog [] lJ false 3000 ⟨[],[]⟩ = .ok aF4:=by kernel_rfl
theorem aZC (x:bI × Int) (hx:okD (.bP9 aC tI) x) (hp:(fun _=>True) x):aF4.wp [] [⟨(.bP9 aC tI),x⟩] [] (fun v=>v.as .bool=(fun x=>oG x.1 x.2) x):=by
 delta aF4;refine dD ?_
 (refine dM ?_;try with_reducible exact True.intro)
 (repeat' first|intro _|(with_reducible apply And.intro))
 all_goals first|omega|exact aIA (by omega)|exact sF (by omega) (by omega)|skip
theorem aMH:Con.Holds Tryz.prog lJ:=aS aV aT bBJ aZC
def gN:Con:=⟨296,(.bP9 aC tI),aP,[.val ⟨true,aC,[]⟩,.val ⟨false,tI,[]⟩],[⟨false,tI,[0]⟩,⟨false,tI,[0]⟩],false,none,
 ((fun x=>fF x.1):(bI × Int)→Prop),
 ((fun x=>(inF x.1 x.2,tB x.1 x.2)):(bI × Int)→(Int × Int))⟩
def aBQ:T:=.call 0 (bG (.bP9 aE (.bP9 aB tI)) [(.p1 aE (.bP9 aB (.bP9 tI (.bP9 bW aI))) (.p1 aC tI (.Z 0))),(aK aC 1 (.p1 aC tI (.Z 0))),(aQ (.bP9 aC tI) 1 (.Z 0))]) <|
 .bPA (.cmp .eql .i64) (.bPB tI tI (.p1 tI tI (.Z 1)) (aQ aP 1 (.Z 1))) <|
 .ite (.Z 2) (
  .ret (.bPB tI tI (.ci .i64 0) (.ci .i64 0))) (
  .bPA (.ar .sub .i64) (.bPB tI tI (aQ aP 1 (.Z 1)) (.ci .i64 1)) <|
  .bPA (.bPE 219 bD) (.bPB aE tI (.p1 aE (.bP9 aB (.bP9 tI (.bP9 bW aI))) (.p1 aC tI (.Z 0))) (.p1 tI tI (.Z 1))) <|
  .bPA (.bPE 219 bD) (.bPB aE tI (.p1 aE (.bP9 aB (.bP9 tI (.bP9 bW aI))) (.p1 aC tI (.Z 0))) (.Z 3)) <|
  .ret (.bPB tI tI (aK bD 1 (.Z 4)) (aK bD 2 (.Z 5))))
theorem aUI:bN Tryz.prog [dV] gN false 3000 ⟨[],[]⟩ = .ok aBQ:=by kernel_rfl
theorem aUR (x:bI × Int) (hx:okD (.bP9 aC tI) x) (hp:(fun x=>fF x.1) x):aBQ.wp [dV] [⟨(.bP9 aC tI),x⟩] [] (fun v=>v.as aP=(fun x=>(inF x.1 x.2,tB x.1 x.2)) x):=by
 have hp:fF x.1:=hp
 have hr:=rT x.1.1 x.1.2.1 x.2
 have hml:List.length x.1.1≤1000000000:=hp.1.1
 delta aBQ dV;refine dD ?_
 (refine dM ?_;try with_reducible exact True.intro)
 (repeat' first|intro _|(with_reducible apply And.intro))
 all_goals first|omega|exact hp.1|exact hp.2.1|exact bDP (by assumption)|exact bDY (by omega)|skip
theorem aA4:Con.Holds Tryz.prog gN:=aS aV (aH tL aT) aUI aUR
def iF:Con:=⟨299,(.bP9 aC tI),tI,[.val ⟨true,aC,[]⟩,.val ⟨false,tI,[]⟩],[⟨false,tI,[0]⟩],false,none,
 ((fun x=>fF x.1):(bI × Int)→Prop),
 ((fun x=>oW x.1 x.2):(bI × Int)→(Int))⟩
def wH:T:=.call 0 (bG (.bP9 aE (.bP9 aB tI)) [(.p1 aE (.bP9 aB (.bP9 tI (.bP9 bW aI))) (.p1 aC tI (.Z 0))),(aK aC 1 (.p1 aC tI (.Z 0))),(aQ (.bP9 aC tI) 1 (.Z 0))]) <|.call 1 (.Z 0) <|.loop aP (.bPB tI tI (.p1 tI tI (.Z 1)) (aQ aP 1 (.Z 2))) <|
 .bPA (.cmp .lss .i64) (.bPB tI tI (.p1 tI tI (.Z 3)) (aQ aP 1 (.Z 1))) <|
 .ite (.Z 4) (
  .bPA (.bPE 219 bD) (.bPB aE tI (.p1 aE (.bP9 aB (.bP9 tI (.bP9 bW aI))) (.p1 aC tI (.Z 0))) (.p1 tI tI (.Z 3))) <|
  .bPA (.ar .add .i64) (.bPB tI tI (aQ aP 1 (.Z 3)) (aK bD 1 (.Z 5))) <|
  .bPA (.ar .add .i64) (.bPB tI tI (.p1 tI tI (.Z 3)) (.ci .i64 1)) <|
  .bPC 0 (.bPB tI tI (.Z 7) (.Z 6))) (
  .ret (aQ aP 1 (.Z 3)))
theorem aOC:bN Tryz.prog [dV,gN] iF false 3000 ⟨[(2989,1003,[.dr 25,.dr 7,.dr 24,.dr 23,.dr 19]++iL 22 20++[.dr 5,.dr 18,.dr 17,.dr 10]++iL 16 11++[.dr 0,.dr 1,.tm 9 0,.tm 8 0])],[]⟩ = .ok wH:=by kernel_rfl
theorem aNT (x:bI × Int) (hx:okD (.bP9 aC tI) x) (hp:(fun x=>fF x.1) x):wH.wp [dV,gN] [⟨(.bP9 aC tI),x⟩] [] (fun v=>v.as tI=(fun x=>oW x.1 x.2) x):=by
 have hp:fF x.1:=hp
 have hr:=rT x.1.1 x.1.2.1 x.2
 have hml:List.length x.1.1≤1000000000:=hp.1.1
 have hb:=aK8 x.1 x.2
 delta wH dV gN;refine dD ?_
 refine dM ?_
 refine ⟨⟨hp.1,hp.2.1⟩,fun _=>⟨hp,fun _=>?_⟩⟩
 refine cJ (fun k=>((bE x.1.1 x.1.2.1 x.2).1+(k:Int),tB x.1 x.2+rK x.1.1 (bE x.1.1 x.1.2.1 x.2).1 k)) ((bE x.1.1 x.1.2.1 x.2).2 - (bE x.1.1 x.1.2.1 x.2).1).toNat (Prod.ext (Int.add_zero _).symm (Int.add_zero _).symm) fun I μ k hk _ go=>?_
 dsimp only
 refine dM ?_
 constructor
 ·intro hlt
  have hm:=(hr.2.2.2 (by omega)).1
  have hl:=((bY _).1 hm).2.1
  have h1:=aJU hm hr.1 k (by omega)
  have h2:=aLR hm (i:=(bE x.1.1 x.1.2.1 x.2).1+(k:Int)) (by omega) (by omega)
  have e:rK x.1.1 (bE x.1.1 x.1.2.1 x.2).1 (k+1)=rK x.1.1 (bE x.1.1 x.1.2.1 x.2).1 k+aH1 x.1.1 ((bE x.1.1 x.1.2.1 x.2).1+(k:Int)):=rfl
  rw[show (List.getD x.1.1 ((bE x.1.1 x.1.2.1 x.2).1+(k:Int)).toNat (aX bD)).2.1=aH1 x.1.1 ((bE x.1.1 x.1.2.1 x.2).1+(k:Int)) from rfl]
  (repeat' first|intro _|(refine go _ ?_ ?_ ?_)|(refine go _ ?_ ?_)|(with_reducible apply And.intro))
  all_goals first|omega|(refine Prod.ext ?_ ?_ <;> refine @Eq.trans Int _ _ _ ?_ rfl <;> dsimp only <;> omega)|skip
 ·intro hge
  have e:k=((bE x.1.1 x.1.2.1 x.2).2 - (bE x.1.1 x.1.2.1 x.2).1).toNat:=by omega
  subst e
  exact Int.add_comm _ _
theorem aDS:Con.Holds Tryz.prog iF:=aS aV (aH tL (aH aA4 aT)) aOC aNT
def mI:Con:=⟨297,(.bP9 aC tI),tI,[.val ⟨true,aC,[]⟩,.val ⟨false,tI,[]⟩],[⟨false,tI,[0]⟩],false,none,
 ((fun x=>fF x.1):(bI × Int)→Prop),
 ((fun x=>jW x.1 x.2):(bI × Int)→(Int))⟩
def tW:T:=.call 0 (.Z 0) <|.ite (.Z 1) (.call 1 (.Z 0) <|.ret (.p1 tI tI (.Z 2))) (.call 2 (.Z 0) <|.ret (.Z 2))
theorem aMJ:bN Tryz.prog [lJ,gN,iF] mI false 3000 ⟨[],[]⟩ = .ok tW:=by kernel_rfl
theorem aMA (x:bI × Int) (hx:okD (.bP9 aC tI) x) (hp:(fun x=>fF x.1) x):tW.wp [lJ,gN,iF] [⟨(.bP9 aC tI),x⟩] [] (fun v=>v.as tI=(fun x=>jW x.1 x.2) x):=by
 delta tW lJ gN iF;refine dD ?_
 refine dM ?_
 exact ⟨fun h=>⟨hp,fun _=>aSA h⟩,fun h=>⟨hp,fun _=>aK0 h⟩⟩
theorem aL3:Con.Holds Tryz.prog mI:=aS aV (aH aMH (aH aA4 (aH aDS aT))) aMJ aMA
def sK:Con:=⟨246,(.bP9 aC aP),tI,[.val ⟨true,aC,[]⟩,.val ⟨false,tI,[]⟩,.val ⟨false,tI,[]⟩],[⟨false,tI,[0]⟩],false,none,
 ((fun x=>fF x.1):(bI × gI)→Prop),
 ((fun x=>tX x.1 x.2.1 x.2.2):(bI × gI)→(Int))⟩
def aEA:T:=.call 0 (.p1 aC aP (.Z 0)) <|
 .bPA (.cmp .lss .i64) (.bPB tI tI (aK (.bP9 aC aP) 1 (.Z 0)) (.ci .i64 0)) <|
 .ite (.Z 2) (
  .ret (.ci .i64 0)) (
  .bPA (.cmp .geq .i64) (.bPB tI tI (aK (.bP9 aC aP) 1 (.Z 0)) (.Z 1)) <|
  .ite (.Z 3) (
   .ret (.ci .i64 0)) (
   .bPA (.cmp .lss .i64) (.bPB tI tI (aQ (.bP9 aC aP) 2 (.Z 0)) (.ci .i64 1)) <|
   .ite (.Z 4) (
    .ret (.ci .i64 0)) (
    .bPA (.cmp .gtr .i64) (.bPB tI tI (aQ (.bP9 aC aP) 2 (.Z 0)) (.ci .i64 5)) <|
    .ite (.Z 5) (
     .ret (.ci .i64 0)) (
     .bPA (.cmp .gtr .i64) (.bPB tI tI (.Z 1) (.ci .i64 4)) <|
     .ite (.Z 6) (
      .ret (.ci .i64 0)) (
      .bPA (.cmp .eql .i64) (.bPB tI tI (aK aC 2 (.p1 aC aP (.Z 0))) (.ci .i64 2)) <|
      .ite (.Z 7) (
       .bPA (.ar .sub .i64) (.bPB tI tI (.Z 1) (aK (.bP9 aC aP) 1 (.Z 0))) <|
       .bPA (.mn .i64) (.bPB tI tI (aQ (.bP9 aC aP) 2 (.Z 0)) (.Z 8)) <|
       .call 1 (.bPB aC tI (.p1 aC aP (.Z 0)) (aK (.bP9 aC aP) 1 (.Z 0))) <|
       .call 2 (.bPB aC tI (.p1 aC aP (.Z 0)) (aK (.bP9 aC aP) 1 (.Z 0))) <|
       .bPA (.ar .mul .i64) (.bPB tI tI (.Z 9) (.Z 11)) <|
       .bPA (.mx .i64) (.bPB tI tI (.p1 tI tI (.Z 10)) (aQ aP 1 (.Z 10))) <|
       .bPA (.ar .add .i64) (.bPB tI tI (.Z 12) (.Z 13)) <|
       .call 3 (.bPB aC tI (.p1 aC aP (.Z 0)) (aK (.bP9 aC aP) 1 (.Z 0))) <|
       .ite (.Z 15) (
        .call 4 (.bPB aC tI (.p1 aC aP (.Z 0)) (aK (.bP9 aC aP) 1 (.Z 0))) <|
        .bPA (.ar .add .i64) (.bPB tI tI (.Z 14) (.Z 16)) <|
        .ret (.Z 17)) (
        .ret (.Z 14))) (
       .call 1 (.bPB aC tI (.p1 aC aP (.Z 0)) (aK (.bP9 aC aP) 1 (.Z 0))) <|
       .call 2 (.bPB aC tI (.p1 aC aP (.Z 0)) (aK (.bP9 aC aP) 1 (.Z 0))) <|
       .bPA (.ar .mul .i64) (.bPB tI tI (aQ (.bP9 aC aP) 2 (.Z 0)) (.Z 9)) <|
       .bPA (.mx .i64) (.bPB tI tI (.p1 tI tI (.Z 8)) (aQ aP 1 (.Z 8))) <|
       .bPA (.ar .add .i64) (.bPB tI tI (.Z 10) (.Z 11)) <|
       .call 3 (.bPB aC tI (.p1 aC aP (.Z 0)) (aK (.bP9 aC aP) 1 (.Z 0))) <|
       .ite (.Z 13) (
        .call 4 (.bPB aC tI (.p1 aC aP (.Z 0)) (aK (.bP9 aC aP) 1 (.Z 0))) <|
        .bPA (.ar .add .i64) (.bPB tI tI (.Z 12) (.Z 14)) <|
        .ret (.Z 15)) (
        .ret (.Z 12))))))))
theorem aZJ:bN Tryz.prog [dP,gN,mI,lJ,iF] sK false 3000 ⟨[],[]⟩ = .ok aEA:=by kernel_rfl
theorem bAG (x:bI × gI) (hx:okD (.bP9 aC aP) x) (hp:(fun x=>fF x.1) x):aEA.wp [dP,gN,mI,lJ,iF] [⟨(.bP9 aC aP),x⟩] [] (fun v=>v.as tI=(fun x=>tX x.1 x.2.1 x.2.2) x):=by
 obtain ⟨c,s,micro⟩:=x
 have hp:fF c:=hp
 have hb:=aK8 c s
 delta aEA dP gN mI lJ iF;refine dD ?_
 refine dM ?_
 refine ⟨⟨hp.1,hp.2.1⟩,fun _=>⟨fun h=>?_,fun h0=>⟨fun h=>?_,fun h1=>?_⟩⟩⟩
 ·exact aNF (.inl (by rw[tP (.inr (.inl h))];exact Int.le_refl _))
 ·refine aNF (.inl ?_)
  cases hc:jS c.1 c.2.1
  ·rw[tP (.inl hc)];exact Int.le_refl _
  ·rw[aAO hc] at h
   rw[tP (.inr (.inr (by omega)))];exact Int.le_refl _
 have hc:=bKB h0 h1
 rw[aAO hc] at h1 ⊢
 have hrb:=(bCL hc h0 (by omega)).2.1
 (repeat' first|intro _|(with_reducible apply And.intro))
 all_goals first|omega|exact hp|exact aNF (by omega)|skip
 all_goals have hq1:=bHU (k:=min micro ((c.2.1.length:Int)+1 - s)) (v:=jW c s) (by omega) (by omega) (by omega) (by omega)
 all_goals have hq2:=bHU (k:=micro) (v:=jW c s) (by omega) (by omega) (by omega) (by omega)
 all_goals first|omega|exact yJ hrb (by omega) (by omega) (by omega) (if_pos (by assumption)).symm (if_pos (by assumption)).symm|exact yJ hrb (by omega) (by omega) (by omega) (if_neg (by assumption)).symm (if_pos (by assumption)).symm|exact rG hrb (by omega) (by omega) (by omega) (if_pos (by assumption)).symm (by assumption)|exact rG hrb (by omega) (by omega) (by omega) (if_neg (by assumption)).symm (by assumption)|exact yJ hrb (by omega) (by omega) (by omega) (if_pos (by assumption)).symm (if_pos ((sF (by omega) (by omega)).symm.trans (by assumption))).symm|exact yJ hrb (by omega) (by omega) (by omega) (if_neg (by assumption)).symm (if_pos ((sF (by omega) (by omega)).symm.trans (by assumption))).symm|exact rG hrb (by omega) (by omega) (by omega) (if_pos (by assumption)).symm ((sF (by omega) (by omega)).symm.trans (by assumption))|exact rG hrb (by omega) (by omega) (by omega) (if_neg (by assumption)).symm ((sF (by omega) (by omega)).symm.trans (by assumption))|exact rG hrb (by omega) (by omega) (by omega) (if_pos (by assumption)).symm (aIA (by omega)).symm|exact rG hrb (by omega) (by omega) (by omega) (if_neg (by assumption)).symm (aIA (by omega)).symm|skip
theorem aYR:Con.Holds Tryz.prog sK:=aS aV (aH rR (aH aA4 (aH aL3 (aH aMH (aH aDS aT))))) aZJ bAG
def uD:Con:=⟨157,aC,.bool,[.val ⟨true,aC,[]⟩],[⟨false,.bool,[0]⟩],false,none,
 ((fun x=>fF x):(bI)→Prop),
 ((fun x=>qV x):(bI)→(Bool))⟩
def aE4:T :=
 .bPA (.bPD 3 tI) (aK aC 4 (.Z 0)) <|
 .bPA (.bPD 3 tI) (aK aC 1 (.Z 0)) <|
 .bPA (.cmp .neq .i64) (.bPB tI tI (.Z 1) (.Z 2)) <|
 .ite (.Z 3) (
  .ret (.cb false)) (
  .bPA (.bPD 3 tI) (aK aC 4 (.Z 0)) <|
  .loop tI (.ci .i64 0) <|
   .bPA (.cmp .lss .i64) (.bPB tI tI (.Z 5) (.Z 4)) <|
   .ite (.Z 6) (
    .bPA (.bPE 3 tI) (.bPB aB tI (aK aC 4 (.Z 0)) (.Z 5)) <|
    .bPA (.cmp .lss .i64) (.bPB tI tI (.Z 7) (.ci .i64 1)) <|
    .ite (.Z 8) (
     .ret (.cb false)) (
     .bPA (.cmp .gtr .i64) (.bPB tI tI (.Z 7) (.ci .i64 5)) <|
     .ite (.Z 9) (
      .ret (.cb false)) (
      .bPA (.ar .add .i64) (.bPB tI tI (.Z 5) (.ci .i64 1)) <|
      .bPC 0 (.Z 10)))) (
    .ret (.cb true)))
theorem bC2:bN Tryz.prog [] uD false 3000 ⟨[(2988,2005,iL 12 5++[.dr 1,.dr 0,.tm 15 0])],[]⟩ = .ok aE4:=by kernel_rfl
theorem bA0 (x:bI) (hx:okD aC x) (hp:(fun x=>fF x) x):aE4.wp [] [⟨aC,x⟩] [] (fun v=>v.as .bool=(fun x=>qV x) x):=by
 have hp:fF x:=hp
 delta aE4;refine dD ?_
 refine dM ?_
 refine fun _ _=>⟨fun h=>(bE1 (by omega)).symm,fun h _=>?_⟩
 refine rL (fun k=>(k:Int)) (fun k=>(List.take k x.2.2.2.2.1).all (fun n=>decide (1≤n∧n≤5))=true) (List.length x.2.2.2.2.1) rfl rfl fun I μ k hk hG _ go=>?_
 try dsimp only
 refine dM ?_
 constructor
 ·intro hlt
  have hk':k<List.length x.2.2.2.2.1:=by omega
  have e:=mV (fun n:Int=>decide (1≤n∧n≤5)) x.2.2.2.2.1 hk'
  have hl:=hp.2.2.2.1
  simp only[aZ hk']
  (repeat' first|intro _|(refine go _ ?_ ?_ ?_)|(refine go _ ?_ ?_)|(with_reducible apply And.intro))
  all_goals first|omega|exact (bCJ hk' (by omega)).symm|(rw[e,hG,Bool.true_and];exact decide_eq_true ⟨by omega,by omega⟩)|rfl
 ·intro hge
  exact (bIL (by omega) (aJO hG (by omega))).symm
theorem aXV:Con.Holds Tryz.prog uD:=aS aV aT bC2 bA0
def oH:Con:=⟨158,(.bP9 aC tI),.bool,[.val ⟨true,aC,[]⟩,.val ⟨false,tI,[]⟩],[⟨false,.bool,[0]⟩],false,none,
 ((fun x=>fF x.1):(bI × Int)→Prop),
 ((fun x=>lF x.1 x.2):(bI × Int)→(Bool))⟩
def yX:T :=
 .bPA (.bPD 3 tI) (aQ aC 5 (.p1 aC tI (.Z 0))) <|
 .call 0 (.p1 aC tI (.Z 0)) <|
 .bPA (.cmp .neq .i64) (.bPB tI tI (.Z 1) (.Z 2)) <|
 .ite (.Z 3) (
  .ret (.cb false)) (
  .bPA (.bPD 3 tI) (aQ aC 5 (.p1 aC tI (.Z 0))) <|
  .loop tI (.ci .i64 0) <|
   .bPA (.cmp .lss .i64) (.bPB tI tI (.Z 5) (.Z 4)) <|
   .ite (.Z 6) (
    .bPA (.bPE 3 tI) (.bPB aB tI (aQ aC 5 (.p1 aC tI (.Z 0))) (.Z 5)) <|
    .call 1 (bG (.bP9 aC aP) [(.p1 aC tI (.Z 0)),(.Z 5),(aQ (.bP9 aC tI) 1 (.Z 0))]) <|
    .bPA (.cmp .lss .i64) (.bPB tI tI (.Z 7) (.Z 8)) <|
    .ite (.Z 9) (
     .ret (.cb false)) (
     .bPA (.cmp .gtr .i64) (.bPB tI tI (.Z 7) (.ci .i64 100000)) <|
     .ite (.Z 10) (
      .ret (.cb false)) (
      .bPA (.ar .add .i64) (.bPB tI tI (.Z 5) (.ci .i64 1)) <|
      .bPC 0 (.Z 11)))) (
    .ret (.cb true)))
theorem aSD:bN Tryz.prog [dP,sK] oH false 3000 ⟨[(2988,2005,iL 13 7++[.dr 0,.tm 16 0])],[]⟩ = .ok yX:=by kernel_rfl
theorem aR0 (x:bI × Int) (hx:okD (.bP9 aC tI) x) (hp:(fun x=>fF x.1) x):yX.wp [dP,sK] [⟨(.bP9 aC tI),x⟩] [] (fun v=>v.as .bool=(fun x=>lF x.1 x.2) x):=by
 obtain ⟨c,m⟩:=x
 have hp:fF c:=hp
 delta yX dP sK;refine dD ?_
 refine dM ?_
 refine fun _=>⟨⟨hp.1,hp.2.1⟩,fun _=>⟨fun h=>(bKY h).symm,fun h _=>?_⟩⟩
 refine rL (fun k=>(k:Int)) (fun k=>∀ i,i<k→bDG c m i=true) (List.length c.2.2.2.2.2) rfl (fun i hi=>absurd hi (Nat.not_lt_zero _)) fun I μ k hk hG _ go=>?_
 try dsimp only
 refine dM ?_
 constructor
 ·intro hlt
  have hk':k<List.length c.2.2.2.2.2:=by omega
  have hl:List.length c.2.2.2.2.2≤1000000000:=hp.2.2.2.2
  (repeat' first|intro _|(refine go _ ?_ ?_ ?_)|(refine go _ ?_ ?_)|(with_reducible apply And.intro))
  all_goals first|omega|exact hp|exact (bIK hk' (fun hh=>by have h1:tX c (k:Int) m≤List.getD c.2.2.2.2.2 k (aX tI):=hh.1;have h2:List.getD c.2.2.2.2.2 k (aX tI)≤100000:=hh.2;omega)).symm|exact vG hG (decide_eq_true ⟨by assumption,by assumption⟩) _ (by assumption)|rfl|skip
 ·intro hge
  exact (bNR (by omega) fun i hi=>hG i (by omega)).symm
theorem aTD:Con.Holds Tryz.prog oH:=aS aV (aH rR (aH aYR aT)) aSD aR0
def kF:Con:=⟨96,(.bP9 aC aM),tI,[.val ⟨true,aC,[]⟩,.val ⟨false,aM,[]⟩],[⟨false,tI,[0]⟩],false,none,
 ((fun x=>fF x.1):(bI × dI)→Prop),
 ((fun x=>eL x.1 x.2):(bI × dI)→(Int))⟩
def aI6:T:=.call 0 (.p1 aC aM (.Z 0)) <|.call 1 (.p1 aE (.bP9 aB (.bP9 tI (.bP9 bW aI))) (.p1 aC aM (.Z 0))) <|
 .bPA .not (.Z 2) <|
 .ite (.Z 3) (
  .ret (.ci .i64 1)) (
  .call 2 (.bPB aE aM (.p1 aE (.bP9 aB (.bP9 tI (.bP9 bW aI))) (.p1 aC aM (.Z 0))) (aQ (.bP9 aC aM) 1 (.Z 0))) <|
  .bPA .not (.Z 4) <|
  .ite (.Z 5) (
   .ret (.ci .i64 2)) (
   .bPA (.cmp .eql .i64) (.bPB tI tI (.Z 1) (.ci .i64 0)) <|
   .ite (.Z 6) (
    .ret (.ci .i64 3)) (
    .bPA (.cmp .gtr .i64) (.bPB tI tI (.Z 1) (.ci .i64 4)) <|
    .ite (.Z 7) (
     .ret (.ci .i64 3)) (
     .bPA (.cmp .neq .i64) (.bPB tI tI (aK aC 2 (.p1 aC aM (.Z 0))) (.ci .i64 1)) <|
     .ite (.Z 8) (
      .bPA (.cmp .neq .i64) (.bPB tI tI (aK aC 2 (.p1 aC aM (.Z 0))) (.ci .i64 2)) <|
      .ite (.Z 9) (
       .ret (.ci .i64 4)) (
       .bPA (.bPD 4 .bool) (aK aC 3 (.p1 aC aM (.Z 0))) <|
       .bPA (.cmp .neq .i64) (.bPB tI tI (.Z 10) (.Z 1)) <|
       .ite (.Z 11) (
        .ret (.ci .i64 5)) (
        .call 3 (.p1 aC aM (.Z 0)) <|
        .bPA .not (.Z 12) <|
        .ite (.Z 13) (
         .ret (.ci .i64 6)) (
         .bPA (.bPD 126 aI) (aQ (.bP9 aC aM) 1 (.Z 0)) <|
         .call 4 (.bPB aC tI (.p1 aC aM (.Z 0)) (.Z 14)) <|
         .bPA .not (.Z 15) <|
         .ite (.Z 16) (
          .ret (.ci .i64 7)) (
          .ret (.ci .i64 0)))))) (
      .bPA (.bPD 4 .bool) (aK aC 3 (.p1 aC aM (.Z 0))) <|
      .bPA (.cmp .neq .i64) (.bPB tI tI (.Z 9) (.Z 1)) <|
      .ite (.Z 10) (
       .ret (.ci .i64 5)) (
       .call 3 (.p1 aC aM (.Z 0)) <|
       .bPA .not (.Z 11) <|
       .ite (.Z 12) (
        .ret (.ci .i64 6)) (
        .bPA (.bPD 126 aI) (aQ (.bP9 aC aM) 1 (.Z 0)) <|
        .call 4 (.bPB aC tI (.p1 aC aM (.Z 0)) (.Z 13)) <|
        .bPA .not (.Z 14) <|
        .ite (.Z 15) (
         .ret (.ci .i64 7)) (
         .ret (.ci .i64 0)))))))))
theorem bG0:bN Tryz.prog [dP,bT,qB,uD,oH] kF false 3000 ⟨[],[]⟩ = .ok aI6:=by kernel_rfl
theorem bF5 (x:bI × dI) (hx:okD (.bP9 aC aM) x) (hp:(fun x=>fF x.1) x):aI6.wp [dP,bT,qB,uD,oH] [⟨(.bP9 aC aM),x⟩] [] (fun v=>v.as tI=(fun x=>eL x.1 x.2) x):=by
 obtain ⟨c,b⟩:=x
 have hp:fF c:=hp
 have hs:=bET c.1 c.2.1
 delta aI6 dP bT qB uD oH;refine dD ?_
 (refine dM ?_;try with_reducible exact True.intro)
 (repeat' first|intro _|(with_reducible apply And.intro))
 all_goals first|omega|exact hp|exact hp.1|exact hp.2.1|exact bNZ (by assumption)|exact bOJ (by assumption) (by assumption)|exact bLZ (by assumption) (by assumption) (by omega)|exact bNU (by assumption) (by assumption) (by omega) (by omega)|exact bOL (by assumption) (by assumption) (by omega) (by omega) (by assumption)|exact bMI (by assumption) (by assumption) (by omega) (by omega) (by assumption) (by assumption)|exact bN5 (by assumption) (by assumption) (by omega) (by omega) (by assumption) (by assumption) (by assumption)|exact bP3 (by assumption) (by assumption) (by omega) (by omega) (by assumption) (by assumption) (by assumption)|skip
theorem aIF:Con.Holds Tryz.prog kF:=aS aV (aH rR (aH iI (aH aTK (aH aXV (aH aTD aT))))) bG0 bF5
def iG:Con:=⟨243,(.bP9 aC tI),tI,[.val ⟨true,aC,[]⟩,.val ⟨false,tI,[]⟩],[⟨false,tI,[0]⟩],false,none,
 ((fun x=>fF x.1):(bI × Int)→Prop),
 ((fun x=>oW x.1 x.2):(bI × Int)→(Int))⟩
def wP:T:=.call 0 (bG (.bP9 aE (.bP9 aB tI)) [(.p1 aE (.bP9 aB (.bP9 tI (.bP9 bW aI))) (.p1 aC tI (.Z 0))),(aK aC 1 (.p1 aC tI (.Z 0))),(aQ (.bP9 aC tI) 1 (.Z 0))]) <|.loop aP (.bPB tI tI (.p1 tI tI (.Z 1)) (.ci .i64 0)) <|
 .bPA (.cmp .lss .i64) (.bPB tI tI (.p1 tI tI (.Z 2)) (aQ aP 1 (.Z 1))) <|
 .ite (.Z 3) (
  .bPA (.bPE 219 bD) (.bPB aE tI (.p1 aE (.bP9 aB (.bP9 tI (.bP9 bW aI))) (.p1 aC tI (.Z 0))) (.p1 tI tI (.Z 2))) <|
  .bPA (.ar .add .i64) (.bPB tI tI (aQ aP 1 (.Z 2)) (aK bD 1 (.Z 4))) <|
  .bPA (.ar .add .i64) (.bPB tI tI (.p1 tI tI (.Z 2)) (.ci .i64 1)) <|
  .bPC 0 (.bPB tI tI (.Z 6) (.Z 5))) (
  .bPA (.cmp .gtr .i64) (.bPB tI tI (aQ aP 1 (.Z 1)) (.p1 tI tI (.Z 1))) <|
  .ite (.Z 4) (
   .bPA (.ar .sub .i64) (.bPB tI tI (aQ aP 1 (.Z 1)) (.ci .i64 1)) <|
   .bPA (.bPE 219 bD) (.bPB aE tI (.p1 aE (.bP9 aB (.bP9 tI (.bP9 bW aI))) (.p1 aC tI (.Z 0))) (.Z 5)) <|
   .bPA (.ar .add .i64) (.bPB tI tI (aQ aP 1 (.Z 2)) (aK bD 2 (.Z 6))) <|
   .ret (.Z 7)) (
   .ret (aQ aP 1 (.Z 2))))
theorem aO7:bN Tryz.prog [cV] iG false 3000 ⟨[(2989,1002,iL 18 16++[.dr 9]++iL 15 10++[.dr 0,.dr 1,.tm 8 0,.tm 7 0])],[]⟩ = .ok wP:=by kernel_rfl
theorem aOJ (x:bI × Int) (hx:okD (.bP9 aC tI) x) (hp:(fun x=>fF x.1) x):wP.wp [cV] [⟨(.bP9 aC tI),x⟩] [] (fun v=>v.as tI=(fun x=>oW x.1 x.2) x):=by
 have hp:fF x.1:=hp
 have hr:=rT x.1.1 x.1.2.1 x.2
 have hml:List.length x.1.1≤1000000000:=hp.1.1
 have hb:=aK8 x.1 x.2
 delta wP cV;refine dD ?_
 refine dM ?_
 refine ⟨⟨hp.1,hp.2.1⟩,fun _=>?_⟩
 refine cJ (fun k=>((bE x.1.1 x.1.2.1 x.2).1+(k:Int),rK x.1.1 (bE x.1.1 x.1.2.1 x.2).1 k)) ((bE x.1.1 x.1.2.1 x.2).2 - (bE x.1.1 x.1.2.1 x.2).1).toNat (Prod.ext (Int.add_zero _).symm rfl) fun I μ k hk _ go=>?_
 dsimp only
 refine dM ?_
 constructor
 ·intro hlt
  have hm:=(hr.2.2.2 (by omega)).1
  have hl:=((bY _).1 hm).2.1
  have h1:=aJU hm hr.1 k (by omega)
  have h2:=aLR hm (i:=(bE x.1.1 x.1.2.1 x.2).1+(k:Int)) (by omega) (by omega)
  have e:rK x.1.1 (bE x.1.1 x.1.2.1 x.2).1 (k+1)=rK x.1.1 (bE x.1.1 x.1.2.1 x.2).1 k+aH1 x.1.1 ((bE x.1.1 x.1.2.1 x.2).1+(k:Int)):=rfl
  rw[show (List.getD x.1.1 ((bE x.1.1 x.1.2.1 x.2).1+(k:Int)).toNat (aX bD)).2.1=aH1 x.1.1 ((bE x.1.1 x.1.2.1 x.2).1+(k:Int)) from rfl]
  (repeat' first|intro _|(refine go _ ?_ ?_ ?_)|(refine go _ ?_ ?_)|(with_reducible apply And.intro))
  all_goals first|omega|(refine Prod.ext ?_ ?_ <;> refine @Eq.trans Int _ _ _ ?_ rfl <;> dsimp only <;> omega)|skip
 ·intro hge
  have e:k=((bE x.1.1 x.1.2.1 x.2).2 - (bE x.1.1 x.1.2.1 x.2).1).toNat:=by omega
  subst e
  have e9:oW x.1 x.2=rK x.1.1 (bE x.1.1 x.1.2.1 x.2).1 ((bE x.1.1 x.1.2.1 x.2).2 - (bE x.1.1 x.1.2.1 x.2).1).toNat+tB x.1 x.2:=rfl
  rw[show (List.getD x.1.1 ((bE x.1.1 x.1.2.1 x.2).2 - 1).toNat (aX bD)).2.2.1=aGN x.1.1 ((bE x.1.1 x.1.2.1 x.2).2 - 1) from rfl]
  by_cases hq:(bE x.1.1 x.1.2.1 x.2).1<(bE x.1.1 x.1.2.1 x.2).2
  ·have e8:tB x.1 x.2=aGN x.1.1 ((bE x.1.1 x.1.2.1 x.2).2 - 1):=if_pos hq
   rw[← e8]
   (repeat' first|intro _|(with_reducible apply And.intro))
   all_goals first|omega|exact e9.symm|skip
  ·have e8:tB x.1 x.2=0:=if_neg hq
   (repeat' first|intro _|(with_reducible apply And.intro))
   all_goals first|omega|(rw[e9,e8,Int.add_zero])|skip
theorem aDH:Con.Holds Tryz.prog iG:=aS aV (aH oF aT) aO7 aOJ
def mE:Con:=⟨242,(.bP9 aC tI),tI,[.val ⟨true,aC,[]⟩,.val ⟨false,tI,[]⟩],[⟨false,tI,[0]⟩],false,none,
 ((fun x=>fF x.1):(bI × Int)→Prop),
 ((fun x=>jW x.1 x.2):(bI × Int)→(Int))⟩
def sN:T:=.call 0 (bG (.bP9 aE (.bP9 aB tI)) [(.p1 aE (.bP9 aB (.bP9 tI (.bP9 bW aI))) (.p1 aC tI (.Z 0))),(aK aC 1 (.p1 aC tI (.Z 0))),(aQ (.bP9 aC tI) 1 (.Z 0))]) <|
 .bPA (.cmp .gtr .i64) (.bPB tI tI (aQ aP 1 (.Z 1)) (.p1 tI tI (.Z 1))) <|
 .ite (.Z 2) (
  .bPA (.bPD 4 .bool) (aK aC 3 (.p1 aC tI (.Z 0))) <|
  .bPA (.cmp .lss .i64) (.bPB tI tI (aQ (.bP9 aC tI) 1 (.Z 0)) (.Z 3)) <|
  .ite (.Z 4) (
   .bPA (.bPE 4 .bool) (.bPB bW tI (aK aC 3 (.p1 aC tI (.Z 0))) (aQ (.bP9 aC tI) 1 (.Z 0))) <|
   .ite (.Z 5) (
    .bPA (.bPE 219 bD) (.bPB aE tI (.p1 aE (.bP9 aB (.bP9 tI (.bP9 bW aI))) (.p1 aC tI (.Z 0))) (.p1 tI tI (.Z 1))) <|
    .ret (aK bD 1 (.Z 6))) (
    .call 1 (.Z 0) <|
    .ret (.Z 6))) (
   .call 1 (.Z 0) <|
   .ret (.Z 5))) (
  .call 1 (.Z 0) <|
  .ret (.Z 3))
theorem aM3:bN Tryz.prog [cV,iG] mE false 3000 ⟨[],[]⟩ = .ok sN:=by kernel_rfl
theorem aMD (x:bI × Int) (hx:okD (.bP9 aC tI) x) (hp:(fun x=>fF x.1) x):sN.wp [cV,iG] [⟨(.bP9 aC tI),x⟩] [] (fun v=>v.as tI=(fun x=>jW x.1 x.2) x):=by
 have hp:fF x.1:=hp
 have hr:=rT x.1.1 x.1.2.1 x.2
 have hml:List.length x.1.1≤1000000000:=hp.1.1
 have red:oG x.1 x.2=true∨oG x.1 x.2=false:=by cases oG x.1 x.2 <;> simp
 have none_:(bE x.1.1 x.1.2.1 x.2).2≤(bE x.1.1 x.1.2.1 x.2).1→oW x.1 x.2=jW x.1 x.2:=fun h=>by
  have e0:=bDP (c:=x.1) (s:=x.2) (by omega)
  rcases red with h1|h1
  ·rw[← aSA h1]
   have e1:inF x.1 x.2=0:=(congrArg Prod.fst e0).symm
   have e2:tB x.1 x.2=0:=(congrArg Prod.snd e0).symm
   unfold oW
   rw[e1,e2,show ((bE x.1.1 x.1.2.1 x.2).2 - (bE x.1.1 x.1.2.1 x.2).1).toNat=0 by omega];rfl
  ·exact aK0 h1
 have redo_t:(bE x.1.1 x.1.2.1 x.2).1<(bE x.1.1 x.1.2.1 x.2).2→oG x.1 x.2=true→aH1 x.1.1 (bE x.1.1 x.1.2.1 x.2).1=jW x.1 x.2:=fun h h1=>by
  rw[← aSA h1];exact congrArg Prod.fst (bDY h)
 delta sN cV iG;refine dD ?_
 refine dM ?_
 refine ⟨⟨hp.1,hp.2.1⟩,fun _=>⟨fun hlt _=>?_,fun h=>⟨hp,fun _=>none_ h⟩⟩⟩
 have h0:=(hr.2.2.2 hlt).2.2.1
 refine ⟨fun hl=>⟨by omega,fun h=>⟨by omega,fun _=>?_⟩,fun h=>⟨hp,fun _=>?_⟩⟩,fun h=>⟨hp,fun _=>aK0 (aIA (.inr h)).symm⟩⟩
 ·exact redo_t hlt ((sF h0 hl).symm.trans h)
 ·exact aK0 ((sF h0 hl).symm.trans h)
theorem aM0:Con.Holds Tryz.prog mE:=aS aV (aH oF (aH aDH aT)) aM3 aMD
def uM:Con:=⟨154,(.bP9 aC aP),tI,[.val ⟨true,aC,[]⟩,.val ⟨false,tI,[]⟩,.val ⟨false,tI,[]⟩],[⟨false,tI,[0]⟩],false,none,
 ((fun x=>fF x.1):(bI × gI)→Prop),
 ((fun x=>tX x.1 x.2.1 x.2.2):(bI × gI)→(Int))⟩
def aFN:T:=.call 0 (bG (.bP9 aE (.bP9 aB tI)) [(.p1 aE (.bP9 aB (.bP9 tI (.bP9 bW aI))) (.p1 aC aP (.Z 0))),(aK aC 1 (.p1 aC aP (.Z 0))),(aK (.bP9 aC aP) 1 (.Z 0))]) <|
 .bPA (.cmp .leq .i64) (.bPB tI tI (aQ aP 1 (.Z 1)) (.p1 tI tI (.Z 1))) <|
 .ite (.Z 2) (
  .ret (.ci .i64 0)) (
  .call 1 (bG (.bP9 tI aP) [(aQ (.bP9 aC aP) 2 (.Z 0)),(.ci .i64 1),(.ci .i64 5)]) <|
  .bPA .not (.Z 3) <|
  .ite (.Z 4) (
   .ret (.ci .i64 0)) (
   .bPA (.bPD 3 tI) (aK aC 1 (.p1 aC aP (.Z 0))) <|
   .bPA (.ar .add .i64) (.bPB tI tI (.Z 5) (.ci .i64 1)) <|
   .call 1 (bG (.bP9 tI aP) [(.Z 6),(.ci .i64 1),(.ci .i64 4)]) <|
   .bPA .not (.Z 7) <|
   .ite (.Z 8) (
    .ret (.ci .i64 0)) (
    .bPA (.cmp .eql .i64) (.bPB tI tI (aK aC 2 (.p1 aC aP (.Z 0))) (.ci .i64 2)) <|
    .ite (.Z 9) (
     .bPA (.bPD 3 tI) (aK aC 1 (.p1 aC aP (.Z 0))) <|
     .bPA (.ar .add .i64) (.bPB tI tI (.Z 10) (.ci .i64 1)) <|
     .bPA (.ar .sub .i64) (.bPB tI tI (.Z 11) (aK (.bP9 aC aP) 1 (.Z 0))) <|
     .bPA (.mn .i64) (.bPB tI tI (aQ (.bP9 aC aP) 2 (.Z 0)) (.Z 12)) <|
     .bPA (.ar .sub .i64) (.bPB tI tI (aQ aP 1 (.Z 1)) (.ci .i64 1)) <|
     .bPA (.bPE 219 bD) (.bPB aE tI (.p1 aE (.bP9 aB (.bP9 tI (.bP9 bW aI))) (.p1 aC aP (.Z 0))) (.p1 tI tI (.Z 1))) <|
     .bPA (.bPE 219 bD) (.bPB aE tI (.p1 aE (.bP9 aB (.bP9 tI (.bP9 bW aI))) (.p1 aC aP (.Z 0))) (.Z 14)) <|
     .bPA (.mx .i64) (.bPB tI tI (aK bD 1 (.Z 15)) (aK bD 2 (.Z 16))) <|
     .call 2 (.bPB aC tI (.p1 aC aP (.Z 0)) (aK (.bP9 aC aP) 1 (.Z 0))) <|
     .bPA (.ar .mul .i64) (.bPB tI tI (.Z 13) (.Z 18)) <|
     .bPA (.ar .add .i64) (.bPB tI tI (.Z 19) (.Z 17)) <|
     .bPA (.bPD 4 .bool) (aK aC 3 (.p1 aC aP (.Z 0))) <|
     .bPA (.cmp .lss .i64) (.bPB tI tI (aK (.bP9 aC aP) 1 (.Z 0)) (.Z 21)) <|
     .ite (.Z 22) (
      .bPA (.bPE 4 .bool) (.bPB bW tI (aK aC 3 (.p1 aC aP (.Z 0))) (aK (.bP9 aC aP) 1 (.Z 0))) <|
      .ite (.Z 23) (
       .call 3 (.bPB aC tI (.p1 aC aP (.Z 0)) (aK (.bP9 aC aP) 1 (.Z 0))) <|
       .bPA (.ar .add .i64) (.bPB tI tI (.Z 20) (.Z 24)) <|
       .ret (.Z 25)) (
       .ret (.Z 20))) (
      .ret (.Z 20))) (
     .bPA (.ar .sub .i64) (.bPB tI tI (aQ aP 1 (.Z 1)) (.ci .i64 1)) <|
     .bPA (.bPE 219 bD) (.bPB aE tI (.p1 aE (.bP9 aB (.bP9 tI (.bP9 bW aI))) (.p1 aC aP (.Z 0))) (.p1 tI tI (.Z 1))) <|
     .bPA (.bPE 219 bD) (.bPB aE tI (.p1 aE (.bP9 aB (.bP9 tI (.bP9 bW aI))) (.p1 aC aP (.Z 0))) (.Z 10)) <|
     .bPA (.mx .i64) (.bPB tI tI (aK bD 1 (.Z 11)) (aK bD 2 (.Z 12))) <|
     .call 2 (.bPB aC tI (.p1 aC aP (.Z 0)) (aK (.bP9 aC aP) 1 (.Z 0))) <|
     .bPA (.ar .mul .i64) (.bPB tI tI (aQ (.bP9 aC aP) 2 (.Z 0)) (.Z 14)) <|
     .bPA (.ar .add .i64) (.bPB tI tI (.Z 15) (.Z 13)) <|
     .bPA (.bPD 4 .bool) (aK aC 3 (.p1 aC aP (.Z 0))) <|
     .bPA (.cmp .lss .i64) (.bPB tI tI (aK (.bP9 aC aP) 1 (.Z 0)) (.Z 17)) <|
     .ite (.Z 18) (
      .bPA (.bPE 4 .bool) (.bPB bW tI (aK aC 3 (.p1 aC aP (.Z 0))) (aK (.bP9 aC aP) 1 (.Z 0))) <|
      .ite (.Z 19) (
       .call 3 (.bPB aC tI (.p1 aC aP (.Z 0)) (aK (.bP9 aC aP) 1 (.Z 0))) <|
       .bPA (.ar .add .i64) (.bPB tI tI (.Z 16) (.Z 20)) <|
       .ret (.Z 21)) (
       .ret (.Z 16))) (
      .ret (.Z 16))))))
theorem aY6:bN Tryz.prog [cV,bK,mE,iG] uM false 3000 ⟨[],[]⟩ = .ok aFN:=by kernel_rfl
theorem bBS (x:bI × gI) (hx:okD (.bP9 aC aP) x) (hp:(fun x=>fF x.1) x):aFN.wp [cV,bK,mE,iG] [⟨(.bP9 aC aP),x⟩] [] (fun v=>v.as tI=(fun x=>tX x.1 x.2.1 x.2.2) x):=by
 obtain ⟨c,s,micro⟩:=x
 have hp:fF c:=hp
 have hb:=aK8 c s
 have hr:=rT c.1 c.2.1 s
 have hml:List.length c.1≤1000000000:=hp.1.1
 delta aFN cV bK mE iG;refine dD ?_
 refine dM ?_
 refine ⟨⟨hp.1,hp.2.1⟩,fun _=>⟨fun h=>aNF (.inl h),fun hrb=>?_⟩⟩
 have h0:=(hr.2.2.2 hrb).2.2
 have hl:=hp.2.1
 have hrl:=hp.2.2.1
 have e1:inF c s=aH1 c.1 (bE c.1 c.2.1 s).1:=if_pos hrb
 have e2:tB c s=aGN c.1 ((bE c.1 c.2.1 s).2 - 1):=if_pos hrb
 rw[show (List.getD c.1 (Int.toNat (bE c.1 c.2.1 s).1) (aX bD)).2.1=inF c s from e1.symm,show (List.getD c.1 ((bE c.1 c.2.1 s).2 - 1).toNat (aX bD)).2.2.1=tB c s from e2.symm]
 (repeat' first|intro _|(with_reducible apply And.intro))
 all_goals first|omega|exact hp|exact aNF (by omega)|skip
 all_goals have hq1:=bHU (k:=min micro ((c.2.1.length:Int)+1 - s)) (v:=jW c s) (by omega) (by omega) (by omega) (by omega)
 all_goals have hq2:=bHU (k:=micro) (v:=jW c s) (by omega) (by omega) (by omega) (by omega)
 all_goals first|omega|exact yJ hrb (by omega) (by omega) (by omega) (if_pos (by assumption)).symm (if_pos (by assumption)).symm|exact yJ hrb (by omega) (by omega) (by omega) (if_neg (by assumption)).symm (if_pos (by assumption)).symm|exact rG hrb (by omega) (by omega) (by omega) (if_pos (by assumption)).symm (by assumption)|exact rG hrb (by omega) (by omega) (by omega) (if_neg (by assumption)).symm (by assumption)|exact yJ hrb (by omega) (by omega) (by omega) (if_pos (by assumption)).symm (if_pos ((sF (by omega) (by omega)).symm.trans (by assumption))).symm|exact yJ hrb (by omega) (by omega) (by omega) (if_neg (by assumption)).symm (if_pos ((sF (by omega) (by omega)).symm.trans (by assumption))).symm|exact rG hrb (by omega) (by omega) (by omega) (if_pos (by assumption)).symm ((sF (by omega) (by omega)).symm.trans (by assumption))|exact rG hrb (by omega) (by omega) (by omega) (if_neg (by assumption)).symm ((sF (by omega) (by omega)).symm.trans (by assumption))|exact rG hrb (by omega) (by omega) (by omega) (if_pos (by assumption)).symm (aIA (by omega)).symm|exact rG hrb (by omega) (by omega) (by omega) (if_neg (by assumption)).symm (aIA (by omega)).symm|skip
theorem bBR:Con.Holds Tryz.prog uM:=aS aV (aH oF (aH fM (aH aM0 (aH aDH aT)))) aY6 bBS
def nN:Con:=⟨93,(.bP9 aC aM),tI,[.val ⟨true,aC,[]⟩,.val ⟨false,aM,[]⟩],[⟨false,tI,[0]⟩],false,none,
 ((fun x=>fF x.1):(bI × dI)→Prop),
 ((fun x=>eL x.1 x.2):(bI × dI)→(Int))⟩
def aHY:T:=.call 0 (.p1 aE (.bP9 aB (.bP9 tI (.bP9 bW aI))) (.p1 aC aM (.Z 0))) <|
 .bPA .not (.Z 1) <|
 .ite (.Z 2) (
  .ret (.ci .i64 1)) (
  .call 1 (.bPB aE aM (.p1 aE (.bP9 aB (.bP9 tI (.bP9 bW aI))) (.p1 aC aM (.Z 0))) (aQ (.bP9 aC aM) 1 (.Z 0))) <|
  .bPA .not (.Z 3) <|
  .ite (.Z 4) (
   .ret (.ci .i64 2)) (
   .call 2 (.bPB aE aB (.p1 aE (.bP9 aB (.bP9 tI (.bP9 bW aI))) (.p1 aC aM (.Z 0))) (aK aC 1 (.p1 aC aM (.Z 0)))) <|
   .bPA .not (.Z 5) <|
   .ite (.Z 6) (
    .ret (.ci .i64 3)) (
    .bPA (.bPD 3 tI) (aK aC 1 (.p1 aC aM (.Z 0))) <|
    .bPA (.ar .add .i64) (.bPB tI tI (.Z 7) (.ci .i64 1)) <|
    .bPA (.cmp .gtr .i64) (.bPB tI tI (.Z 8) (.ci .i64 4)) <|
    .ite (.Z 9) (
     .ret (.ci .i64 3)) (
     .call 3 (bG (.bP9 tI aP) [(aK aC 2 (.p1 aC aM (.Z 0))),(.ci .i64 1),(.ci .i64 2)]) <|
     .bPA .not (.Z 10) <|
     .ite (.Z 11) (
      .ret (.ci .i64 4)) (
      .bPA (.bPD 4 .bool) (aK aC 3 (.p1 aC aM (.Z 0))) <|
      .bPA (.bPD 3 tI) (aK aC 1 (.p1 aC aM (.Z 0))) <|
      .bPA (.ar .add .i64) (.bPB tI tI (.Z 13) (.ci .i64 1)) <|
      .bPA (.cmp .neq .i64) (.bPB tI tI (.Z 12) (.Z 14)) <|
      .ite (.Z 15) (
       .ret (.ci .i64 5)) (
       .bPA (.bPD 3 tI) (aK aC 4 (.p1 aC aM (.Z 0))) <|
       .bPA (.bPD 3 tI) (aK aC 1 (.p1 aC aM (.Z 0))) <|
       .bPA (.cmp .neq .i64) (.bPB tI tI (.Z 16) (.Z 17)) <|
       .ite (.Z 18) (
        .ret (.ci .i64 6)) (
        .loop tI (.ci .i64 0) <|
         .bPA (.bPD 3 tI) (aK aC 4 (.p1 aC aM (.Z 0))) <|
         .bPA (.cmp .lss .i64) (.bPB tI tI (.Z 19) (.Z 20)) <|
         .ite (.Z 21) (
          .bPA (.bPE 3 tI) (.bPB aB tI (aK aC 4 (.p1 aC aM (.Z 0))) (.Z 19)) <|
          .call 3 (bG (.bP9 tI aP) [(.Z 22),(.ci .i64 1),(.ci .i64 5)]) <|
          .bPA .not (.Z 23) <|
          .ite (.Z 24) (
           .ret (.ci .i64 6)) (
           .bPA (.ar .add .i64) (.bPB tI tI (.Z 19) (.ci .i64 1)) <|
           .bPC 0 (.Z 25))) (
          .bPA (.bPD 3 tI) (aQ aC 5 (.p1 aC aM (.Z 0))) <|
          .bPA (.bPD 3 tI) (aK aC 1 (.p1 aC aM (.Z 0))) <|
          .bPA (.ar .add .i64) (.bPB tI tI (.Z 23) (.ci .i64 1)) <|
          .bPA (.cmp .neq .i64) (.bPB tI tI (.Z 22) (.Z 24)) <|
          .ite (.Z 25) (
           .ret (.ci .i64 7)) (
           .loop tI (.ci .i64 0) <|
            .bPA (.bPD 3 tI) (aQ aC 5 (.p1 aC aM (.Z 0))) <|
            .bPA (.cmp .lss .i64) (.bPB tI tI (.Z 26) (.Z 27)) <|
            .ite (.Z 28) (
             .bPA (.bPE 3 tI) (.bPB aB tI (aQ aC 5 (.p1 aC aM (.Z 0))) (.Z 26)) <|
             .bPA (.bPD 126 aI) (aQ (.bP9 aC aM) 1 (.Z 0)) <|
             .call 4 (bG (.bP9 aC aP) [(.p1 aC aM (.Z 0)),(.Z 26),(.Z 30)]) <|
             .call 3 (bG (.bP9 tI aP) [(.Z 29),(.Z 31),(.ci .i64 100000)]) <|
             .bPA .not (.Z 32) <|
             .ite (.Z 33) (
              .ret (.ci .i64 7)) (
              .bPA (.ar .add .i64) (.bPB tI tI (.Z 26) (.ci .i64 1)) <|
              .bPC 0 (.Z 34))) (
             .ret (.ci .i64 0)))))))))))
theorem bEP:bN Tryz.prog [cD,qK,iQ,bK,uM] nN false 3000 ⟨[(2963,128019,iL 47 7++[.dr 0,.tm 5 0]),(2948,512026,iL 69 62++iL 52 48++[.dr 5,.tm 6 0])],[]⟩ = .ok aHY:=by kernel_rfl
theorem bFR (x:bI × dI) (hx:okD (.bP9 aC aM) x) (hp:(fun x=>fF x.1) x):aHY.wp [cD,qK,iQ,bK,uM] [⟨(.bP9 aC aM),x⟩] [] (fun v=>v.as tI=(fun x=>eL x.1 x.2) x):=by
 obtain ⟨c,b⟩:=x
 have hp:fF c:=hp
 have hl1:=hp.2.1
 have hl2:=hp.2.2.1
 have hl3:=hp.2.2.2.1
 have hl4:List.length c.2.2.2.2.2≤1000000000:=hp.2.2.2.2
 delta aHY cD qK iQ bK uM;refine dD ?_
 refine dM ?_
 refine ⟨fun h=>bNZ h,fun h1=>⟨fun h=>bOJ h1 h,fun h2=>⟨⟨hp.1,hp.2.1⟩,fun h=>bLZ h1 h2 (.inl (aNA h)),fun hc _=>⟨by omega,fun _=>⟨fun h=>bLZ h1 h2 (.inr (by rw[aAO hc];exact h)),fun h3=>?_⟩⟩⟩⟩⟩
 have hst:=aAO hc
 have h3':¬ (bS c.1 c.2.1=0∨4<bS c.1 c.2.1):=by omega
 refine ⟨fun h=>bNU h1 h2 h3' (by omega),fun h4 _ _=>⟨by omega,fun _=>⟨fun h=>bOL h1 h2 h3' (by omega) (by omega),fun h5=>?_⟩⟩⟩
 have h4':c.2.2.1=1∨c.2.2.1=2:=by omega
 have h5':(c.2.2.2.1.length:Int)=bS c.1 c.2.1:=by omega
 refine fun _ _=>⟨fun h=>bMI h1 h2 h3' h4' h5' (bE1 (by omega)),fun h6=>?_⟩
 refine rL (fun k=>(k:Int)) (fun k=>(List.take k c.2.2.2.2.1).all (fun n=>decide (1≤n∧n≤5))=true) (List.length c.2.2.2.2.1) rfl rfl fun I μ k hk hG _ go=>?_
 try dsimp only
 refine dM ?_
 intro _
 constructor
 ·intro hlt
  have hk':k<List.length c.2.2.2.2.1:=by omega
  have e:=mV (fun n:Int=>decide (1≤n∧n≤5)) c.2.2.2.2.1 hk'
  simp only[aZ hk']
  (repeat' first|intro _|(refine go _ ?_ ?_ ?_)|(refine go _ ?_ ?_)|(with_reducible apply And.intro))
  all_goals first|omega|exact bMI h1 h2 h3' h4' h5' (bCJ hk' (by omega))|(rw[e,hG,Bool.true_and];exact decide_eq_true ⟨by omega,by omega⟩)|rfl
 intro hge
 have h6':qV c=true:=bIL (by omega) (aJO hG (by omega))
 clear go hG
 refine fun _ _=>⟨by omega,fun _=>⟨fun h=>bN5 h1 h2 h3' h4' h5' h6' (bKY (by omega)),fun h7=>?_⟩⟩
 refine rL (fun k=>(k:Int)) (fun k=>∀ i,i<k→bDG c (b.length:Int) i=true) (List.length c.2.2.2.2.2) rfl (fun i hi=>absurd hi (Nat.not_lt_zero _)) fun I μ k hk hG _ go=>?_
 try dsimp only
 refine dM ?_
 intro _
 constructor
 ·intro hlt
  have hk':k<List.length c.2.2.2.2.2:=by omega
  (repeat' first|intro _|(refine go _ ?_ ?_ ?_)|(refine go _ ?_ ?_)|(with_reducible apply And.intro))
  all_goals first|omega|exact hp|exact bN5 h1 h2 h3' h4' h5' h6' (bIK hk' (fun hh=>by have h1:tX c (k:Int) (b.length:Int)≤List.getD c.2.2.2.2.2 k (aX tI):=hh.1;have h2:List.getD c.2.2.2.2.2 k (aX tI)≤100000:=hh.2;omega))|exact vG hG (decide_eq_true (by assumption)) _ (by assumption)|exact vG hG (decide_eq_true ⟨by omega,by omega⟩) _ (by assumption)|rfl|skip
 ·intro hge
  exact bP3 h1 h2 h3' h4' h5' h6' (bNR (by omega) fun i hi=>hG i (by omega))
theorem aPR:Con.Holds Tryz.prog nN:=aS aV (aH kP (aH aTM (aH aE3 (aH fM (aH bBR aT))))) bEP bFR
end
end Go.Proofs.YtmfpkkbhnmkfdaaGreat
