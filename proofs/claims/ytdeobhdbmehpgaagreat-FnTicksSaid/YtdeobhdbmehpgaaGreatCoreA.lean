/- CoreA: lemmas. No conditions. -/
import Derived.Test.YtdeobhdbmehpgaaGreatCoreL
import Derived.Test.YtdeobhdbmehpgaaGreatTicks2
namespace Go.Proofs.YtdeobhdbmehpgaaGreat
noncomputable section
set_option maxRecDepth 100000
open Go.ChangeShapes Go.WideShapes Go.ChangeAt Go.RowKit Go.Deep
set_option linter.unusedVariables false
set_option linter.unusedSimpArgs false
def bE (m:List dJ) (c:List Int) (s:Int):Int × Int :=
 if lN m c=true∧0≤s∧s≤(c.length:Int) then ((if 0<s then c.getD (s - 1).toNat 0 else 0),(if s<(c.length:Int) then c.getD s.toNat 0 else (m.length:Int))) else (0,0)
def aIU (m:List dJ) (i:Int):Int:=(m.getD i.toNat zOp).2.1
def aFN (m:List dJ) (i:Int):Int:=(m.getD i.toNat zOp).2.2.1
def vK (m:List dJ) (a:Int):Nat→Int
 | 0=>0
 | k+1=>vK m a k+aIU m (a+(k:Int))
def vV (c:bZ) (s:Int):Int:=if (bE c.1 c.2.1 s).1<(bE c.1 c.2.1 s).2 then aFN c.1 ((bE c.1 c.2.1 s).2 - 1) else 0
def inF (c:bZ) (s:Int):Int:=if (bE c.1 c.2.1 s).1<(bE c.1 c.2.1 s).2 then aIU c.1 (bE c.1 c.2.1 s).1 else 0
def rK (c:bZ) (s:Int):Int:=vK c.1 (bE c.1 c.2.1 s).1 ((bE c.1 c.2.1 s).2 - (bE c.1 c.2.1 s).1).toNat+vV c s
def qN (c:bZ) (s:Int):Bool:=decide (0≤s∧s<(c.2.2.2.1.length:Int))&&c.2.2.2.1.getD s.toNat false
def lE (c:bZ) (s:Int):Int:=if qN c s=true then inF c s else rK c s
def nU (c:bZ) (s micro:Int):Int :=
 if (bE c.1 c.2.1 s).1<(bE c.1 c.2.1 s).2∧1≤micro∧micro≤5∧(c.2.1.length:Int)+1≤4 then
  (if c.2.2.1=2 then min micro ((c.2.1.length:Int)+1 - s) else micro) * lE c s+max (inF c s) (vV c s)+(if qN c s=true then rK c s else 0) else 0
def sD (c:bZ):Bool:=decide (c.2.2.2.2.1.length=c.2.1.length)&&c.2.2.2.2.1.all fun n=>decide (1≤n∧n≤5)
def bBH (c:bZ) (micro:Int) (s:Nat):Bool:=decide (nU c (s:Int) micro≤c.2.2.2.2.2.getD s 0∧c.2.2.2.2.2.getD s 0≤100000)
def nN (c:bZ) (micro:Int):Bool:=decide ((c.2.2.2.2.2.length:Int)=bV c.1 c.2.1)&&(List.range c.2.2.2.2.2.length).all (bBH c micro)
def eQ (c:bZ) (b:List bP):Int :=
 if bW c.1=false then 1 else if eN c.1 b=false then 2 else if bV c.1 c.2.1=0∨4<bV c.1 c.2.1 then 3 else if ¬ (c.2.2.1=1∨c.2.2.1=2) then 4
 else if ¬ (c.2.2.2.1.length:Int)=bV c.1 c.2.1 then 5 else if sD c=false then 6 else if nN c (b.length:Int)=false then 7 else 0
theorem aJ4 {m:List dJ} {c:List Int} {s:Int} (h:lN m c=false∨s<0∨(c.length:Int)<s):bE m c s=(0,0):=by
 unfold bE;rw[if_neg]
 rintro ⟨h1,h2,h3⟩
 rcases h with h|h|h
 ·rw[h] at h1;cases h1
 ·omega
 ·omega
theorem vN {m:List dJ} {c:List Int} {s:Int} (h1:lN m c=true) (h2:0≤s) (h3:s≤(c.length:Int)):bE m c s=((if 0<s then c.getD (s - 1).toNat 0 else 0),(if s<(c.length:Int) then c.getD s.toNat 0 else (m.length:Int))):=if_pos ⟨h1,h2,h3⟩
theorem bK8 {m:List dJ} {c:List Int} {s:Int} (h1:lN m c=true) (h2:0≤s) (h3:s≤(c.length:Int)):0≤(bE m c s).1∧(bE m c s).1<(bE m c s).2∧(bE m c s).2≤(m.length:Int):=by
 obtain ⟨hm,hc⟩:=(wK m c).1 h1
 have hm1:=((bR m).1 hm).1
 rw[vN h1 h2 h3]
 dsimp only
 by_cases ha:0<s
 ·have e1:=(aBP c m.length (show (s - 1).toNat<c.length by omega)).1 (hc _ (by omega))
  rw[if_pos ha,aZ (show (s - 1).toNat<c.length by omega)]
  by_cases hb:s<(c.length:Int)
  ·have e2:=(aBP c m.length (show s.toNat<c.length by omega)).1 (hc _ (by omega))
   rw[if_pos hb,aZ (show s.toNat<c.length by omega)]
   have e3:(s - 1).toNat=s.toNat - 1:=by omega
   have e4:c[(s - 1).toNat]'(by omega)=c[s.toNat - 1]'(by omega):=by congr 1
   rw[e4] at e1 ⊢
   omega
  ·rw[if_neg hb];omega
 ·rw[if_neg ha]
  by_cases hb:s<(c.length:Int)
  ·have e2:=(aBP c m.length (show s.toNat<c.length by omega)).1 (hc _ (by omega))
   rw[if_pos hb,aZ (show s.toNat<c.length by omega)]
   omega
  ·rw[if_neg hb];omega
theorem aFD (m:List dJ) (c:List Int) (s:Int):0≤(bE m c s).1∧(bE m c s).1≤(bE m c s).2∧(bE m c s).2≤(m.length:Int)∧((bE m c s).1<(bE m c s).2→bW m=true∧lN m c=true∧0≤s∧s≤(c.length:Int)):=by
 by_cases h:lN m c=true∧0≤s∧s≤(c.length:Int)
 ·have hb:=bK8 h.1 h.2.1 h.2.2
  exact ⟨hb.1,by omega,hb.2.2,fun _=>⟨((wK m c).1 h.1).1,h⟩⟩
 ·have e:bE m c s=(0,0):=if_neg h
  rw[e]
  exact ⟨Int.le_refl _,Int.le_refl _,by show (0:Int)≤_;omega,fun h=>absurd h (Int.lt_irrefl _)⟩
theorem aQL {m:List dJ} (h:bW m=true) {i:Int} (h0:0≤i) (h1:i<(m.length:Int)):1≤aIU m i∧aIU m i≤6∧1≤aFN m i∧aFN m i≤6:=by
 have hk:i.toNat<m.length:=by omega
 have h2:=(wC m hk).1 (((bR m).1 h).2.2 _ hk)
 have h3:=((hK _).1 h2.1).1
 unfold aIU aFN
 rw[aZ hk]
 omega
theorem aQV {m:List dJ} (h:bW m=true) {a:Int} (h0:0≤a):(k:Nat)→a+(k:Int)≤(m.length:Int)→0≤vK m a k∧vK m a k≤6 * (k:Int)
 | 0,_=>by unfold vK;omega
 | k+1,hk=>by
  have h1:=aQV h h0 k (by omega)
  have h2:=aQL h (i:=a+(k:Int)) (by omega) (by omega)
  unfold vK;omega
theorem aWS (c:bZ) (s:Int):0≤inF c s∧inF c s≤6∧0≤vV c s∧vV c s≤6∧0≤rK c s∧rK c s≤54∧0≤lE c s∧lE c s≤54:=by
 obtain ⟨h0,h1,h2,h3⟩:=aFD c.1 c.2.1 s
 by_cases h:(bE c.1 c.2.1 s).1<(bE c.1 c.2.1 s).2
 ·obtain ⟨hm,-⟩:=h3 h
  have hl:=((bR _).1 hm).2.1
  have a1:=aQL hm (i:=(bE c.1 c.2.1 s).1) h0 (by omega)
  have a2:=aQL hm (i:=(bE c.1 c.2.1 s).2 - 1) (by omega) (by omega)
  have a3:=aQV hm h0 ((bE c.1 c.2.1 s).2 - (bE c.1 c.2.1 s).1).toNat (by omega)
  have e1:inF c s=aIU c.1 (bE c.1 c.2.1 s).1:=if_pos h
  have e2:vV c s=aFN c.1 ((bE c.1 c.2.1 s).2 - 1):=if_pos h
  have e3:rK c s=vK c.1 (bE c.1 c.2.1 s).1 ((bE c.1 c.2.1 s).2 - (bE c.1 c.2.1 s).1).toNat+vV c s:=rfl
  have e4:lE c s=if qN c s=true then inF c s else rK c s:=rfl
  split at e4 <;> omega
 ·have e1:inF c s=0:=if_neg h
  have e2:vV c s=0:=if_neg h
  have e3:rK c s=vK c.1 (bE c.1 c.2.1 s).1 ((bE c.1 c.2.1 s).2 - (bE c.1 c.2.1 s).1).toNat+vV c s:=rfl
  rw[show ((bE c.1 c.2.1 s).2 - (bE c.1 c.2.1 s).1).toNat=0 by omega] at e3
  have e5:vK c.1 (bE c.1 c.2.1 s).1 0=0:=rfl
  have e4:lE c s=if qN c s=true then inF c s else rK c s:=rfl
  split at e4 <;> omega
theorem bL4 {m:List dJ} {c:List Int} {s:Int} (h1:lN m c=true) (h2:0<s) (h3:s<(c.length:Int)):(c.getD (s - 1).toNat 0,c.getD s.toNat 0)=bE m c s:=by rw[vN h1 (by omega) (by omega),if_pos h2,if_pos h3]
theorem bJT {m:List dJ} {c:List Int} {s:Int} (h1:lN m c=true) (h2:0<s) (h3:s=(c.length:Int)):(c.getD (s - 1).toNat 0,(m.length:Int))=bE m c s:=by rw[vN h1 (by omega) (by omega),if_pos h2,if_neg (by omega)]
theorem bKT {m:List dJ} {c:List Int} {s:Int} (h1:lN m c=true) (h2:s=0) (h3:s<(c.length:Int)):(0,c.getD s.toNat 0)=bE m c s:=by rw[vN h1 (by omega) (by omega),if_neg (by omega),if_pos h3]
theorem bL3 {m:List dJ} {c:List Int} {s:Int} (h1:lN m c=true) (h2:s=0) (h3:s=(c.length:Int)):(0,(m.length:Int))=bE m c s:=by rw[vN h1 (by omega) (by omega),if_neg (by omega),if_neg (by omega)]
theorem aGI {c:bZ} {s:Int} (h0:0≤s) (h1:s<(c.2.2.2.1.length:Int)):c.2.2.2.1.getD s.toNat false=qN c s:=by unfold qN;rw[decide_eq_true ⟨h0,h1⟩,Bool.true_and]
theorem aXO {c:bZ} {s:Int} (h:s<0∨(c.2.2.2.1.length:Int)≤s):false=qN c s:=by unfold qN;rw[decide_eq_false (by omega),Bool.false_and]
theorem bKO {c:bZ} {s:Int} (h:(bE c.1 c.2.1 s).1=(bE c.1 c.2.1 s).2):(0,0)=(inF c s,vV c s):=by
 unfold inF vV;rw[if_neg (by omega),if_neg (by omega)]
theorem bJX {c:bZ} {s:Int} (h:(bE c.1 c.2.1 s).1<(bE c.1 c.2.1 s).2):(aIU c.1 (bE c.1 c.2.1 s).1,aFN c.1 ((bE c.1 c.2.1 s).2 - 1))=(inF c s,vV c s):=by
 unfold inF vV;rw[if_pos h,if_pos h]
theorem bC1 {c:bZ} {s:Int} (h:qN c s=true):inF c s=lE c s:=(if_pos h).symm
theorem aQR {c:bZ} {s:Int} (h:qN c s=false):rK c s=lE c s:=(if_neg (by rw[h];simp)).symm
theorem bJC {k v:Int} (h1:0≤k) (h2:k≤5) (h3:0≤v) (h4:v≤54):0≤k * v∧k * v≤270:=by
 refine ⟨Int.mul_nonneg h1 h3,?_⟩
 have:=Int.mul_le_mul h2 h4 h3 (by omega:(0:Int)≤5)
 omega
theorem bIB {c:bZ} {s micro:Int} (h:(bE c.1 c.2.1 s).2≤(bE c.1 c.2.1 s).1∨micro<1∨5<micro∨4<(c.2.1.length:Int)+1):0=nU c s micro:=by unfold nU;rw[if_neg (by omega)]
theorem aLG {c:bZ} {s micro k r:Int} (h1:(bE c.1 c.2.1 s).1<(bE c.1 c.2.1 s).2) (h2:1≤micro) (h3:micro≤5) (h4:(c.2.1.length:Int)+1≤4) (hk:k=if c.2.2.1=2 then min micro ((c.2.1.length:Int)+1 - s) else micro) (hr:r=if qN c s=true then rK c s else 0) :
 k * lE c s+max (inF c s) (vV c s)+r=nU c s micro:=by unfold nU;rw[if_pos ⟨h1,h2,h3,h4⟩,hk,hr]
theorem aGM {c:bZ} {s micro k:Int} (h1:(bE c.1 c.2.1 s).1<(bE c.1 c.2.1 s).2) (h2:1≤micro) (h3:micro≤5) (h4:(c.2.1.length:Int)+1≤4) (hk:k=if c.2.2.1=2 then min micro ((c.2.1.length:Int)+1 - s) else micro) (hr:qN c s=false) :
  k * lE c s+max (inF c s) (vV c s)=nU c s micro:=by
 have h:=aLG (s:=s) h1 h2 h3 h4 hk (r:=0) (if_neg (by rw[hr];simp)).symm
 omega
theorem aF2 {m:List dJ} {c:List Int} (h:lN m c=true):bV m c=(c.length:Int)+1:=if_pos h
theorem aST {m:List dJ} {c:List Int} (h:lN m c=false):bV m c=0:=if_neg (by rw[h];simp)
theorem bL6 {c:bZ} (h:¬ c.2.2.2.2.1.length=c.2.1.length):sD c=false:=by unfold sD;rw[decide_eq_false h,Bool.false_and]
theorem bKV {c:bZ} {k:Nat} (hk:k<c.2.2.2.2.1.length) (h:¬ (1≤c.2.2.2.2.1[k]∧c.2.2.2.2.1[k]≤5)):sD c=false:=by
 have e:c.2.2.2.2.1.all (fun n=>decide (1≤n∧n≤5))=false:=wT hk (decide_eq_false h)
 unfold sD
 rw[e,Bool.and_false]
theorem bGT {c:bZ} (h:c.2.2.2.2.1.length=c.2.1.length) (h2:c.2.2.2.2.1.all (fun n=>decide (1≤n∧n≤5))=true):sD c=true:=by unfold sD;rw[decide_eq_true h,h2];rfl
theorem bM8 {c:bZ} {m:Int} (h:¬ (c.2.2.2.2.2.length:Int)=bV c.1 c.2.1):nN c m=false:=by unfold nN;rw[decide_eq_false h,Bool.false_and]
theorem bM4 {c:bZ} {m:Int} {k:Nat} (hk:k<c.2.2.2.2.2.length) (h:¬ (nU c (k:Int) m≤c.2.2.2.2.2.getD k 0∧c.2.2.2.2.2.getD k 0≤100000)):nN c m=false:=by
 refine Bool.eq_false_iff.2 fun hh=>h ?_
 unfold nN at hh
 rw[Bool.and_eq_true,List.all_eq_true] at hh
 exact of_decide_eq_true (hh.2 k (List.mem_range.2 hk))
theorem bNP {c:bZ} {m:Int} (h:(c.2.2.2.2.2.length:Int)=bV c.1 c.2.1) (h2:∀ i,i<c.2.2.2.2.2.length→bBH c m i=true):nN c m=true:=by
 unfold nN;rw[decide_eq_true h,Bool.true_and,List.all_eq_true]
 exact fun i hi=>h2 i (List.mem_range.1 hi)
theorem bNG {c:bZ} {b:List bP} (h:bW c.1=false):1=eQ c b:=by unfold eQ;rw[if_pos h]
theorem bN2 {c:bZ} {b:List bP} (h1:bW c.1=true) (h:eN c.1 b=false):2=eQ c b:=by unfold eQ;rw[if_neg (by rw[h1];simp),if_pos h]
theorem bLT {c:bZ} {b:List bP} (h1:bW c.1=true) (h2:eN c.1 b=true) (h:bV c.1 c.2.1=0∨4<bV c.1 c.2.1):3=eQ c b:=by unfold eQ;rw[if_neg (by rw[h1];simp),if_neg (by rw[h2];simp),if_pos h]
theorem bNN {c:bZ} {b:List bP} (h1:bW c.1=true) (h2:eN c.1 b=true) (h3:¬ (bV c.1 c.2.1=0∨4<bV c.1 c.2.1)) (h:¬ (c.2.2.1=1∨c.2.2.1=2)):4=eQ c b:=by unfold eQ;rw[if_neg (by rw[h1];simp),if_neg (by rw[h2];simp),if_neg h3,if_pos h]
theorem bN9 {c:bZ} {b:List bP} (h1:bW c.1=true) (h2:eN c.1 b=true) (h3:¬ (bV c.1 c.2.1=0∨4<bV c.1 c.2.1)) (h4:c.2.2.1=1∨c.2.2.1=2) (h:¬ (c.2.2.2.1.length:Int)=bV c.1 c.2.1):5=eQ c b:=by
 unfold eQ;rw[if_neg (by rw[h1];simp),if_neg (by rw[h2];simp),if_neg h3,if_neg (Classical.not_not.2 h4),if_pos h]
theorem bN0 {c:bZ} {b:List bP} (h1:bW c.1=true) (h2:eN c.1 b=true) (h3:¬ (bV c.1 c.2.1=0∨4<bV c.1 c.2.1)) (h4:c.2.2.1=1∨c.2.2.1=2) (h5:(c.2.2.2.1.length:Int)=bV c.1 c.2.1) (h:sD c=false):6=eQ c b:=by
 unfold eQ;rw[if_neg (by rw[h1];simp),if_neg (by rw[h2];simp),if_neg h3,if_neg (Classical.not_not.2 h4),if_neg (Classical.not_not.2 h5),if_pos h]
theorem bLU {c:bZ} {b:List bP} (h1:bW c.1=true) (h2:eN c.1 b=true) (h3:¬ (bV c.1 c.2.1=0∨4<bV c.1 c.2.1)) (h4:c.2.2.1=1∨c.2.2.1=2) (h5:(c.2.2.2.1.length:Int)=bV c.1 c.2.1) (h6:sD c=true) (h:nN c (b.length:Int)=false):7=eQ c b:=by
 unfold eQ;rw[if_neg (by rw[h1];simp),if_neg (by rw[h2];simp),if_neg h3,if_neg (Classical.not_not.2 h4),if_neg (Classical.not_not.2 h5),if_neg (by rw[h6];simp),if_pos h]
theorem bNK {c:bZ} {b:List bP} (h1:bW c.1=true) (h2:eN c.1 b=true) (h3:¬ (bV c.1 c.2.1=0∨4<bV c.1 c.2.1)) (h4:c.2.2.1=1∨c.2.2.1=2) (h5:(c.2.2.2.1.length:Int)=bV c.1 c.2.1) (h6:sD c=true) (h7:nN c (b.length:Int)=true):0=eQ c b:=by
 unfold eQ;rw[if_neg (by rw[h1];simp),if_neg (by rw[h2];simp),if_neg h3,if_neg (Classical.not_not.2 h4),if_neg (Classical.not_not.2 h5),if_neg (by rw[h6];simp),if_neg (by rw[h7];simp)]
def cS:Con:=⟨146,(.bNT aK (.bNT aB tI)),aE,[.val ⟨true,aK,[]⟩,.val ⟨false,aB,[]⟩,.val ⟨false,tI,[]⟩],[⟨false,tI,[0]⟩,⟨false,tI,[0]⟩],false,none,
 ((fun x=>mU x.1∧List.length x.2.1≤1000000000):(bD × (bK × Int))→Prop),
 ((fun x=>bE x.1 x.2.1 x.2.2):(bD × (bK × Int))→(Int × Int))⟩
def sP:T:=.call 0 (.bNV aK aB (.p1 aK (.bNT aB tI) (.Z 0)) (aJ (.bNT aK (.bNT aB tI)) 1 (.Z 0))) <|
 .bNU .not (.Z 1) <|
 .ite (.Z 2) (
  .ret (.bNV tI tI (.ci .i64 0) (.ci .i64 0))) (
  .bNU (.bNX 3 tI) (aJ (.bNT aK (.bNT aB tI)) 1 (.Z 0)) <|
  .call 1 (bB (.bNT tI aE) [(aO (.bNT aK (.bNT aB tI)) 2 (.Z 0)),(.ci .i64 0),(.Z 3)]) <|
  .bNU .not (.Z 4) <|
  .ite (.Z 5) (
   .ret (.bNV tI tI (.ci .i64 0) (.ci .i64 0))) (
   .bNU (.bNX 78 bG) (.p1 aK (.bNT aB tI) (.Z 0)) <|
   .bNU (.cmp .gtr .i64) (.bNV tI tI (aO (.bNT aK (.bNT aB tI)) 2 (.Z 0)) (.ci .i64 0)) <|
   .ite (.Z 7) (
    .bNU (.ar .sub .i64) (.bNV tI tI (aO (.bNT aK (.bNT aB tI)) 2 (.Z 0)) (.ci .i64 1)) <|
    .bNU (.bNY 3 tI) (.bNV aB tI (aJ (.bNT aK (.bNT aB tI)) 1 (.Z 0)) (.Z 8)) <|
    .bNU (.bNX 3 tI) (aJ (.bNT aK (.bNT aB tI)) 1 (.Z 0)) <|
    .bNU (.cmp .lss .i64) (.bNV tI tI (aO (.bNT aK (.bNT aB tI)) 2 (.Z 0)) (.Z 10)) <|
    .ite (.Z 11) (
     .bNU (.bNY 3 tI) (.bNV aB tI (aJ (.bNT aK (.bNT aB tI)) 1 (.Z 0)) (aO (.bNT aK (.bNT aB tI)) 2 (.Z 0))) <|
     .ret (.bNV tI tI (.Z 9) (.Z 12))) (
     .ret (.bNV tI tI (.Z 9) (.Z 6)))) (
    .bNU (.bNX 3 tI) (aJ (.bNT aK (.bNT aB tI)) 1 (.Z 0)) <|
    .bNU (.cmp .lss .i64) (.bNV tI tI (aO (.bNT aK (.bNT aB tI)) 2 (.Z 0)) (.Z 8)) <|
    .ite (.Z 9) (
     .bNU (.bNY 3 tI) (.bNV aB tI (aJ (.bNT aK (.bNT aB tI)) 1 (.Z 0)) (aO (.bNT aK (.bNT aB tI)) 2 (.Z 0))) <|
     .ret (.bNV tI tI (.ci .i64 0) (.Z 10))) (
     .ret (.bNV tI tI (.ci .i64 0) (.Z 6))))))
theorem aJO:bM Tryz.prog [gZ,bI] cS false 3000 ⟨[],[]⟩ = .ok sP:=by kernel_rfl
theorem aJK (x:bD × (bK × Int)) (hx:okD (.bNT aK (.bNT aB tI)) x) (hp:(fun x=>mU x.1∧List.length x.2.1≤1000000000) x):sP.wp [gZ,bI] [⟨(.bNT aK (.bNT aB tI)),x⟩] [] (fun v=>v.as aE=(fun x=>bE x.1 x.2.1 x.2.2) x):=by
 obtain ⟨m,c,s⟩:=x
 obtain ⟨hp1,hp2⟩:mU m∧List.length c≤1000000000:=hp
 delta sP gZ bI;refine dB ?_
 (refine dT ?_;try with_reducible exact True.intro)
 (repeat' first|intro _|(with_reducible apply And.intro))
 all_goals first|omega|exact hp1|exact hp2|exact (aJ4 (.inl (by assumption))).symm|exact (aJ4 (.inr (by omega))).symm|exact bL4 (by assumption) (by omega) (by omega)|exact bJT (by assumption) (by omega) (by omega)|exact bKT (by assumption) (by omega) (by omega)|exact bL3 (by assumption) (by omega) (by omega)|skip
theorem nA:Con.Holds Tryz.prog cS:=aS aW (aH aDV (aH eY aR)) aJO aJK
def gN:Con:=⟨168,(.bNT aQ tI),tI,[.val ⟨true,aQ,[]⟩,.val ⟨false,tI,[]⟩],[⟨false,tI,[0]⟩],false,none,
 ((fun x=>tY x.1):(bZ × Int)→Prop),
 ((fun x=>rK x.1 x.2):(bZ × Int)→(Int))⟩
def uO:T:=.call 0 (bB (.bNT aK (.bNT aB tI)) [(.p1 aK (.bNT aB (.bNT tI (.bNT cQ aM))) (.p1 aQ tI (.Z 0))),(aJ aQ 1 (.p1 aQ tI (.Z 0))),(aO (.bNT aQ tI) 1 (.Z 0))]) <|.loop aE (.bNV tI tI (.p1 tI tI (.Z 1)) (.ci .i64 0)) <|
 .bNU (.cmp .lss .i64) (.bNV tI tI (.p1 tI tI (.Z 2)) (aO aE 1 (.Z 1))) <|
 .ite (.Z 3) (
  .bNU (.bNY 78 bG) (.bNV aK tI (.p1 aK (.bNT aB (.bNT tI (.bNT cQ aM))) (.p1 aQ tI (.Z 0))) (.p1 tI tI (.Z 2))) <|
  .bNU (.ar .add .i64) (.bNV tI tI (aO aE 1 (.Z 2)) (aJ bG 1 (.Z 4))) <|
  .bNU (.ar .add .i64) (.bNV tI tI (.p1 tI tI (.Z 2)) (.ci .i64 1)) <|
  .bNW 0 (.bNV tI tI (.Z 6) (.Z 5))) (
  .bNU (.cmp .gtr .i64) (.bNV tI tI (aO aE 1 (.Z 1)) (.p1 tI tI (.Z 1))) <|
  .ite (.Z 4) (
   .bNU (.ar .sub .i64) (.bNV tI tI (aO aE 1 (.Z 1)) (.ci .i64 1)) <|
   .bNU (.bNY 78 bG) (.bNV aK tI (.p1 aK (.bNT aB (.bNT tI (.bNT cQ aM))) (.p1 aQ tI (.Z 0))) (.Z 5)) <|
   .bNU (.ar .add .i64) (.bNV tI tI (aO aE 1 (.Z 2)) (aJ bG 2 (.Z 6))) <|
   .ret (.Z 7)) (
   .ret (aO aE 1 (.Z 2))))
theorem aMK:bM Tryz.prog [cS] gN false 3000 ⟨[(2989,1002,iT 18 16++[.dr 9]++iT 15 10++[.dr 0,.dr 1,.tm 8 0,.tm 7 0])],[]⟩ = .ok uO:=by kernel_rfl
theorem aMO (x:bZ × Int) (hx:okD (.bNT aQ tI) x) (hp:(fun x=>tY x.1) x):uO.wp [cS] [⟨(.bNT aQ tI),x⟩] [] (fun v=>v.as tI=(fun x=>rK x.1 x.2) x):=by
 have hp:tY x.1:=hp
 have hr:=aFD x.1.1 x.1.2.1 x.2
 have hml:List.length x.1.1≤1000000000:=hp.1.1
 have hb:=aWS x.1 x.2
 delta uO cS;refine dB ?_
 refine dT ?_
 refine ⟨⟨hp.1,hp.2.1⟩,fun _=>?_⟩
 refine cZ (fun k=>((bE x.1.1 x.1.2.1 x.2).1+(k:Int),vK x.1.1 (bE x.1.1 x.1.2.1 x.2).1 k)) ((bE x.1.1 x.1.2.1 x.2).2 - (bE x.1.1 x.1.2.1 x.2).1).toNat (Prod.ext (Int.add_zero _).symm rfl) fun I μ k hk _ go=>?_
 dsimp only
 refine dT ?_
 constructor
 ·intro hlt
  have hm:=(hr.2.2.2 (by omega)).1
  have hl:=((bR _).1 hm).2.1
  have h1:=aQV hm hr.1 k (by omega)
  have h2:=aQL hm (i:=(bE x.1.1 x.1.2.1 x.2).1+(k:Int)) (by omega) (by omega)
  have e:vK x.1.1 (bE x.1.1 x.1.2.1 x.2).1 (k+1)=vK x.1.1 (bE x.1.1 x.1.2.1 x.2).1 k+aIU x.1.1 ((bE x.1.1 x.1.2.1 x.2).1+(k:Int)):=rfl
  rw[show (List.getD x.1.1 ((bE x.1.1 x.1.2.1 x.2).1+(k:Int)).toNat (aV bG)).2.1=aIU x.1.1 ((bE x.1.1 x.1.2.1 x.2).1+(k:Int)) from rfl]
  (repeat' first|intro _|(refine go _ ?_ ?_ ?_)|(refine go _ ?_ ?_)|(with_reducible apply And.intro))
  all_goals first|omega|(refine Prod.ext ?_ ?_ <;> refine @Eq.trans Int _ _ _ ?_ rfl <;> dsimp only <;> omega)|skip
 ·intro hge
  have e:k=((bE x.1.1 x.1.2.1 x.2).2 - (bE x.1.1 x.1.2.1 x.2).1).toNat:=by omega
  subst e
  have e9:rK x.1 x.2=vK x.1.1 (bE x.1.1 x.1.2.1 x.2).1 ((bE x.1.1 x.1.2.1 x.2).2 - (bE x.1.1 x.1.2.1 x.2).1).toNat+vV x.1 x.2:=rfl
  rw[show (List.getD x.1.1 ((bE x.1.1 x.1.2.1 x.2).2 - 1).toNat (aV bG)).2.2.1=aFN x.1.1 ((bE x.1.1 x.1.2.1 x.2).2 - 1) from rfl]
  by_cases hq:(bE x.1.1 x.1.2.1 x.2).1<(bE x.1.1 x.1.2.1 x.2).2
  ·have e8:vV x.1 x.2=aFN x.1.1 ((bE x.1.1 x.1.2.1 x.2).2 - 1):=if_pos hq
   rw[← e8]
   (repeat' first|intro _|(with_reducible apply And.intro))
   all_goals first|omega|exact e9.symm|skip
  ·have e8:vV x.1 x.2=0:=if_neg hq
   (repeat' first|intro _|(with_reducible apply And.intro))
   all_goals first|omega|(rw[e9,e8,Int.add_zero])|skip
theorem aCA:Con.Holds Tryz.prog gN:=aS aW (aH nA aR) aMK aMO
def kN:Con:=⟨167,(.bNT aQ tI),tI,[.val ⟨true,aQ,[]⟩,.val ⟨false,tI,[]⟩],[⟨false,tI,[0]⟩],false,none,
 ((fun x=>tY x.1):(bZ × Int)→Prop),
 ((fun x=>lE x.1 x.2):(bZ × Int)→(Int))⟩
def rD:T:=.call 0 (bB (.bNT aK (.bNT aB tI)) [(.p1 aK (.bNT aB (.bNT tI (.bNT cQ aM))) (.p1 aQ tI (.Z 0))),(aJ aQ 1 (.p1 aQ tI (.Z 0))),(aO (.bNT aQ tI) 1 (.Z 0))]) <|
 .bNU (.cmp .gtr .i64) (.bNV tI tI (aO aE 1 (.Z 1)) (.p1 tI tI (.Z 1))) <|
 .ite (.Z 2) (
  .bNU (.bNX 4 .bool) (aJ aQ 3 (.p1 aQ tI (.Z 0))) <|
  .bNU (.cmp .lss .i64) (.bNV tI tI (aO (.bNT aQ tI) 1 (.Z 0)) (.Z 3)) <|
  .ite (.Z 4) (
   .bNU (.bNY 4 .bool) (.bNV cQ tI (aJ aQ 3 (.p1 aQ tI (.Z 0))) (aO (.bNT aQ tI) 1 (.Z 0))) <|
   .ite (.Z 5) (
    .bNU (.bNY 78 bG) (.bNV aK tI (.p1 aK (.bNT aB (.bNT tI (.bNT cQ aM))) (.p1 aQ tI (.Z 0))) (.p1 tI tI (.Z 1))) <|
    .ret (aJ bG 1 (.Z 6))) (
    .call 1 (.Z 0) <|
    .ret (.Z 6))) (
   .call 1 (.Z 0) <|
   .ret (.Z 5))) (
  .call 1 (.Z 0) <|
  .ret (.Z 3))
theorem aKT:bM Tryz.prog [cS,gN] kN false 3000 ⟨[],[]⟩ = .ok rD:=by kernel_rfl
theorem aKE (x:bZ × Int) (hx:okD (.bNT aQ tI) x) (hp:(fun x=>tY x.1) x):rD.wp [cS,gN] [⟨(.bNT aQ tI),x⟩] [] (fun v=>v.as tI=(fun x=>lE x.1 x.2) x):=by
 have hp:tY x.1:=hp
 have hr:=aFD x.1.1 x.1.2.1 x.2
 have hml:List.length x.1.1≤1000000000:=hp.1.1
 have red:qN x.1 x.2=true∨qN x.1 x.2=false:=by cases qN x.1 x.2 <;> simp
 have none_:(bE x.1.1 x.1.2.1 x.2).2≤(bE x.1.1 x.1.2.1 x.2).1→rK x.1 x.2=lE x.1 x.2:=fun h=>by
  have e0:=bKO (c:=x.1) (s:=x.2) (by omega)
  rcases red with h1|h1
  ·rw[← bC1 h1]
   have e1:inF x.1 x.2=0:=(congrArg Prod.fst e0).symm
   have e2:vV x.1 x.2=0:=(congrArg Prod.snd e0).symm
   unfold rK
   rw[e1,e2,show ((bE x.1.1 x.1.2.1 x.2).2 - (bE x.1.1 x.1.2.1 x.2).1).toNat=0 by omega];rfl
  ·exact aQR h1
 have redo_t:(bE x.1.1 x.1.2.1 x.2).1<(bE x.1.1 x.1.2.1 x.2).2→qN x.1 x.2=true→aIU x.1.1 (bE x.1.1 x.1.2.1 x.2).1=lE x.1 x.2:=fun h h1=>by
  rw[← bC1 h1];exact congrArg Prod.fst (bJX h)
 delta rD cS gN;refine dB ?_
 refine dT ?_
 refine ⟨⟨hp.1,hp.2.1⟩,fun _=>⟨fun hlt _=>?_,fun h=>⟨hp,fun _=>none_ h⟩⟩⟩
 have h0:=(hr.2.2.2 hlt).2.2.1
 refine ⟨fun hl=>⟨by omega,fun h=>⟨by omega,fun _=>?_⟩,fun h=>⟨hp,fun _=>?_⟩⟩,fun h=>⟨hp,fun _=>aQR (aXO (.inr h)).symm⟩⟩
 ·exact redo_t hlt ((aGI h0 hl).symm.trans h)
 ·exact aQR ((aGI h0 hl).symm.trans h)
theorem aL7:Con.Holds Tryz.prog kN:=aS aW (aH nA (aH aCA aR)) aKT aKE
def kT:Con:=⟨143,(.bNT aQ aE),tI,[.val ⟨true,aQ,[]⟩,.val ⟨false,tI,[]⟩,.val ⟨false,tI,[]⟩],[⟨false,tI,[0]⟩],false,none,
 ((fun x=>tY x.1):(bZ × kC)→Prop),
 ((fun x=>nU x.1 x.2.1 x.2.2):(bZ × kC)→(Int))⟩
def aEI:T:=.call 0 (bB (.bNT aK (.bNT aB tI)) [(.p1 aK (.bNT aB (.bNT tI (.bNT cQ aM))) (.p1 aQ aE (.Z 0))),(aJ aQ 1 (.p1 aQ aE (.Z 0))),(aJ (.bNT aQ aE) 1 (.Z 0))]) <|
 .bNU (.cmp .leq .i64) (.bNV tI tI (aO aE 1 (.Z 1)) (.p1 tI tI (.Z 1))) <|
 .ite (.Z 2) (
  .ret (.ci .i64 0)) (
  .call 1 (bB (.bNT tI aE) [(aO (.bNT aQ aE) 2 (.Z 0)),(.ci .i64 1),(.ci .i64 5)]) <|
  .bNU .not (.Z 3) <|
  .ite (.Z 4) (
   .ret (.ci .i64 0)) (
   .bNU (.bNX 3 tI) (aJ aQ 1 (.p1 aQ aE (.Z 0))) <|
   .bNU (.ar .add .i64) (.bNV tI tI (.Z 5) (.ci .i64 1)) <|
   .call 1 (bB (.bNT tI aE) [(.Z 6),(.ci .i64 1),(.ci .i64 4)]) <|
   .bNU .not (.Z 7) <|
   .ite (.Z 8) (
    .ret (.ci .i64 0)) (
    .bNU (.cmp .eql .i64) (.bNV tI tI (aJ aQ 2 (.p1 aQ aE (.Z 0))) (.ci .i64 2)) <|
    .ite (.Z 9) (
     .bNU (.bNX 3 tI) (aJ aQ 1 (.p1 aQ aE (.Z 0))) <|
     .bNU (.ar .add .i64) (.bNV tI tI (.Z 10) (.ci .i64 1)) <|
     .bNU (.ar .sub .i64) (.bNV tI tI (.Z 11) (aJ (.bNT aQ aE) 1 (.Z 0))) <|
     .bNU (.mn .i64) (.bNV tI tI (aO (.bNT aQ aE) 2 (.Z 0)) (.Z 12)) <|
     .bNU (.ar .sub .i64) (.bNV tI tI (aO aE 1 (.Z 1)) (.ci .i64 1)) <|
     .bNU (.bNY 78 bG) (.bNV aK tI (.p1 aK (.bNT aB (.bNT tI (.bNT cQ aM))) (.p1 aQ aE (.Z 0))) (.p1 tI tI (.Z 1))) <|
     .bNU (.bNY 78 bG) (.bNV aK tI (.p1 aK (.bNT aB (.bNT tI (.bNT cQ aM))) (.p1 aQ aE (.Z 0))) (.Z 14)) <|
     .bNU (.mx .i64) (.bNV tI tI (aJ bG 1 (.Z 15)) (aJ bG 2 (.Z 16))) <|
     .call 2 (.bNV aQ tI (.p1 aQ aE (.Z 0)) (aJ (.bNT aQ aE) 1 (.Z 0))) <|
     .bNU (.ar .mul .i64) (.bNV tI tI (.Z 13) (.Z 18)) <|
     .bNU (.ar .add .i64) (.bNV tI tI (.Z 19) (.Z 17)) <|
     .bNU (.bNX 4 .bool) (aJ aQ 3 (.p1 aQ aE (.Z 0))) <|
     .bNU (.cmp .lss .i64) (.bNV tI tI (aJ (.bNT aQ aE) 1 (.Z 0)) (.Z 21)) <|
     .ite (.Z 22) (
      .bNU (.bNY 4 .bool) (.bNV cQ tI (aJ aQ 3 (.p1 aQ aE (.Z 0))) (aJ (.bNT aQ aE) 1 (.Z 0))) <|
      .ite (.Z 23) (
       .call 3 (.bNV aQ tI (.p1 aQ aE (.Z 0)) (aJ (.bNT aQ aE) 1 (.Z 0))) <|
       .bNU (.ar .add .i64) (.bNV tI tI (.Z 20) (.Z 24)) <|
       .ret (.Z 25)) (
       .ret (.Z 20))) (
      .ret (.Z 20))) (
     .bNU (.ar .sub .i64) (.bNV tI tI (aO aE 1 (.Z 1)) (.ci .i64 1)) <|
     .bNU (.bNY 78 bG) (.bNV aK tI (.p1 aK (.bNT aB (.bNT tI (.bNT cQ aM))) (.p1 aQ aE (.Z 0))) (.p1 tI tI (.Z 1))) <|
     .bNU (.bNY 78 bG) (.bNV aK tI (.p1 aK (.bNT aB (.bNT tI (.bNT cQ aM))) (.p1 aQ aE (.Z 0))) (.Z 10)) <|
     .bNU (.mx .i64) (.bNV tI tI (aJ bG 1 (.Z 11)) (aJ bG 2 (.Z 12))) <|
     .call 2 (.bNV aQ tI (.p1 aQ aE (.Z 0)) (aJ (.bNT aQ aE) 1 (.Z 0))) <|
     .bNU (.ar .mul .i64) (.bNV tI tI (aO (.bNT aQ aE) 2 (.Z 0)) (.Z 14)) <|
     .bNU (.ar .add .i64) (.bNV tI tI (.Z 15) (.Z 13)) <|
     .bNU (.bNX 4 .bool) (aJ aQ 3 (.p1 aQ aE (.Z 0))) <|
     .bNU (.cmp .lss .i64) (.bNV tI tI (aJ (.bNT aQ aE) 1 (.Z 0)) (.Z 17)) <|
     .ite (.Z 18) (
      .bNU (.bNY 4 .bool) (.bNV cQ tI (aJ aQ 3 (.p1 aQ aE (.Z 0))) (aJ (.bNT aQ aE) 1 (.Z 0))) <|
      .ite (.Z 19) (
       .call 3 (.bNV aQ tI (.p1 aQ aE (.Z 0)) (aJ (.bNT aQ aE) 1 (.Z 0))) <|
       .bNU (.ar .add .i64) (.bNV tI tI (.Z 16) (.Z 20)) <|
       .ret (.Z 21)) (
       .ret (.Z 16))) (
      .ret (.Z 16))))))
theorem aZO:bM Tryz.prog [cS,bI,kN,gN] kT false 3000 ⟨[],[]⟩ = .ok aEI:=by kernel_rfl
theorem aYZ (x:bZ × kC) (hx:okD (.bNT aQ aE) x) (hp:(fun x=>tY x.1) x):aEI.wp [cS,bI,kN,gN] [⟨(.bNT aQ aE),x⟩] [] (fun v=>v.as tI=(fun x=>nU x.1 x.2.1 x.2.2) x):=by
 obtain ⟨c,s,micro⟩:=x
 have hp:tY c:=hp
 have hb:=aWS c s
 have hr:=aFD c.1 c.2.1 s
 have hml:List.length c.1≤1000000000:=hp.1.1
 delta aEI cS bI kN gN;refine dB ?_
 refine dT ?_
 refine ⟨⟨hp.1,hp.2.1⟩,fun _=>⟨fun h=>bIB (.inl h),fun hrb=>?_⟩⟩
 have h0:=(hr.2.2.2 hrb).2.2
 have hl:=hp.2.1
 have hrl:=hp.2.2.1
 have e1:inF c s=aIU c.1 (bE c.1 c.2.1 s).1:=if_pos hrb
 have e2:vV c s=aFN c.1 ((bE c.1 c.2.1 s).2 - 1):=if_pos hrb
 rw[show (List.getD c.1 (Int.toNat (bE c.1 c.2.1 s).1) (aV bG)).2.1=inF c s from e1.symm,show (List.getD c.1 ((bE c.1 c.2.1 s).2 - 1).toNat (aV bG)).2.2.1=vV c s from e2.symm]
 (repeat' first|intro _|(with_reducible apply And.intro))
 all_goals first|omega|exact hp|exact bIB (by omega)|skip
 all_goals have hq1:=bJC (k:=min micro ((c.2.1.length:Int)+1 - s)) (v:=lE c s) (by omega) (by omega) (by omega) (by omega)
 all_goals have hq2:=bJC (k:=micro) (v:=lE c s) (by omega) (by omega) (by omega) (by omega)
 all_goals first|omega|exact aLG hrb (by omega) (by omega) (by omega) (if_pos (by assumption)).symm (if_pos (by assumption)).symm|exact aLG hrb (by omega) (by omega) (by omega) (if_neg (by assumption)).symm (if_pos (by assumption)).symm|exact aGM hrb (by omega) (by omega) (by omega) (if_pos (by assumption)).symm (by assumption)|exact aGM hrb (by omega) (by omega) (by omega) (if_neg (by assumption)).symm (by assumption)|exact aLG hrb (by omega) (by omega) (by omega) (if_pos (by assumption)).symm (if_pos ((aGI (by omega) (by omega)).symm.trans (by assumption))).symm|exact aLG hrb (by omega) (by omega) (by omega) (if_neg (by assumption)).symm (if_pos ((aGI (by omega) (by omega)).symm.trans (by assumption))).symm|exact aGM hrb (by omega) (by omega) (by omega) (if_pos (by assumption)).symm ((aGI (by omega) (by omega)).symm.trans (by assumption))|exact aGM hrb (by omega) (by omega) (by omega) (if_neg (by assumption)).symm ((aGI (by omega) (by omega)).symm.trans (by assumption))|exact aGM hrb (by omega) (by omega) (by omega) (if_pos (by assumption)).symm (aXO (by omega)).symm|exact aGM hrb (by omega) (by omega) (by omega) (if_neg (by assumption)).symm (aXO (by omega)).symm|skip
theorem aJ5:Con.Holds Tryz.prog kT:=aS aW (aH nA (aH eY (aH aL7 (aH aCA aR)))) aZO aYZ
def vT:Con:=⟨144,(.bNT aQ aN),tI,[.val ⟨true,aQ,[]⟩,.val ⟨false,aN,[]⟩],[⟨false,tI,[0]⟩],false,none,
 ((fun x=>tY x.1):(bZ × dL)→Prop),
 ((fun x=>eQ x.1 x.2):(bZ × dL)→(Int))⟩
def aG5:T:=.call 0 (.p1 aK (.bNT aB (.bNT tI (.bNT cQ aM))) (.p1 aQ aN (.Z 0))) <|
 .bNU .not (.Z 1) <|
 .ite (.Z 2) (
  .ret (.ci .i64 1)) (
  .call 1 (.bNV aK aN (.p1 aK (.bNT aB (.bNT tI (.bNT cQ aM))) (.p1 aQ aN (.Z 0))) (aO (.bNT aQ aN) 1 (.Z 0))) <|
  .bNU .not (.Z 3) <|
  .ite (.Z 4) (
   .ret (.ci .i64 2)) (
   .call 2 (.bNV aK aB (.p1 aK (.bNT aB (.bNT tI (.bNT cQ aM))) (.p1 aQ aN (.Z 0))) (aJ aQ 1 (.p1 aQ aN (.Z 0)))) <|
   .bNU .not (.Z 5) <|
   .ite (.Z 6) (
    .ret (.ci .i64 3)) (
    .bNU (.bNX 3 tI) (aJ aQ 1 (.p1 aQ aN (.Z 0))) <|
    .bNU (.ar .add .i64) (.bNV tI tI (.Z 7) (.ci .i64 1)) <|
    .bNU (.cmp .gtr .i64) (.bNV tI tI (.Z 8) (.ci .i64 4)) <|
    .ite (.Z 9) (
     .ret (.ci .i64 3)) (
     .call 3 (bB (.bNT tI aE) [(aJ aQ 2 (.p1 aQ aN (.Z 0))),(.ci .i64 1),(.ci .i64 2)]) <|
     .bNU .not (.Z 10) <|
     .ite (.Z 11) (
      .ret (.ci .i64 4)) (
      .bNU (.bNX 4 .bool) (aJ aQ 3 (.p1 aQ aN (.Z 0))) <|
      .bNU (.bNX 3 tI) (aJ aQ 1 (.p1 aQ aN (.Z 0))) <|
      .bNU (.ar .add .i64) (.bNV tI tI (.Z 13) (.ci .i64 1)) <|
      .bNU (.cmp .neq .i64) (.bNV tI tI (.Z 12) (.Z 14)) <|
      .ite (.Z 15) (
       .ret (.ci .i64 5)) (
       .bNU (.bNX 3 tI) (aJ aQ 4 (.p1 aQ aN (.Z 0))) <|
       .bNU (.bNX 3 tI) (aJ aQ 1 (.p1 aQ aN (.Z 0))) <|
       .bNU (.cmp .neq .i64) (.bNV tI tI (.Z 16) (.Z 17)) <|
       .ite (.Z 18) (
        .ret (.ci .i64 6)) (
        .loop tI (.ci .i64 0) <|
         .bNU (.bNX 3 tI) (aJ aQ 4 (.p1 aQ aN (.Z 0))) <|
         .bNU (.cmp .lss .i64) (.bNV tI tI (.Z 19) (.Z 20)) <|
         .ite (.Z 21) (
          .bNU (.bNY 3 tI) (.bNV aB tI (aJ aQ 4 (.p1 aQ aN (.Z 0))) (.Z 19)) <|
          .call 3 (bB (.bNT tI aE) [(.Z 22),(.ci .i64 1),(.ci .i64 5)]) <|
          .bNU .not (.Z 23) <|
          .ite (.Z 24) (
           .ret (.ci .i64 6)) (
           .bNU (.ar .add .i64) (.bNV tI tI (.Z 19) (.ci .i64 1)) <|
           .bNW 0 (.Z 25))) (
          .bNU (.bNX 3 tI) (aO aQ 5 (.p1 aQ aN (.Z 0))) <|
          .bNU (.bNX 3 tI) (aJ aQ 1 (.p1 aQ aN (.Z 0))) <|
          .bNU (.ar .add .i64) (.bNV tI tI (.Z 23) (.ci .i64 1)) <|
          .bNU (.cmp .neq .i64) (.bNV tI tI (.Z 22) (.Z 24)) <|
          .ite (.Z 25) (
           .ret (.ci .i64 7)) (
           .loop tI (.ci .i64 0) <|
            .bNU (.bNX 3 tI) (aO aQ 5 (.p1 aQ aN (.Z 0))) <|
            .bNU (.cmp .lss .i64) (.bNV tI tI (.Z 26) (.Z 27)) <|
            .ite (.Z 28) (
             .bNU (.bNY 3 tI) (.bNV aB tI (aO aQ 5 (.p1 aQ aN (.Z 0))) (.Z 26)) <|
             .bNU (.bNX 94 aM) (aO (.bNT aQ aN) 1 (.Z 0)) <|
             .call 4 (bB (.bNT aQ aE) [(.p1 aQ aN (.Z 0)),(.Z 26),(.Z 30)]) <|
             .call 3 (bB (.bNT tI aE) [(.Z 29),(.Z 31),(.ci .i64 100000)]) <|
             .bNU .not (.Z 32) <|
             .ite (.Z 33) (
              .ret (.ci .i64 7)) (
              .bNU (.ar .add .i64) (.bNV tI tI (.Z 26) (.ci .i64 1)) <|
              .bNW 0 (.Z 34))) (
             .ret (.ci .i64 0)))))))))))
theorem bEJ:bM Tryz.prog [bY,pS,gZ,bI,kT] vT false 3000 ⟨[(2963,128019,iT 47 7++[.dr 0,.tm 5 0]),(2948,512026,iT 69 62++iT 52 48++[.dr 5,.tm 6 0])],[]⟩ = .ok aG5:=by kernel_rfl
theorem bDI (x:bZ × dL) (hx:okD (.bNT aQ aN) x) (hp:(fun x=>tY x.1) x):aG5.wp [bY,pS,gZ,bI,kT] [⟨(.bNT aQ aN),x⟩] [] (fun v=>v.as tI=(fun x=>eQ x.1 x.2) x):=by
 obtain ⟨c,b⟩:=x
 have hp:tY c:=hp
 have hl1:=hp.2.1
 have hl2:=hp.2.2.1
 have hl3:=hp.2.2.2.1
 have hl4:List.length c.2.2.2.2.2≤1000000000:=hp.2.2.2.2
 delta aG5 bY pS gZ bI kT;refine dB ?_
 refine dT ?_
 refine ⟨fun h=>bNG h,fun h1=>⟨fun h=>bN2 h1 h,fun h2=>⟨⟨hp.1,hp.2.1⟩,fun h=>bLT h1 h2 (.inl (aST h)),fun hc _=>⟨by omega,fun _=>⟨fun h=>bLT h1 h2 (.inr (by rw[aF2 hc];exact h)),fun h3=>?_⟩⟩⟩⟩⟩
 have hst:=aF2 hc
 have h3':¬ (bV c.1 c.2.1=0∨4<bV c.1 c.2.1):=by omega
 refine ⟨fun h=>bNN h1 h2 h3' (by omega),fun h4 _ _=>⟨by omega,fun _=>⟨fun h=>bN9 h1 h2 h3' (by omega) (by omega),fun h5=>?_⟩⟩⟩
 have h4':c.2.2.1=1∨c.2.2.1=2:=by omega
 have h5':(c.2.2.2.1.length:Int)=bV c.1 c.2.1:=by omega
 refine fun _ _=>⟨fun h=>bN0 h1 h2 h3' h4' h5' (bL6 (by omega)),fun h6=>?_⟩
 refine yV (fun k=>(k:Int)) (fun k=>(List.take k c.2.2.2.2.1).all (fun n=>decide (1≤n∧n≤5))=true) (List.length c.2.2.2.2.1) rfl rfl fun I μ k hk hG _ go=>?_
 try dsimp only
 refine dT ?_
 intro _
 constructor
 ·intro hlt
  have hk':k<List.length c.2.2.2.2.1:=by omega
  have e:=qB (fun n:Int=>decide (1≤n∧n≤5)) c.2.2.2.2.1 hk'
  simp only[aZ hk']
  (repeat' first|intro _|(refine go _ ?_ ?_ ?_)|(refine go _ ?_ ?_)|(with_reducible apply And.intro))
  all_goals first|omega|exact bN0 h1 h2 h3' h4' h5' (bKV hk' (by omega))|(rw[e,hG,Bool.true_and];exact decide_eq_true ⟨by omega,by omega⟩)|rfl
 intro hge
 have h6':sD c=true:=bGT (by omega) (aRR hG (by omega))
 clear go hG
 refine fun _ _=>⟨by omega,fun _=>⟨fun h=>bLU h1 h2 h3' h4' h5' h6' (bM8 (by omega)),fun h7=>?_⟩⟩
 refine yV (fun k=>(k:Int)) (fun k=>∀ i,i<k→bBH c (b.length:Int) i=true) (List.length c.2.2.2.2.2) rfl (fun i hi=>absurd hi (Nat.not_lt_zero _)) fun I μ k hk hG _ go=>?_
 try dsimp only
 refine dT ?_
 intro _
 constructor
 ·intro hlt
  have hk':k<List.length c.2.2.2.2.2:=by omega
  (repeat' first|intro _|(refine go _ ?_ ?_ ?_)|(refine go _ ?_ ?_)|(with_reducible apply And.intro))
  all_goals first|omega|exact hp|exact bLU h1 h2 h3' h4' h5' h6' (bM4 hk' (fun hh=>by have h1:nU c (k:Int) (b.length:Int)≤List.getD c.2.2.2.2.2 k (aV tI):=hh.1;have h2:List.getD c.2.2.2.2.2 k (aV tI)≤100000:=hh.2;omega))|exact vL hG (decide_eq_true (by assumption)) _ (by assumption)|exact vL hG (decide_eq_true ⟨by omega,by omega⟩) _ (by assumption)|rfl|skip
 ·intro hge
  exact bNK h1 h2 h3' h4' h5' h6' (bNP (by omega) fun i hi=>hG i (by omega))
theorem bD8:Con.Holds Tryz.prog vT:=aS aW (aH jI (aH aSG (aH aDV (aH eY (aH aJ5 aR))))) bEJ bDI
end
end Go.Proofs.YtdeobhdbmehpgaaGreat
