/- RiF: lemmas. No conditions. -/
import Derived.Test.YtfmfeplebgbpmaaGreatCoreP
import Derived.Test.YtfmfeplebgbpmaaGreatTicks2
namespace Go.Proofs.YtfmfeplebgbpmaaGreat
open Go.ChangeShapes Go.WideShapes Go.ChangeAt Go.RowKit Go.Deep
set_option linter.unusedVariables false
set_option linter.unusedSimpArgs false
noncomputable section
set_option maxRecDepth 100000
def bH (m:List fP) (c:List Int) (s:Int):Int×Int :=
 if zO m c=true/\0<=s/\s<=(c.length:Int) then((if 0<s then c.getD (s - 1).toNat 0 else 0),(if s<(c.length:Int) then c.getD s.toNat 0 else(m.length:Int))) else(0,0)
def bF5 (m:List fP) (i:Int):Int:=(m.getD i.toNat zOp).2.1
def aUQ (m:List fP) (i:Int):Int:=(m.getD i.toNat zOp).2.2.1
def aKP (m:List fP) (a:Int):Nat->Int
 | 0=>0
 | k+1=>aKP m a k+bF5 m (a+(k:Int))
def aKD (c:dE) (s:Int):Int:=if(bH c.1 c.2.1 s).1<(bH c.1 c.2.1 s).2 then aUQ c.1 ((bH c.1 c.2.1 s).2 - 1) else 0
def inF (c:dE) (s:Int):Int:=if(bH c.1 c.2.1 s).1<(bH c.1 c.2.1 s).2 then bF5 c.1 (bH c.1 c.2.1 s).1 else 0
def aHX (c:dE) (s:Int):Int:=aKP c.1 (bH c.1 c.2.1 s).1 ((bH c.1 c.2.1 s).2 - (bH c.1 c.2.1 s).1).toNat+aKD c s
def aF4 (c:dE) (s:Int):Bool:=decide (0<=s/\s<(c.2.2.2.1.length:Int))&&c.2.2.2.1.getD s.toNat false
def zF (c:dE) (s:Int):Int:=if aF4 c s=true then inF c s else aHX c s
def aE9 (c:dE) (s micro:Int):Int :=
 if(bH c.1 c.2.1 s).1<(bH c.1 c.2.1 s).2/\1<=micro/\micro<=5/\(c.2.1.length:Int)+1<=4 then
  (if c.2.2.1=2 then min micro ((c.2.1.length:Int)+1 - s) else micro) * zF c s+max (inF c s) (aKD c s)+(if aF4 c s=true then aHX c s else 0) else 0
def aF8 (c:dE):Bool:=decide (c.2.2.2.2.1.length=c.2.1.length)&&c.2.2.2.2.1.all fun n=>decide (1<=n/\n<=5)
def bWS (c:dE) (micro:Int) (s:Nat):Bool:=decide (aE9 c (s:Int) micro<=c.2.2.2.2.2.getD s 0/\c.2.2.2.2.2.getD s 0<=100000)
def aBF (c:dE) (micro:Int):Bool:=decide ((c.2.2.2.2.2.length:Int)=cN c.1 c.2.1)&&(List.range c.2.2.2.2.2.length).all (bWS c micro)
def iB (c:dE) (b:List bT):Int :=
 if dD c.1=false then 1 else if pD c.1 b=false then 2 else if cN c.1 c.2.1=0\/4<cN c.1 c.2.1 then 3 else if ¬(c.2.2.1=1\/c.2.2.1=2) then 4
 else if ¬(c.2.2.2.1.length:Int)=cN c.1 c.2.1 then 5 else if aF8 c=false then 6 else if aBF c (b.length:Int)=false then 7 else 0
theorem bE4 {m:List fP} {c:List Int} {s:Int} (h:zO m c=false\/s<0\/(c.length:Int)<s):bH m c s=(0,0):=by
 unfold bH;rw[if_neg]
 rintro⟨h1,h2,h3⟩
 rcases h with h|h|h
 ·rw[h] at h1;cases h1
 ·omega
 ·omega
theorem yG {m:List fP} {c:List Int} {s:Int} (h1:zO m c=true) (h2:0<=s) (h3:s<=(c.length:Int)):bH m c s=((if 0<s then c.getD (s - 1).toNat 0 else 0),(if s<(c.length:Int) then c.getD s.toNat 0 else(m.length:Int))):=if_pos ⟨h1,h2,h3⟩
theorem bOA {m:List fP} {c:List Int} {s:Int} (h1:zO m c=true) (h2:0<=s) (h3:s<=(c.length:Int)):0<=(bH m c s).1/\(bH m c s).1<(bH m c s).2/\(bH m c s).2<=(m.length:Int):=by
 obtain⟨hm,hc⟩:=(aK3 m c).1 h1
 have As:=((bO m).1 hm).1
 rw[yG h1 h2 h3]
 dsimp only
 by_cases ha:0<s
 ·have e1:=(aR4 c m.length (show(s - 1).toNat<c.length by omega)).1 (hc _ (by omega))
  rw[if_pos ha,aP (show(s - 1).toNat<c.length by omega)]
  by_cases hb:s<(c.length:Int)
  ·have e2:=(aR4 c m.length (show s.toNat<c.length by omega)).1 (hc _ (by omega))
   rw[if_pos hb,aP (show s.toNat<c.length by omega)]
   have e3:(s - 1).toNat=s.toNat - 1:=by omega
   have e4:c[(s - 1).toNat]'(by omega)=c[s.toNat - 1]'(by omega):=by congr 1
   rw[e4] at e1⊢
   omega
  ·rw[if_neg hb];omega
 ·rw[if_neg ha]
  by_cases hb:s<(c.length:Int)
  ·have e2:=(aR4 c m.length (show s.toNat<c.length by omega)).1 (hc _ (by omega))
   rw[if_pos hb,aP (show s.toNat<c.length by omega)]
   omega
  ·rw[if_neg hb];omega
theorem aVJ (m:List fP) (c:List Int) (s:Int):0<=(bH m c s).1/\(bH m c s).1<=(bH m c s).2/\(bH m c s).2<=(m.length:Int)/\((bH m c s).1<(bH m c s).2->dD m=true/\zO m c=true/\0<=s/\s<=(c.length:Int)):=by
 by_cases h:zO m c=true/\0<=s/\s<=(c.length:Int)
 ·have hb:=bOA h.1 h.2.1 h.2.2
  exact⟨hb.1,by omega,hb.2.2,fun _=>⟨((aK3 m c).1 h.1).1,h⟩⟩
 ·have e:bH m c s=(0,0):=if_neg h
  rw[e]
  exact⟨Int.le_refl _,Int.le_refl _,by show(0:Int)<=_;omega,fun h=>absurd h (Int.lt_irrefl _)⟩
theorem bLX {m:List fP} (h:dD m=true) {i:Int} (h0:0<=i) (h1:i<(m.length:Int)):1<=bF5 m i/\bF5 m i<=6/\1<=aUQ m i/\aUQ m i<=6:=by
 have hk:i.toNat<m.length:=by omega
 have h2:=(vO m hk).1 (((bO m).1 h).2.2 _ hk)
 have h3:=((lO _).1 h2.1).1
 unfold bF5 aUQ
 rw[aP hk]
 omega
theorem bMT {m:List fP} (h:dD m=true) {a:Int} (h0:0<=a):(k:Nat)->a+(k:Int)<=(m.length:Int)->0<=aKP m a k/\aKP m a k<=6 * (k:Int)
 | 0,_=>by unfold aKP;omega
 | k+1,hk=>by
  have h1:=bMT h h0 k (by omega)
  have h2:=bLX h (i:=a+(k:Int)) (by omega) (by omega)
  unfold aKP;omega
theorem bVG (c:dE) (s:Int):0<=inF c s/\inF c s<=6/\0<=aKD c s/\aKD c s<=6/\0<=aHX c s/\aHX c s<=54/\0<=zF c s/\zF c s<=54:=by
 obtain⟨h0,h1,h2,h3⟩:=aVJ c.1 c.2.1 s
 by_cases h:(bH c.1 c.2.1 s).1<(bH c.1 c.2.1 s).2
 ·obtain⟨hm,-⟩:=h3 h
  have hl:=((bO _).1 hm).2.1
  have a1:=bLX hm (i:=(bH c.1 c.2.1 s).1) h0 (by omega)
  have a2:=bLX hm (i:=(bH c.1 c.2.1 s).2 - 1) (by omega) (by omega)
  have a3:=bMT hm h0 ((bH c.1 c.2.1 s).2 - (bH c.1 c.2.1 s).1).toNat (by omega)
  have e1:inF c s=bF5 c.1 (bH c.1 c.2.1 s).1:=if_pos h
  have e2:aKD c s=aUQ c.1 ((bH c.1 c.2.1 s).2 - 1):=if_pos h
  have e3:aHX c s=aKP c.1 (bH c.1 c.2.1 s).1 ((bH c.1 c.2.1 s).2 - (bH c.1 c.2.1 s).1).toNat+aKD c s:=rfl
  have e4:zF c s=if aF4 c s=true then inF c s else aHX c s:=rfl
  split at e4<;>omega
 ·have e1:inF c s=0:=if_neg h
  have e2:aKD c s=0:=if_neg h
  have e3:aHX c s=aKP c.1 (bH c.1 c.2.1 s).1 ((bH c.1 c.2.1 s).2 - (bH c.1 c.2.1 s).1).toNat+aKD c s:=rfl
  rw[show((bH c.1 c.2.1 s).2 - (bH c.1 c.2.1 s).1).toNat=0 by omega] at e3
  have e5:aKP c.1 (bH c.1 c.2.1 s).1 0=0:=rfl
  have e4:zF c s=if aF4 c s=true then inF c s else aHX c s:=rfl
  split at e4<;>omega
theorem cGD {m:List fP} {c:List Int} {s:Int} (h1:zO m c=true) (h2:0<s) (h3:s<(c.length:Int)):(c.getD (s - 1).toNat 0,c.getD s.toNat 0)=bH m c s:=by rw[yG h1 (by omega) (by omega),if_pos h2,if_pos h3]
theorem cID {m:List fP} {c:List Int} {s:Int} (h1:zO m c=true) (h2:0<s) (h3:s=(c.length:Int)):(c.getD (s - 1).toNat 0,(m.length:Int))=bH m c s:=by rw[yG h1 (by omega) (by omega),if_pos h2,if_neg (by omega)]
theorem cII {m:List fP} {c:List Int} {s:Int} (h1:zO m c=true) (h2:s=0) (h3:s<(c.length:Int)):(0,c.getD s.toNat 0)=bH m c s:=by rw[yG h1 (by omega) (by omega),if_neg (by omega),if_pos h3]
theorem cGM {m:List fP} {c:List Int} {s:Int} (h1:zO m c=true) (h2:s=0) (h3:s=(c.length:Int)):(0,(m.length:Int))=bH m c s:=by rw[yG h1 (by omega) (by omega),if_neg (by omega),if_neg (by omega)]
theorem aYA {c:dE} {s:Int} (h0:0<=s) (h1:s<(c.2.2.2.1.length:Int)):c.2.2.2.1.getD s.toNat false=aF4 c s:=by unfold aF4;rw[decide_eq_true ⟨h0,h1⟩,Bool.true_and]
theorem bU1 {c:dE} {s:Int} (h:s<0\/(c.2.2.2.1.length:Int)<=s):false=aF4 c s:=by unfold aF4;rw[decide_eq_false (by omega),Bool.false_and]
theorem cHF {c:dE} {s:Int} (h:(bH c.1 c.2.1 s).1=(bH c.1 c.2.1 s).2):(0,0)=(inF c s,aKD c s):=by
 unfold inF aKD;rw[if_neg (by omega),if_neg (by omega)]
theorem cIM {c:dE} {s:Int} (h:(bH c.1 c.2.1 s).1<(bH c.1 c.2.1 s).2):(bF5 c.1 (bH c.1 c.2.1 s).1,aUQ c.1 ((bH c.1 c.2.1 s).2 - 1))=(inF c s,aKD c s):=by
 unfold inF aKD;rw[if_pos h,if_pos h]
theorem bYP {c:dE} {s:Int} (h:aF4 c s=true):inF c s=zF c s:=(if_pos h).symm
theorem bO2 {c:dE} {s:Int} (h:aF4 c s=false):aHX c s=zF c s:=(if_neg (by rw[h];simp)).symm
theorem cG4 {k v:Int} (h1:0<=k) (h2:k<=5) (h3:0<=v) (h4:v<=54):0<=k * v/\k * v<=270:=by
 refine⟨Int.mul_nonneg h1 h3,?_⟩
 have:=Int.mul_le_mul h2 h4 h3 (by omega:(0:Int)<=5)
 omega
theorem cFB {c:dE} {s micro:Int} (h:(bH c.1 c.2.1 s).2<=(bH c.1 c.2.1 s).1\/micro<1\/5<micro\/4<(c.2.1.length:Int)+1):0=aE9 c s micro:=by unfold aE9;rw[if_neg (by omega)]
theorem bHU {c:dE} {s micro k r:Int} (h1:(bH c.1 c.2.1 s).1<(bH c.1 c.2.1 s).2) (h2:1<=micro) (h3:micro<=5) (h4:(c.2.1.length:Int)+1<=4) (hk:k=if c.2.2.1=2 then min micro ((c.2.1.length:Int)+1 - s) else micro) (hr:r=if aF4 c s=true then aHX c s else 0) :
 k * zF c s+max (inF c s) (aKD c s)+r=aE9 c s micro:=by unfold aE9;rw[if_pos ⟨h1,h2,h3,h4⟩,hk,hr]
theorem aYF {c:dE} {s micro k:Int} (h1:(bH c.1 c.2.1 s).1<(bH c.1 c.2.1 s).2) (h2:1<=micro) (h3:micro<=5) (h4:(c.2.1.length:Int)+1<=4) (hk:k=if c.2.2.1=2 then min micro ((c.2.1.length:Int)+1 - s) else micro) (hr:aF4 c s=false) :
  k * zF c s+max (inF c s) (aKD c s)=aE9 c s micro:=by
 have h:=bHU (s:=s) h1 h2 h3 h4 hk (r:=0) (if_neg (by rw[hr];simp)).symm
 omega
theorem aVP {m:List fP} {c:List Int} (h:zO m c=true):cN m c=(c.length:Int)+1:=if_pos h
theorem bQK {m:List fP} {c:List Int} (h:zO m c=false):cN m c=0:=if_neg (by rw[h];simp)
theorem cHA {c:dE} (h:¬c.2.2.2.2.1.length=c.2.1.length):aF8 c=false:=by unfold aF8;rw[decide_eq_false h,Bool.false_and]
theorem cIP {c:dE} {k:Nat} (hk:k<c.2.2.2.2.1.length) (h:¬(1<=c.2.2.2.2.1[k]/\c.2.2.2.2.1[k]<=5)):aF8 c=false:=by
 have e:c.2.2.2.2.1.all (fun n=>decide (1<=n/\n<=5))=false:=aFB hk (decide_eq_false h)
 unfold aF8
 rw[e,Bool.and_false]
theorem cB1 {c:dE} (h:c.2.2.2.2.1.length=c.2.1.length) (h2:c.2.2.2.2.1.all (fun n=>decide (1<=n/\n<=5))=true):aF8 c=true:=by unfold aF8;rw[decide_eq_true h,h2];rfl
theorem cKT {c:dE} {m:Int} (h:¬(c.2.2.2.2.2.length:Int)=cN c.1 c.2.1):aBF c m=false:=by unfold aBF;rw[decide_eq_false h,Bool.false_and]
theorem cK6 {c:dE} {m:Int} {k:Nat} (hk:k<c.2.2.2.2.2.length) (h:¬(aE9 c (k:Int) m<=c.2.2.2.2.2.getD k 0/\c.2.2.2.2.2.getD k 0<=100000)):aBF c m=false:=by
 refine Bool.eq_false_iff.2 fun hh=>h ?_
 unfold aBF at hh
 rw[Bool.and_eq_true,List.all_eq_true] at hh
 exact of_decide_eq_true (hh.2 k (List.mem_range.2 hk))
theorem cML {c:dE} {m:Int} (h:(c.2.2.2.2.2.length:Int)=cN c.1 c.2.1) (h2:∀i,i<c.2.2.2.2.2.length->bWS c m i=true):aBF c m=true:=by
 unfold aBF;rw[decide_eq_true h,Bool.true_and,List.all_eq_true]
 exact fun i hi=>h2 i (List.mem_range.1 hi)
theorem cLP {c:dE} {b:List bT} (h:dD c.1=false):1=iB c b:=by unfold iB;rw[if_pos h]
theorem cM4 {c:dE} {b:List bT} (h1:dD c.1=true) (h:pD c.1 b=false):2=iB c b:=by unfold iB;rw[if_neg (by rw[h1];simp),if_pos h]
theorem cLF {c:dE} {b:List bT} (h1:dD c.1=true) (h2:pD c.1 b=true) (h:cN c.1 c.2.1=0\/4<cN c.1 c.2.1):3=iB c b:=by unfold iB;rw[if_neg (by rw[h1];simp),if_neg (by rw[h2];simp),if_pos h]
theorem cJX {c:dE} {b:List bT} (h1:dD c.1=true) (h2:pD c.1 b=true) (h3:¬(cN c.1 c.2.1=0\/4<cN c.1 c.2.1)) (h:¬(c.2.2.1=1\/c.2.2.1=2)):4=iB c b:=by unfold iB;rw[if_neg (by rw[h1];simp),if_neg (by rw[h2];simp),if_neg h3,if_pos h]
theorem cM7 {c:dE} {b:List bT} (h1:dD c.1=true) (h2:pD c.1 b=true) (h3:¬(cN c.1 c.2.1=0\/4<cN c.1 c.2.1)) (h4:c.2.2.1=1\/c.2.2.1=2) (h:¬(c.2.2.2.1.length:Int)=cN c.1 c.2.1):5=iB c b:=by
 unfold iB;rw[if_neg (by rw[h1];simp),if_neg (by rw[h2];simp),if_neg h3,if_neg (Classical.not_not.2 h4),if_pos h]
theorem cJW {c:dE} {b:List bT} (h1:dD c.1=true) (h2:pD c.1 b=true) (h3:¬(cN c.1 c.2.1=0\/4<cN c.1 c.2.1)) (h4:c.2.2.1=1\/c.2.2.1=2) (h5:(c.2.2.2.1.length:Int)=cN c.1 c.2.1) (h:aF8 c=false):6=iB c b:=by
 unfold iB;rw[if_neg (by rw[h1];simp),if_neg (by rw[h2];simp),if_neg h3,if_neg (Classical.not_not.2 h4),if_neg (Classical.not_not.2 h5),if_pos h]
theorem cLJ {c:dE} {b:List bT} (h1:dD c.1=true) (h2:pD c.1 b=true) (h3:¬(cN c.1 c.2.1=0\/4<cN c.1 c.2.1)) (h4:c.2.2.1=1\/c.2.2.1=2) (h5:(c.2.2.2.1.length:Int)=cN c.1 c.2.1) (h6:aF8 c=true) (h:aBF c (b.length:Int)=false):7=iB c b:=by
 unfold iB;rw[if_neg (by rw[h1];simp),if_neg (by rw[h2];simp),if_neg h3,if_neg (Classical.not_not.2 h4),if_neg (Classical.not_not.2 h5),if_neg (by rw[h6];simp),if_pos h]
theorem cLT {c:dE} {b:List bT} (h1:dD c.1=true) (h2:pD c.1 b=true) (h3:¬(cN c.1 c.2.1=0\/4<cN c.1 c.2.1)) (h4:c.2.2.1=1\/c.2.2.1=2) (h5:(c.2.2.2.1.length:Int)=cN c.1 c.2.1) (h6:aF8 c=true) (h7:aBF c (b.length:Int)=true):0=iB c b:=by
 unfold iB;rw[if_neg (by rw[h1];simp),if_neg (by rw[h2];simp),if_neg h3,if_neg (Classical.not_not.2 h4),if_neg (Classical.not_not.2 h5),if_neg (by rw[h6];simp),if_neg (by rw[h7];simp)]
def tX:Con:=⟨124,(.cMV aG bAM),aU,[.val ⟨true,aG,[]⟩,.val ⟨false,aA,[]⟩,.val ⟨false,tI,[]⟩],[⟨false,tI,[0]⟩,⟨false,tI,[0]⟩],false,none,
 ((fun x=>aJJ x.1/\List.length x.2.1<=1000000000):(cC×(bX×Int))->Prop),
 ((fun x=>bH x.1 x.2.1 x.2.2):(cC×(bX×Int))->(Int×Int))⟩
def aP3:T:=mT 0 aG (lU aG aA tI 0) aSZ <| dL 1 2 (wJ tI aN) <| cK aSZ <| gQ 1 iK (kM (fG aEJ 2) aN 3) <| dL 4 5 (wJ tI aN) <| iE (lU aG aA tI 0) <| vH .gtr (fG aEJ 2) aN 7 (kK (fG aEJ 2) 3 tI aA aSZ 8 <| cK aSZ <| cX (fG aEJ 2) 10 11 (jZ 3 aSZ (fG aEJ 2) <| jB tI tI cU fE) <| jB tI tI cU cQ) <| cK aSZ <| cX (fG aEJ 2) 8 9 (jZ 3 aSZ (fG aEJ 2) <| jB tI tI aN cI) <| jB tI tI aN cQ
theorem aBV:Con.Holds Tryz.prog tX:=tk ⟨[],[]⟩ aP3 (aC aUM (aC lV aH)) fun(x:cC×(bX×Int)) hx hp=>by
 dsimp only [tX] at hx hp⊢
 obtain⟨m,c,s⟩:=x
 obtain⟨hp1,hp2⟩:aJJ m/\List.length c<=1000000000:=hp
 delta aP3 aGE kI;refine dR ?_
 (refine dQ ?_;try with_reducible exact True.intro)
 (repeat' first|intro _|(with_reducible apply And.intro))
 all_goals first|omega|exact hp1|exact hp2|exact(bE4 (.inl (by assumption))).symm|exact(bE4 (.inr (by omega))).symm|exact cGD (by assumption) (by omega) (by omega)|exact cID (by assumption) (by omega) (by omega)|exact cII (by assumption) (by omega) (by omega)|exact cGM (by assumption) (by omega) (by omega)|skip
def aDI:Con:=⟨224,cJ3,tI,[.val ⟨true,bR,[]⟩,.val ⟨false,tI,[]⟩],[⟨false,tI,[0]⟩],false,none,
 ((fun x=>aS6 x.1):(dE×Int)->Prop),
 ((fun x=>aHX x.1 x.2):(dE×Int)->(Int))⟩
def aS7:T:=gQ 0 aEJ [aB7 aG aAN bR,gS bR 1 bR 0,iX bR] <| cBQ aU tI aJB aN <| aEY tI tI (kL 2) aJ7 3 (bZ 243 bK aG (aB7 aG aAN bR) (kL 2) <| fR jT (aAJ 2) (dZ bK 4) <| aCX (kL 2) 0 tI cQ fF) <| aD8 aJ7 aJB 4 (kK aJ7 243 bK aG (aB7 aG aAN bR) 5 <| fR jT (aAJ 2) (qR 6) <| cF 7) (aAJ 2)
theorem aSK:Con.Holds Tryz.prog aDI:=tk ⟨[(2989,1002,iZ 18 16++[.dr 9]++iZ 15 10++[.dr 0,.dr 1,.tm 8 0,.tm 7 0])],[]⟩ aS7 (aC aBV aH) fun(x:dE×Int) hx hp=>by
 dsimp only [aDI] at hx hp⊢
 have hp:aS6 x.1:=hp
 have hr:=aVJ x.1.1 x.1.2.1 x.2
 have Hv:List.length x.1.1<=1000000000:=hp.1.1
 have hb:=bVG x.1 x.2
 delta aS7 tX;refine dR ?_
 refine dQ ?_
 refine⟨⟨hp.1,hp.2.1⟩,fun _=>?_⟩
 refine eY (fun k=>((bH x.1.1 x.1.2.1 x.2).1+(k:Int),aKP x.1.1 (bH x.1.1 x.1.2.1 x.2).1 k)) ((bH x.1.1 x.1.2.1 x.2).2 - (bH x.1.1 x.1.2.1 x.2).1).toNat (Prod.ext (Int.add_zero _).symm rfl) fun I μ k hk _ go=>?_
 dsimp only
 refine dQ ?_
 constructor
 ·intro hlt
  have hm:=(hr.2.2.2 (by omega)).1
  have hl:=((bO _).1 hm).2.1
  have h1:=bMT hm hr.1 k (by omega)
  have h2:=bLX hm (i:=(bH x.1.1 x.1.2.1 x.2).1+(k:Int)) (by omega) (by omega)
  have e:aKP x.1.1 (bH x.1.1 x.1.2.1 x.2).1 (k+1)=aKP x.1.1 (bH x.1.1 x.1.2.1 x.2).1 k+bF5 x.1.1 ((bH x.1.1 x.1.2.1 x.2).1+(k:Int)):=rfl
  rw[show(List.getD x.1.1 ((bH x.1.1 x.1.2.1 x.2).1+(k:Int)).toNat (aK bK)).2.1=bF5 x.1.1 ((bH x.1.1 x.1.2.1 x.2).1+(k:Int)) from rfl]
  (repeat' first|intro _|(refine go _ ?_ ?_ ?_)|(refine go _ ?_ ?_)|(with_reducible apply And.intro))
  all_goals first|omega|(refine Prod.ext ?_ ?_<;>refine @Eq.trans Int _ _ _ ?_ rfl<;>dsimp only<;>omega)|skip
 ·intro hge
  have e:k=((bH x.1.1 x.1.2.1 x.2).2 - (bH x.1.1 x.1.2.1 x.2).1).toNat:=by omega
  subst e
  have e9:aHX x.1 x.2=aKP x.1.1 (bH x.1.1 x.1.2.1 x.2).1 ((bH x.1.1 x.1.2.1 x.2).2 - (bH x.1.1 x.1.2.1 x.2).1).toNat+aKD x.1 x.2:=rfl
  rw[show(List.getD x.1.1 ((bH x.1.1 x.1.2.1 x.2).2 - 1).toNat (aK bK)).2.2.1=aUQ x.1.1 ((bH x.1.1 x.1.2.1 x.2).2 - 1) from rfl]
  by_cases hq:(bH x.1.1 x.1.2.1 x.2).1<(bH x.1.1 x.1.2.1 x.2).2
  ·have e8:aKD x.1 x.2=aUQ x.1.1 ((bH x.1.1 x.1.2.1 x.2).2 - 1):=if_pos hq
   rw[<-e8]
   (repeat' first|intro _|(with_reducible apply And.intro))
   all_goals first|omega|exact e9.symm|skip
  ·have e8:aKD x.1 x.2=0:=if_neg hq
   (repeat' first|intro _|(with_reducible apply And.intro))
   all_goals first|omega|(rw[e9,e8,Int.add_zero])|skip
def aGA:Con:=⟨223,cJ3,tI,[.val ⟨true,bR,[]⟩,.val ⟨false,tI,[]⟩],[⟨false,tI,[0]⟩],false,none,
 ((fun x=>aS6 x.1):(dE×Int)->Prop),
 ((fun x=>zF x.1 x.2):(dE×Int)->(Int))⟩
def aPO:T:=gQ 0 aEJ [aB7 aG aAN bR,gS bR 1 bR 0,iX bR] <| vH .gtr aJ7 aJB 2 (gL 4 .bool (gS bR 3 bR 0) <| cX (iX bR) 3 4 (bZ 4 .bool mG (gS bR 3 bR 0) (iX bR) <| aAG 5 (bZ 243 bK aG (aB7 aG aAN bR) aJB <| .ret (dZ bK 6)) <| cD 1 0 <| cF 6) <| cD 1 0 <| cF 5) <| cD 1 0 <| cF 3
theorem bEG:Con.Holds Tryz.prog aGA:=tk ⟨[],[]⟩ aPO (aC aBV (aC aSK aH)) fun(x:dE×Int) hx hp=>by
 dsimp only [aGA] at hx hp⊢
 have hp:aS6 x.1:=hp
 have hr:=aVJ x.1.1 x.1.2.1 x.2
 have Hv:List.length x.1.1<=1000000000:=hp.1.1
 have red:aF4 x.1 x.2=true\/aF4 x.1 x.2=false:=by cases aF4 x.1 x.2<;>simp
 have none_:(bH x.1.1 x.1.2.1 x.2).2<=(bH x.1.1 x.1.2.1 x.2).1->aHX x.1 x.2=zF x.1 x.2:=fun h=>by
  have e0:=cHF (c:=x.1) (s:=x.2) (by omega)
  rcases red with h1|h1
  ·rw[<-bYP h1]
   have e1:inF x.1 x.2=0:=(congrArg Prod.fst e0).symm
   have e2:aKD x.1 x.2=0:=(congrArg Prod.snd e0).symm
   unfold aHX
   rw[e1,e2,show((bH x.1.1 x.1.2.1 x.2).2 - (bH x.1.1 x.1.2.1 x.2).1).toNat=0 by omega];rfl
  ·exact bO2 h1
 have redo_t:(bH x.1.1 x.1.2.1 x.2).1<(bH x.1.1 x.1.2.1 x.2).2->aF4 x.1 x.2=true->bF5 x.1.1 (bH x.1.1 x.1.2.1 x.2).1=zF x.1 x.2:=fun h h1=>by
  rw[<-bYP h1];exact congrArg Prod.fst (cIM h)
 delta aPO tX aDI;refine dR ?_
 refine dQ ?_
 refine⟨⟨hp.1,hp.2.1⟩,fun _=>⟨fun hlt _=>?_,fun h=>⟨hp,fun _=>none_ h⟩⟩⟩
 have h0:=(hr.2.2.2 hlt).2.2.1
 refine⟨fun hl=>⟨by omega,fun h=>⟨by omega,fun _=>?_⟩,fun h=>⟨hp,fun _=>?_⟩⟩,fun h=>⟨hp,fun _=>bO2 (bU1 (.inr h)).symm⟩⟩
 ·exact redo_t hlt ((aYA h0 hl).symm.trans h)
 ·exact bO2 ((aYA h0 hl).symm.trans h)
def aL3:Con:=⟨122,(.cMV bR aU),tI,[.val ⟨true,bR,[]⟩,.val ⟨false,tI,[]⟩,.val ⟨false,tI,[]⟩],[⟨false,tI,[0]⟩],false,none,
 ((fun x=>aS6 x.1):(dE×eP)->Prop),
 ((fun x=>aE9 x.1 x.2.1 x.2.2):(dE×eP)->(Int))⟩
def bEI:T:=gQ 0 aEJ [dT aG aAN bR aU,aMH 1 aU,aIS] <| aBJ .leq aJ7 aJB 2 aN <| mI 1 iK (fA bR aU 2) bF 5 <| dL 3 4 aN <| cK (aMH 1 aU) <| jW fF <| mI 1 iK cQ bF 4 <| dL 7 8 aN <| iL (aMH 2 aU) 2 9 (cK (aMH 1 aU) <| jW cI <| fR mY cO aIS <| lR bMF (fA bR aU 2) 12 <| lL aJ7 <| bZ 243 bK aG (dT aG aAN bR aU) aJB <| cH 243 bK aG (dT aG aAN bR aU) 14 <| fR bEQ (dZ bK 15) (qR 16) <| dF 2 bR (bS bR aU) aIS <| mF pY tI tI 13 18 <| mF jT tI tI 19 17 <| gL 4 .bool (aMH 3 aU) <| gB aIS 21 22 (bZ 4 .bool mG (aMH 3 aU) aIS <| jL 23 (dF 3 bR (bS bR aU) aIS <| mF jT tI tI 20 24 <| cF 25) qJ) qJ) <| lL aJ7 <| bZ 243 bK aG (dT aG aAN bR aU) aJB <| cH 243 bK aG (dT aG aAN bR aU) 10 <| fR bEQ (dZ bK 11) (qR 12) <| dF 2 bR (bS bR aU) aIS <| lR pY (fA bR aU 2) 14 <| mF jT tI tI 15 13 <| gL 4 .bool (aMH 3 aU) <| gB aIS 17 18 (bZ 4 .bool mG (aMH 3 aU) aIS <| jL 19 (dF 3 bR (bS bR aU) aIS <| mF jT tI tI 16 20 <| cF 21) gM) gM
theorem bHP:Con.Holds Tryz.prog aL3:=tk ⟨[],[]⟩ bEI (aC aBV (aC lV (aC bEG (aC aSK aH)))) fun(x:dE×eP) hx hp=>by
 dsimp only [aL3] at hx hp⊢
 obtain⟨c,s,micro⟩:=x
 have hp:aS6 c:=hp
 have hb:=bVG c s
 have hr:=aVJ c.1 c.2.1 s
 have Hv:List.length c.1<=1000000000:=hp.1.1
 delta bEI tX kI aGA aDI;refine dR ?_
 refine dQ ?_
 refine⟨⟨hp.1,hp.2.1⟩,fun _=>⟨fun h=>cFB (.inl h),fun Cf=>?_⟩⟩
 have h0:=(hr.2.2.2 Cf).2.2
 have hl:=hp.2.1
 have hrl:=hp.2.2.1
 have e1:inF c s=bF5 c.1 (bH c.1 c.2.1 s).1:=if_pos Cf
 have e2:aKD c s=aUQ c.1 ((bH c.1 c.2.1 s).2 - 1):=if_pos Cf
 rw[show(List.getD c.1 (Int.toNat (bH c.1 c.2.1 s).1) (aK bK)).2.1=inF c s from e1.symm,show(List.getD c.1 ((bH c.1 c.2.1 s).2 - 1).toNat (aK bK)).2.2.1=aKD c s from e2.symm]
 (repeat' first|intro _|(with_reducible apply And.intro))
 all_goals first|omega|exact hp|exact cFB (by omega)|skip
 all_goals have hq1:=cG4 (k:=min micro ((c.2.1.length:Int)+1 - s)) (v:=zF c s) (by omega) (by omega) (by omega) (by omega)
 all_goals have hq2:=cG4 (k:=micro) (v:=zF c s) (by omega) (by omega) (by omega) (by omega)
 all_goals first|omega|exact bHU Cf (by omega) (by omega) (by omega) (if_pos (by assumption)).symm (if_pos (by assumption)).symm|exact bHU Cf (by omega) (by omega) (by omega) (if_neg (by assumption)).symm (if_pos (by assumption)).symm|exact aYF Cf (by omega) (by omega) (by omega) (if_pos (by assumption)).symm (by assumption)|exact aYF Cf (by omega) (by omega) (by omega) (if_neg (by assumption)).symm (by assumption)|exact bHU Cf (by omega) (by omega) (by omega) (if_pos (by assumption)).symm (if_pos ((aYA (by omega) (by omega)).symm.trans (by assumption))).symm|exact bHU Cf (by omega) (by omega) (by omega) (if_neg (by assumption)).symm (if_pos ((aYA (by omega) (by omega)).symm.trans (by assumption))).symm|exact aYF Cf (by omega) (by omega) (by omega) (if_pos (by assumption)).symm ((aYA (by omega) (by omega)).symm.trans (by assumption))|exact aYF Cf (by omega) (by omega) (by omega) (if_neg (by assumption)).symm ((aYA (by omega) (by omega)).symm.trans (by assumption))|exact aYF Cf (by omega) (by omega) (by omega) (if_pos (by assumption)).symm (bU1 (by omega)).symm|exact aYF Cf (by omega) (by omega) (by omega) (if_neg (by assumption)).symm (bU1 (by omega)).symm|skip
def aYJ:Con:=⟨31,(.cMV bR aO),tI,[.val ⟨true,bR,[]⟩,.val ⟨false,aO,[]⟩],[⟨false,tI,[0]⟩],false,none,
 ((fun x=>aS6 x.1):(dE×iC)->Prop),
 ((fun x=>iB x.1 x.2):(dE×iC)->(Int))⟩
def bK7:T:=gH 0 (dT aG aAN bR aO) 1 2 bF <| eQ 1 aG aO (dT aG aAN bR aO) aX9 <| dL 3 4 aA2 <| mT 2 aG (dT aG aAN bR aO) (zA 1) <| dL 5 6 aP7 <| cK (zA 1) <| jW cY <| lN cM aMI 9 aP7 <| mI 3 iK (zA 2) bF 2 <| dL 10 11 aMI <| gL 4 .bool (zA 3) <| cK (zA 1) <| jW eM <| rO fE dK 15 aCV <| cK (zA 4) <| cK (zA 1) <| rO gM iR 18 uJ <| jY 3 tI (zA 4) <| cX kA 20 21 (cH 3 tI aA (zA 4) 19 <| mI 3 iK qS bF 5 <| dL 23 24 uJ <| oM kA 0 25) <| cK (iP bR 5 bR aO) <| cK (zA 1) <| jW aD9 <| rO qS (.Z 24) 25 sV <| jY 3 tI (iP bR 5 bR aO) <| gB tJ 27 28 (cH 3 tI aA (iP bR 5 bR aO) 26 <| vB aL aX9 <| gQ 4 bVC (kM (bS bR aO) tJ 30) <| mI 3 iK aG9 aEM 100000 <| dL 32 33 sV <| oM tJ 0 34) aN
theorem cA1:Con.Holds Tryz.prog aYJ:=tk ⟨[(2963,128019,iZ 47 7++[.dr 0,.tm 5 0]),(2948,512026,iZ 69 62++iZ 52 48++[.dr 5,.tm 6 0])],[]⟩ bK7 (aC uW (aC bQT (aC aUM (aC lV (aC bHP aH))))) fun(x:dE×iC) hx hp=>by
 dsimp only [aYJ] at hx hp⊢
 obtain⟨c,b⟩:=x
 have hp:aS6 c:=hp
 have A0:=hp.2.1
 have hl2:=hp.2.2.1
 have Cl:=hp.2.2.2.1
 have hl4:List.length c.2.2.2.2.2<=1000000000:=hp.2.2.2.2
 delta bK7 rE aPD aGE kI aL3;refine dR ?_
 refine dQ ?_
 refine⟨fun h=>cLP h,fun h1=>⟨fun h=>cM4 h1 h,fun h2=>⟨⟨hp.1,hp.2.1⟩,fun h=>cLF h1 h2 (.inl (bQK h)),fun hc _=>⟨by omega,fun _=>⟨fun h=>cLF h1 h2 (.inr (by rw[aVP hc];exact h)),fun h3=>?_⟩⟩⟩⟩⟩
 have hst:=aVP hc
 have h3':¬(cN c.1 c.2.1=0\/4<cN c.1 c.2.1):=by omega
 refine⟨fun h=>cJX h1 h2 h3' (by omega),fun h4 _ _=>⟨by omega,fun _=>⟨fun h=>cM7 h1 h2 h3' (by omega) (by omega),fun h5=>?_⟩⟩⟩
 have h4':c.2.2.1=1\/c.2.2.1=2:=by omega
 have Ex:(c.2.2.2.1.length:Int)=cN c.1 c.2.1:=by omega
 refine fun _ _=>⟨fun h=>cJW h1 h2 h3' h4' Ex (cHA (by omega)),fun h6=>?_⟩
 refine aC6 (fun k=>(k:Int)) (fun k=>(List.take k c.2.2.2.2.1).all (fun n=>decide (1<=n/\n<=5))=true) (List.length c.2.2.2.2.1) rfl rfl fun I μ k hk hG _ go=>?_
 try dsimp only
 refine dQ ?_
 intro _
 constructor
 ·intro hlt
  have hk':k<List.length c.2.2.2.2.1:=by omega
  have e:=xC (fun n:Int=>decide (1<=n/\n<=5)) c.2.2.2.2.1 hk'
  simp only[aP hk']
  (repeat' first|intro _|(refine go _ ?_ ?_ ?_)|(refine go _ ?_ ?_)|(with_reducible apply And.intro))
  all_goals first|omega|exact cJW h1 h2 h3' h4' Ex (cIP hk' (by omega))|(rw[e,hG,Bool.true_and];exact decide_eq_true ⟨by omega,by omega⟩)|rfl
 intro hge
 have h6':aF8 c=true:=cB1 (by omega) (bM4 hG (by omega))
 clear go hG
 refine fun _ _=>⟨by omega,fun _=>⟨fun h=>cLJ h1 h2 h3' h4' Ex h6' (cKT (by omega)),fun h7=>?_⟩⟩
 refine aC6 (fun k=>(k:Int)) (fun k=>∀i,i<k->bWS c (b.length:Int) i=true) (List.length c.2.2.2.2.2) rfl (fun i hi=>absurd hi (Nat.not_lt_zero _)) fun I μ k hk hG _ go=>?_
 try dsimp only
 refine dQ ?_
 intro _
 constructor
 ·intro hlt
  have hk':k<List.length c.2.2.2.2.2:=by omega
  (repeat' first|intro _|(refine go _ ?_ ?_ ?_)|(refine go _ ?_ ?_)|(with_reducible apply And.intro))
  all_goals first|omega|exact hp|exact cLJ h1 h2 h3' h4' Ex h6' (cK6 hk' (fun hh=>by have h1:aE9 c (k:Int) (b.length:Int)<=List.getD c.2.2.2.2.2 k (aK tI):=hh.1;have h2:List.getD c.2.2.2.2.2 k (aK tI)<=100000:=hh.2;omega))|exact aHO hG (decide_eq_true (by assumption)) _ (by assumption)|exact aHO hG (decide_eq_true ⟨by omega,by omega⟩) _ (by assumption)|rfl|skip
 ·intro hge
  exact cLT h1 h2 h3' h4' Ex h6' (cML (by omega) fun i hi=>hG i (by omega))
def cIC (n k b:Nat) (c:dE) (l:iC):Prop:=List.length c.1<=n/\(∀o∈(c.1:cC),List.length o.2.2.2<=40)/\List.length c.2.1<=k/\List.length c.2.2.2.1<=k+1/\List.length c.2.2.2.2.1<=k/\List.length c.2.2.2.2.2<=k+1 /\
 List.length l<=b/\∀p∈(l:List bT),List.length p.1<=7/\List.length p.2<=7
theorem cLA (c:dE) (s micro:Int):0<=aE9 c s micro/\aE9 c s micro<=330:=by
 unfold aE9
 split
 ·rename_i h
  obtain⟨h1,h2,h3,h4⟩:=h
  have hb:=bVG c s
  have hs:s<=(c.2.1.length:Int):=Int.not_lt.1 fun hh=>by rw[bE4 (.inr (.inr hh))] at h1;exact absurd h1 (Int.lt_irrefl _)
  have q1:=cG4 (k:=min micro ((c.2.1.length:Int)+1 - s)) (v:=zF c s) (by omega) (by omega) (by omega) (by omega)
  have q2:=cG4 (k:=micro) (v:=zF c s) (by omega) (by omega) (by omega) (by omega)
  split<;>split<;>omega
 ·omega
def cuB (l:List Int) (n:Nat) (j:Int):Prop:=(∀i,i<l.length->cutAt l n i=true)/\(0<l.length->l.getD (l.length - 1) 0<j)
theorem aRG {l:List Int} {v:Int} {j:Nat} (hj:j<l.length):(l++[v]).getD j 0=l.getD j 0:=by
 rw[List.getD_eq_getElem?_getD,List.getD_eq_getElem?_getD,List.getElem?_append_left hj]
theorem aYU {l:List Int} {v:Int}:(l++[v]).getD l.length 0=v:=by
 rw[List.getD_eq_getElem?_getD,List.getElem?_append_right (Nat.le_refl _),Nat.sub_self];rfl
theorem cC9 {l:List Int} {n:Nat} {j:Int} (h:cuB l n j) (h1:1<=j) (h2:j<=(n:Int) - 1):cuB (l++[j]) n (j+1):=by
 have el:(l++[j]).length=l.length+1:=by rw[List.length_append];rfl
 refine⟨fun i hlt=>?_,fun _=>?_⟩
 ·rw[el] at hlt
  rcases Nat.lt_or_eq_of_le (Nat.le_of_lt_succ hlt) with h3|rfl
  ·have:=h.1 i h3
   unfold cutAt at this⊢
   rw[aRG h3,aRG (show i - 1<l.length by omega)];exact this
  ·unfold cutAt
   rw[aYU,decide_eq_true_eq]
   refine⟨h1,h2,?_⟩
   by_cases h0:l.length=0
   ·exact .inl h0
   ·rw[aRG (show l.length - 1<l.length by omega)];exact .inr (h.2 (by omega))
 ·rw[el,Nat.add_sub_cancel,aYU];omega
theorem cF6 {l:List Int} {n:Nat} {j:Int} (h:cuB l n j):cuB l n (j+1):=⟨h.1,fun h0=>by have:=h.2 h0;omega⟩
theorem cHC {n:Nat} {j:Int}:cuB [] n j:=⟨fun i h=>absurd h (Nat.not_lt_zero _),fun h=>absurd h (Nat.lt_irrefl _)⟩
def liB (c:dE) (n:Int) (l:List Int):Prop:=∀k,k<l.length->aE9 c (k:Int) n<=l.getD k 0/\l.getD k 0<=100000
theorem cDH {c:dE} {n:Int} {l:List Int} {v:Int} (h:liB c n l) (h1:aE9 c (l.length:Int) n<=v) (h2:v<=100000):liB c n (l++[v]):=fun k hk=>by
 rw[List.length_append,List.length_singleton] at hk
 rcases Nat.lt_or_eq_of_le (Nat.le_of_lt_succ hk) with h3|rfl
 ·rw[aRG h3];exact h k h3
 ·rw[aYU];exact⟨h1,h2⟩
theorem cD0 {m:cC} {cuts:List Int} {d:Int} {rd:List Bool} {cp lm:List Int} {b:List bT} (h1:dD m=true) (h2:pD m b=true) (h3:zO m cuts=true) (h4:cuts.length<=3) (h5:d=1\/d=2)
  (h6:rd.length=cuts.length+1) (h7:cp.length=cuts.length) (h8:∀v∈cp,1<=v/\v<=5) (h9:lm.length=cuts.length+1) (h10:liB (m,cuts,d,rd,cp,[]) (b.length:Int) lm):iB (m,cuts,d,rd,cp,lm) b=0:=by
 have es:cN m cuts=(cuts.length:Int)+1:=aVP h3
 refine(cLT (c:=(m,cuts,d,rd,cp,lm)) h1 h2 ?_ h5 ?_ ?_ ?_).symm
 ·show ¬(cN m cuts=0\/4<cN m cuts)
  omega
 ·show(rd.length:Int)=cN m cuts
  omega
 ·exact cB1 h7 (List.all_eq_true.2 fun v hv=>decide_eq_true (h8 v hv))
 ·show(decide ((lm.length:Int)=cN m cuts)&&(List.range lm.length).all (bWS (m,cuts,d,rd,cp,lm) (b.length:Int)))=true
  rw[decide_eq_true (show(lm.length:Int)=cN m cuts by omega),Bool.true_and,List.all_eq_true]
  intro k hk
  exact decide_eq_true (h10 k (List.mem_range.1 hk))
def aMB:Con:=⟨293,(.cMV gO aG),(.cMV aA gO),[.box 239 ⟨true,gO,[]⟩,.val ⟨true,aG,[]⟩],[⟨false,aA,[2]⟩],false,none,
 ((fun x=>0<=x.1.2.1/\x.2.length<=9):(cE×cC)->Prop),
 ((fun _=>aK (.cMV aA (.cMV (.slice 5 (.int .u8)) aU))):(cE×cC)->(bX×cE))⟩
def bG8:T:=aAC aGU (oH aGU [bF,dT aV aU bP aG,eV bP 1 bP aG,iP bP 2 bP aG,bA]) 243 bK (kE bP aG) <| oJ iW 1 2 3 (mU 0 bP (oH bP [cL iW 1 1,cL iW 2 1,cL iW 3 1]) 2 <| .ite (iT .bool 4) (cK (fY iW 4 1) <| aEY tI tI fF aP7 6 (gD 3 tI (cB iW 1) <| lS 3 8 aA aA (fY iW 4 1) 7 <| gF (cB iW 1) 0 aGU [cU,dZ (kT aV aU) 4,rA (kT aV aU) 4,dO (kT aV aU) 3 4,cM]) <| gF (cB iW 1) 0 aGU [cY,dZ (kT aV aU) 4,rA (kT aV aU) 4,dO (kT aV aU) 3 4,fY iW 4 1]) <| gF (cB iW 1) 0 aGU [fF,dZ (kT aV aU) 4,rA (kT aV aU) 4,dO (kT aV aU) 3 4,fY iW 4 1]) (oH aGH (uY (fY iW 4 1) (cL iW 1 1) iW 2 1 (cL iW 3 1)))
theorem aU1:Rl aMB (fun x r=>(r.1.length<=3/\∀i,i<r.1.length->cutAt r.1 x.2.length i=true)/\0<=r.2.2.1:(cE×cC)->(bX×cE)->Prop):=rk false ⟨[(2991,1001,[.dr 7,.dr 1,.tm 6 0,.on 5,.bx 1 0,.bx 1 1,.bx 1 2,.sl 3])],[]⟩ bG8 (aC aTJ aH) fun(x:cE×cC) hx hp=>by
 dsimp only [aMB] at hx hp⊢
 obtain⟨c,m⟩:=x
 obtain⟨hp,hm⟩:0<=c.2.1/\List.length m<=9:=hp
 delta bG8 aKQ aC8;refine dR ?_
 refine dQ ?_
 refine⟨fun s=>@LE.le Int _ 1 s.1/\@LE.le Int _ s.1 10/\(List.length s.2.2.2.2<=3/\cuB s.2.2.2.2 (List.length m) s.1)/\@LE.le Int _ 0 s.2.2.1,fun s=>(20 - s.1:Int).toNat,⟨by show(1:Int)<=1;omega,by show(1:Int)<=10;omega,⟨Nat.zero_le _,cHC⟩,hp⟩,fun s hs hI=>?_⟩
 obtain⟨j,b,i,h,l⟩:=s
 obtain⟨e1,e2,⟨e3,e5⟩,e4⟩:=hI
 change Int at j
 change List Int at l
 change (1:Int)<=j at e1
 change j<=10 at e2
 change List.length l<=3 at e3
 change cuB l (List.length m) j at e5
 change 0<=(i:Int) at e4
 have q:=aTA ((b,i,h),2) ⟨⟨hs.2.1,hs.2.2.1,hs.2.2.2.1⟩,okI (by omega) (by omega)⟩ e4
 generalize aCG ((b,i,h),2)=r at q⊢;obtain⟨n1,c1⟩:=r;obtain⟨kq1,uq1⟩:=q;dsimp only at uq1⊢
 try dsimp only
 (refine dQ ?_;try with_reducible exact True.intro)
 (repeat' first|intro _|(with_reducible apply And.intro))
 all_goals first|omega|(unfold maxLen;omega)|exact uq1|exact e4|exact cC9 e5 (by omega) (by omega)|exact cF6 e5|exact e5.1 _ (by assumption)|skip
def aMU:(cE×cC)->(bX×cE):=Classical.choose aU1
def bDA:Con:={ aMB with fn:=aMU }
theorem bVV:Con.Holds Tryz.prog bDA:=(Classical.choose_spec aU1).2
theorem bVD (x:cE×cC) (hx:okD (.cMV gO aG) x) (hp:(fun x=>0<=x.1.2.1/\x.2.length<=9) x):okD (.cMV aA gO) (aMU x)/\(fun x r=>(r.1.length<=3/\∀i,i<r.1.length->cutAt r.1 x.2.length i=true)/\0<=r.2.2.1:(cE×cC)->(bX×cE)->Prop) x (aMU x):=Rl.q aU1 hx hp
def aDG:Con:=⟨201,gO,(.cMV bR cDP),[.box 239 ⟨true,gO,[]⟩],[⟨true,bR,[1,2,0,2,2,2]⟩,⟨false,aO,[1]⟩],false,none,
 ((fun x=>0<=x.2.1):(cE)->Prop),
 ((fun _=>aK (.cMV bR (.cMV aO (.cMV (.slice 5 (.int .u8)) aU)))):(cE)->(dE×(iC×cE)))⟩
def aRO:T:=hZ <| eQ 1 bP aG (mW (aGL aG) 1) (iT aG 1) <| mU 2 bP (mW aGH 2) 2 <| fR jT bF qH <| bD7 bD <| eQ 3 bP aG (mQ 3) (iT aG 1) <| aAC (fM (sT mG aA)) (oH (fM (sT mG aA)) [aN,dZ aQF 6,rA aQF 6,dO aQF 3 6,.nl 4 .bool,bA]) 3 tI (iT aA 2) <| vH .leq (cB (sT mG aA) 7) cM 9 (mU 4 bP (oH bP [cL (sT mG aA) 1 7,cL (sT mG aA) 2 7,cL (sT mG aA) 3 7]) 3 <| gD 4 .bool (iT .bool 10) <| eF (.cN2 4 .bool 1) mG mG (cL (sT mG aA) 4 7) 11 <| vH .gtr (cB (sT mG aA) 7) aN 13 (mU 2 bP (mW (kT aV aU) 10) 3 <| fR jT bF (kX 14) <| kO 3 tI 15 <| lS 3 8 aA aA (fY (sT mG aA) 5 7) 16 <| gF (cB (sT mG aA) 7) 0 (fM (sT mG aA)) [nJ,qV 1 14,qV 2 14,aCB 3 14,fE,iR]) <| gF (cB (sT mG aA) 7) 0 (fM (sT mG aA)) [dK,dZ (kT aV aU) 10,rA (kT aV aU) 10,dO (kT aV aU) 3 10,fE,fY (sT mG aA) 5 7]) <| aAC aGU (oH aGU [aN,cL (sT mG aA) 1 7,cL (sT mG aA) 2 7,cL (sT mG aA) 3 7,bA]) 3 tI (iT aA 2) <| rX .leq (cB iW 10) cO 12 (vB aL (iT aO 6) <| gQ 5 bVC (kM (oH bR [iT aG 1,iT aA 2,dY,cL (sT mG aA) 4 7,fY (sT mG aA) 5 7,fY iW 4 10]) (cB iW 10) 13) <| vA (wN 3 3) iK (bVO aN aN 7) <| mT 6 bP (oH bP [cL iW 1 10,cL iW 2 10,cL iW 3 10]) fC <| fR jT dK (kX 16) <| kO 3 tI 17 <| lS 3 8 aA aA (fY iW 4 10) 18 <| gF (cB iW 10) 0 aGU [qJ,qV 1 16,qV 2 16,aCB 3 16,kA]) (bGJ bR aQF [oH bR [iT aG 1,iT aA 2,dY,cL (sT mG aA) 4 7,fY (sT mG aA) 5 7,fY iW 4 10],iT aO 6,cL iW 1 10,cL iW 2 10,cL iW 3 10])
theorem aJ1:Rl aDG (fun x r=>(cIC 6 3 4 r.1 r.2.1/\iB r.1 r.2.1=0)/\1<=r.1.2.2.2.1.length/\1<=r.1.2.2.2.2.2.length/\(∀v∈r.1.2.2.2.2.2,0<=v/\v<=400)/\0<=r.2.2.2.1:(cE)->(dE×(iC×cE))->Prop):=rk false ⟨[(2987,1007,iZ 21 16++[.dr 14,.dr 13,.dr 11,.dr 15,.dr 12,.dr 4,.dr 10,.dr 9,.tm 7 0,.bx 1 0,.bx 1 1,.bx 1 2,.sl 18,.sl 19]),(2977,2010,iZ 26 22++[.dr 7,.tm 8 0,.bx 1 0,.bx 1 1,.bx 1 2,.sl 20])],[(2994,1002,[],[8]),(2969,6013,[61],[])]⟩ aRO (aC bPX (aC bVV (aC mO (aC bS9 (aC aTJ (aC bHP (aC zQ aH))))))) fun(x:cE) hx hp=>by
 dsimp only [aDG] at hx hp⊢
 have q1:=bSR x hx hp
 delta aRO bBQ aHW bDA aMB lP jJ aZQ aHV aKQ aC8 aL3 vP rH;refine dR ?_
 refine dQ ?_
 refine⟨hp,fun _=>?_⟩
 generalize aHQ x=r at q1⊢;obtain⟨m,c1⟩:=r;obtain⟨k1,u1⟩:=q1;have km:=k1.1;replace k1:okD vW c1:=k1.2;dsimp only at u1⊢
 change List fP at m
 have L5:List.length m<=6:=u1.2.1
 have hP:∀o∈m,List.length o.2.2.2<=40:=fun o ho=>by have:=cIY (u1.2.2.1 o ho);omega
 refine⟨⟨u1.2.2.2,by omega⟩,fun _=>?_⟩
 have q2:=bVD (c1,m) ⟨k1,km⟩ ⟨u1.2.2.2,by show List.length m<=9;omega⟩
 generalize aMU (c1,m)=r at q2⊢;obtain⟨cuts,c2⟩:=r;obtain⟨k2,u2⟩:=q2;replace k2:okD vW c2:=k2.2;dsimp only at u2⊢
 change List Int at cuts
 have hc3:List.length cuts<=3:=u2.1.1
 have Hw:dD m=true:=u1.1.2
 have hcB:zO m cuts=true:=(aK3 m cuts).2 ⟨Hw,u2.1.2⟩
 refine⟨u2.2,fun _=>?_⟩
 have q3:=eE (c2,2) ⟨k2,okI (by omega) (by omega)⟩ u2.2
 generalize dV (c2,2)=r at q3⊢;obtain⟨d,c3⟩:=r;obtain⟨k3,u3⟩:=q3;replace k3:okD vW c3:=k3.2;dsimp only at u3⊢
 have hd:0<=d/\d<2:=⟨u3.1,u3.2.1 (by decide)⟩
 refine⟨by omega,fun _=>⟨u3.2.2.2,fun _=>?_⟩⟩
 have q4:=bR1 (c3,m) ⟨k3,km⟩ u3.2.2.2
 generalize aHR (c3,m)=r at q4⊢;obtain⟨b,c4⟩:=r;obtain⟨k4,u4⟩:=q4;replace k4:okD vW c4:=k4.2;dsimp only at u4⊢
 change List bT at b
 have hb4:List.length b<=4:=u4.2.1
 have Bi:∀p∈b,List.length p.1<=7/\List.length p.2<=7:=fun p hp=>by have:=u4.2.2.1 p hp;omega
 have F3:=u4.2.2.2
 have Mr:pD m b=true:=u4.1.2 Hw
 clear u4 u3 u2 u1
 refine⟨fun s=>@LE.le Int _ 0 s.1/\@LE.le Int _ s.1 ((List.length cuts:Int)+1)/\((List.length s.2.2.2.2.1:Nat):Int)=s.1/\(((List.length s.2.2.2.2.2:Nat):Int)=max 0 (s.1 - 1:Int)/\∀v∈s.2.2.2.2.2,@LE.le Int _ 1 v/\@LE.le Int _ v 5)/\@LE.le Int _ 0 s.2.2.1,fun s=>(20 - s.1:Int).toNat,⟨Int.le_refl _,by show(0:Int)<=_;omega,rfl,⟨rfl,fun v hv=>by cases hv⟩,F3⟩,fun s hs hI=>?_⟩
 obtain⟨s,bf,i,h,rd,cp⟩:=s
 obtain⟨e1,e2,e3,⟨e4,e6⟩,e5⟩:=hI
 change Int at s
 change List Bool at rd
 change List Int at cp
 change (0:Int)<=s at e1
 change s<=(List.length cuts:Int)+1 at e2
 change ((List.length rd:Nat):Int)=s at e3
 change ((List.length cp:Nat):Int)=max 0 (s - 1) at e4
 change ∀v∈cp,1<=v/\v<=5 at e6
 change 0<=(i:Int) at e5
 have kq:okD vW (bf,i,h):=⟨hs.2.1,hs.2.2.1,hs.2.2.2.1⟩
 try dsimp only
 refine fun _=>⟨fun hlt=>?_,fun hge=>?_⟩
 ·have q5:=aTA ((bf,i,h),3) ⟨kq,okI (by omega) (by omega)⟩ e5
  refine⟨e5,fun _=>?_⟩
  generalize aCG ((bf,i,h),3)=r at q5⊢;obtain⟨b5,c5⟩:=r;obtain⟨k5,u5⟩:=q5;replace k5:okD vW c5:=k5.2;dsimp only at u5⊢
  have q6:=eE (c5,3) ⟨k5,okI (by omega) (by omega)⟩ u5
  generalize dV (c5,3)=r at q6⊢;obtain⟨n6,c6⟩:=r;obtain⟨k6,u6⟩:=q6;dsimp only at u6⊢
  have J0:0<=n6/\n6<3:=⟨u6.1,u6.2.1 (by decide)⟩
  have Gw:=u6.2.2.2
  clear u6
  have e7:∀v∈cp++[1+n6],1<=v/\v<=5:=fun v hv=>by
   rcases List.mem_append.1 hv with hv|hv
   ·exact e6 v hv
   ·rw[List.mem_singleton] at hv;omega
  simp only[dzx,List.length_append,List.length_cons,List.length_nil]
  (repeat' first|intro _|(with_reducible apply And.intro))
  all_goals first|omega|(unfold maxLen;omega)|exact u5|exact Gw|exact(e6 _ (by assumption)).1|exact(e6 _ (by assumption)).2|exact(e7 _ (by assumption)).1|exact(e7 _ (by assumption)).2|skip
 have D6:List.length rd=List.length cuts+1:=by omega
 have Fz:List.length cp=List.length cuts:=by omega
 refine⟨fun t=>@LE.le Int _ 0 t.1/\@LE.le Int _ t.1 ((List.length cuts:Int)+1)/\((List.length t.2.2.2.2:Nat):Int)=t.1/\((∀v∈t.2.2.2.2,@LE.le Int _ 0 v/\@LE.le Int _ v 400)/\liB (m,cuts,1+d,rd,cp,[]) (List.length b:Int) t.2.2.2.2)/\@LE.le Int _ 0 t.2.2.1,fun t=>(20 - t.1:Int).toNat,⟨Int.le_refl _,by show(0:Int)<=_;omega,rfl,⟨fun v hv=>(by cases hv),fun k hk=>absurd hk (Nat.not_lt_zero _)⟩,e5⟩,fun t ht hJ=>?_⟩
 obtain⟨t,bf,i,h,lm⟩:=t
 obtain⟨g1,g2,g3,⟨g4,g8⟩,g5⟩:=hJ
 change Int at t
 change List Int at lm
 change (0:Int)<=t at g1
 change t<=(List.length cuts:Int)+1 at g2
 change ((List.length lm:Nat):Int)=t at g3
 change ∀v∈lm,0<=v/\v<=400 at g4
 change liB (m,cuts,1+d,rd,cp,[]) (List.length b:Int) lm at g8
 change 0<=(i:Int) at g5
 have kq':okD vW (bf,i,h):=⟨ht.2.1,ht.2.2.1,ht.2.2.2.1⟩
 try dsimp only
 refine fun _=>⟨fun hlt=>?_,fun hge=>?_⟩
 ·refine fun _=>⟨⟨⟨by show List.length m<=_;omega,fun o ho=>by have:=hP o ho;omega⟩,by show List.length cuts<=_;omega,by show List.length rd<=_;omega,by show List.length cp<=_;omega,by show List.length lm<=_;omega⟩,fun _ H2=>⟨⟨g5,by simp⟩,fun _=>?_⟩⟩
  have q7:=zN ((bf,i,h),[0,0,7]) ⟨kq',H2⟩ ⟨g5,by simp⟩
  generalize tD ((bf,i,h),[0,0,7])=r at q7⊢;obtain⟨n7,c7⟩:=r;obtain⟨k7,u7⟩:=q7;dsimp only at u7⊢
  have Gv:=u7.2
  have Jz:0<=n7/\n7<=7:=by
   have:=u7.1
   simp only[List.mem_cons,List.not_mem_nil,or_false] at this
   omega
  have pb:=cLA (m,cuts,1+d,rd,cp,lm) t (b.length:Int)
  have g9:liB (m,cuts,1+d,rd,cp,[]) (List.length b:Int) (lm++[aE9 (m,cuts,1+d,rd,cp,lm) t (b.length:Int)+n7]):=cDH g8 (by rw[g3];show aE9 (m,cuts,1+d,rd,cp,lm) t (b.length:Int)<=_;omega) (by omega)
  generalize aE9 (m,cuts,1+d,rd,cp,lm) t (b.length:Int)=pk at pb g9⊢
  clear u7
  have g6:∀v∈lm++[pk+n7],0<=v/\v<=400:=fun v hv=>by
   rcases List.mem_append.1 hv with hv|hv
   ·exact g4 v hv
   ·rw[List.mem_singleton] at hv;omega
  simp only[dzx,List.length_append,List.length_cons,List.length_nil]
  (repeat' first|intro _|(with_reducible apply And.intro))
  all_goals first|omega|(unfold maxLen;omega)|exact Gv|exact(g6 _ (by assumption)).1|exact(g6 _ (by assumption)).2|exact g9|exact(g9 _ (by assumption)).1|exact(g9 _ (by assumption)).2|skip
 ·exact⟨⟨⟨by show List.length m<=6;omega,hP,hc3,by show List.length rd<=4;omega,by show List.length cp<=3;omega,by show List.length lm<=4;omega,hb4,Bi⟩,cD0 Hw Mr hcB hc3 (by omega) D6 Fz e6 (by omega) g8⟩,by show 1<=List.length rd;omega,by show 1<=List.length lm;omega,g4,g5⟩
def aDH:(cE)->(dE×(iC×cE)):=Classical.choose aJ1
def aSI:Con:={ aDG with fn:=aDH }
theorem bIJ:Con.Holds Tryz.prog aSI:=(Classical.choose_spec aJ1).2
theorem bIN (x:cE) (hx:okD gO x) (hp:(fun x=>0<=x.2.1) x):okD (.cMV bR cDP) (aDH x)/\(fun x r=>(cIC 6 3 4 r.1 r.2.1/\iB r.1 r.2.1=0)/\1<=r.1.2.2.2.1.length/\1<=r.1.2.2.2.2.2.length/\(∀v∈r.1.2.2.2.2.2,0<=v/\v<=400)/\0<=r.2.2.2.1:(cE)->(dE×(iC×cE))->Prop) x (aDH x):=Rl.q aJ1 hx hp
def cJK:aR:=aK aB
def aM8 (ops:List fP) (plan:List eP) (last redo:Bool):aR:=if dD ops=true then(0,plan,ops,last,redo,[],[],[],[],[],[],aI7 ops) else cJK
def aN7 (c:dE) (n:Nat) (s:Int):aR :=
 aM8 (List.drop (bH c.1 c.2.1 s).1.toNat (List.take (bH c.1 c.2.1 s).2.toNat c.1)) (yS c.2.2.1 (cN c.1 c.2.1) s (n:Int) (c.2.2.2.1.getD s.toNat false)) (s==cN c.1 c.2.1 - 1) (c.2.2.2.1.getD s.toNat false)
def aIQ (c:dE) (i:Nat):bE:=(c.2.2.2.2.1.getD i 0,[])
def iM (c:dE) (b:List bT):aW :=
 if iB c b=0 then(b,mp (cN c.1 c.2.1).toNat (fun s=>aN7 c b.length (s:Int)),mp c.2.2.2.2.1.length (aIQ c),mp c.2.2.2.2.1.length (aIQ c)) else([],[],[],[])
theorem cKP {c:dE} {b:List bT} (h:¬iB c b=0):([],[],[],[])=iM c b:=(if_neg h).symm
theorem aDC {c:dE} {b:List bT} (h:iB c b=0):(b,mp (cN c.1 c.2.1).toNat (fun s=>aN7 c b.length (s:Int)),mp c.2.2.2.2.1.length (aIQ c),mp c.2.2.2.2.1.length (aIQ c))=iM c b:=(if_pos h).symm
theorem cH1 {ops:List fP} {plan:List eP} {last redo:Bool} (h:dD ops=false):(0,[],[],false,false,[],[],[],[],[],[],[],0,false)=aM8 ops plan last redo:=(if_neg (by rw[h];simp)).symm
theorem cHP {ops:List fP} {plan:List eP} {last redo:Bool} (h:dD ops=true):(0,plan,ops,last,redo,[],[],[],[],[],[],aI7 ops)=aM8 ops plan last redo:=(if_pos h).symm
theorem aCE {c:dE} {b:List bT} (h:iB c b=0):dD c.1=true/\pD c.1 b=true/\zO c.1 c.2.1=true/\cN c.1 c.2.1=(c.2.1.length:Int)+1/\cN c.1 c.2.1<=4/\(c.2.2.2.1.length:Int)=cN c.1 c.2.1/\aF8 c=true/\aBF c (b.length:Int)=true:=by
 cases h1:dD c.1
 ·rw[<-cLP h1] at h;omega
 cases h2:pD c.1 b
 ·rw[<-cM4 h1 h2] at h;omega
 by_cases h3:cN c.1 c.2.1=0\/4<cN c.1 c.2.1
 ·rw[<-cLF h1 h2 h3] at h;omega
 by_cases h4:c.2.2.1=1\/c.2.2.1=2
 rotate_left
 ·rw[<-cJX h1 h2 h3 h4] at h;omega
 by_cases h5:(c.2.2.2.1.length:Int)=cN c.1 c.2.1
 rotate_left
 ·rw[<-cM7 h1 h2 h3 h4 h5] at h;omega
 cases h6:aF8 c
 ·rw[<-cJW h1 h2 h3 h4 h5 h6] at h;omega
 cases h7:aBF c (b.length:Int)
 ·rw[<-cLJ h1 h2 h3 h4 h5 h6 h7] at h;omega
 cases hc:zO c.1 c.2.1
 ·rw[bQK hc] at h3;omega
 ·exact⟨rfl,rfl,rfl,aVP hc,by omega,h5,rfl,rfl⟩
theorem aW9 {c:dE} (h:aF8 c=true):c.2.2.2.2.1.length=c.2.1.length:=by
 unfold aF8 at h;rw[Bool.and_eq_true,decide_eq_true_eq] at h;exact h.1
theorem cDY {c:dE} (h:bC bR c<=1000000000):aS6 c:=by
 have hB:=wQ (t:=bR) h
 exact⟨⟨hB.1.1,fun o ho=>(hB.1.2 o ho).2.2.2.1⟩,hB.2.1.1,hB.2.2.2.1.1,hB.2.2.2.2.1.1,hB.2.2.2.2.2.1⟩
theorem cFC {m:List fP} (a b:Nat):bC aG (List.drop a (List.take b m))<=bC aG m:=aE7 ((List.drop_sublist _ _).trans (List.take_sublist _ _))
def aLN:Con:=⟨125,(.cMV aG (.cMV bI (.cMV .bool .bool))),aB,[.val ⟨false,aG,[]⟩,.val ⟨false,bI,[]⟩,.val ⟨false,.bool,[]⟩,.val ⟨false,.bool,[]⟩],[⟨true,aB,[0,2,2,0,0,2,2,2,2,2,2,2,0,0]⟩],false,none,
 ((fun x=>bC aG x.1<=1000000000/\List.length x.2.1<=1000000000):(cC×((List eP)×(Bool×Bool)))->Prop),
 ((fun x=>aM8 x.1 x.2.1 x.2.2.1 x.2.2.2):(cC×((List eP)×(Bool×Bool)))->(aR))⟩
def aVV:T:=gH 0 (bS aG aTW) 1 2 (oH aB [aN,aJO,aXQ,aX,aX,aL7,qC,bA,bA,bA,bA,qC,aN,aX]) <| jM tK bI bI aJO (eI aG aTW 1) <| eK 1 (bS aG aTW) 2 (bS aG aTW) <| fB [aN,eG,dY,eI aG aTW 2,fA aG aTW 3,aL7,qC,bA,bA,bA,bA,fF]
theorem bOL:Con.Holds Tryz.prog aLN:=tk ⟨[],[]⟩ aVV (aC uW (aC bDF (aC bIL aH))) fun(x:cC×((List eP)×(Bool×Bool))) hx hp=>by
 dsimp only [aLN] at hx hp⊢
 have hm:=(wQ (t:=aG) hp.1)
 delta aVV rE aMF aIO;refine dR ?_
 refine dQ ?_
 refine⟨fun h=>cH1 h,fun h=>⟨⟨by have:=hp.2;omega,by have:=hp.2;unfold maxLen;omega⟩,fun _=>⟨hp.1,fun _=>⟨⟨hm.1,fun o ho=>(hm.2 o ho).2.2.2.1⟩,fun _=>cHP h⟩⟩⟩⟩
def aO9:Con:=⟨32,(.cMV bR aO),aE,[.val ⟨true,bR,[]⟩,.val ⟨false,aO,[]⟩],[⟨true,aE,[2,2,2,2]⟩],false,none,
 ((fun x=>bC bR x.1<=100000000/\bC aO x.2<=100000000):(dE×iC)->Prop),
 ((fun x=>iM x.1 x.2):(dE×iC)->(aW))⟩
def bB3:T:=hZ <| rO aZ aN 2 (oH aE (pE mZ aB dN dN)) <| uS 1 bR aO <| gW (fM aO) aO mZ 138 aL aX9 <| mH aO 4 5 6 (cW 138 aL aO aX9 aO 4 <| cW 138 aL aO aX9 aO 4 <| jM (yV 3 8) aA aA bA (aBG 7) <| jM (yV 3 8) aA aA bA (wK 8) <| eF (rZ 138 aL) aA aA cU 10 <| eF (aIM 138 aL) aO aO (eT aO 4) 11 <| eJ aO 4 0 aO eM fE) <| xF (fM eD) (fM eD) (pE aN aB dN dN) <| mH eD 7 3 8 (gQ 2 aEJ [dT aG aAN bR aO,zA 1,cB eD 7] <| lL eG <| sS .eql (cB eD 7) cI <| aJQ 243 bK aG [dT aG aAN bR aO,kL 9,aAJ 9] <| vB aL aX9 <| cW 4 .bool mG (zA 3) eD 7 <| cW 4 .bool mG (zA 3) eD 7 <| gQ 3 (xO aJL) [zA 2,eG,cB eD 7,eM,dK] <| sX 4 aG aTW [fE,gM,cO,fC] <| kO 142 aB 17 <| eF (.cN2 142 aB 248) bV bV (cL eD 1 7) 18 <| vH .gtr (cB eD 7) aN 20 (kK (cB eD 7) 3 tI aA (zA 4) 21 <| vC (rZ 147 aD) bQ qS (.nl 249 aM) <| tH 147 aD aI aI (cL eD 2 7) 23 <| kK (cB eD 7) 3 tI aA (zA 4) 25 <| vC (rZ 147 aD) bQ tJ (.nl 249 aM) <| tH 147 aD aI aI (fY eD 3 7) 27 <| gF (cB eD 7) 0 (fM eD) [aG9,kA,.Z 24,.Z 28]) <| gF (cB eD 7) 0 (fM eD) [wX,kA,fY eD 2 7]) <| jB aO eD (eT aO 4) (eT eD 7)
theorem bR5:Con.Holds Tryz.prog aO9:=tk ⟨[(2984,2004,[.dr 18,.dr 17]++iZ 15 11++[.dr 0,.tm 7 0,.sl 12]),(2974,4007,iZ 22 19++[.dr 7,.tm 8 0,.sl 13,.sl 14,.sl 15])],[(2976,6007,[40,33],[]),(2963,12010,[88],[])]⟩ bB3 (aC cA1 (aC bM9 (aC aBV (aC cEJ (aC bOL aH))))) fun(x:dE×iC) hx hp=>by
 dsimp only [aO9] at hx hp⊢
 obtain⟨c,b⟩:=x
 obtain⟨hp1,hp2⟩:bC bR c<=100000000/\bC aO b<=100000000:=hp
 have Fz:aS6 c:=cDY (by omega)
 have hb1:List.length b<=bC aO b:=rT (e:=138) (t:=aL) b
 have Ga:∀x∈b,List.length x.1<=1000000000/\List.length x.2<=1000000000:=fun x hx=>⟨((wQ (t:=aO) (show bC aO b<=1000000000 by omega)).2 x hx).1.1,((wQ (t:=aO) (show bC aO b<=1000000000 by omega)).2 x hx).2.1⟩
 have hmm:bC aG c.1<=bC bR c:=Nat.le_add_right _ _
 delta bB3 aYJ aM4 tX bFZ aLN;refine dR ?_
 refine dQ ?_
 refine⟨Fz,fun _=>⟨fun h=>cKP h,fun h=>?_⟩⟩
 obtain⟨a1,a2,a3,a4,a5,a6,a7,a8⟩:=aCE h
 have hcl:=aW9 a7
 refine⟨⟨Fz.1,Fz.2.1⟩,fun _=>?_⟩
 refine eY (fun k=>((k:Int),List.take k b)) (List.length b) rfl fun I μ k hk _ go=>?_
 dsimp only
 refine dQ ?_
 intro _
 constructor
 ·intro hlt
  have hk':k<List.length b:=by omega
  have hm:=Ga _ (List.getElem_mem hk')
  simp only[aP hk']
  (repeat' first|intro _|(refine go _ ?_ ?_ ?_)|(refine go _ ?_ ?_)|(with_reducible apply And.intro))
  all_goals first|omega|(with_reducible exact hm.1)|(with_reducible exact hm.2)|(unfold maxLen;omega)|(simp only[List.length_take];unfold maxLen;omega)|(simp only[List.length_take];omega)|(rw[oT hk'];rfl)
 intro hge
 rw[show List.take k b=b from List.take_of_length_le (by omega)]
 clear go
 refine eY (fun k=>((k:Int),mp k (fun s=>aN7 c b.length (s:Int)),mp (k - 1) (aIQ c),mp (k - 1) (aIQ c))) (cN c.1 c.2.1).toNat rfl fun I μ k hk _ go=>?_
 dsimp only
 refine dQ ?_
 have hr:=aVJ c.1 c.2.1 (k:Int)
 have hpl:=aZC c.2.2.1 (cN c.1 c.2.1) (k:Int) (b.length:Int) (List.getD c.2.2.2.1 k (aK .bool))
 have Hv:=kF k (fun s=>aN7 c b.length ((s:Nat):Int))
 have Ly:=kF (k - 1) (aIQ c)
 have Lz:bC aG (List.drop (bH c.1 c.2.1 (k:Int)).1.toNat (List.take (bH c.1 c.2.1 (k:Int)).2.toNat c.1))<=1000000000:=Nat.le_trans (cFC _ _) (by omega)
 have e2:0<k->mp k (aIQ c)=mp (k - 1) (aIQ c)++[aIQ c (k - 1)]:=fun h0=>by rw[<-qT,Nat.sub_add_cancel h0]
 have e3:¬0<k->mp k (aIQ c)=mp (k - 1) (aIQ c):=fun h0=>by rw[show k - 1=k by omega]
 constructor
 ·intro hlt
  (repeat' first|intro _|(refine go _ ?_ ?_ ?_)|(refine go _ ?_ ?_)|(with_reducible apply And.intro))
  all_goals first|omega|(unfold maxLen;omega)|exact Fz.1|exact Fz.2.1|exact Lz|skip
  all_goals show _=((((k+1:Nat):Int)),mp (k+1) (fun s=>aN7 c b.length ((s:Nat):Int)),mp k (aIQ c),mp k (aIQ c))
  all_goals rw[qT]
  all_goals first|(rw[e2 (by omega)];rfl)|(rw[e3 (by omega)];rfl)|skip
 ·intro hge
  have ek:k=(cN c.1 c.2.1).toNat:=by omega
  have ec:k - 1=List.length c.2.2.2.2.1:=by omega
  rw[ec,ek]
  exact aDC h
end
noncomputable section
theorem cAC (p:aW) (s:Int):(gJ p s).2.1.length=p.2.1.length:=by unfold gJ;split<;>simp
theorem cJ0 {e:TypeId} {t:Ty} (n:Nat) (g:Nat->t.D) (B:Nat) (h:∀i,i<n->bC t (g i)<=B):bC (.slice e t) (mp n g)<=n+n * B:=by
 have h1:=aTI (bC t) B (mp n g) (fun x hx=>by
  unfold mp at hx
  obtain⟨i,hi,rfl⟩:=List.mem_map.1 hx
  exact h i (List.mem_range.1 hi))
 have h2:=kF n g
 rw[h2] at h1
 rw[iN,h2];omega
theorem cHD (l:List eP):bC bI l=l.length:=by
 have e:bC bI l=l.length+(l.map (bC aU)).sum:=rfl
 rw[e,bGX (bC aU) l (fun _=>rfl)];rfl
theorem cIA (c:dE) (n:Nat) (s:Int):bC aB (aN7 c n s)<=bC aG c.1+400:=by
 unfold aN7 aM8
 split
 ·rw[oX]
  dsimp only
  have h1:=cHD (yS c.2.2.1 (cN c.1 c.2.1) s (n:Int) (c.2.2.2.1.getD s.toNat false))
  have h2:=aZC c.2.2.1 (cN c.1 c.2.1) s (n:Int) (c.2.2.2.1.getD s.toNat false)
  have h3:=cFC (m:=c.1) (bH c.1 c.2.1 s).1.toNat (bH c.1 c.2.1 s).2.toNat
  have h4:=cD6 (List.drop (bH c.1 c.2.1 s).1.toNat (List.take (bH c.1 c.2.1 s).2.toNat c.1))
  have h5:=bMX (e:=253) h4.1 h4.2
  have e0:bC aJ3 ([]:List eC)=0:=rfl
  have e1:bC aF ([]:cT)=0:=rfl
  have Ex:bC aF (aI7 (List.drop (bH c.1 c.2.1 s).1.toNat (List.take (bH c.1 c.2.1 s).2.toNat c.1))).1<=8+8 * 36:=h5
  simp only[List.length_nil]
  rw[e0,e1];omega
 ·exact Nat.zero_le _
theorem cC3 {c:dE} {b:List bT} (h1:bC bR c<=2000000) (h2:bC aO b<=2000000):bC aE (iM c b)<=90000000:=by
 unfold iM
 split
 ·rename_i h
  obtain⟨a1,a2,a3,a4,a5,a6,a7,a8⟩:=aCE h
  have hcl:=aW9 a7
  have hmm:bC aG c.1<=bC bR c:=Nat.le_add_right _ _
  have s1:=cJ0 (e:=142) (t:=aB) (cN c.1 c.2.1).toNat (fun s=>aN7 c b.length (s:Int)) (bC aG c.1+400) (fun i _=>cIA _ _ _)
  have s2:=cJ0 (e:=147) (t:=aD) c.2.2.2.2.1.length (aIQ c) 0 (fun i _=>Nat.le_refl _)
  have s3:(cN c.1 c.2.1).toNat * (bC aG c.1+400)<=4 * (bC aG c.1+400):=Nat.mul_le_mul_right _ (by omega)
  rw[aJ2]
  dsimp only
  have s2':bC aI (mp c.2.2.2.2.1.length (aIQ c))<=c.2.2.2.2.1.length+c.2.2.2.2.1.length * 0:=s2
  omega
 ·exact Nat.zero_le _
theorem bJW {c:dE} {b:List bT} (h:iB c b=0):1<=(iM c b).2.1.length/\(iM c b).2.1.length<=4:=by
 obtain⟨a1,a2,a3,a4,a5,a6,a7,a8⟩:=aCE h
 rw[<-aDC h]
 show 1<=(mp _ _).length/\(mp _ _).length<=4
 rw[kF];omega
end
theorem bWC {o:fP} (h:opB o=true) (k:Nat) (hk:k<o.2.2.2.length):nO (o.2.2.2.getD k 0)=true:=by
 rw[aP hk]
 exact List.all_eq_true.1 ((lO o).1 h).2 _ (List.getElem_mem hk)
theorem cKZ (x:Int):nO (mS x)=true:=(vM _).2 (qM x)
theorem aRE (x:Int):nO (bIA x).1=true:=cKZ x
theorem cBL (a b:List Int):(k:Nat)->nO (aW6 a b k).1=true
 | 0=>by show nO 0=true;decide
 | k+1=>aRE _
theorem cDK (a b:List Int):nO (oE a b).1=true:=by
 unfold oE;split
 ·exact cBL _ _ _
 ·show nO 0=true;decide
theorem aHS {n:Nat} {z:Int} {g:Nat->Int} (h1:1<=n) (h6:n<=6) (hz:(n:Int)=z) (h:∀i,nO (g i)=true):dX (mp n g) z=true:=by
 refine(cS _ _).2 ⟨(dH _).2 ⟨by rw[kF];exact h1,by rw[kF];exact h6,List.all_eq_true.2 fun v hv=>?_⟩,by rw[kF];exact hz⟩
 obtain⟨i,_,rfl⟩:=List.mem_map.1 (show v∈(List.range n).map g from hv)
 exact h i
theorem bWR {o:fP} (h:opB o=true) (hk:o.1=1\/o.1=5):aRM (aI6 o)=true:=by
 obtain⟨⟨h1,h2,h3,h4,h5,h6,h7,h8⟩,h9⟩:=(lO o).1 h
 refine(xL _).2 ⟨⟨h5,h6,h3,h4,?_⟩,h9⟩
 show(o.2.2.2.length:Int)=o.2.2.1 * o.2.1
 rw[h8];unfold lJ
 rw[if_neg (by omega),if_pos hk,Int.mul_comm]
theorem cFX (x:Int):nO (bFC x)=true:=(vM _).2 (by have:=qM x;unfold bFC;omega)
theorem cJC {o:fP} {x:List Int} (h:opB o=true) (hx:dX x o.2.1=true):dX (aAX o x).1 o.2.2.1=true:=by
 obtain⟨⟨h1,h2,h3,h4,h5,h6,h7,h8⟩,h9⟩:=(lO o).1 h
 obtain⟨x1,x2⟩:=(cS x _).1 hx
 obtain⟨x3,x4,x5⟩:=(dH x).1 x1
 have hmv:o.1=1\/o.1=5->dX (vK (aI6 o) x).1 o.2.2.1=true:=fun hk=>by
  unfold vK
  rw[if_pos ⟨bWR h hk,hx⟩]
  exact aHS (by show 1<=o.2.2.1.toNat;omega) (by show o.2.2.1.toNat<=6;omega) (by show(o.2.2.1.toNat:Int)=o.2.2.1;omega) fun i=>cDK _ _
 have Jm:∀b,o.2.1=o.2.2.1->dX b o.2.1=true->dX (wT kH x b).1 o.2.2.1=true:=fun b he hb=>by
  unfold wT
  rw[if_pos ((aQL _ _).2 ⟨x1,by rw[x2];exact hb⟩)]
  exact aHS x3 x4 (by rw[x2,he]) fun i=>aRE _
 unfold aAX
 rw[if_neg (fun hn=>hn ⟨h,hx⟩)]
 split
 ·rename_i hk;exact hmv (.inl hk)
 ·rename_i hk1
  have he:=h7 hk1
  split
  ·rename_i hk
   refine Jm _ he ((cS _ _).2 ⟨(dH _).2 ?_,?_⟩)
   ·have hl:(o.2.2.2.length:Int)=o.2.1:=by rw[h8];unfold lJ;rw[if_neg (by omega),if_neg (by omega),if_pos hk]
    exact⟨by omega,by omega,h9⟩
   ·rw[h8];unfold lJ;rw[if_neg (by omega),if_neg (by omega),if_pos hk]
  ·split
   ·rename_i hk
    unfold aH5
    have hl:o.2.2.2.length=1:=by
     have:(o.2.2.2.length:Int)=1:=by rw[h8];unfold lJ;rw[if_neg (by omega),if_neg (by omega),if_neg (by omega),if_pos hk]
     omega
    rw[if_pos ⟨bWC h 0 (by omega),x1⟩]
    exact aHS x3 x4 (by rw[x2,he]) fun i=>aRE _
   ·split
    ·rename_i hk
     exact Jm _ he (by rw[he];exact hmv (.inr hk))
    ·unfold aDR
     rw[if_pos x1]
     exact aHS x3 x4 (by rw[x2,he]) fun i=>cFX _
def cG6 (m:List fP) (x:List Int):Nat->List Int
 | 0=>x
 | k+1=>(aAX (m.getD k zOp) (cG6 m x k)).1
theorem bOB (m : List fP) (x : List Int) : (k i : Nat) -> i <= k -> (rQ m x k).1.getD i [] = cG6 m x i
  | 0, i, h => by obtain rfl : i = 0 := by omega
                  rfl
  | k + 1, i, h => by
    have hl := zT m x k
    show((rQ m x k).1 ++ [(aAX (m.getD k zOp) ((rQ m x k).1.getD k [])).1]).getD i [] = _
    rcases Nat.lt_or_ge i (k + 1) with hi | hi
    · rw [List.getD_eq_getElem?_getD, List.getElem?_append_left (by omega), <-List.getD_eq_getElem?_getD]
      exact bOB m x k i (by omega)
    · obtain rfl : i = k + 1 := by omega
      rw [List.getD_eq_getElem?_getD, List.getElem?_append_right (by omega), hl, Nat.sub_self]
      show(aAX (m.getD k zOp) ((rQ m x k).1.getD k [])).1 = _
      rw [bOB m x k k (Nat.le_refl _)]; rfl
theorem bUA {m:List fP} {x:List Int} (hm:dD m=true) (hx:dX x (kD m)=true):(k:Nat)->k<m.length->dX (cG6 m x k) (m.getD k zOp).2.1=true/\dX (cG6 m x (k+1)) (m.getD k zOp).2.2.1=true
 | 0,h=>by
  have h1:=(bO m).1 hm
  have ho:opB (m.getD 0 zOp)=true:=by rw[aP h];exact((vO m h).1 (h1.2.2 0 h)).1
  have h2:dX x (m.getD 0 zOp).2.1=true:=by unfold kD at hx;rwa [if_pos hm] at hx
  exact⟨h2,cJC ho h2⟩
 | k+1,h=>by
  have h1:=(bO m).1 hm
  obtain⟨g1,g2⟩:=(vO m h).1 (h1.2.2 (k+1) h)
  have hk:=(bUA hm hx k (by omega)).2
  have e:(m.getD k zOp).2.2.1=(m.getD (k+1) zOp).2.1:=by
   have:=g2.resolve_left (by omega)
   rw[aP (show k<m.length by omega),aP h]
   simpa using this
  rw[e] at hk
  exact⟨hk,cJC (by rw[aP h];exact g1) hk⟩
end Go.Proofs.YtfmfeplebgbpmaaGreat
