/- Core8: lemmas. No conditions. -/
import Derived.Test.YtdeobhdbmehpgaaGreatCoreF
import Derived.Test.YtdeobhdbmehpgaaGreatCoreR
import Derived.Test.YtdeobhdbmehpgaaGreatCoreB
namespace Go.Proofs.YtdeobhdbmehpgaaGreat
noncomputable section
set_option maxRecDepth 100000
open Go.ChangeShapes Go.WideShapes Go.ChangeAt Go.RowKit Go.Deep
set_option linter.unusedVariables false
set_option linter.unusedSimpArgs false
def bL (p:aY) (s:Int):kC :=
 if 0≤s∧s<(p.2.1.length:Int)∧0≤(p.2.1.getD s.toNat (aV aA)).1∧(p.2.1.getD s.toNat (aV aA)).1<((p.2.1.getD s.toNat (aV aA)).2.1.length:Int) then (p.2.1.getD s.toNat (aV aA)).2.1.getD (p.2.1.getD s.toNat (aV aA)).1.toNat (0,0) else (0,0)
def aHV (q:bX):Bool:=decide ((q.2.length:Int)<q.1)
def bG5 (p:aY):Bool:=p.2.1.all fun x=>decide ((x.2.1.length:Int) - 1≤x.1)
def dQ (p:aY) (s:Int):Bool :=
 if jR p=true∧0≤s∧s<(p.2.1.length:Int) then
  (if (bL p s).1=1 then decide (0<s)&&decide (0<(p.2.2.1.getD (s - 1).toNat (aV aL)).2.length)
  else if (bL p s).1=3 then decide (s<(p.2.1.length:Int) - 1)&&aHV (p.2.2.1.getD s.toNat (aV aL))
  else if (bL p s).1=4 then decide (s<(p.2.1.length:Int) - 1)&&decide (0<(p.2.2.2.getD s.toNat (aV aL)).2.length)
  else if (bL p s).1=7 then decide (0<s)&&aHV (p.2.2.2.getD (s - 1).toNat (aV aL))
  else if (bL p s).1=2 then true else if (bL p s).1=5 then true else if (bL p s).1=6 then true
  else if (bL p s).1=8 then bG5 p else false)
 else false
def hZ (p:aY) (s:Int):bA:=p.2.1.getD s.toNat (aV aA)
def bJ1 (x:bA) (v:List Int):bA:=(x.1,x.2.1,x.2.2.1,x.2.2.2.1,x.2.2.2.2.1,x.2.2.2.2.2.1,x.2.2.2.2.2.2.1,v,x.2.2.2.2.2.2.2.2)
def bJN (x:bA) (v:List Int):bA:=(x.1,x.2.1,x.2.2.1,x.2.2.2.1,x.2.2.2.2.1,x.2.2.2.2.2.1,x.2.2.2.2.2.2.1,x.2.2.2.2.2.2.2.1,v,x.2.2.2.2.2.2.2.2.2)
def bK4 (x:bA) (v:List Int):bA:=(x.1,x.2.1,x.2.2.1,x.2.2.2.1,x.2.2.2.2.1,x.2.2.2.2.2.1,x.2.2.2.2.2.2.1,x.2.2.2.2.2.2.2.1,x.2.2.2.2.2.2.2.2.1,v,x.2.2.2.2.2.2.2.2.2.2)
def aO6 (x:bA) (v:List Int):bA:=(x.1,x.2.1,x.2.2.1,x.2.2.2.1,x.2.2.2.2.1,x.2.2.2.2.2.1,x.2.2.2.2.2.2.1,x.2.2.2.2.2.2.2.1,x.2.2.2.2.2.2.2.2.1,x.2.2.2.2.2.2.2.2.2.1,v,x.2.2.2.2.2.2.2.2.2.2.2)
def wA (x:bA) (k:Int):bA:=(k,x.2)
def jM (p:aY) (s:Int):bA :=
 if (bL p s).1=1 then bJ1 (hZ p s) (wJ (p.2.2.1.getD (s - 1).toNat (aV aL))).2.1.2
 else if (bL p s).1=2 then yU (hZ p s) (bL p s).2 (if s=0 then (p.1.getD (bL p s).2.toNat (aV aM)).1 else (hZ p s).2.2.2.2.2.2.2.1) (p.1.getD (bL p s).2.toNat (aV aM)).2
 else if (bL p s).1=3 then bJN (hZ p s) []
 else if (bL p s).1=4 then bK4 (hZ p s) (wJ (p.2.2.2.getD s.toNat (aV aL))).2.1.2
 else if (bL p s).1=5 then rH (hZ p s) (bL p s).2
 else if (bL p s).1=6 then (if s=0 then aO6 (uH (hZ p s) (bL p s).2 (p.1.getD (bL p s).2.toNat (aV aM)).2) [] else uH (hZ p s) (bL p s).2 (p.1.getD (bL p s).2.toNat (aV aM)).2)
 else if (bL p s).1=7 then aO6 (hZ p s) []
 else hZ p s
def wG (p:aY) (s:Int):List bX :=
 if (bL p s).1=1 then p.2.2.1.set (s - 1).toNat (wJ (p.2.2.1.getD (s - 1).toNat (aV aL))).1
 else if (bL p s).1=3 then p.2.2.1.set s.toNat (tV (p.2.2.1.getD s.toNat (aV aL)) ((bL p s).2,(hZ p s).2.2.2.2.2.2.2.2.1)).1
 else p.2.2.1
def wL (p:aY) (s:Int):List bX :=
 if (bL p s).1=4 then p.2.2.2.set s.toNat (wJ (p.2.2.2.getD s.toNat (aV aL))).1
 else if (bL p s).1=7 then p.2.2.2.set (s - 1).toNat (tV (p.2.2.2.getD (s - 1).toNat (aV aL)) ((bL p s).2,(hZ p s).2.2.2.2.2.2.2.2.2.2.1)).1
 else p.2.2.2
def eR (p:aY) (s:Int):aY:=if dQ p s=true then (p.1,p.2.1.set s.toNat (wA (jM p s) ((jM p s).1+1)),wG p s,wL p s) else p
def wM (p:aY):List Int→aY
 | []=>p
 | s :: l=>wM (eR p s) l
theorem aET {b:List bP} {st:List bA} {a r:List bX} (h:bQ aC (b,st,a,r)≤1000000000):List.length b≤1000000000∧bQ aN b≤1000000000∧List.length st≤1000000000∧(∀ x∈st,bQ aA x≤1000000000) ∧
  List.length a≤1000000000∧(∀ x∈a,bQ aL x≤1000000000)∧List.length r≤1000000000∧∀ x∈r,bQ aL x≤1000000000:=by
 have e:bQ aC (b,st,a,r)=bQ aN b+(bQ (.slice 38 aA) st+(bQ aG a+bQ aG r)):=rfl
 have h1:List.length b≤bQ aN b:=nP (e:=94) (t:=aM) b
 have h2:List.length st≤bQ (.slice 38 aA) st:=nP (e:=38) (t:=aA) st
 have h3:List.length a≤bQ aG a:=nP (e:=119) (t:=aL) a
 have h4:List.length r≤bQ aG r:=nP (e:=119) (t:=aL) r
 refine ⟨by omega,by omega,by omega,fun x hx=>?_,by omega,fun x hx=>?_,by omega,fun x hx=>?_⟩
 ·have:=aEO (e:=38) (t:=aA) hx;omega
 ·have:bQ aL x≤bQ aG a:=aEO (e:=119) (t:=aL) hx;omega
 ·have:bQ aL x≤bQ aG r:=aEO (e:=119) (t:=aL) hx;omega
theorem bC4 {p:aY} {s:Int} (h:¬ (0≤s∧s<(p.2.1.length:Int)∧0≤(p.2.1.getD s.toNat (aV aA)).1∧(p.2.1.getD s.toNat (aV aA)).1<((p.2.1.getD s.toNat (aV aA)).2.1.length:Int))):(0,0)=bL p s:=(if_neg h).symm
theorem aVT {p:aY} {s:Int} (h1:0≤s) (h2:s<(p.2.1.length:Int)) (h3:0≤(p.2.1.getD s.toNat (aV aA)).1) (h4:(p.2.1.getD s.toNat (aV aA)).1<((p.2.1.getD s.toNat (aV aA)).2.1.length:Int)) :
 (p.2.1.getD s.toNat (aV aA)).2.1.getD (p.2.1.getD s.toNat (aV aA)).1.toNat (aV aE)=bL p s:=(if_pos ⟨h1,h2,h3,h4⟩).symm
def aFG (x:bA):Bool:=decide ((x.2.1.length:Int) - 1≤x.1)
theorem bB4 (p:aY):bG5 p=p.2.1.all aFG:=rfl
theorem aNW {p:aY} {s:Int} (h:jR p=false∨s<0∨(p.2.1.length:Int)≤s):false=dQ p s:=by
 unfold dQ;rw[if_neg]
 rintro ⟨h1,h2,h3⟩
 rcases h with h|h|h
 ·rw[h] at h1;cases h1
 ·omega
 ·omega
theorem bMM {p:aY} {s:Int} (h1:jR p=true) (h2:0≤s) (h3:s<(p.2.1.length:Int)) (k:(bL p s).1=1):dQ p s=(decide (0<s)&&decide (0<(p.2.2.1.getD (s - 1).toNat (aV aL)).2.length)):=by
 unfold dQ;rw[if_pos ⟨h1,h2,h3⟩,if_pos k]
theorem bMO {p:aY} {s:Int} (h1:jR p=true) (h2:0≤s) (h3:s<(p.2.1.length:Int)) (k:(bL p s).1=3):dQ p s=(decide (s<(p.2.1.length:Int) - 1)&&aHV (p.2.2.1.getD s.toNat (aV aL))):=by
 unfold dQ;rw[if_pos ⟨h1,h2,h3⟩,k];rfl
theorem bM0 {p:aY} {s:Int} (h1:jR p=true) (h2:0≤s) (h3:s<(p.2.1.length:Int)) (k:(bL p s).1=4):dQ p s=(decide (s<(p.2.1.length:Int) - 1)&&decide (0<(p.2.2.2.getD s.toNat (aV aL)).2.length)):=by
 unfold dQ;rw[if_pos ⟨h1,h2,h3⟩,k];rfl
theorem bMG {p:aY} {s:Int} (h1:jR p=true) (h2:0≤s) (h3:s<(p.2.1.length:Int)) (k:(bL p s).1=7):dQ p s=(decide (0<s)&&aHV (p.2.2.2.getD (s - 1).toNat (aV aL))):=by
 unfold dQ;rw[if_pos ⟨h1,h2,h3⟩,k];rfl
theorem bCA {p:aY} {s:Int} (h1:jR p=true) (h2:0≤s) (h3:s<(p.2.1.length:Int)) (k:(bL p s).1=2∨(bL p s).1=5∨(bL p s).1=6):true=dQ p s:=by
 unfold dQ;rw[if_pos ⟨h1,h2,h3⟩]
 rcases k with k|k|k <;> rw[k] <;> rfl
theorem bN7 {p:aY} {s:Int} (h1:jR p=true) (h2:0≤s) (h3:s<(p.2.1.length:Int)) (k:(bL p s).1=8):dQ p s=bG5 p:=by
 unfold dQ;rw[if_pos ⟨h1,h2,h3⟩,k];rfl
theorem bF9 {n:Nat}:decide ((0:Int)<(n:Int))=decide (0<n):=by rw[Bool.eq_iff_iff,decide_eq_true_eq,decide_eq_true_eq];omega
theorem bLZ {p:aY} {s:Int} (h:¬ (bL p s).1=1∧¬ (bL p s).1=2∧¬ (bL p s).1=3∧¬ (bL p s).1=4∧¬ (bL p s).1=5∧¬ (bL p s).1=6∧¬ (bL p s).1=7∧¬ (bL p s).1=8):false=dQ p s:=by
 unfold dQ;split
 ·rw[if_neg h.1,if_neg h.2.2.1,if_neg h.2.2.2.1,if_neg h.2.2.2.2.2.2.1,if_neg h.2.1,if_neg h.2.2.2.2.1,if_neg h.2.2.2.2.2.1,if_neg h.2.2.2.2.2.2.2]
 ·rfl
theorem bLK {p:aY} {s:Int} (h1:jR p=true) (h2:0≤s) (h3:s<(p.2.1.length:Int)) (k:(bL p s).1=1) (h:s≤0):false=dQ p s:=by rw[bMM h1 h2 h3 k,decide_eq_false (by omega)];rfl
theorem bLL {p:aY} {s:Int} (h1:jR p=true) (h2:0≤s) (h3:s<(p.2.1.length:Int)) (k:(bL p s).1=1) (h:0<s):decide ((0:Int)<((p.2.2.1.getD (s - 1).toNat (aV aL)).2.length:Int))=dQ p s:=by rw[bMM h1 h2 h3 k,decide_eq_true h,bF9,Bool.true_and]
theorem bLN {p:aY} {s:Int} (h1:jR p=true) (h2:0≤s) (h3:s<(p.2.1.length:Int)) (k:(bL p s).1=3) (h:(p.2.1.length:Int) - 1≤s):false=dQ p s:=by rw[bMO h1 h2 h3 k,decide_eq_false (by omega)];rfl
theorem bLO {p:aY} {s:Int} (h1:jR p=true) (h2:0≤s) (h3:s<(p.2.1.length:Int)) (k:(bL p s).1=3) (h:s<(p.2.1.length:Int) - 1):aHV (p.2.2.1.getD s.toNat (aV aL))=dQ p s:=by rw[bMO h1 h2 h3 k,decide_eq_true h,Bool.true_and]
theorem bLI {p:aY} {s:Int} (h1:jR p=true) (h2:0≤s) (h3:s<(p.2.1.length:Int)) (k:(bL p s).1=4) (h:(p.2.1.length:Int) - 1≤s):false=dQ p s:=by rw[bM0 h1 h2 h3 k,decide_eq_false (by omega)];rfl
theorem bLH {p:aY} {s:Int} (h1:jR p=true) (h2:0≤s) (h3:s<(p.2.1.length:Int)) (k:(bL p s).1=4) (h:s<(p.2.1.length:Int) - 1):decide ((0:Int)<((p.2.2.2.getD s.toNat (aV aL)).2.length:Int))=dQ p s:=by rw[bM0 h1 h2 h3 k,decide_eq_true h,bF9,Bool.true_and]
theorem bLC {p:aY} {s:Int} (h1:jR p=true) (h2:0≤s) (h3:s<(p.2.1.length:Int)) (k:(bL p s).1=7) (h:s≤0):false=dQ p s:=by rw[bMG h1 h2 h3 k,decide_eq_false (by omega)];rfl
theorem bLD {p:aY} {s:Int} (h1:jR p=true) (h2:0≤s) (h3:s<(p.2.1.length:Int)) (k:(bL p s).1=7) (h:0<s):aHV (p.2.2.2.getD (s - 1).toNat (aV aL))=dQ p s:=by rw[bMG h1 h2 h3 k,decide_eq_true h,Bool.true_and]
theorem aRR {α:Type} {f:α→Bool} {l:List α} {k:Nat} (h:(List.take k l).all f=true) (hk:l.length≤k):l.all f=true:=by rw[List.take_of_length_le hk] at h;exact h
def eW:Con:=⟨45,aC,aC,[.val ⟨true,aC,[]⟩],[⟨true,aC,[2,2,2,2]⟩],false,none,
 ((fun x=>bQ aC x≤1000000000):(aY)→Prop),
 ((fun x=>x):(aY)→(aY))⟩
def wS:T:=.call 0 (.p1 aN (.bNT (.slice 38 aA) (.bNT aG aG)) (.Z 0)) <|
 .bNU (.bNX 38 aA) (aJ aC 1 (.Z 0)) <|
 .loop (.bNT tI (.slice 38 aA)) (.bNV tI (.slice 38 aA) (.ci .i64 0) (.nl 38 aA)) <|
  .bNU (.cmp .lss .i64) (.bNV tI tI (.p1 tI (.slice 38 aA) (.Z 3)) (.Z 2)) <|
  .ite (.Z 4) (
   .bNU (.bNY 38 aA) (.bNV (.slice 38 aA) tI (aJ aC 1 (.Z 0)) (.p1 tI (.slice 38 aA) (.Z 3))) <|
   .call 1 (.Z 5) <|
   .bNU (.lit 38 aA 1) (.Z 6) <|
   .bNU (.bO0 38 aA 248) (.bNV (.slice 38 aA) (.slice 38 aA) (aO (.bNT tI (.slice 38 aA)) 1 (.Z 3)) (.Z 7)) <|
   .bNU (.ar .add .i64) (.bNV tI tI (.p1 tI (.slice 38 aA) (.Z 3)) (.ci .i64 1)) <|
   .bNW 0 (.bNV tI (.slice 38 aA) (.Z 9) (.Z 8))) (
   .bNU (.bNX 119 aL) (aJ aC 2 (.Z 0)) <|
   .loop (.bNT tI aG) (.bNV tI aG (.ci .i64 0) (.nl 119 aL)) <|
    .bNU (.cmp .lss .i64) (.bNV tI tI (.p1 tI aG (.Z 6)) (.Z 5)) <|
    .ite (.Z 7) (
     .bNU (.bNY 119 aL) (.bNV aG tI (aJ aC 2 (.Z 0)) (.p1 tI aG (.Z 6))) <|
     .call 2 (.Z 8) <|
     .bNU (.lit 119 aL 1) (.Z 9) <|
     .bNU (.bO0 119 aL 32) (.bNV aG aG (aO (.bNT tI aG) 1 (.Z 6)) (.Z 10)) <|
     .bNU (.ar .add .i64) (.bNV tI tI (.p1 tI aG (.Z 6)) (.ci .i64 1)) <|
     .bNW 0 (.bNV tI aG (.Z 12) (.Z 11))) (
     .bNU (.bNX 119 aL) (aO aC 3 (.Z 0)) <|
     .loop (.bNT tI aG) (.bNV tI aG (.ci .i64 0) (.nl 119 aL)) <|
      .bNU (.cmp .lss .i64) (.bNV tI tI (.p1 tI aG (.Z 9)) (.Z 8)) <|
      .ite (.Z 10) (
       .bNU (.bNY 119 aL) (.bNV aG tI (aO aC 3 (.Z 0)) (.p1 tI aG (.Z 9))) <|
       .call 2 (.Z 11) <|
       .bNU (.lit 119 aL 1) (.Z 12) <|
       .bNU (.bO0 119 aL 32) (.bNV aG aG (aO (.bNT tI aG) 1 (.Z 9)) (.Z 13)) <|
       .bNU (.ar .add .i64) (.bNV tI tI (.p1 tI aG (.Z 9)) (.ci .i64 1)) <|
       .bNW 0 (.bNV tI aG (.Z 15) (.Z 14))) (
       .ret (bB aC [(.Z 1),(aO (.bNT tI (.slice 38 aA)) 1 (.Z 3)),(aO (.bNT tI aG) 1 (.Z 6)),(aO (.bNT tI aG) 1 (.Z 9))]))))
theorem aPA:bM Tryz.prog [lP,dA,eE] eW false 3000 ⟨[(2991,1003,iT 14 10++[.dr 0,.tm 17 0,.sl 13]),(2981,2006,[.dr 29]++iT 18 15++[.tm 32 0,.sl 14]),(2971,4009,[.dr 44]++iT 33 30++[.dr 1,.tm 47 0,.sl 15])],[(2981,3006,[24],[]),(2971,6009,[39],[]),(2961,12012,[54],[])]⟩ = .ok wS:=by kernel_rfl
theorem aP8 (x:aY) (hx:okD aC x) (hp:(fun x=>bQ aC x≤1000000000) x):wS.wp [lP,dA,eE] [⟨aC,x⟩] [] (fun v=>v.as aC=(fun x=>x) x):=by
 obtain ⟨b,st,a,r⟩:=x
 obtain ⟨h1,h1s,h2,h2m,h3,h3m,h4,h4m⟩:=aET hp
 delta wS lP dA eE;refine dB ?_
 refine ⟨h1s,fun _ _=>?_⟩
 refine cZ (fun k=>((k:Int),List.take k st)) (List.length st) rfl fun I μ k hk _ go=>?_
 dsimp only
 (refine dT ?_;try with_reducible exact True.intro)
 skip
 constructor
 ·intro hlt
  have hk':k<st.length:=by omega
  have hm:=h2m _ (List.getElem_mem hk')
  simp only[aZ hk']
  (repeat' first|intro _|(refine go _ ?_ ?_ ?_)|(refine go _ ?_ ?_)|(with_reducible apply And.intro))
  all_goals first|omega|(with_reducible exact hm)|(with_reducible exact hm.1)|(with_reducible exact hm.2)|(unfold maxLen;omega)|(simp only[List.length_take];unfold maxLen;omega)|(simp only[List.length_take];omega)|(rw[iI hk'];rfl)
 intro hge _
 rw[show List.take k st=st from List.take_of_length_le (by omega)]
 clear go
 refine cZ (fun k=>((k:Int),List.take k a)) (List.length a) rfl fun I μ k hk _ go=>?_
 dsimp only
 (refine dT ?_;try with_reducible exact True.intro)
 skip
 constructor
 ·intro hlt
  have hk':k<a.length:=by omega
  have hm:=h3m _ (List.getElem_mem hk')
  simp only[aZ hk']
  (repeat' first|intro _|(refine go _ ?_ ?_ ?_)|(refine go _ ?_ ?_)|(with_reducible apply And.intro))
  all_goals first|omega|(with_reducible exact hm)|(with_reducible exact hm.1)|(with_reducible exact hm.2)|(unfold maxLen;omega)|(simp only[List.length_take];unfold maxLen;omega)|(simp only[List.length_take];omega)|(rw[iI hk'];rfl)
 intro hge _
 rw[show List.take k a=a from List.take_of_length_le (by omega)]
 clear go
 refine cZ (fun k=>((k:Int),List.take k r)) (List.length r) rfl fun I μ k hk _ go=>?_
 dsimp only
 (refine dT ?_;try with_reducible exact True.intro)
 skip
 constructor
 ·intro hlt
  have hk':k<r.length:=by omega
  have hm:=h4m _ (List.getElem_mem hk')
  simp only[aZ hk']
  (repeat' first|intro _|(refine go _ ?_ ?_ ?_)|(refine go _ ?_ ?_)|(with_reducible apply And.intro))
  all_goals first|omega|(with_reducible exact hm)|(with_reducible exact hm.1)|(with_reducible exact hm.2)|(unfold maxLen;omega)|(simp only[List.length_take];unfold maxLen;omega)|(simp only[List.length_take];omega)|(rw[iI hk'];rfl)
 intro hge
 rw[show List.take k r=r from List.take_of_length_le (by omega)]
theorem xI:Con.Holds Tryz.prog eW:=aS aW (aH aNH (aH oK (aH vC aR))) aPA aP8
def pW:Con:=⟨147,aC,aC,[.val ⟨true,aC,[]⟩],[⟨true,aC,[2,2,2,2]⟩],false,none,
 ((fun x=>bQ aC x≤1000000000):(aY)→Prop),
 ((fun x=>x):(aY)→(aY))⟩
def zK:T:=.loop (.bNT tI aN) (.bNV tI aN (.ci .i64 0) (.nl 94 aM)) <|
 .bNU (.bNX 94 aM) (.p1 aN (.bNT (.slice 38 aA) (.bNT aG aG)) (.Z 0)) <|
 .bNU (.cmp .lss .i64) (.bNV tI tI (.p1 tI aN (.Z 1)) (.Z 2)) <|
 .ite (.Z 3) (
  .bNU (.bNY 94 aM) (.bNV aN tI (.p1 aN (.bNT (.slice 38 aA) (.bNT aG aG)) (.Z 0)) (.p1 tI aN (.Z 1))) <|
  .bNU (.bNY 94 aM) (.bNV aN tI (.p1 aN (.bNT (.slice 38 aA) (.bNT aG aG)) (.Z 0)) (.p1 tI aN (.Z 1))) <|
  .bNU (.bO0 3 tI 8) (.bNV aB aB (.nl 3 tI) (.p1 aB aB (.Z 4))) <|
  .bNU (.bO0 3 tI 8) (.bNV aB aB (.nl 3 tI) (aO aM 1 (.Z 5))) <|
  .bNU (.lit 94 aM 1) (.bNV aB aB (.Z 6) (.Z 7)) <|
  .bNU (.bO0 94 aM 48) (.bNV aN aN (aO (.bNT tI aN) 1 (.Z 1)) (.Z 8)) <|
  .bNU (.ar .add .i64) (.bNV tI tI (.p1 tI aN (.Z 1)) (.ci .i64 1)) <|
  .bNW 0 (.bNV tI aN (.Z 10) (.Z 9))) (
  .loop (.bNT tI (.slice 38 aA)) (.bNV tI (.slice 38 aA) (.ci .i64 0) (.nl 38 aA)) <|
   .bNU (.bNX 38 aA) (aJ aC 1 (.Z 0)) <|
   .bNU (.cmp .lss .i64) (.bNV tI tI (.p1 tI (.slice 38 aA) (.Z 4)) (.Z 5)) <|
   .ite (.Z 6) (
    .bNU (.bNY 38 aA) (.bNV (.slice 38 aA) tI (aJ aC 1 (.Z 0)) (.p1 tI (.slice 38 aA) (.Z 4))) <|
    .call 0 (.Z 7) <|
    .bNU (.lit 38 aA 1) (.Z 8) <|
    .bNU (.bO0 38 aA 248) (.bNV (.slice 38 aA) (.slice 38 aA) (aO (.bNT tI (.slice 38 aA)) 1 (.Z 4)) (.Z 9)) <|
    .bNU (.ar .add .i64) (.bNV tI tI (.p1 tI (.slice 38 aA) (.Z 4)) (.ci .i64 1)) <|
    .bNW 0 (.bNV tI (.slice 38 aA) (.Z 11) (.Z 10))) (
    .loop (.bNT tI aG) (.bNV tI aG (.ci .i64 0) (.nl 119 aL)) <|
     .bNU (.bNX 119 aL) (aJ aC 2 (.Z 0)) <|
     .bNU (.cmp .lss .i64) (.bNV tI tI (.p1 tI aG (.Z 7)) (.Z 8)) <|
     .ite (.Z 9) (
      .bNU (.bNY 119 aL) (.bNV aG tI (aJ aC 2 (.Z 0)) (.p1 tI aG (.Z 7))) <|
      .call 1 (.Z 10) <|
      .bNU (.lit 119 aL 1) (.Z 11) <|
      .bNU (.bO0 119 aL 32) (.bNV aG aG (aO (.bNT tI aG) 1 (.Z 7)) (.Z 12)) <|
      .bNU (.ar .add .i64) (.bNV tI tI (.p1 tI aG (.Z 7)) (.ci .i64 1)) <|
      .bNW 0 (.bNV tI aG (.Z 14) (.Z 13))) (
      .loop (.bNT tI aG) (.bNV tI aG (.ci .i64 0) (.nl 119 aL)) <|
       .bNU (.bNX 119 aL) (aO aC 3 (.Z 0)) <|
       .bNU (.cmp .lss .i64) (.bNV tI tI (.p1 tI aG (.Z 10)) (.Z 11)) <|
       .ite (.Z 12) (
        .bNU (.bNY 119 aL) (.bNV aG tI (aO aC 3 (.Z 0)) (.p1 tI aG (.Z 10))) <|
        .call 1 (.Z 13) <|
        .bNU (.lit 119 aL 1) (.Z 14) <|
        .bNU (.bO0 119 aL 32) (.bNV aG aG (aO (.bNT tI aG) 1 (.Z 10)) (.Z 15)) <|
        .bNU (.ar .add .i64) (.bNV tI tI (.p1 tI aG (.Z 10)) (.ci .i64 1)) <|
        .bNW 0 (.bNV tI aG (.Z 17) (.Z 16))) (
        .ret (bB aC [(aO (.bNT tI aN) 1 (.Z 1)),(aO (.bNT tI (.slice 38 aA)) 1 (.Z 4)),(aO (.bNT tI aG) 1 (.Z 7)),(aO (.bNT tI aG) 1 (.Z 10))])))))
theorem aSA:bM Tryz.prog [dZ,fT] pW false 3000 ⟨[(2991,1001,[.dr 8,.dr 0,.tm 4 0,.sl 12]),(2981,2004,iT 13 9++[.dr 4,.tm 5 0,.sl 13]),(2971,4007,iT 42 38++[.dr 5,.tm 6 0,.sl 14]),(2961,8010,iT 60 56++[.dr 6,.tm 7 0,.sl 15])],[(2983,3004,[33,25],[]),(2973,6007,[52],[]),(2963,12010,[70],[]),(2953,24013,[88],[])]⟩ = .ok zK:=by kernel_rfl
theorem aUT (x:aY) (hx:okD aC x) (hp:(fun x=>bQ aC x≤1000000000) x):zK.wp [dZ,fT] [⟨aC,x⟩] [] (fun v=>v.as aC=(fun x=>x) x):=by
 obtain ⟨b,st,a,r⟩:=x
 obtain ⟨h1,h1s,h2,h2m,h3,h3m,h4,h4m⟩:=aET hp
 have hb:∀ x∈b,List.length x.1≤1000000000∧List.length x.2≤1000000000:=fun x hx=>⟨((kA (t:=aN) h1s).2 x hx).1.1,((kA (t:=aN) h1s).2 x hx).2.1⟩
 delta zK dZ fT;refine dB ?_
 refine cZ (fun k=>((k:Int),List.take k b)) (List.length b) rfl fun I μ k hk _ go=>?_
 dsimp only
 refine dT ?_
 intro _
 constructor
 ·intro hlt
  have hk':k<b.length:=by omega
  have hm:=hb _ (List.getElem_mem hk')
  simp only[aZ hk']
  (repeat' first|intro _|(refine go _ ?_ ?_ ?_)|(refine go _ ?_ ?_)|(with_reducible apply And.intro))
  all_goals first|omega|(with_reducible exact hm)|(with_reducible exact hm.1)|(with_reducible exact hm.2)|(unfold maxLen;omega)|(simp only[List.length_take];unfold maxLen;omega)|(simp only[List.length_take];omega)|(rw[iI hk'];rfl)
 intro hge
 rw[show List.take k b=b from List.take_of_length_le (by omega)]
 clear go
 refine cZ (fun k=>((k:Int),List.take k st)) (List.length st) rfl fun I μ k hk _ go=>?_
 dsimp only
 refine dT ?_
 intro _
 constructor
 ·intro hlt
  have hk':k<st.length:=by omega
  have hm:=h2m _ (List.getElem_mem hk')
  simp only[aZ hk']
  (repeat' first|intro _|(refine go _ ?_ ?_ ?_)|(refine go _ ?_ ?_)|(with_reducible apply And.intro))
  all_goals first|omega|(with_reducible exact hm)|(with_reducible exact hm.1)|(with_reducible exact hm.2)|(unfold maxLen;omega)|(simp only[List.length_take];unfold maxLen;omega)|(simp only[List.length_take];omega)|(rw[iI hk'];rfl)
 intro hge
 rw[show List.take k st=st from List.take_of_length_le (by omega)]
 clear go
 refine cZ (fun k=>((k:Int),List.take k a)) (List.length a) rfl fun I μ k hk _ go=>?_
 dsimp only
 refine dT ?_
 intro _
 constructor
 ·intro hlt
  have hk':k<a.length:=by omega
  have hm:=h3m _ (List.getElem_mem hk')
  simp only[aZ hk']
  (repeat' first|intro _|(refine go _ ?_ ?_ ?_)|(refine go _ ?_ ?_)|(with_reducible apply And.intro))
  all_goals first|omega|(with_reducible exact hm)|(with_reducible exact hm.1)|(with_reducible exact hm.2)|(unfold maxLen;omega)|(simp only[List.length_take];unfold maxLen;omega)|(simp only[List.length_take];omega)|(rw[iI hk'];rfl)
 intro hge
 rw[show List.take k a=a from List.take_of_length_le (by omega)]
 clear go
 refine cZ (fun k=>((k:Int),List.take k r)) (List.length r) rfl fun I μ k hk _ go=>?_
 dsimp only
 refine dT ?_
 intro _
 constructor
 ·intro hlt
  have hk':k<r.length:=by omega
  have hm:=h4m _ (List.getElem_mem hk')
  simp only[aZ hk']
  (repeat' first|intro _|(refine go _ ?_ ?_ ?_)|(refine go _ ?_ ?_)|(with_reducible apply And.intro))
  all_goals first|omega|(with_reducible exact hm)|(with_reducible exact hm.1)|(with_reducible exact hm.2)|(unfold maxLen;omega)|(simp only[List.length_take];unfold maxLen;omega)|(simp only[List.length_take];omega)|(rw[iI hk'];rfl)
 intro hge
 rw[show List.take k r=r from List.take_of_length_le (by omega)]
theorem aTU:Con.Holds Tryz.prog pW:=aS aW (aH tE (aH aAC aR)) aSA aUT
def pP:Con:=⟨78,(.bNT aC tI),aE,[.val ⟨true,aC,[]⟩,.val ⟨false,tI,[]⟩],[⟨true,aE,[0,0]⟩],false,none,
 ((fun _=>True):(aY × Int)→Prop),
 ((fun x=>bL x.1 x.2):(aY × Int)→(Int × Int))⟩
def aLO:T :=
 .bNU (.cmp .lss .i64) (.bNV tI tI (aO (.bNT aC tI) 1 (.Z 0)) (.ci .i64 0)) <|
 .ite (.Z 1) (
  .ret (.bNV tI tI (.ci .i64 0) (.ci .i64 0))) (
  .bNU (.bNX 38 aA) (aJ aC 1 (.p1 aC tI (.Z 0))) <|
  .bNU (.cmp .geq .i64) (.bNV tI tI (aO (.bNT aC tI) 1 (.Z 0)) (.Z 2)) <|
  .ite (.Z 3) (
   .ret (.bNV tI tI (.ci .i64 0) (.ci .i64 0))) (
   .bNU (.bNY 38 aA) (.bNV (.slice 38 aA) tI (aJ aC 1 (.p1 aC tI (.Z 0))) (aO (.bNT aC tI) 1 (.Z 0))) <|
   .bNU (.cmp .lss .i64) (.bNV tI tI (.p1 tI cU (.Z 4)) (.ci .i64 0)) <|
   .ite (.Z 5) (
    .ret (.bNV tI tI (.ci .i64 0) (.ci .i64 0))) (
    .bNU (.bNX 76 aE) (aJ aA 1 (.Z 4)) <|
    .bNU (.cmp .geq .i64) (.bNV tI tI (.p1 tI cU (.Z 4)) (.Z 6)) <|
    .ite (.Z 7) (
     .ret (.bNV tI tI (.ci .i64 0) (.ci .i64 0))) (
     .bNU (.bNY 76 aE) (.bNV bC tI (aJ aA 1 (.Z 4)) (.p1 tI cU (.Z 4))) <|
     .ret (.Z 8)))))
theorem bFL:bM Tryz.prog [] pP false 3000 ⟨[],[]⟩ = .ok aLO:=by kernel_rfl
theorem bHS (x:aY × Int) (hx:okD (.bNT aC tI) x) (hp:(fun _=>True) x):aLO.wp [] [⟨(.bNT aC tI),x⟩] [] (fun v=>v.as aE=(fun x=>bL x.1 x.2) x):=by
 obtain ⟨p,s⟩:=x
 delta aLO;refine dB ?_
 (refine dT ?_;try with_reducible exact True.intro)
 (repeat' first|intro _|(with_reducible apply And.intro))
 all_goals first|omega|exact aVT (by omega) (by omega) (by omega) (by omega)|exact bC4 (by omega)|skip
theorem aS0:Con.Holds Tryz.prog pP:=aS aW aR bFL bHS
def oY:Con:=⟨85,(.bNT aC tI),aE,[.val ⟨true,aC,[]⟩,.val ⟨false,tI,[]⟩],[⟨true,aE,[0,0]⟩],false,none,
 ((fun _=>True):(aY × Int)→Prop),
 ((fun x=>bL x.1 x.2):(aY × Int)→(Int × Int))⟩
def aLD:T :=
 .bNU (.bNX 38 aA) (aJ aC 1 (.p1 aC tI (.Z 0))) <|
 .bNU (.ar .sub .i64) (.bNV tI tI (.Z 1) (.ci .i64 1)) <|
 .call 0 (bB (.bNT tI aE) [(aO (.bNT aC tI) 1 (.Z 0)),(.ci .i64 0),(.Z 2)]) <|
 .bNU .not (.Z 3) <|
 .ite (.Z 4) (
  .ret (.bNV tI tI (.ci .i64 0) (.ci .i64 0))) (
  .bNU (.bNY 38 aA) (.bNV (.slice 38 aA) tI (aJ aC 1 (.p1 aC tI (.Z 0))) (aO (.bNT aC tI) 1 (.Z 0))) <|
  .bNU (.bNY 38 aA) (.bNV (.slice 38 aA) tI (aJ aC 1 (.p1 aC tI (.Z 0))) (aO (.bNT aC tI) 1 (.Z 0))) <|
  .bNU (.bNX 76 aE) (aJ aA 1 (.Z 6)) <|
  .bNU (.ar .sub .i64) (.bNV tI tI (.Z 7) (.ci .i64 1)) <|
  .call 0 (bB (.bNT tI aE) [(.p1 tI cU (.Z 5)),(.ci .i64 0),(.Z 8)]) <|
  .bNU .not (.Z 9) <|
  .ite (.Z 10) (
   .ret (.bNV tI tI (.ci .i64 0) (.ci .i64 0))) (
   .bNU (.bNY 38 aA) (.bNV (.slice 38 aA) tI (aJ aC 1 (.p1 aC tI (.Z 0))) (aO (.bNT aC tI) 1 (.Z 0))) <|
   .bNU (.bNY 38 aA) (.bNV (.slice 38 aA) tI (aJ aC 1 (.p1 aC tI (.Z 0))) (aO (.bNT aC tI) 1 (.Z 0))) <|
   .bNU (.bNY 76 aE) (.bNV bC tI (aJ aA 1 (.Z 11)) (.p1 tI cU (.Z 12))) <|
   .ret (.Z 13)))
theorem bHF:bM Tryz.prog [bI] oY false 3000 ⟨[],[]⟩ = .ok aLD:=by kernel_rfl
theorem bHL (x:aY × Int) (hx:okD (.bNT aC tI) x) (hp:(fun _=>True) x):aLD.wp [bI] [⟨(.bNT aC tI),x⟩] [] (fun v=>v.as aE=(fun x=>bL x.1 x.2) x):=by
 obtain ⟨p,s⟩:=x
 have hm:∀ k,k<p.2.1.length→(p.2.1.getD k (aV aA)).2.1.length≤9223372036854775807:=fun k hk=>by rw[aZ hk];exact (hx.1.2.1.2 _ (List.getElem_mem hk)).2.1.1
 have hm1:p.2.1.length≤9223372036854775807:=hx.1.2.1.1
 have hm2:=hm s.toNat
 delta aLD bI;refine dB ?_
 (refine dT ?_;try with_reducible exact True.intro)
 (repeat' first|intro _|(with_reducible apply And.intro))
 all_goals first|omega|exact aVT (by omega) (by omega) (by omega) (by omega)|exact bC4 (by omega)|skip
theorem aTD:Con.Holds Tryz.prog oY:=aS aW (aH eY aR) bHF bHL
def oV:Con:=⟨108,aL,.bool,[.val ⟨true,aL,[]⟩],[⟨false,.bool,[0]⟩],false,none,
 ((fun _=>True):(bX)→Prop),
 ((fun x=>aHV x):(bX)→(Bool))⟩
def zF:T :=
 .bNU (.bNX 125 aF) (aO aL 1 (.Z 0)) <|
 .bNU (.cmp .lss .i64) (.bNV tI tI (.Z 1) (.p1 tI (.slice 125 aF) (.Z 0))) <|
 .ret (.Z 2)
theorem aUY:bM Tryz.prog [] oV false 3000 ⟨[],[]⟩ = .ok zF:=by kernel_rfl
theorem aTX (x:bX) (hx:okD aL x) (hp:(fun _=>True) x):zF.wp [] [⟨aL,x⟩] [] (fun v=>v.as .bool=(fun x=>aHV x) x):=by
 delta zF;refine dB ?_
 exact fun _=>rfl
theorem aVP:Con.Holds Tryz.prog oV:=aS aW aR aUY aTX
def sE:Con:=⟨86,aC,.bool,[.val ⟨true,aC,[]⟩],[⟨false,.bool,[0]⟩],false,none,
 ((fun _=>True):(aY)→Prop),
 ((fun x=>bG5 x):(aY)→(Bool))⟩
def aE3:T:=.loop tI (.ci .i64 0) <|
 .bNU (.bNX 38 aA) (aJ aC 1 (.Z 0)) <|
 .bNU (.cmp .lss .i64) (.bNV tI tI (.Z 1) (.Z 2)) <|
 .ite (.Z 3) (
  .bNU (.bNY 38 aA) (.bNV (.slice 38 aA) tI (aJ aC 1 (.Z 0)) (.Z 1)) <|
  .bNU (.bNY 38 aA) (.bNV (.slice 38 aA) tI (aJ aC 1 (.Z 0)) (.Z 1)) <|
  .bNU (.bNX 76 aE) (aJ aA 1 (.Z 5)) <|
  .bNU (.ar .sub .i64) (.bNV tI tI (.Z 6) (.ci .i64 1)) <|
  .bNU (.cmp .lss .i64) (.bNV tI tI (.p1 tI cU (.Z 4)) (.Z 7)) <|
  .ite (.Z 8) (
   .ret (.cb false)) (
   .bNU (.ar .add .i64) (.bNV tI tI (.Z 1) (.ci .i64 1)) <|
   .bNW 0 (.Z 9))) (
  .ret (.cb true))
theorem aYU:bM Tryz.prog [] sE false 3000 ⟨[(2993,1001,[.dr 0,.tm 3 0])],[]⟩ = .ok aE3:=by kernel_rfl
theorem aXA (x:aY) (hx:okD aC x) (hp:(fun _=>True) x):aE3.wp [] [⟨aC,x⟩] [] (fun v=>v.as .bool=(fun x=>bG5 x) x):=by
 have hm:∀ k,k<x.2.1.length→(x.2.1.getD k (aV aA)).2.1.length≤9223372036854775807:=fun k hk=>by rw[aZ hk];exact (hx.2.1.2 _ (List.getElem_mem hk)).2.1.1
 have hm1:x.2.1.length≤9223372036854775807:=hx.2.1.1
 delta aE3;refine dB ?_
 rw[bB4]
 refine yV (fun k=>(k:Int)) (fun k=>(List.take k x.2.1).all aFG=true) (List.length x.2.1) rfl rfl fun I μ k hk hG _ go=>?_
 try dsimp only
 refine dT ?_
 intro _
 constructor
 ·intro hlt
  have hk':k<x.2.1.length:=by omega
  have hm2:=hm k hk'
  have e:=qB aFG x.2.1 hk'
  have ng:∀ P:Prop,aFG x.2.1[k]=false→false=x.2.1.all aFG:=fun _ h=>(wT hk' h).symm
  rw[aZ hk'] at hm2
  simp only[aZ hk']
  (repeat' first|intro _|(refine go _ ?_ ?_ ?_)|(refine go _ ?_ ?_)|(with_reducible apply And.intro))
  all_goals first|omega|exact ng True (decide_eq_false (by omega))|(rw[e,hG,Bool.true_and];exact decide_eq_true (by omega))|rfl
 ·intro hge
  exact (aRR hG (by omega)).symm
theorem bA4:Con.Holds Tryz.prog sE:=aS aW aR aYU aXA
def jG:Con:=⟨74,(.bNT aC tI),.bool,[.val ⟨true,aC,[]⟩,.val ⟨false,tI,[]⟩],[⟨false,.bool,[0]⟩],false,none,
 ((fun _=>True):(aY × Int)→Prop),
 ((fun x=>dQ x.1 x.2):(aY × Int)→(Bool))⟩
def aAJ:T:=.call 0 (.p1 aC tI (.Z 0)) <|
 .bNU .not (.Z 1) <|
 .ite (.Z 2) (
  .ret (.cb false)) (
  .bNU (.cmp .lss .i64) (.bNV tI tI (aO (.bNT aC tI) 1 (.Z 0)) (.ci .i64 0)) <|
  .ite (.Z 3) (
   .ret (.cb false)) (
   .bNU (.bNX 38 aA) (aJ aC 1 (.p1 aC tI (.Z 0))) <|
   .bNU (.cmp .geq .i64) (.bNV tI tI (aO (.bNT aC tI) 1 (.Z 0)) (.Z 4)) <|
   .ite (.Z 5) (
    .ret (.cb false)) (
    .bNU (.bNX 38 aA) (aJ aC 1 (.p1 aC tI (.Z 0))) <|
    .bNU (.ar .sub .i64) (.bNV tI tI (.Z 6) (.ci .i64 1)) <|
    .bNU (.cmp .lss .i64) (.bNV tI tI (aO (.bNT aC tI) 1 (.Z 0)) (.Z 7)) <|
    .call 1 (.Z 0) <|
    .bNU (.cmp .eql .i64) (.bNV tI tI (.p1 tI tI (.Z 9)) (.ci .i64 1)) <|
    .ite (.Z 10) (
     .bNU (.cmp .gtr .i64) (.bNV tI tI (aO (.bNT aC tI) 1 (.Z 0)) (.ci .i64 0)) <|
     .ite (.Z 11) (
      .bNU (.ar .sub .i64) (.bNV tI tI (aO (.bNT aC tI) 1 (.Z 0)) (.ci .i64 1)) <|
      .bNU (.bNY 119 aL) (.bNV aG tI (aJ aC 2 (.p1 aC tI (.Z 0))) (.Z 12)) <|
      .bNU (.bNX 125 aF) (aO aL 1 (.Z 13)) <|
      .bNU (.cmp .gtr .i64) (.bNV tI tI (.Z 14) (.ci .i64 0)) <|
      .ret (.Z 15)) (
      .ret (.cb false))) (
     .bNU (.cmp .eql .i64) (.bNV tI tI (.p1 tI tI (.Z 9)) (.ci .i64 3)) <|
     .ite (.Z 11) (
      .ite (.Z 8) (
       .bNU (.bNY 119 aL) (.bNV aG tI (aJ aC 2 (.p1 aC tI (.Z 0))) (aO (.bNT aC tI) 1 (.Z 0))) <|
       .call 2 (.Z 12) <|
       .ret (.Z 13)) (
       .ret (.cb false))) (
      .bNU (.cmp .eql .i64) (.bNV tI tI (.p1 tI tI (.Z 9)) (.ci .i64 4)) <|
      .ite (.Z 12) (
       .ite (.Z 8) (
        .bNU (.bNY 119 aL) (.bNV aG tI (aO aC 3 (.p1 aC tI (.Z 0))) (aO (.bNT aC tI) 1 (.Z 0))) <|
        .bNU (.bNX 125 aF) (aO aL 1 (.Z 13)) <|
        .bNU (.cmp .gtr .i64) (.bNV tI tI (.Z 14) (.ci .i64 0)) <|
        .ret (.Z 15)) (
        .ret (.cb false))) (
       .bNU (.cmp .eql .i64) (.bNV tI tI (.p1 tI tI (.Z 9)) (.ci .i64 7)) <|
       .ite (.Z 13) (
        .bNU (.cmp .gtr .i64) (.bNV tI tI (aO (.bNT aC tI) 1 (.Z 0)) (.ci .i64 0)) <|
        .ite (.Z 14) (
         .bNU (.ar .sub .i64) (.bNV tI tI (aO (.bNT aC tI) 1 (.Z 0)) (.ci .i64 1)) <|
         .bNU (.bNY 119 aL) (.bNV aG tI (aO aC 3 (.p1 aC tI (.Z 0))) (.Z 15)) <|
         .call 2 (.Z 16) <|
         .ret (.Z 17)) (
         .ret (.cb false))) (
        .bNU (.cmp .eql .i64) (.bNV tI tI (.p1 tI tI (.Z 9)) (.ci .i64 2)) <|
        .ite (.Z 14) (
         .ret (.cb true)) (
         .bNU (.cmp .eql .i64) (.bNV tI tI (.p1 tI tI (.Z 9)) (.ci .i64 5)) <|
         .ite (.Z 15) (
          .ret (.cb true)) (
          .bNU (.cmp .eql .i64) (.bNV tI tI (.p1 tI tI (.Z 9)) (.ci .i64 6)) <|
          .ite (.Z 16) (
           .ret (.cb true)) (
           .bNU (.cmp .eql .i64) (.bNV tI tI (.p1 tI tI (.Z 9)) (.ci .i64 8)) <|
           .ite (.Z 17) (
            .bNU (.bNX 38 aA) (aJ aC 1 (.p1 aC tI (.Z 0))) <|
            .loop tI (.ci .i64 0) <|
             .bNU (.cmp .lss .i64) (.bNV tI tI (.Z 19) (.Z 18)) <|
             .ite (.Z 20) (
              .bNU (.bNY 38 aA) (.bNV (.slice 38 aA) tI (aJ aC 1 (.p1 aC tI (.Z 0))) (.Z 19)) <|
              .bNU (.bNX 76 aE) (aJ aA 1 (.Z 21)) <|
              .bNU (.ar .sub .i64) (.bNV tI tI (.Z 22) (.ci .i64 1)) <|
              .bNU (.cmp .lss .i64) (.bNV tI tI (.p1 tI cU (.Z 21)) (.Z 23)) <|
              .ite (.Z 24) (
               .ret (.cb false)) (
               .bNU (.ar .add .i64) (.bNV tI tI (.Z 19) (.ci .i64 1)) <|
               .bNW 0 (.Z 25))) (
              .ret (.cb true))) (
            .ret (.cb false))))))))))))
theorem aTA:bM Tryz.prog [rJ,pP,oV] jG false 3000 ⟨[(2958,3072019,[.dr 90,.dr 88,.dr 89,.dr 84]++iT 87 85++[.dr 71,.dr 72,.dr 58,.dr 59,.dr 47,.dr 48,.dr 32,.dr 33]++iT 31 28++[.dr 5]++iT 27 8++[.dr 2,.dr 0,.dr 1,.tm 93 0])],[]⟩ = .ok aAJ:=by kernel_rfl
set_option maxHeartbeats 1000000 in
theorem aWB (x:aY × Int) (hx:okD (.bNT aC tI) x) (hp:(fun _=>True) x):aAJ.wp [rJ,pP,oV] [⟨(.bNT aC tI),x⟩] [] (fun v=>v.as .bool=(fun x=>dQ x.1 x.2) x):=by
 obtain ⟨p,s⟩:=x
 have hm:∀ k,k<p.2.1.length→(p.2.1.getD k (aV aA)).2.1.length≤9223372036854775807:=fun k hk=>by rw[aZ hk];exact (hx.1.2.1.2 _ (List.getElem_mem hk)).2.1.1
 have hm1:p.2.1.length≤9223372036854775807:=hx.1.2.1.1
 delta aAJ rJ pP oV;refine dB ?_
 refine dT ?_
 refine ⟨fun h=>aNW (.inl h),fun h1=>⟨fun h=>aNW (.inr (.inl h)),fun h2 _=>⟨fun h=>aNW (.inr (.inr h)),fun h3 _=>⟨by omega,fun _ _=>?_⟩⟩⟩⟩
 have hp':=(mM.1 h1).1
 (repeat' first|intro _|(with_reducible apply And.intro))
 all_goals first|omega|exact bCA h1 h2 h3 (.inl (by assumption))|exact bCA h1 h2 h3 (.inr (.inl (by assumption)))|exact bCA h1 h2 h3 (.inr (.inr (by assumption)))|exact bLZ ⟨by assumption,by assumption,by assumption,by assumption,by assumption,by assumption,by assumption,by assumption⟩|exact bLK h1 h2 h3 (by assumption) (by omega)|exact bLL h1 h2 h3 (by assumption) (by omega)|exact bLN h1 h2 h3 (by assumption) (by omega)|exact bLO h1 h2 h3 (by assumption) (by omega)|exact bLI h1 h2 h3 (by assumption) (by omega)|exact bLH h1 h2 h3 (by assumption) (by omega)|exact bLC h1 h2 h3 (by assumption) (by omega)|exact bLD h1 h2 h3 (by assumption) (by omega)|skip
 rw[bN7 h1 h2 h3 (by assumption),bB4]
 refine yV (fun k=>(k:Int)) (fun k=>(List.take k p.2.1).all aFG=true) (List.length p.2.1) rfl rfl fun I μ k hk hG _ go=>?_
 try dsimp only
 refine dT ?_
 constructor
 ·intro hlt
  have hk':k<p.2.1.length:=by omega
  have hm2:=hm k hk'
  have e:=qB aFG p.2.1 hk'
  have ng:∀ P:Prop,aFG p.2.1[k]=false→false=p.2.1.all aFG:=fun _ h=>(wT hk' h).symm
  rw[aZ hk'] at hm2
  simp only[aZ hk']
  (repeat' first|intro _|(refine go _ ?_ ?_ ?_)|(refine go _ ?_ ?_)|(with_reducible apply And.intro))
  all_goals first|omega|exact ng True (decide_eq_false (by omega))|(rw[e,hG,Bool.true_and];exact decide_eq_true (by omega))|rfl
 ·intro hge
  exact (aRR hG (by omega)).symm
set_option maxHeartbeats 1000000 in
theorem aHO:Con.Holds Tryz.prog jG:=aS aW (aH aWG (aH aS0 (aH aVP aR))) aTA aWB
def jK:Con:=⟨47,(.bNT aC tI),.bool,[.val ⟨true,aC,[]⟩,.val ⟨false,tI,[]⟩],[⟨false,.bool,[0]⟩],false,none,
 ((fun _=>True):(aY × Int)→Prop),
 ((fun x=>dQ x.1 x.2):(aY × Int)→(Bool))⟩
def aAE:T:=.call 0 (.p1 aC tI (.Z 0)) <|
 .bNU .not (.Z 1) <|
 .ite (.Z 2) (
  .ret (.cb false)) (
  .bNU (.bNX 38 aA) (aJ aC 1 (.p1 aC tI (.Z 0))) <|
  .bNU (.ar .sub .i64) (.bNV tI tI (.Z 3) (.ci .i64 1)) <|
  .call 1 (bB (.bNT tI aE) [(aO (.bNT aC tI) 1 (.Z 0)),(.ci .i64 0),(.Z 4)]) <|
  .bNU .not (.Z 5) <|
  .ite (.Z 6) (
   .ret (.cb false)) (
   .call 2 (.Z 0) <|
   .bNU (.cmp .eql .i64) (.bNV tI tI (.p1 tI tI (.Z 7)) (.ci .i64 1)) <|
   .ite (.Z 8) (
    .bNU (.cmp .gtr .i64) (.bNV tI tI (aO (.bNT aC tI) 1 (.Z 0)) (.ci .i64 0)) <|
    .ite (.Z 9) (
     .bNU (.ar .sub .i64) (.bNV tI tI (aO (.bNT aC tI) 1 (.Z 0)) (.ci .i64 1)) <|
     .bNU (.bNY 119 aL) (.bNV aG tI (aJ aC 2 (.p1 aC tI (.Z 0))) (.Z 10)) <|
     .bNU (.bNX 125 aF) (aO aL 1 (.Z 11)) <|
     .bNU (.cmp .gtr .i64) (.bNV tI tI (.Z 12) (.ci .i64 0)) <|
     .ret (.Z 13)) (
     .ret (.cb false))) (
    .bNU (.cmp .eql .i64) (.bNV tI tI (.p1 tI tI (.Z 7)) (.ci .i64 3)) <|
    .ite (.Z 9) (
     .bNU (.bNX 38 aA) (aJ aC 1 (.p1 aC tI (.Z 0))) <|
     .bNU (.ar .sub .i64) (.bNV tI tI (.Z 10) (.ci .i64 1)) <|
     .bNU (.cmp .lss .i64) (.bNV tI tI (aO (.bNT aC tI) 1 (.Z 0)) (.Z 11)) <|
     .ite (.Z 12) (
      .bNU (.bNY 119 aL) (.bNV aG tI (aJ aC 2 (.p1 aC tI (.Z 0))) (aO (.bNT aC tI) 1 (.Z 0))) <|
      .bNU (.bNX 125 aF) (aO aL 1 (.Z 13)) <|
      .bNU (.bNY 119 aL) (.bNV aG tI (aJ aC 2 (.p1 aC tI (.Z 0))) (aO (.bNT aC tI) 1 (.Z 0))) <|
      .bNU (.cmp .lss .i64) (.bNV tI tI (.Z 14) (.p1 tI (.slice 125 aF) (.Z 15))) <|
      .ret (.Z 16)) (
      .ret (.cb false))) (
     .bNU (.cmp .eql .i64) (.bNV tI tI (.p1 tI tI (.Z 7)) (.ci .i64 4)) <|
     .ite (.Z 10) (
      .bNU (.bNX 38 aA) (aJ aC 1 (.p1 aC tI (.Z 0))) <|
      .bNU (.ar .sub .i64) (.bNV tI tI (.Z 11) (.ci .i64 1)) <|
      .bNU (.cmp .lss .i64) (.bNV tI tI (aO (.bNT aC tI) 1 (.Z 0)) (.Z 12)) <|
      .ite (.Z 13) (
       .bNU (.bNY 119 aL) (.bNV aG tI (aO aC 3 (.p1 aC tI (.Z 0))) (aO (.bNT aC tI) 1 (.Z 0))) <|
       .bNU (.bNX 125 aF) (aO aL 1 (.Z 14)) <|
       .bNU (.cmp .gtr .i64) (.bNV tI tI (.Z 15) (.ci .i64 0)) <|
       .ret (.Z 16)) (
       .ret (.cb false))) (
      .bNU (.cmp .eql .i64) (.bNV tI tI (.p1 tI tI (.Z 7)) (.ci .i64 7)) <|
      .ite (.Z 11) (
       .bNU (.cmp .gtr .i64) (.bNV tI tI (aO (.bNT aC tI) 1 (.Z 0)) (.ci .i64 0)) <|
       .ite (.Z 12) (
        .bNU (.ar .sub .i64) (.bNV tI tI (aO (.bNT aC tI) 1 (.Z 0)) (.ci .i64 1)) <|
        .bNU (.ar .sub .i64) (.bNV tI tI (aO (.bNT aC tI) 1 (.Z 0)) (.ci .i64 1)) <|
        .bNU (.bNY 119 aL) (.bNV aG tI (aO aC 3 (.p1 aC tI (.Z 0))) (.Z 13)) <|
        .bNU (.bNX 125 aF) (aO aL 1 (.Z 15)) <|
        .bNU (.bNY 119 aL) (.bNV aG tI (aO aC 3 (.p1 aC tI (.Z 0))) (.Z 14)) <|
        .bNU (.cmp .lss .i64) (.bNV tI tI (.Z 16) (.p1 tI (.slice 125 aF) (.Z 17))) <|
        .ret (.Z 18)) (
        .ret (.cb false))) (
       .bNU (.cmp .eql .i64) (.bNV tI tI (.p1 tI tI (.Z 7)) (.ci .i64 2)) <|
       .ite (.Z 12) (
        .ret (.cb true)) (
        .bNU (.cmp .eql .i64) (.bNV tI tI (.p1 tI tI (.Z 7)) (.ci .i64 5)) <|
        .ite (.Z 13) (
         .ret (.cb true)) (
         .bNU (.cmp .eql .i64) (.bNV tI tI (.p1 tI tI (.Z 7)) (.ci .i64 6)) <|
         .ite (.Z 14) (
          .ret (.cb true)) (
          .bNU (.cmp .eql .i64) (.bNV tI tI (.p1 tI tI (.Z 7)) (.ci .i64 8)) <|
          .ite (.Z 15) (
           .call 3 (.p1 aC tI (.Z 0)) <|
           .ret (.Z 16)) (
           .ret (.cb false)))))))))))
theorem aW3:bM Tryz.prog [sW,bI,oY,sE] jK false 3000 ⟨[],[]⟩ = .ok aAE:=by kernel_rfl
set_option maxHeartbeats 1000000 in
theorem aUB (x:aY × Int) (hx:okD (.bNT aC tI) x) (hp:(fun _=>True) x):aAE.wp [sW,bI,oY,sE] [⟨(.bNT aC tI),x⟩] [] (fun v=>v.as .bool=(fun x=>dQ x.1 x.2) x):=by
 obtain ⟨p,s⟩:=x
 have hm1:p.2.1.length≤9223372036854775807:=hx.1.2.1.1
 delta aAE sW bI oY sE;refine dB ?_
 refine dT ?_
 refine ⟨fun h=>aNW (.inl h),fun h1 _=>⟨by omega,fun _=>⟨fun h=>aNW (.inr (by omega)),fun hs _=>?_⟩⟩⟩
 have h2:0≤s:=hs.1
 have h3:s<(p.2.1.length:Int):=by omega
 have hp':=(mM.1 h1).1
 (repeat' first|intro _|(with_reducible apply And.intro))
 all_goals first|omega|exact bCA h1 h2 h3 (.inl (by assumption))|exact bCA h1 h2 h3 (.inr (.inl (by assumption)))|exact bCA h1 h2 h3 (.inr (.inr (by assumption)))|exact bLZ ⟨by assumption,by assumption,by assumption,by assumption,by assumption,by assumption,by assumption,by assumption⟩|exact bLK h1 h2 h3 (by assumption) (by omega)|exact bLL h1 h2 h3 (by assumption) (by omega)|exact bLN h1 h2 h3 (by assumption) (by omega)|exact bLO h1 h2 h3 (by assumption) (by omega)|exact bLI h1 h2 h3 (by assumption) (by omega)|exact bLH h1 h2 h3 (by assumption) (by omega)|exact bLC h1 h2 h3 (by assumption) (by omega)|exact bLD h1 h2 h3 (by assumption) (by omega)|skip
 all_goals exact (bN7 h1 h2 h3 (by assumption)).symm
set_option maxHeartbeats 1000000 in
theorem aI0:Con.Holds Tryz.prog jK:=aS aW (aH bAB (aH eY (aH aTD (aH bA4 aR)))) aW3 aUB
end
end Go.Proofs.YtdeobhdbmehpgaaGreat
