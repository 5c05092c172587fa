/- Core8: lemmas. No conditions. -/
import Derived.Test.YtiihghfoeinbbaaGreatCoreF
import Derived.Test.YtiihghfoeinbbaaGreatCoreR
import Derived.Test.YtiihghfoeinbbaaGreatCoreB
namespace Go.Proofs.YtiihghfoeinbbaaGreat
noncomputable section
set_option maxRecDepth 100000
open Go.ChangeShapes Go.WideShapes Go.ChangeAt Go.RowKit Go.Deep
set_option linter.unusedVariables false
set_option linter.unusedSimpArgs false
def bJ (p:bO) (s:Int):fI :=
 if 0≤s∧s<(p.2.1.length:Int)∧0≤(p.2.1.getD s.toNat (aX aA)).1∧(p.2.1.getD s.toNat (aX aA)).1<((p.2.1.getD s.toNat (aX aA)).2.1.length:Int) then (p.2.1.getD s.toNat (aX aA)).2.1.getD (p.2.1.getD s.toNat (aX aA)).1.toNat (0,0) else (0,0)
def aH8 (q:cE):Bool:=decide ((q.2.length:Int)<q.1)
def bEW (p:bO):Bool:=p.2.1.all fun x=>decide ((x.2.1.length:Int) - 1≤x.1)
def dJ (p:bO) (s:Int):Bool :=
 if kK p=true∧0≤s∧s<(p.2.1.length:Int) then
  (if (bJ p s).1=1 then decide (0<s)&&decide (0<(p.2.2.1.getD (s - 1).toNat (aX aM)).2.length)
  else if (bJ p s).1=3 then decide (s<(p.2.1.length:Int) - 1)&&aH8 (p.2.2.1.getD s.toNat (aX aM))
  else if (bJ p s).1=4 then decide (s<(p.2.1.length:Int) - 1)&&decide (0<(p.2.2.2.getD s.toNat (aX aM)).2.length)
  else if (bJ p s).1=7 then decide (0<s)&&aH8 (p.2.2.2.getD (s - 1).toNat (aX aM))
  else if (bJ p s).1=2 then true else if (bJ p s).1=5 then true else if (bJ p s).1=6 then true
  else if (bJ p s).1=8 then bEW p else false)
 else false
def iL (p:bO) (s:Int):bC:=p.2.1.getD s.toNat (aX aA)
def bJF (x:bC) (v:List Int):bC:=(x.1,x.2.1,x.2.2.1,x.2.2.2.1,x.2.2.2.2.1,x.2.2.2.2.2.1,x.2.2.2.2.2.2.1,v,x.2.2.2.2.2.2.2.2)
def bK7 (x:bC) (v:List Int):bC:=(x.1,x.2.1,x.2.2.1,x.2.2.2.1,x.2.2.2.2.1,x.2.2.2.2.2.1,x.2.2.2.2.2.2.1,x.2.2.2.2.2.2.2.1,v,x.2.2.2.2.2.2.2.2.2)
def bJW (x:bC) (v:List Int):bC:=(x.1,x.2.1,x.2.2.1,x.2.2.2.1,x.2.2.2.2.1,x.2.2.2.2.2.1,x.2.2.2.2.2.2.1,x.2.2.2.2.2.2.2.1,x.2.2.2.2.2.2.2.2.1,v,x.2.2.2.2.2.2.2.2.2.2)
def aOB (x:bC) (v:List Int):bC:=(x.1,x.2.1,x.2.2.1,x.2.2.2.1,x.2.2.2.2.1,x.2.2.2.2.2.1,x.2.2.2.2.2.2.1,x.2.2.2.2.2.2.2.1,x.2.2.2.2.2.2.2.2.1,x.2.2.2.2.2.2.2.2.2.1,v,x.2.2.2.2.2.2.2.2.2.2.2)
def wG (x:bC) (k:Int):bC:=(k,x.2)
def kB (p:bO) (s:Int):bC :=
 if (bJ p s).1=1 then bJF (iL p s) (wF (p.2.2.1.getD (s - 1).toNat (aX aM))).2.1.2
 else if (bJ p s).1=2 then zX (iL p s) (bJ p s).2 (if s=0 then (p.1.getD (bJ p s).2.toNat (aX aI)).1 else (iL p s).2.2.2.2.2.2.2.1) (p.1.getD (bJ p s).2.toNat (aX aI)).2
 else if (bJ p s).1=3 then bK7 (iL p s) []
 else if (bJ p s).1=4 then bJW (iL p s) (wF (p.2.2.2.getD s.toNat (aX aM))).2.1.2
 else if (bJ p s).1=5 then sH (iL p s) (bJ p s).2
 else if (bJ p s).1=6 then (if s=0 then aOB (vB (iL p s) (bJ p s).2 (p.1.getD (bJ p s).2.toNat (aX aI)).2) [] else vB (iL p s) (bJ p s).2 (p.1.getD (bJ p s).2.toNat (aX aI)).2)
 else if (bJ p s).1=7 then aOB (iL p s) []
 else iL p s
def wK (p:bO) (s:Int):List cE :=
 if (bJ p s).1=1 then p.2.2.1.set (s - 1).toNat (wF (p.2.2.1.getD (s - 1).toNat (aX aM))).1
 else if (bJ p s).1=3 then p.2.2.1.set s.toNat (uQ (p.2.2.1.getD s.toNat (aX aM)) ((bJ p s).2,(iL p s).2.2.2.2.2.2.2.2.1)).1
 else p.2.2.1
def wS (p:bO) (s:Int):List cE :=
 if (bJ p s).1=4 then p.2.2.2.set s.toNat (wF (p.2.2.2.getD s.toNat (aX aM))).1
 else if (bJ p s).1=7 then p.2.2.2.set (s - 1).toNat (uQ (p.2.2.2.getD (s - 1).toNat (aX aM)) ((bJ p s).2,(iL p s).2.2.2.2.2.2.2.2.2.2.1)).1
 else p.2.2.2
def dQ (p:bO) (s:Int):bO:=if dJ p s=true then (p.1,p.2.1.set s.toNat (wG (kB p s) ((kB p s).1+1)),wK p s,wS p s) else p
def pD (p:bO):List Int→bO
 | []=>p
 | s :: l=>pD (dQ p s) l
theorem aFF {b:List bW} {st:List bC} {a r:List cE} (h:bD aL (b,st,a,r)≤1000000000):List.length b≤1000000000∧bD aN b≤1000000000∧List.length st≤1000000000∧(∀ x∈st,bD aA x≤1000000000) ∧
  List.length a≤1000000000∧(∀ x∈a,bD aM x≤1000000000)∧List.length r≤1000000000∧∀ x∈r,bD aM x≤1000000000:=by
 have e:bD aL (b,st,a,r)=bD aN b+(bD (.slice 126 aA) st+(bD aK a+bD aK r)):=rfl
 have h1:List.length b≤bD aN b:=xQ (e:=130) (t:=aI) b
 have h2:List.length st≤bD (.slice 126 aA) st:=xQ (e:=126) (t:=aA) st
 have h3:List.length a≤bD aK a:=xQ (e:=170) (t:=aM) a
 have h4:List.length r≤bD aK r:=xQ (e:=170) (t:=aM) r
 refine ⟨by omega,by omega,by omega,fun x hx=>?_,by omega,fun x hx=>?_,by omega,fun x hx=>?_⟩
 ·have:=yT (e:=126) (t:=aA) hx;omega
 ·have:bD aM x≤bD aK a:=yT (e:=170) (t:=aM) hx;omega
 ·have:bD aM x≤bD aK r:=yT (e:=170) (t:=aM) hx;omega
theorem bBE {p:bO} {s:Int} (h:¬ (0≤s∧s<(p.2.1.length:Int)∧0≤(p.2.1.getD s.toNat (aX aA)).1∧(p.2.1.getD s.toNat (aX aA)).1<((p.2.1.getD s.toNat (aX aA)).2.1.length:Int))):(0,0)=bJ p s:=(if_neg h).symm
theorem aT3 {p:bO} {s:Int} (h1:0≤s) (h2:s<(p.2.1.length:Int)) (h3:0≤(p.2.1.getD s.toNat (aX aA)).1) (h4:(p.2.1.getD s.toNat (aX aA)).1<((p.2.1.getD s.toNat (aX aA)).2.1.length:Int)) :
 (p.2.1.getD s.toNat (aX aA)).2.1.getD (p.2.1.getD s.toNat (aX aA)).1.toNat (aX aO)=bJ p s:=(if_pos ⟨h1,h2,h3,h4⟩).symm
def aEY (x:bC):Bool:=decide ((x.2.1.length:Int) - 1≤x.1)
theorem bBM (p:bO):bEW p=p.2.1.all aEY:=rfl
theorem aUE {p:bO} {s:Int} (h:kK p=false∨s<0∨(p.2.1.length:Int)≤s):false=dJ p s:=by
 unfold dJ;rw[if_neg]
 rintro ⟨h1,h2,h3⟩
 rcases h with h|h|h
 ·rw[h] at h1;cases h1
 ·omega
 ·omega
theorem bLC {p:bO} {s:Int} (h1:kK p=true) (h2:0≤s) (h3:s<(p.2.1.length:Int)) (k:(bJ p s).1=1):dJ p s=(decide (0<s)&&decide (0<(p.2.2.1.getD (s - 1).toNat (aX aM)).2.length)):=by
 unfold dJ;rw[if_pos ⟨h1,h2,h3⟩,if_pos k]
theorem bLE {p:bO} {s:Int} (h1:kK p=true) (h2:0≤s) (h3:s<(p.2.1.length:Int)) (k:(bJ p s).1=3):dJ p s=(decide (s<(p.2.1.length:Int) - 1)&&aH8 (p.2.2.1.getD s.toNat (aX aM))):=by
 unfold dJ;rw[if_pos ⟨h1,h2,h3⟩,k];rfl
theorem bKW {p:bO} {s:Int} (h1:kK p=true) (h2:0≤s) (h3:s<(p.2.1.length:Int)) (k:(bJ p s).1=4):dJ p s=(decide (s<(p.2.1.length:Int) - 1)&&decide (0<(p.2.2.2.getD s.toNat (aX aM)).2.length)):=by
 unfold dJ;rw[if_pos ⟨h1,h2,h3⟩,k];rfl
theorem bL1 {p:bO} {s:Int} (h1:kK p=true) (h2:0≤s) (h3:s<(p.2.1.length:Int)) (k:(bJ p s).1=7):dJ p s=(decide (0<s)&&aH8 (p.2.2.2.getD (s - 1).toNat (aX aM))):=by
 unfold dJ;rw[if_pos ⟨h1,h2,h3⟩,k];rfl
theorem bDE {p:bO} {s:Int} (h1:kK p=true) (h2:0≤s) (h3:s<(p.2.1.length:Int)) (k:(bJ p s).1=2∨(bJ p s).1=5∨(bJ p s).1=6):true=dJ p s:=by
 unfold dJ;rw[if_pos ⟨h1,h2,h3⟩]
 rcases k with k|k|k <;> rw[k] <;> rfl
theorem bM7 {p:bO} {s:Int} (h1:kK p=true) (h2:0≤s) (h3:s<(p.2.1.length:Int)) (k:(bJ p s).1=8):dJ p s=bEW p:=by
 unfold dJ;rw[if_pos ⟨h1,h2,h3⟩,k];rfl
theorem bIC {n:Nat}:decide ((0:Int)<(n:Int))=decide (0<n):=by rw[Bool.eq_iff_iff,decide_eq_true_eq,decide_eq_true_eq];omega
theorem bKY {p:bO} {s:Int} (h:¬ (bJ p s).1=1∧¬ (bJ p s).1=2∧¬ (bJ p s).1=3∧¬ (bJ p s).1=4∧¬ (bJ p s).1=5∧¬ (bJ p s).1=6∧¬ (bJ p s).1=7∧¬ (bJ p s).1=8):false=dJ p s:=by
 unfold dJ;split
 ·rw[if_neg h.1,if_neg h.2.2.1,if_neg h.2.2.2.1,if_neg h.2.2.2.2.2.2.1,if_neg h.2.1,if_neg h.2.2.2.2.1,if_neg h.2.2.2.2.2.1,if_neg h.2.2.2.2.2.2.2]
 ·rfl
theorem bKC {p:bO} {s:Int} (h1:kK p=true) (h2:0≤s) (h3:s<(p.2.1.length:Int)) (k:(bJ p s).1=1) (h:s≤0):false=dJ p s:=by rw[bLC h1 h2 h3 k,decide_eq_false (by omega)];rfl
theorem bKE {p:bO} {s:Int} (h1:kK p=true) (h2:0≤s) (h3:s<(p.2.1.length:Int)) (k:(bJ p s).1=1) (h:0<s):decide ((0:Int)<((p.2.2.1.getD (s - 1).toNat (aX aM)).2.length:Int))=dJ p s:=by rw[bLC h1 h2 h3 k,decide_eq_true h,bIC,Bool.true_and]
theorem bKA {p:bO} {s:Int} (h1:kK p=true) (h2:0≤s) (h3:s<(p.2.1.length:Int)) (k:(bJ p s).1=3) (h:(p.2.1.length:Int) - 1≤s):false=dJ p s:=by rw[bLE h1 h2 h3 k,decide_eq_false (by omega)];rfl
theorem bKR {p:bO} {s:Int} (h1:kK p=true) (h2:0≤s) (h3:s<(p.2.1.length:Int)) (k:(bJ p s).1=3) (h:s<(p.2.1.length:Int) - 1):aH8 (p.2.2.1.getD s.toNat (aX aM))=dJ p s:=by rw[bLE h1 h2 h3 k,decide_eq_true h,Bool.true_and]
theorem bKJ {p:bO} {s:Int} (h1:kK p=true) (h2:0≤s) (h3:s<(p.2.1.length:Int)) (k:(bJ p s).1=4) (h:(p.2.1.length:Int) - 1≤s):false=dJ p s:=by rw[bKW h1 h2 h3 k,decide_eq_false (by omega)];rfl
theorem bKI {p:bO} {s:Int} (h1:kK p=true) (h2:0≤s) (h3:s<(p.2.1.length:Int)) (k:(bJ p s).1=4) (h:s<(p.2.1.length:Int) - 1):decide ((0:Int)<((p.2.2.2.getD s.toNat (aX aM)).2.length:Int))=dJ p s:=by rw[bKW h1 h2 h3 k,decide_eq_true h,bIC,Bool.true_and]
theorem bKK {p:bO} {s:Int} (h1:kK p=true) (h2:0≤s) (h3:s<(p.2.1.length:Int)) (k:(bJ p s).1=7) (h:s≤0):false=dJ p s:=by rw[bL1 h1 h2 h3 k,decide_eq_false (by omega)];rfl
theorem bKM {p:bO} {s:Int} (h1:kK p=true) (h2:0≤s) (h3:s<(p.2.1.length:Int)) (k:(bJ p s).1=7) (h:0<s):aH8 (p.2.2.2.getD (s - 1).toNat (aX aM))=dJ p s:=by rw[bL1 h1 h2 h3 k,decide_eq_true h,Bool.true_and]
theorem aI9 {α:Type} {f:α→Bool} {l:List α} {k:Nat} (h:(List.take k l).all f=true) (hk:l.length≤k):l.all f=true:=by rw[List.take_of_length_le hk] at h;exact h
def nS:Con:=⟨103,aL,aL,[.val ⟨true,aL,[]⟩],[⟨true,aL,[2,2,2,2]⟩],false,none,
 ((fun x=>bD aL x≤1000000000):(bO)→Prop),
 ((fun x=>x):(bO)→(bO))⟩
def yJ:T:=.call 0 (.p1 aN (.bMC (.slice 126 aA) (.bMC aK aK)) (.Z 0)) <|
 .bMD (.bMG 126 aA) (aJ aL 1 (.Z 0)) <|
 .loop (.bMC tI (.slice 126 aA)) (.bME tI (.slice 126 aA) (.ci .i64 0) (.nl 126 aA)) <|
  .bMD (.cmp .lss .i64) (.bME tI tI (.p1 tI (.slice 126 aA) (.Z 3)) (.Z 2)) <|
  .ite (.Z 4) (
   .bMD (.bMH 126 aA) (.bME (.slice 126 aA) tI (aJ aL 1 (.Z 0)) (.p1 tI (.slice 126 aA) (.Z 3))) <|
   .call 1 (.Z 5) <|
   .bMD (.lit 126 aA 1) (.Z 6) <|
   .bMD (.bMJ 126 aA 248) (.bME (.slice 126 aA) (.slice 126 aA) (aQ (.bMC tI (.slice 126 aA)) 1 (.Z 3)) (.Z 7)) <|
   .bMD (.ar .add .i64) (.bME tI tI (.p1 tI (.slice 126 aA) (.Z 3)) (.ci .i64 1)) <|
   .bMF 0 (.bME tI (.slice 126 aA) (.Z 9) (.Z 8))) (
   .bMD (.bMG 170 aM) (aJ aL 2 (.Z 0)) <|
   .loop (.bMC tI aK) (.bME tI aK (.ci .i64 0) (.nl 170 aM)) <|
    .bMD (.cmp .lss .i64) (.bME tI tI (.p1 tI aK (.Z 6)) (.Z 5)) <|
    .ite (.Z 7) (
     .bMD (.bMH 170 aM) (.bME aK tI (aJ aL 2 (.Z 0)) (.p1 tI aK (.Z 6))) <|
     .call 2 (.Z 8) <|
     .bMD (.lit 170 aM 1) (.Z 9) <|
     .bMD (.bMJ 170 aM 32) (.bME aK aK (aQ (.bMC tI aK) 1 (.Z 6)) (.Z 10)) <|
     .bMD (.ar .add .i64) (.bME tI tI (.p1 tI aK (.Z 6)) (.ci .i64 1)) <|
     .bMF 0 (.bME tI aK (.Z 12) (.Z 11))) (
     .bMD (.bMG 170 aM) (aQ aL 3 (.Z 0)) <|
     .loop (.bMC tI aK) (.bME tI aK (.ci .i64 0) (.nl 170 aM)) <|
      .bMD (.cmp .lss .i64) (.bME tI tI (.p1 tI aK (.Z 9)) (.Z 8)) <|
      .ite (.Z 10) (
       .bMD (.bMH 170 aM) (.bME aK tI (aQ aL 3 (.Z 0)) (.p1 tI aK (.Z 9))) <|
       .call 2 (.Z 11) <|
       .bMD (.lit 170 aM 1) (.Z 12) <|
       .bMD (.bMJ 170 aM 32) (.bME aK aK (aQ (.bMC tI aK) 1 (.Z 9)) (.Z 13)) <|
       .bMD (.ar .add .i64) (.bME tI tI (.p1 tI aK (.Z 9)) (.ci .i64 1)) <|
       .bMF 0 (.bME tI aK (.Z 15) (.Z 14))) (
       .ret (bE aL [(.Z 1),(aQ (.bMC tI (.slice 126 aA)) 1 (.Z 3)),(aQ (.bMC tI aK) 1 (.Z 6)),(aQ (.bMC tI aK) 1 (.Z 9))]))))
theorem aOZ:bL Tryz.prog [gT,dA,eC] nS false 3000 ⟨[(2991,1003,iQ 14 10++[.dr 0,.tm 17 0,.sl 13]),(2981,2006,[.dr 29]++iQ 18 15++[.tm 32 0,.sl 14]),(2971,4009,[.dr 44]++iQ 33 30++[.dr 1,.tm 47 0,.sl 15])],[(2981,3006,[24],[]),(2971,6009,[39],[]),(2961,12012,[54],[])]⟩ = .ok yJ:=by kernel_rfl
theorem aQ0 (x:bO) (hx:okD aL x) (hp:(fun x=>bD aL x≤1000000000) x):yJ.wp [gT,dA,eC] [⟨aL,x⟩] [] (fun v=>v.as aL=(fun x=>x) x):=by
 obtain ⟨b,st,a,r⟩:=x
 obtain ⟨h1,h1s,h2,h2m,h3,h3m,h4,h4m⟩:=aFF hp
 delta yJ gT dA eC;refine dD ?_
 refine ⟨h1s,fun _ _=>?_⟩
 refine cS (fun k=>((k:Int),List.take k st)) (List.length st) rfl fun I μ k hk _ go=>?_
 dsimp only
 (refine eE ?_;try with_reducible exact True.intro)
 skip
 constructor
 ·intro hlt
  have hk':k<st.length:=by omega
  have hm:=h2m _ (List.getElem_mem hk')
  simp only[aZ hk']
  (repeat' first|intro _|(refine go _ ?_ ?_ ?_)|(refine go _ ?_ ?_)|(with_reducible apply And.intro))
  all_goals first|omega|(with_reducible exact hm)|(with_reducible exact hm.1)|(with_reducible exact hm.2)|(unfold maxLen;omega)|(simp only[List.length_take];unfold maxLen;omega)|(simp only[List.length_take];omega)|(rw[iU hk'];rfl)
 intro hge _
 rw[show List.take k st=st from List.take_of_length_le (by omega)]
 clear go
 refine cS (fun k=>((k:Int),List.take k a)) (List.length a) rfl fun I μ k hk _ go=>?_
 dsimp only
 (refine eE ?_;try with_reducible exact True.intro)
 skip
 constructor
 ·intro hlt
  have hk':k<a.length:=by omega
  have hm:=h3m _ (List.getElem_mem hk')
  simp only[aZ hk']
  (repeat' first|intro _|(refine go _ ?_ ?_ ?_)|(refine go _ ?_ ?_)|(with_reducible apply And.intro))
  all_goals first|omega|(with_reducible exact hm)|(with_reducible exact hm.1)|(with_reducible exact hm.2)|(unfold maxLen;omega)|(simp only[List.length_take];unfold maxLen;omega)|(simp only[List.length_take];omega)|(rw[iU hk'];rfl)
 intro hge _
 rw[show List.take k a=a from List.take_of_length_le (by omega)]
 clear go
 refine cS (fun k=>((k:Int),List.take k r)) (List.length r) rfl fun I μ k hk _ go=>?_
 dsimp only
 (refine eE ?_;try with_reducible exact True.intro)
 skip
 constructor
 ·intro hlt
  have hk':k<r.length:=by omega
  have hm:=h4m _ (List.getElem_mem hk')
  simp only[aZ hk']
  (repeat' first|intro _|(refine go _ ?_ ?_ ?_)|(refine go _ ?_ ?_)|(with_reducible apply And.intro))
  all_goals first|omega|(with_reducible exact hm)|(with_reducible exact hm.1)|(with_reducible exact hm.2)|(unfold maxLen;omega)|(simp only[List.length_take];unfold maxLen;omega)|(simp only[List.length_take];omega)|(rw[iU hk'];rfl)
 intro hge
 rw[show List.take k r=r from List.take_of_length_le (by omega)]
theorem aPH:Con.Holds Tryz.prog nS:=aR aW (aG aCD (aG oP (aG vC aS))) aOZ aQ0
def pL:Con:=⟨99,aL,aL,[.val ⟨true,aL,[]⟩],[⟨true,aL,[2,2,2,2]⟩],false,none,
 ((fun x=>bD aL x≤1000000000):(bO)→Prop),
 ((fun x=>x):(bO)→(bO))⟩
def aA6:T:=.loop (.bMC tI aN) (.bME tI aN (.ci .i64 0) (.nl 130 aI)) <|
 .bMD (.bMG 130 aI) (.p1 aN (.bMC (.slice 126 aA) (.bMC aK aK)) (.Z 0)) <|
 .bMD (.cmp .lss .i64) (.bME tI tI (.p1 tI aN (.Z 1)) (.Z 2)) <|
 .ite (.Z 3) (
  .bMD (.bMH 130 aI) (.bME aN tI (.p1 aN (.bMC (.slice 126 aA) (.bMC aK aK)) (.Z 0)) (.p1 tI aN (.Z 1))) <|
  .bMD (.bMH 130 aI) (.bME aN tI (.p1 aN (.bMC (.slice 126 aA) (.bMC aK aK)) (.Z 0)) (.p1 tI aN (.Z 1))) <|
  .bMD (.bMJ 3 tI 8) (.bME aB aB (.nl 3 tI) (.p1 aB aB (.Z 4))) <|
  .bMD (.bMJ 3 tI 8) (.bME aB aB (.nl 3 tI) (aQ aI 1 (.Z 5))) <|
  .bMD (.lit 130 aI 1) (.bME aB aB (.Z 6) (.Z 7)) <|
  .bMD (.bMJ 130 aI 48) (.bME aN aN (aQ (.bMC tI aN) 1 (.Z 1)) (.Z 8)) <|
  .bMD (.ar .add .i64) (.bME tI tI (.p1 tI aN (.Z 1)) (.ci .i64 1)) <|
  .bMF 0 (.bME tI aN (.Z 10) (.Z 9))) (
  .loop (.bMC tI (.slice 126 aA)) (.bME tI (.slice 126 aA) (.ci .i64 0) (.nl 126 aA)) <|
   .bMD (.bMG 126 aA) (aJ aL 1 (.Z 0)) <|
   .bMD (.cmp .lss .i64) (.bME tI tI (.p1 tI (.slice 126 aA) (.Z 4)) (.Z 5)) <|
   .ite (.Z 6) (
    .bMD (.bMH 126 aA) (.bME (.slice 126 aA) tI (aJ aL 1 (.Z 0)) (.p1 tI (.slice 126 aA) (.Z 4))) <|
    .call 0 (.Z 7) <|
    .bMD (.lit 126 aA 1) (.Z 8) <|
    .bMD (.bMJ 126 aA 248) (.bME (.slice 126 aA) (.slice 126 aA) (aQ (.bMC tI (.slice 126 aA)) 1 (.Z 4)) (.Z 9)) <|
    .bMD (.ar .add .i64) (.bME tI tI (.p1 tI (.slice 126 aA) (.Z 4)) (.ci .i64 1)) <|
    .bMF 0 (.bME tI (.slice 126 aA) (.Z 11) (.Z 10))) (
    .loop (.bMC tI aK) (.bME tI aK (.ci .i64 0) (.nl 170 aM)) <|
     .bMD (.bMG 170 aM) (aJ aL 2 (.Z 0)) <|
     .bMD (.cmp .lss .i64) (.bME tI tI (.p1 tI aK (.Z 7)) (.Z 8)) <|
     .ite (.Z 9) (
      .bMD (.bMH 170 aM) (.bME aK tI (aJ aL 2 (.Z 0)) (.p1 tI aK (.Z 7))) <|
      .call 1 (.Z 10) <|
      .bMD (.lit 170 aM 1) (.Z 11) <|
      .bMD (.bMJ 170 aM 32) (.bME aK aK (aQ (.bMC tI aK) 1 (.Z 7)) (.Z 12)) <|
      .bMD (.ar .add .i64) (.bME tI tI (.p1 tI aK (.Z 7)) (.ci .i64 1)) <|
      .bMF 0 (.bME tI aK (.Z 14) (.Z 13))) (
      .loop (.bMC tI aK) (.bME tI aK (.ci .i64 0) (.nl 170 aM)) <|
       .bMD (.bMG 170 aM) (aQ aL 3 (.Z 0)) <|
       .bMD (.cmp .lss .i64) (.bME tI tI (.p1 tI aK (.Z 10)) (.Z 11)) <|
       .ite (.Z 12) (
        .bMD (.bMH 170 aM) (.bME aK tI (aQ aL 3 (.Z 0)) (.p1 tI aK (.Z 10))) <|
        .call 1 (.Z 13) <|
        .bMD (.lit 170 aM 1) (.Z 14) <|
        .bMD (.bMJ 170 aM 32) (.bME aK aK (aQ (.bMC tI aK) 1 (.Z 10)) (.Z 15)) <|
        .bMD (.ar .add .i64) (.bME tI tI (.p1 tI aK (.Z 10)) (.ci .i64 1)) <|
        .bMF 0 (.bME tI aK (.Z 17) (.Z 16))) (
        .ret (bE aL [(aQ (.bMC tI aN) 1 (.Z 1)),(aQ (.bMC tI (.slice 126 aA)) 1 (.Z 4)),(aQ (.bMC tI aK) 1 (.Z 7)),(aQ (.bMC tI aK) 1 (.Z 10))])))))
theorem aSR:bL Tryz.prog [dY,gA] pL false 3000 ⟨[(2991,1001,[.dr 8,.dr 0,.tm 4 0,.sl 12]),(2981,2004,iQ 13 9++[.dr 4,.tm 5 0,.sl 13]),(2971,4007,iQ 42 38++[.dr 5,.tm 6 0,.sl 14]),(2961,8010,iQ 60 56++[.dr 6,.tm 7 0,.sl 15])],[(2983,3004,[33,25],[]),(2973,6007,[52],[]),(2963,12010,[70],[]),(2953,24013,[88],[])]⟩ = .ok aA6:=by kernel_rfl
theorem aRT (x:bO) (hx:okD aL x) (hp:(fun x=>bD aL x≤1000000000) x):aA6.wp [dY,gA] [⟨aL,x⟩] [] (fun v=>v.as aL=(fun x=>x) x):=by
 obtain ⟨b,st,a,r⟩:=x
 obtain ⟨h1,h1s,h2,h2m,h3,h3m,h4,h4m⟩:=aFF hp
 have hb:∀ x∈b,List.length x.1≤1000000000∧List.length x.2≤1000000000:=fun x hx=>⟨((gX (t:=aN) h1s).2 x hx).1.1,((gX (t:=aN) h1s).2 x hx).2.1⟩
 delta aA6 dY gA;refine dD ?_
 refine cS (fun k=>((k:Int),List.take k b)) (List.length b) rfl fun I μ k hk _ go=>?_
 dsimp only
 refine eE ?_
 intro _
 constructor
 ·intro hlt
  have hk':k<b.length:=by omega
  have hm:=hb _ (List.getElem_mem hk')
  simp only[aZ hk']
  (repeat' first|intro _|(refine go _ ?_ ?_ ?_)|(refine go _ ?_ ?_)|(with_reducible apply And.intro))
  all_goals first|omega|(with_reducible exact hm)|(with_reducible exact hm.1)|(with_reducible exact hm.2)|(unfold maxLen;omega)|(simp only[List.length_take];unfold maxLen;omega)|(simp only[List.length_take];omega)|(rw[iU hk'];rfl)
 intro hge
 rw[show List.take k b=b from List.take_of_length_le (by omega)]
 clear go
 refine cS (fun k=>((k:Int),List.take k st)) (List.length st) rfl fun I μ k hk _ go=>?_
 dsimp only
 refine eE ?_
 intro _
 constructor
 ·intro hlt
  have hk':k<st.length:=by omega
  have hm:=h2m _ (List.getElem_mem hk')
  simp only[aZ hk']
  (repeat' first|intro _|(refine go _ ?_ ?_ ?_)|(refine go _ ?_ ?_)|(with_reducible apply And.intro))
  all_goals first|omega|(with_reducible exact hm)|(with_reducible exact hm.1)|(with_reducible exact hm.2)|(unfold maxLen;omega)|(simp only[List.length_take];unfold maxLen;omega)|(simp only[List.length_take];omega)|(rw[iU hk'];rfl)
 intro hge
 rw[show List.take k st=st from List.take_of_length_le (by omega)]
 clear go
 refine cS (fun k=>((k:Int),List.take k a)) (List.length a) rfl fun I μ k hk _ go=>?_
 dsimp only
 refine eE ?_
 intro _
 constructor
 ·intro hlt
  have hk':k<a.length:=by omega
  have hm:=h3m _ (List.getElem_mem hk')
  simp only[aZ hk']
  (repeat' first|intro _|(refine go _ ?_ ?_ ?_)|(refine go _ ?_ ?_)|(with_reducible apply And.intro))
  all_goals first|omega|(with_reducible exact hm)|(with_reducible exact hm.1)|(with_reducible exact hm.2)|(unfold maxLen;omega)|(simp only[List.length_take];unfold maxLen;omega)|(simp only[List.length_take];omega)|(rw[iU hk'];rfl)
 intro hge
 rw[show List.take k a=a from List.take_of_length_le (by omega)]
 clear go
 refine cS (fun k=>((k:Int),List.take k r)) (List.length r) rfl fun I μ k hk _ go=>?_
 dsimp only
 refine eE ?_
 intro _
 constructor
 ·intro hlt
  have hk':k<r.length:=by omega
  have hm:=h4m _ (List.getElem_mem hk')
  simp only[aZ hk']
  (repeat' first|intro _|(refine go _ ?_ ?_ ?_)|(refine go _ ?_ ?_)|(with_reducible apply And.intro))
  all_goals first|omega|(with_reducible exact hm)|(with_reducible exact hm.1)|(with_reducible exact hm.2)|(unfold maxLen;omega)|(simp only[List.length_take];unfold maxLen;omega)|(simp only[List.length_take];omega)|(rw[iU hk'];rfl)
 intro hge
 rw[show List.take k r=r from List.take_of_length_le (by omega)]
theorem aUB:Con.Holds Tryz.prog pL:=aR aW (aG uM (aG aAA aS)) aSR aRT
def pJ:Con:=⟨168,(.bMC aL tI),aO,[.val ⟨true,aL,[]⟩,.val ⟨false,tI,[]⟩],[⟨true,aO,[0,0]⟩],false,none,
 ((fun _=>True):(bO × Int)→Prop),
 ((fun x=>bJ x.1 x.2):(bO × Int)→(Int × Int))⟩
def aKV:T :=
 .bMD (.cmp .lss .i64) (.bME tI tI (aQ (.bMC aL tI) 1 (.Z 0)) (.ci .i64 0)) <|
 .ite (.Z 1) (
  .ret (.bME tI tI (.ci .i64 0) (.ci .i64 0))) (
  .bMD (.bMG 126 aA) (aJ aL 1 (.p1 aL tI (.Z 0))) <|
  .bMD (.cmp .geq .i64) (.bME tI tI (aQ (.bMC aL tI) 1 (.Z 0)) (.Z 2)) <|
  .ite (.Z 3) (
   .ret (.bME tI tI (.ci .i64 0) (.ci .i64 0))) (
   .bMD (.bMH 126 aA) (.bME (.slice 126 aA) tI (aJ aL 1 (.p1 aL tI (.Z 0))) (aQ (.bMC aL tI) 1 (.Z 0))) <|
   .bMD (.cmp .lss .i64) (.bME tI tI (.p1 tI cY (.Z 4)) (.ci .i64 0)) <|
   .ite (.Z 5) (
    .ret (.bME tI tI (.ci .i64 0) (.ci .i64 0))) (
    .bMD (.bMG 194 aO) (aJ aA 1 (.Z 4)) <|
    .bMD (.cmp .geq .i64) (.bME tI tI (.p1 tI cY (.Z 4)) (.Z 6)) <|
    .ite (.Z 7) (
     .ret (.bME tI tI (.ci .i64 0) (.ci .i64 0))) (
     .bMD (.bMH 194 aO) (.bME aT tI (aJ aA 1 (.Z 4)) (.p1 tI cY (.Z 4))) <|
     .ret (.Z 8)))))
theorem bFX:bL Tryz.prog [] pJ false 3000 ⟨[],[]⟩ = .ok aKV:=by kernel_rfl
theorem bFF (x:bO × Int) (hx:okD (.bMC aL tI) x) (hp:(fun _=>True) x):aKV.wp [] [⟨(.bMC aL tI),x⟩] [] (fun v=>v.as aO=(fun x=>bJ x.1 x.2) x):=by
 obtain ⟨p,s⟩:=x
 delta aKV;refine dD ?_
 (refine eE ?_;try with_reducible exact True.intro)
 (repeat' first|intro _|(with_reducible apply And.intro))
 all_goals first|omega|exact aT3 (by omega) (by omega) (by omega) (by omega)|exact bBE (by omega)|skip
theorem aTJ:Con.Holds Tryz.prog pJ:=aR aW aS bFX bFF
def pZ:Con:=⟨155,(.bMC aL tI),aO,[.val ⟨true,aL,[]⟩,.val ⟨false,tI,[]⟩],[⟨true,aO,[0,0]⟩],false,none,
 ((fun _=>True):(bO × Int)→Prop),
 ((fun x=>bJ x.1 x.2):(bO × Int)→(Int × Int))⟩
def aJ7:T :=
 .bMD (.bMG 126 aA) (aJ aL 1 (.p1 aL tI (.Z 0))) <|
 .bMD (.ar .sub .i64) (.bME tI tI (.Z 1) (.ci .i64 1)) <|
 .call 0 (bE (.bMC tI aO) [(aQ (.bMC aL tI) 1 (.Z 0)),(.ci .i64 0),(.Z 2)]) <|
 .bMD .not (.Z 3) <|
 .ite (.Z 4) (
  .ret (.bME tI tI (.ci .i64 0) (.ci .i64 0))) (
  .bMD (.bMH 126 aA) (.bME (.slice 126 aA) tI (aJ aL 1 (.p1 aL tI (.Z 0))) (aQ (.bMC aL tI) 1 (.Z 0))) <|
  .bMD (.bMH 126 aA) (.bME (.slice 126 aA) tI (aJ aL 1 (.p1 aL tI (.Z 0))) (aQ (.bMC aL tI) 1 (.Z 0))) <|
  .bMD (.bMG 194 aO) (aJ aA 1 (.Z 6)) <|
  .bMD (.ar .sub .i64) (.bME tI tI (.Z 7) (.ci .i64 1)) <|
  .call 0 (bE (.bMC tI aO) [(.p1 tI cY (.Z 5)),(.ci .i64 0),(.Z 8)]) <|
  .bMD .not (.Z 9) <|
  .ite (.Z 10) (
   .ret (.bME tI tI (.ci .i64 0) (.ci .i64 0))) (
   .bMD (.bMH 126 aA) (.bME (.slice 126 aA) tI (aJ aL 1 (.p1 aL tI (.Z 0))) (aQ (.bMC aL tI) 1 (.Z 0))) <|
   .bMD (.bMH 126 aA) (.bME (.slice 126 aA) tI (aJ aL 1 (.p1 aL tI (.Z 0))) (aQ (.bMC aL tI) 1 (.Z 0))) <|
   .bMD (.bMH 194 aO) (.bME aT tI (aJ aA 1 (.Z 11)) (.p1 tI cY (.Z 12))) <|
   .ret (.Z 13)))
theorem bGI:bL Tryz.prog [bH] pZ false 3000 ⟨[],[]⟩ = .ok aJ7:=by kernel_rfl
theorem bFK (x:bO × Int) (hx:okD (.bMC aL tI) x) (hp:(fun _=>True) x):aJ7.wp [bH] [⟨(.bMC aL tI),x⟩] [] (fun v=>v.as aO=(fun x=>bJ x.1 x.2) x):=by
 obtain ⟨p,s⟩:=x
 have hm:∀ k,k<p.2.1.length→(p.2.1.getD k (aX aA)).2.1.length≤9223372036854775807:=fun k hk=>by rw[aZ hk];exact (hx.1.2.1.2 _ (List.getElem_mem hk)).2.1.1
 have hm1:p.2.1.length≤9223372036854775807:=hx.1.2.1.1
 have hm2:=hm s.toNat
 delta aJ7 bH;refine dD ?_
 (refine eE ?_;try with_reducible exact True.intro)
 (repeat' first|intro _|(with_reducible apply And.intro))
 all_goals first|omega|exact aT3 (by omega) (by omega) (by omega) (by omega)|exact bBE (by omega)|skip
theorem aRN:Con.Holds Tryz.prog pZ:=aR aW (aG eS aS) bGI bFK
def pC:Con:=⟨169,aM,.bool,[.val ⟨true,aM,[]⟩],[⟨false,.bool,[0]⟩],false,none,
 ((fun _=>True):(cE)→Prop),
 ((fun x=>aH8 x):(cE)→(Bool))⟩
def aBO:T :=
 .bMD (.bMG 197 aF) (aQ aM 1 (.Z 0)) <|
 .bMD (.cmp .lss .i64) (.bME tI tI (.Z 1) (.p1 tI (.slice 197 aF) (.Z 0))) <|
 .ret (.Z 2)
theorem aU1:bL Tryz.prog [] pC false 3000 ⟨[],[]⟩ = .ok aBO:=by kernel_rfl
theorem aUX (x:cE) (hx:okD aM x) (hp:(fun _=>True) x):aBO.wp [] [⟨aM,x⟩] [] (fun v=>v.as .bool=(fun x=>aH8 x) x):=by
 delta aBO;refine dD ?_
 exact fun _=>rfl
theorem aTT:Con.Holds Tryz.prog pC:=aR aW aS aU1 aUX
def sM:Con:=⟨156,aL,.bool,[.val ⟨true,aL,[]⟩],[⟨false,.bool,[0]⟩],false,none,
 ((fun _=>True):(bO)→Prop),
 ((fun x=>bEW x):(bO)→(Bool))⟩
def aDJ:T:=.loop tI (.ci .i64 0) <|
 .bMD (.bMG 126 aA) (aJ aL 1 (.Z 0)) <|
 .bMD (.cmp .lss .i64) (.bME tI tI (.Z 1) (.Z 2)) <|
 .ite (.Z 3) (
  .bMD (.bMH 126 aA) (.bME (.slice 126 aA) tI (aJ aL 1 (.Z 0)) (.Z 1)) <|
  .bMD (.bMH 126 aA) (.bME (.slice 126 aA) tI (aJ aL 1 (.Z 0)) (.Z 1)) <|
  .bMD (.bMG 194 aO) (aJ aA 1 (.Z 5)) <|
  .bMD (.ar .sub .i64) (.bME tI tI (.Z 6) (.ci .i64 1)) <|
  .bMD (.cmp .lss .i64) (.bME tI tI (.p1 tI cY (.Z 4)) (.Z 7)) <|
  .ite (.Z 8) (
   .ret (.cb false)) (
   .bMD (.ar .add .i64) (.bME tI tI (.Z 1) (.ci .i64 1)) <|
   .bMF 0 (.Z 9))) (
  .ret (.cb true))
theorem aZL:bL Tryz.prog [] sM false 3000 ⟨[(2993,1001,[.dr 0,.tm 3 0])],[]⟩ = .ok aDJ:=by kernel_rfl
theorem aXG (x:bO) (hx:okD aL x) (hp:(fun _=>True) x):aDJ.wp [] [⟨aL,x⟩] [] (fun v=>v.as .bool=(fun x=>bEW x) x):=by
 have hm:∀ k,k<x.2.1.length→(x.2.1.getD k (aX aA)).2.1.length≤9223372036854775807:=fun k hk=>by rw[aZ hk];exact (hx.2.1.2 _ (List.getElem_mem hk)).2.1.1
 have hm1:x.2.1.length≤9223372036854775807:=hx.2.1.1
 delta aDJ;refine dD ?_
 rw[bBM]
 refine uK (fun k=>(k:Int)) (fun k=>(List.take k x.2.1).all aEY=true) (List.length x.2.1) rfl rfl fun I μ k hk hG _ go=>?_
 try dsimp only
 refine eE ?_
 intro _
 constructor
 ·intro hlt
  have hk':k<x.2.1.length:=by omega
  have hm2:=hm k hk'
  have e:=mL aEY x.2.1 hk'
  have ng:∀ P:Prop,aEY x.2.1[k]=false→false=x.2.1.all aEY:=fun _ h=>(uP hk' h).symm
  rw[aZ hk'] at hm2
  simp only[aZ hk']
  (repeat' first|intro _|(refine go _ ?_ ?_ ?_)|(refine go _ ?_ ?_)|(with_reducible apply And.intro))
  all_goals first|omega|exact ng True (decide_eq_false (by omega))|(rw[e,hG,Bool.true_and];exact decide_eq_true (by omega))|rfl
 ·intro hge
  exact (aI9 hG (by omega)).symm
theorem aY9:Con.Holds Tryz.prog sM:=aR aW aS aZL aXG
def jS:Con:=⟨89,(.bMC aL tI),.bool,[.val ⟨true,aL,[]⟩,.val ⟨false,tI,[]⟩],[⟨false,.bool,[0]⟩],false,none,
 ((fun _=>True):(bO × Int)→Prop),
 ((fun x=>dJ x.1 x.2):(bO × Int)→(Bool))⟩
def aA2:T:=.call 0 (.p1 aL tI (.Z 0)) <|
 .bMD .not (.Z 1) <|
 .ite (.Z 2) (
  .ret (.cb false)) (
  .bMD (.cmp .lss .i64) (.bME tI tI (aQ (.bMC aL tI) 1 (.Z 0)) (.ci .i64 0)) <|
  .ite (.Z 3) (
   .ret (.cb false)) (
   .bMD (.bMG 126 aA) (aJ aL 1 (.p1 aL tI (.Z 0))) <|
   .bMD (.cmp .geq .i64) (.bME tI tI (aQ (.bMC aL tI) 1 (.Z 0)) (.Z 4)) <|
   .ite (.Z 5) (
    .ret (.cb false)) (
    .bMD (.bMG 126 aA) (aJ aL 1 (.p1 aL tI (.Z 0))) <|
    .bMD (.ar .sub .i64) (.bME tI tI (.Z 6) (.ci .i64 1)) <|
    .bMD (.cmp .lss .i64) (.bME tI tI (aQ (.bMC aL tI) 1 (.Z 0)) (.Z 7)) <|
    .call 1 (.Z 0) <|
    .bMD (.cmp .eql .i64) (.bME tI tI (.p1 tI tI (.Z 9)) (.ci .i64 1)) <|
    .ite (.Z 10) (
     .bMD (.cmp .gtr .i64) (.bME tI tI (aQ (.bMC aL tI) 1 (.Z 0)) (.ci .i64 0)) <|
     .ite (.Z 11) (
      .bMD (.ar .sub .i64) (.bME tI tI (aQ (.bMC aL tI) 1 (.Z 0)) (.ci .i64 1)) <|
      .bMD (.bMH 170 aM) (.bME aK tI (aJ aL 2 (.p1 aL tI (.Z 0))) (.Z 12)) <|
      .bMD (.bMG 197 aF) (aQ aM 1 (.Z 13)) <|
      .bMD (.cmp .gtr .i64) (.bME tI tI (.Z 14) (.ci .i64 0)) <|
      .ret (.Z 15)) (
      .ret (.cb false))) (
     .bMD (.cmp .eql .i64) (.bME tI tI (.p1 tI tI (.Z 9)) (.ci .i64 3)) <|
     .ite (.Z 11) (
      .ite (.Z 8) (
       .bMD (.bMH 170 aM) (.bME aK tI (aJ aL 2 (.p1 aL tI (.Z 0))) (aQ (.bMC aL tI) 1 (.Z 0))) <|
       .call 2 (.Z 12) <|
       .ret (.Z 13)) (
       .ret (.cb false))) (
      .bMD (.cmp .eql .i64) (.bME tI tI (.p1 tI tI (.Z 9)) (.ci .i64 4)) <|
      .ite (.Z 12) (
       .ite (.Z 8) (
        .bMD (.bMH 170 aM) (.bME aK tI (aQ aL 3 (.p1 aL tI (.Z 0))) (aQ (.bMC aL tI) 1 (.Z 0))) <|
        .bMD (.bMG 197 aF) (aQ aM 1 (.Z 13)) <|
        .bMD (.cmp .gtr .i64) (.bME tI tI (.Z 14) (.ci .i64 0)) <|
        .ret (.Z 15)) (
        .ret (.cb false))) (
       .bMD (.cmp .eql .i64) (.bME tI tI (.p1 tI tI (.Z 9)) (.ci .i64 7)) <|
       .ite (.Z 13) (
        .bMD (.cmp .gtr .i64) (.bME tI tI (aQ (.bMC aL tI) 1 (.Z 0)) (.ci .i64 0)) <|
        .ite (.Z 14) (
         .bMD (.ar .sub .i64) (.bME tI tI (aQ (.bMC aL tI) 1 (.Z 0)) (.ci .i64 1)) <|
         .bMD (.bMH 170 aM) (.bME aK tI (aQ aL 3 (.p1 aL tI (.Z 0))) (.Z 15)) <|
         .call 2 (.Z 16) <|
         .ret (.Z 17)) (
         .ret (.cb false))) (
        .bMD (.cmp .eql .i64) (.bME tI tI (.p1 tI tI (.Z 9)) (.ci .i64 2)) <|
        .ite (.Z 14) (
         .ret (.cb true)) (
         .bMD (.cmp .eql .i64) (.bME tI tI (.p1 tI tI (.Z 9)) (.ci .i64 5)) <|
         .ite (.Z 15) (
          .ret (.cb true)) (
          .bMD (.cmp .eql .i64) (.bME tI tI (.p1 tI tI (.Z 9)) (.ci .i64 6)) <|
          .ite (.Z 16) (
           .ret (.cb true)) (
           .bMD (.cmp .eql .i64) (.bME tI tI (.p1 tI tI (.Z 9)) (.ci .i64 8)) <|
           .ite (.Z 17) (
            .bMD (.bMG 126 aA) (aJ aL 1 (.p1 aL tI (.Z 0))) <|
            .loop tI (.ci .i64 0) <|
             .bMD (.cmp .lss .i64) (.bME tI tI (.Z 19) (.Z 18)) <|
             .ite (.Z 20) (
              .bMD (.bMH 126 aA) (.bME (.slice 126 aA) tI (aJ aL 1 (.p1 aL tI (.Z 0))) (.Z 19)) <|
              .bMD (.bMG 194 aO) (aJ aA 1 (.Z 21)) <|
              .bMD (.ar .sub .i64) (.bME tI tI (.Z 22) (.ci .i64 1)) <|
              .bMD (.cmp .lss .i64) (.bME tI tI (.p1 tI cY (.Z 21)) (.Z 23)) <|
              .ite (.Z 24) (
               .ret (.cb false)) (
               .bMD (.ar .add .i64) (.bME tI tI (.Z 19) (.ci .i64 1)) <|
               .bMF 0 (.Z 25))) (
              .ret (.cb true))) (
            .ret (.cb false))))))))))))
theorem aVE:bL Tryz.prog [tP,pJ,pC] jS false 3000 ⟨[(2958,3072019,[.dr 90,.dr 88,.dr 89,.dr 84]++iQ 87 85++[.dr 71,.dr 72,.dr 58,.dr 59,.dr 47,.dr 48,.dr 32,.dr 33]++iQ 31 28++[.dr 5]++iQ 27 8++[.dr 2,.dr 0,.dr 1,.tm 93 0])],[]⟩ = .ok aA2:=by kernel_rfl
set_option maxHeartbeats 1000000 in
theorem aRI (x:bO × Int) (hx:okD (.bMC aL tI) x) (hp:(fun _=>True) x):aA2.wp [tP,pJ,pC] [⟨(.bMC aL tI),x⟩] [] (fun v=>v.as .bool=(fun x=>dJ x.1 x.2) x):=by
 obtain ⟨p,s⟩:=x
 have hm:∀ k,k<p.2.1.length→(p.2.1.getD k (aX aA)).2.1.length≤9223372036854775807:=fun k hk=>by rw[aZ hk];exact (hx.1.2.1.2 _ (List.getElem_mem hk)).2.1.1
 have hm1:p.2.1.length≤9223372036854775807:=hx.1.2.1.1
 delta aA2 tP pJ pC;refine dD ?_
 refine eE ?_
 refine ⟨fun h=>aUE (.inl h),fun h1=>⟨fun h=>aUE (.inr (.inl h)),fun h2 _=>⟨fun h=>aUE (.inr (.inr h)),fun h3 _=>⟨by omega,fun _ _=>?_⟩⟩⟩⟩
 have hp':=(nX.1 h1).1
 (repeat' first|intro _|(with_reducible apply And.intro))
 all_goals first|omega|exact bDE h1 h2 h3 (.inl (by assumption))|exact bDE h1 h2 h3 (.inr (.inl (by assumption)))|exact bDE h1 h2 h3 (.inr (.inr (by assumption)))|exact bKY ⟨by assumption,by assumption,by assumption,by assumption,by assumption,by assumption,by assumption,by assumption⟩|exact bKC h1 h2 h3 (by assumption) (by omega)|exact bKE h1 h2 h3 (by assumption) (by omega)|exact bKA h1 h2 h3 (by assumption) (by omega)|exact bKR h1 h2 h3 (by assumption) (by omega)|exact bKJ h1 h2 h3 (by assumption) (by omega)|exact bKI h1 h2 h3 (by assumption) (by omega)|exact bKK h1 h2 h3 (by assumption) (by omega)|exact bKM h1 h2 h3 (by assumption) (by omega)|skip
 rw[bM7 h1 h2 h3 (by assumption),bBM]
 refine uK (fun k=>(k:Int)) (fun k=>(List.take k p.2.1).all aEY=true) (List.length p.2.1) rfl rfl fun I μ k hk hG _ go=>?_
 try dsimp only
 refine eE ?_
 constructor
 ·intro hlt
  have hk':k<p.2.1.length:=by omega
  have hm2:=hm k hk'
  have e:=mL aEY p.2.1 hk'
  have ng:∀ P:Prop,aEY p.2.1[k]=false→false=p.2.1.all aEY:=fun _ h=>(uP hk' h).symm
  rw[aZ hk'] at hm2
  simp only[aZ hk']
  (repeat' first|intro _|(refine go _ ?_ ?_ ?_)|(refine go _ ?_ ?_)|(with_reducible apply And.intro))
  all_goals first|omega|exact ng True (decide_eq_false (by omega))|(rw[e,hG,Bool.true_and];exact decide_eq_true (by omega))|rfl
 ·intro hge
  exact (aI9 hG (by omega)).symm
set_option maxHeartbeats 1000000 in
theorem aHK:Con.Holds Tryz.prog jS:=aR aW (aG aWT (aG aTJ (aG aTT aS))) aVE aRI
def jX:Con:=⟨82,(.bMC aL tI),.bool,[.val ⟨true,aL,[]⟩,.val ⟨false,tI,[]⟩],[⟨false,.bool,[0]⟩],false,none,
 ((fun _=>True):(bO × Int)→Prop),
 ((fun x=>dJ x.1 x.2):(bO × Int)→(Bool))⟩
def aBH:T:=.call 0 (.p1 aL tI (.Z 0)) <|
 .bMD .not (.Z 1) <|
 .ite (.Z 2) (
  .ret (.cb false)) (
  .bMD (.bMG 126 aA) (aJ aL 1 (.p1 aL tI (.Z 0))) <|
  .bMD (.ar .sub .i64) (.bME tI tI (.Z 3) (.ci .i64 1)) <|
  .call 1 (bE (.bMC tI aO) [(aQ (.bMC aL tI) 1 (.Z 0)),(.ci .i64 0),(.Z 4)]) <|
  .bMD .not (.Z 5) <|
  .ite (.Z 6) (
   .ret (.cb false)) (
   .call 2 (.Z 0) <|
   .bMD (.cmp .eql .i64) (.bME tI tI (.p1 tI tI (.Z 7)) (.ci .i64 1)) <|
   .ite (.Z 8) (
    .bMD (.cmp .gtr .i64) (.bME tI tI (aQ (.bMC aL tI) 1 (.Z 0)) (.ci .i64 0)) <|
    .ite (.Z 9) (
     .bMD (.ar .sub .i64) (.bME tI tI (aQ (.bMC aL tI) 1 (.Z 0)) (.ci .i64 1)) <|
     .bMD (.bMH 170 aM) (.bME aK tI (aJ aL 2 (.p1 aL tI (.Z 0))) (.Z 10)) <|
     .bMD (.bMG 197 aF) (aQ aM 1 (.Z 11)) <|
     .bMD (.cmp .gtr .i64) (.bME tI tI (.Z 12) (.ci .i64 0)) <|
     .ret (.Z 13)) (
     .ret (.cb false))) (
    .bMD (.cmp .eql .i64) (.bME tI tI (.p1 tI tI (.Z 7)) (.ci .i64 3)) <|
    .ite (.Z 9) (
     .bMD (.bMG 126 aA) (aJ aL 1 (.p1 aL tI (.Z 0))) <|
     .bMD (.ar .sub .i64) (.bME tI tI (.Z 10) (.ci .i64 1)) <|
     .bMD (.cmp .lss .i64) (.bME tI tI (aQ (.bMC aL tI) 1 (.Z 0)) (.Z 11)) <|
     .ite (.Z 12) (
      .bMD (.bMH 170 aM) (.bME aK tI (aJ aL 2 (.p1 aL tI (.Z 0))) (aQ (.bMC aL tI) 1 (.Z 0))) <|
      .bMD (.bMG 197 aF) (aQ aM 1 (.Z 13)) <|
      .bMD (.bMH 170 aM) (.bME aK tI (aJ aL 2 (.p1 aL tI (.Z 0))) (aQ (.bMC aL tI) 1 (.Z 0))) <|
      .bMD (.cmp .lss .i64) (.bME tI tI (.Z 14) (.p1 tI (.slice 197 aF) (.Z 15))) <|
      .ret (.Z 16)) (
      .ret (.cb false))) (
     .bMD (.cmp .eql .i64) (.bME tI tI (.p1 tI tI (.Z 7)) (.ci .i64 4)) <|
     .ite (.Z 10) (
      .bMD (.bMG 126 aA) (aJ aL 1 (.p1 aL tI (.Z 0))) <|
      .bMD (.ar .sub .i64) (.bME tI tI (.Z 11) (.ci .i64 1)) <|
      .bMD (.cmp .lss .i64) (.bME tI tI (aQ (.bMC aL tI) 1 (.Z 0)) (.Z 12)) <|
      .ite (.Z 13) (
       .bMD (.bMH 170 aM) (.bME aK tI (aQ aL 3 (.p1 aL tI (.Z 0))) (aQ (.bMC aL tI) 1 (.Z 0))) <|
       .bMD (.bMG 197 aF) (aQ aM 1 (.Z 14)) <|
       .bMD (.cmp .gtr .i64) (.bME tI tI (.Z 15) (.ci .i64 0)) <|
       .ret (.Z 16)) (
       .ret (.cb false))) (
      .bMD (.cmp .eql .i64) (.bME tI tI (.p1 tI tI (.Z 7)) (.ci .i64 7)) <|
      .ite (.Z 11) (
       .bMD (.cmp .gtr .i64) (.bME tI tI (aQ (.bMC aL tI) 1 (.Z 0)) (.ci .i64 0)) <|
       .ite (.Z 12) (
        .bMD (.ar .sub .i64) (.bME tI tI (aQ (.bMC aL tI) 1 (.Z 0)) (.ci .i64 1)) <|
        .bMD (.ar .sub .i64) (.bME tI tI (aQ (.bMC aL tI) 1 (.Z 0)) (.ci .i64 1)) <|
        .bMD (.bMH 170 aM) (.bME aK tI (aQ aL 3 (.p1 aL tI (.Z 0))) (.Z 13)) <|
        .bMD (.bMG 197 aF) (aQ aM 1 (.Z 15)) <|
        .bMD (.bMH 170 aM) (.bME aK tI (aQ aL 3 (.p1 aL tI (.Z 0))) (.Z 14)) <|
        .bMD (.cmp .lss .i64) (.bME tI tI (.Z 16) (.p1 tI (.slice 197 aF) (.Z 17))) <|
        .ret (.Z 18)) (
        .ret (.cb false))) (
       .bMD (.cmp .eql .i64) (.bME tI tI (.p1 tI tI (.Z 7)) (.ci .i64 2)) <|
       .ite (.Z 12) (
        .ret (.cb true)) (
        .bMD (.cmp .eql .i64) (.bME tI tI (.p1 tI tI (.Z 7)) (.ci .i64 5)) <|
        .ite (.Z 13) (
         .ret (.cb true)) (
         .bMD (.cmp .eql .i64) (.bME tI tI (.p1 tI tI (.Z 7)) (.ci .i64 6)) <|
         .ite (.Z 14) (
          .ret (.cb true)) (
          .bMD (.cmp .eql .i64) (.bME tI tI (.p1 tI tI (.Z 7)) (.ci .i64 8)) <|
          .ite (.Z 15) (
           .call 3 (.p1 aL tI (.Z 0)) <|
           .ret (.Z 16)) (
           .ret (.cb false)))))))))))
theorem aV1:bL Tryz.prog [sA,bH,pZ,sM] jX false 3000 ⟨[],[]⟩ = .ok aBH:=by kernel_rfl
set_option maxHeartbeats 1000000 in
theorem aVB (x:bO × Int) (hx:okD (.bMC aL tI) x) (hp:(fun _=>True) x):aBH.wp [sA,bH,pZ,sM] [⟨(.bMC aL tI),x⟩] [] (fun v=>v.as .bool=(fun x=>dJ x.1 x.2) x):=by
 obtain ⟨p,s⟩:=x
 have hm1:p.2.1.length≤9223372036854775807:=hx.1.2.1.1
 delta aBH sA bH pZ sM;refine dD ?_
 refine eE ?_
 refine ⟨fun h=>aUE (.inl h),fun h1 _=>⟨by omega,fun _=>⟨fun h=>aUE (.inr (by omega)),fun hs _=>?_⟩⟩⟩
 have h2:0≤s:=hs.1
 have h3:s<(p.2.1.length:Int):=by omega
 have hp':=(nX.1 h1).1
 (repeat' first|intro _|(with_reducible apply And.intro))
 all_goals first|omega|exact bDE h1 h2 h3 (.inl (by assumption))|exact bDE h1 h2 h3 (.inr (.inl (by assumption)))|exact bDE h1 h2 h3 (.inr (.inr (by assumption)))|exact bKY ⟨by assumption,by assumption,by assumption,by assumption,by assumption,by assumption,by assumption,by assumption⟩|exact bKC h1 h2 h3 (by assumption) (by omega)|exact bKE h1 h2 h3 (by assumption) (by omega)|exact bKA h1 h2 h3 (by assumption) (by omega)|exact bKR h1 h2 h3 (by assumption) (by omega)|exact bKJ h1 h2 h3 (by assumption) (by omega)|exact bKI h1 h2 h3 (by assumption) (by omega)|exact bKK h1 h2 h3 (by assumption) (by omega)|exact bKM h1 h2 h3 (by assumption) (by omega)|skip
 all_goals exact (bM7 h1 h2 h3 (by assumption)).symm
set_option maxHeartbeats 1000000 in
theorem aHO:Con.Holds Tryz.prog jX:=aR aW (aG aZA (aG eS (aG aRN (aG aY9 aS)))) aV1 aVB
end
end Go.Proofs.YtiihghfoeinbbaaGreat
