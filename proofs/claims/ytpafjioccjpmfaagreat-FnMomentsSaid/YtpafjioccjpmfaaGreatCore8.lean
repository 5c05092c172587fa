/- Core8: lemmas. No conditions. -/
import Derived.Test.YtpafjioccjpmfaaGreatCoreF
import Derived.Test.YtpafjioccjpmfaaGreatCoreR
import Derived.Test.YtpafjioccjpmfaaGreatCoreB
namespace Go.Proofs.YtpafjioccjpmfaaGreat
noncomputable section
set_option maxRecDepth 100000
open Go.ChangeShapes Go.WideShapes Go.ChangeAt Go.RowKit Go.Deep
set_option linter.unusedVariables false
set_option linter.unusedSimpArgs false
def aV (p:bF) (s:Int):cP :=
 if 0≤s∧s<(p.2.1.length:Int)∧0≤(p.2.1.getD s.toNat (aP aA)).1∧(p.2.1.getD s.toNat (aP aA)).1<((p.2.1.getD s.toNat (aP aA)).2.1.length:Int) then (p.2.1.getD s.toNat (aP aA)).2.1.getD (p.2.1.getD s.toNat (aP aA)).1.toNat (0,0) else (0,0)
def uS (q:cY):Bool:=decide ((q.2.length:Int)<q.1)
def bG2 (p:bF):Bool:=p.2.1.all fun x=>decide ((x.2.1.length:Int) - 1≤x.1)
def cC (p:bF) (s:Int):Bool :=
 if mF p=true∧0≤s∧s<(p.2.1.length:Int) then
  (if (aV p s).1=1 then decide (0<s)&&decide (0<(p.2.2.1.getD (s - 1).toNat (aP aM)).2.length)
  else if (aV p s).1=3 then decide (s<(p.2.1.length:Int) - 1)&&uS (p.2.2.1.getD s.toNat (aP aM))
  else if (aV p s).1=4 then decide (s<(p.2.1.length:Int) - 1)&&decide (0<(p.2.2.2.getD s.toNat (aP aM)).2.length)
  else if (aV p s).1=7 then decide (0<s)&&uS (p.2.2.2.getD (s - 1).toNat (aP aM))
  else if (aV p s).1=2 then true else if (aV p s).1=5 then true else if (aV p s).1=6 then true
  else if (aV p s).1=8 then bG2 p else false)
 else false
def fW (p:bF) (s:Int):bG:=p.2.1.getD s.toNat (aP aA)
def aUL (x:bG) (v:List Int):bG:=(x.1,x.2.1,x.2.2.1,x.2.2.2.1,x.2.2.2.2.1,x.2.2.2.2.2.1,x.2.2.2.2.2.2.1,v,x.2.2.2.2.2.2.2.2)
def aWX (x:bG) (v:List Int):bG:=(x.1,x.2.1,x.2.2.1,x.2.2.2.1,x.2.2.2.2.1,x.2.2.2.2.2.1,x.2.2.2.2.2.2.1,x.2.2.2.2.2.2.2.1,v,x.2.2.2.2.2.2.2.2.2)
def aWA (x:bG) (v:List Int):bG:=(x.1,x.2.1,x.2.2.1,x.2.2.2.1,x.2.2.2.2.1,x.2.2.2.2.2.1,x.2.2.2.2.2.2.1,x.2.2.2.2.2.2.2.1,x.2.2.2.2.2.2.2.2.1,v,x.2.2.2.2.2.2.2.2.2.2)
def wZ (x:bG) (v:List Int):bG:=(x.1,x.2.1,x.2.2.1,x.2.2.2.1,x.2.2.2.2.1,x.2.2.2.2.2.1,x.2.2.2.2.2.2.1,x.2.2.2.2.2.2.2.1,x.2.2.2.2.2.2.2.2.1,x.2.2.2.2.2.2.2.2.2.1,v,x.2.2.2.2.2.2.2.2.2.2.2)
def jJ (x:bG) (k:Int):bG:=(k,x.2)
def cS (p:bF) (s:Int):bG :=
 if (aV p s).1=1 then aUL (fW p s) (qU (p.2.2.1.getD (s - 1).toNat (aP aM))).2.1.2
 else if (aV p s).1=2 then sQ (fW p s) (aV p s).2 (if s=0 then (p.1.getD (aV p s).2.toNat (aP aQ)).1 else (fW p s).2.2.2.2.2.2.2.1) (p.1.getD (aV p s).2.toNat (aP aQ)).2
 else if (aV p s).1=3 then aWX (fW p s) []
 else if (aV p s).1=4 then aWA (fW p s) (qU (p.2.2.2.getD s.toNat (aP aM))).2.1.2
 else if (aV p s).1=5 then oK (fW p s) (aV p s).2
 else if (aV p s).1=6 then (if s=0 then wZ (oI (fW p s) (aV p s).2 (p.1.getD (aV p s).2.toNat (aP aQ)).2) [] else oI (fW p s) (aV p s).2 (p.1.getD (aV p s).2.toNat (aP aQ)).2)
 else if (aV p s).1=7 then wZ (fW p s) []
 else fW p s
def eX (p:bF) (s:Int):List cY :=
 if (aV p s).1=1 then p.2.2.1.set (s - 1).toNat (qU (p.2.2.1.getD (s - 1).toNat (aP aM))).1
 else if (aV p s).1=3 then p.2.2.1.set s.toNat (oN (p.2.2.1.getD s.toNat (aP aM)) ((aV p s).2,(fW p s).2.2.2.2.2.2.2.2.1)).1
 else p.2.2.1
def eZ (p:bF) (s:Int):List cY :=
 if (aV p s).1=4 then p.2.2.2.set s.toNat (qU (p.2.2.2.getD s.toNat (aP aM))).1
 else if (aV p s).1=7 then p.2.2.2.set (s - 1).toNat (oN (p.2.2.2.getD (s - 1).toNat (aP aM)) ((aV p s).2,(fW p s).2.2.2.2.2.2.2.2.2.2.1)).1
 else p.2.2.2
def bR (p:bF) (s:Int):bF:=if cC p s=true then (p.1,p.2.1.set s.toNat (jJ (cS p s) ((cS p s).1+1)),eX p s,eZ p s) else p
def hK (p:bF):List Int→bF
 | []=>p
 | s :: l=>hK (bR p s) l
theorem aTW {b:List cB} {st:List bG} {a r:List cY} (h:bS aK (b,st,a,r)≤1000000000):List.length b≤1000000000∧bS aF b≤1000000000∧List.length st≤1000000000∧(∀ x∈st,bS aA x≤1000000000) ∧
  List.length a≤1000000000∧(∀ x∈a,bS aM x≤1000000000)∧List.length r≤1000000000∧∀ x∈r,bS aM x≤1000000000:=by
 have e:bS aK (b,st,a,r)=bS aF b+(bS (.slice 66 aA) st+(bS aU a+bS aU r)):=rfl
 have h1:List.length b≤bS aF b:=pN (e:=108) (t:=aQ) b
 have h2:List.length st≤bS (.slice 66 aA) st:=pN (e:=66) (t:=aA) st
 have h3:List.length a≤bS aU a:=pN (e:=98) (t:=aM) a
 have h4:List.length r≤bS aU r:=pN (e:=98) (t:=aM) r
 refine ⟨by omega,by omega,by omega,fun x hx=>?_,by omega,fun x hx=>?_,by omega,fun x hx=>?_⟩
 ·have:=rN (e:=66) (t:=aA) hx;omega
 ·have:bS aM x≤bS aU a:=rN (e:=98) (t:=aM) hx;omega
 ·have:bS aM x≤bS aU r:=rN (e:=98) (t:=aM) hx;omega
theorem bL3 {p:bF} {s:Int} (h:¬ (0≤s∧s<(p.2.1.length:Int)∧0≤(p.2.1.getD s.toNat (aP aA)).1∧(p.2.1.getD s.toNat (aP aA)).1<((p.2.1.getD s.toNat (aP aA)).2.1.length:Int))):(0,0)=aV p s:=(if_neg h).symm
theorem aTA {p:bF} {s:Int} (h1:0≤s) (h2:s<(p.2.1.length:Int)) (h3:0≤(p.2.1.getD s.toNat (aP aA)).1) (h4:(p.2.1.getD s.toNat (aP aA)).1<((p.2.1.getD s.toNat (aP aA)).2.1.length:Int)) :
 (p.2.1.getD s.toNat (aP aA)).2.1.getD (p.2.1.getD s.toNat (aP aA)).1.toNat (aP aD)=aV p s:=(if_pos ⟨h1,h2,h3,h4⟩).symm
def aT2 (x:bG):Bool:=decide ((x.2.1.length:Int) - 1≤x.1)
theorem bL4 (p:bF):bG2 p=p.2.1.all aT2:=rfl
theorem aVV {p:bF} {s:Int} (h:mF p=false∨s<0∨(p.2.1.length:Int)≤s):false=cC p s:=by
 unfold cC;rw[if_neg]
 rintro ⟨h1,h2,h3⟩
 rcases h with h|h|h
 ·rw[h] at h1;cases h1
 ·omega
 ·omega
theorem aR3 {p:bF} {s:Int} (h1:mF p=true) (h2:0≤s) (h3:s<(p.2.1.length:Int)) (k:(aV p s).1=1):cC p s=(decide (0<s)&&decide (0<(p.2.2.1.getD (s - 1).toNat (aP aM)).2.length)):=by
 unfold cC;rw[if_pos ⟨h1,h2,h3⟩,if_pos k]
theorem bAH {p:bF} {s:Int} (h1:mF p=true) (h2:0≤s) (h3:s<(p.2.1.length:Int)) (k:(aV p s).1=3):cC p s=(decide (s<(p.2.1.length:Int) - 1)&&uS (p.2.2.1.getD s.toNat (aP aM))):=by
 unfold cC;rw[if_pos ⟨h1,h2,h3⟩,k];rfl
theorem aRM {p:bF} {s:Int} (h1:mF p=true) (h2:0≤s) (h3:s<(p.2.1.length:Int)) (k:(aV p s).1=4):cC p s=(decide (s<(p.2.1.length:Int) - 1)&&decide (0<(p.2.2.2.getD s.toNat (aP aM)).2.length)):=by
 unfold cC;rw[if_pos ⟨h1,h2,h3⟩,k];rfl
theorem aXO {p:bF} {s:Int} (h1:mF p=true) (h2:0≤s) (h3:s<(p.2.1.length:Int)) (k:(aV p s).1=7):cC p s=(decide (0<s)&&uS (p.2.2.2.getD (s - 1).toNat (aP aM))):=by
 unfold cC;rw[if_pos ⟨h1,h2,h3⟩,k];rfl
theorem aRH {p:bF} {s:Int} (h1:mF p=true) (h2:0≤s) (h3:s<(p.2.1.length:Int)) (k:(aV p s).1=2∨(aV p s).1=5∨(aV p s).1=6):true=cC p s:=by
 unfold cC;rw[if_pos ⟨h1,h2,h3⟩]
 rcases k with k|k|k <;> rw[k] <;> rfl
theorem bM8 {p:bF} {s:Int} (h1:mF p=true) (h2:0≤s) (h3:s<(p.2.1.length:Int)) (k:(aV p s).1=8):cC p s=bG2 p:=by
 unfold cC;rw[if_pos ⟨h1,h2,h3⟩,k];rfl
theorem bK5 {n:Nat}:decide ((0:Int)<(n:Int))=decide (0<n):=by rw[Bool.eq_iff_iff,decide_eq_true_eq,decide_eq_true_eq];omega
theorem bN2 {p:bF} {s:Int} (h:¬ (aV p s).1=1∧¬ (aV p s).1=2∧¬ (aV p s).1=3∧¬ (aV p s).1=4∧¬ (aV p s).1=5∧¬ (aV p s).1=6∧¬ (aV p s).1=7∧¬ (aV p s).1=8):false=cC p s:=by
 unfold cC;split
 ·rw[if_neg h.1,if_neg h.2.2.1,if_neg h.2.2.2.1,if_neg h.2.2.2.2.2.2.1,if_neg h.2.1,if_neg h.2.2.2.2.1,if_neg h.2.2.2.2.2.1,if_neg h.2.2.2.2.2.2.2]
 ·rfl
theorem bP5 {p:bF} {s:Int} (h1:mF p=true) (h2:0≤s) (h3:s<(p.2.1.length:Int)) (k:(aV p s).1=1) (h:s≤0):false=cC p s:=by rw[aR3 h1 h2 h3 k,decide_eq_false (by omega)];rfl
theorem bPA {p:bF} {s:Int} (h1:mF p=true) (h2:0≤s) (h3:s<(p.2.1.length:Int)) (k:(aV p s).1=1) (h:0<s):decide ((0:Int)<((p.2.2.1.getD (s - 1).toNat (aP aM)).2.length:Int))=cC p s:=by rw[aR3 h1 h2 h3 k,decide_eq_true h,bK5,Bool.true_and]
theorem bPH {p:bF} {s:Int} (h1:mF p=true) (h2:0≤s) (h3:s<(p.2.1.length:Int)) (k:(aV p s).1=3) (h:(p.2.1.length:Int) - 1≤s):false=cC p s:=by rw[bAH h1 h2 h3 k,decide_eq_false (by omega)];rfl
theorem bOZ {p:bF} {s:Int} (h1:mF p=true) (h2:0≤s) (h3:s<(p.2.1.length:Int)) (k:(aV p s).1=3) (h:s<(p.2.1.length:Int) - 1):uS (p.2.2.1.getD s.toNat (aP aM))=cC p s:=by rw[bAH h1 h2 h3 k,decide_eq_true h,Bool.true_and]
theorem bPK {p:bF} {s:Int} (h1:mF p=true) (h2:0≤s) (h3:s<(p.2.1.length:Int)) (k:(aV p s).1=4) (h:(p.2.1.length:Int) - 1≤s):false=cC p s:=by rw[aRM h1 h2 h3 k,decide_eq_false (by omega)];rfl
theorem bOR {p:bF} {s:Int} (h1:mF p=true) (h2:0≤s) (h3:s<(p.2.1.length:Int)) (k:(aV p s).1=4) (h:s<(p.2.1.length:Int) - 1):decide ((0:Int)<((p.2.2.2.getD s.toNat (aP aM)).2.length:Int))=cC p s:=by rw[aRM h1 h2 h3 k,decide_eq_true h,bK5,Bool.true_and]
theorem bP9 {p:bF} {s:Int} (h1:mF p=true) (h2:0≤s) (h3:s<(p.2.1.length:Int)) (k:(aV p s).1=7) (h:s≤0):false=cC p s:=by rw[aXO h1 h2 h3 k,decide_eq_false (by omega)];rfl
theorem bP0 {p:bF} {s:Int} (h1:mF p=true) (h2:0≤s) (h3:s<(p.2.1.length:Int)) (k:(aV p s).1=7) (h:0<s):uS (p.2.2.2.getD (s - 1).toNat (aP aM))=cC p s:=by rw[aXO h1 h2 h3 k,decide_eq_true h,Bool.true_and]
theorem aQ8 {α:Type} {f:α→Bool} {l:List α} {k:Nat} (h:(List.take k l).all f=true) (hk:l.length≤k):l.all f=true:=by rw[List.take_of_length_le hk] at h;exact h
def iM:Con:=⟨59,aK,aK,[.val ⟨true,aK,[]⟩],[⟨true,aK,[2,2,2,2]⟩],false,none,
 ((fun x=>bS aK x≤1000000000):(bF)→Prop),
 ((fun x=>x):(bF)→(bF))⟩
def yI:T:=.call 0 (.p1 aF (.bPW (.slice 66 aA) (.bPW aU aU)) (.Z 0)) <|
 .bPX (.bQ0 66 aA) (aH aK 1 (.Z 0)) <|
 .loop (.bPW tI (.slice 66 aA)) (.bPY tI (.slice 66 aA) (.ci .i64 0) (.nl 66 aA)) <|
  .bPX (.cmp .lss .i64) (.bPY tI tI (.p1 tI (.slice 66 aA) (.Z 3)) (.Z 2)) <|
  .ite (.Z 4) (
   .bPX (.bQ1 66 aA) (.bPY (.slice 66 aA) tI (aH aK 1 (.Z 0)) (.p1 tI (.slice 66 aA) (.Z 3))) <|
   .call 1 (.Z 5) <|
   .bPX (.lit 66 aA 1) (.Z 6) <|
   .bPX (.bQ3 66 aA 248) (.bPY (.slice 66 aA) (.slice 66 aA) (aS (.bPW tI (.slice 66 aA)) 1 (.Z 3)) (.Z 7)) <|
   .bPX (.ar .add .i64) (.bPY tI tI (.p1 tI (.slice 66 aA) (.Z 3)) (.ci .i64 1)) <|
   .bPZ 0 (.bPY tI (.slice 66 aA) (.Z 9) (.Z 8))) (
   .bPX (.bQ0 98 aM) (aH aK 2 (.Z 0)) <|
   .loop (.bPW tI aU) (.bPY tI aU (.ci .i64 0) (.nl 98 aM)) <|
    .bPX (.cmp .lss .i64) (.bPY tI tI (.p1 tI aU (.Z 6)) (.Z 5)) <|
    .ite (.Z 7) (
     .bPX (.bQ1 98 aM) (.bPY aU tI (aH aK 2 (.Z 0)) (.p1 tI aU (.Z 6))) <|
     .call 2 (.Z 8) <|
     .bPX (.lit 98 aM 1) (.Z 9) <|
     .bPX (.bQ3 98 aM 32) (.bPY aU aU (aS (.bPW tI aU) 1 (.Z 6)) (.Z 10)) <|
     .bPX (.ar .add .i64) (.bPY tI tI (.p1 tI aU (.Z 6)) (.ci .i64 1)) <|
     .bPZ 0 (.bPY tI aU (.Z 12) (.Z 11))) (
     .bPX (.bQ0 98 aM) (aS aK 3 (.Z 0)) <|
     .loop (.bPW tI aU) (.bPY tI aU (.ci .i64 0) (.nl 98 aM)) <|
      .bPX (.cmp .lss .i64) (.bPY tI tI (.p1 tI aU (.Z 9)) (.Z 8)) <|
      .ite (.Z 10) (
       .bPX (.bQ1 98 aM) (.bPY aU tI (aS aK 3 (.Z 0)) (.p1 tI aU (.Z 9))) <|
       .call 2 (.Z 11) <|
       .bPX (.lit 98 aM 1) (.Z 12) <|
       .bPX (.bQ3 98 aM 32) (.bPY aU aU (aS (.bPW tI aU) 1 (.Z 9)) (.Z 13)) <|
       .bPX (.ar .add .i64) (.bPY tI tI (.p1 tI aU (.Z 9)) (.ci .i64 1)) <|
       .bPZ 0 (.bPY tI aU (.Z 15) (.Z 14))) (
       .ret (bP aK [(.Z 1),(aS (.bPW tI (.slice 66 aA)) 1 (.Z 3)),(aS (.bPW tI aU) 1 (.Z 6)),(aS (.bPW tI aU) 1 (.Z 9))]))))
theorem aQM:bW Tryz.prog [gX,dI,eJ] iM false 3000 ⟨[(2991,1003,jV 14 10++[.dr 0,.tm 17 0,.sl 13]),(2981,2006,[.dr 29]++jV 18 15++[.tm 32 0,.sl 14]),(2971,4009,[.dr 44]++jV 33 30++[.dr 1,.tm 47 0,.sl 15])],[(2981,3006,[24],[]),(2971,6009,[39],[]),(2961,12012,[54],[])]⟩ = .ok yI:=by kernel_rfl
theorem aQL (x:bF) (hx:okD aK x) (hp:(fun x=>bS aK x≤1000000000) x):yI.wp [gX,dI,eJ] [⟨aK,x⟩] [] (fun v=>v.as aK=(fun x=>x) x):=by
 obtain ⟨b,st,a,r⟩:=x
 obtain ⟨h1,h1s,h2,h2m,h3,h3m,h4,h4m⟩:=aTW hp
 delta yI gX dI eJ;refine dY ?_
 refine ⟨h1s,fun _ _=>?_⟩
 refine eW (fun k=>((k:Int),List.take k st)) (List.length st) rfl fun I μ k hk _ go=>?_
 dsimp only
 (refine eD ?_;try with_reducible exact True.intro)
 skip
 constructor
 ·intro hlt
  have hk':k<st.length:=by omega
  have hm:=h2m _ (List.getElem_mem hk')
  simp only[aW hk']
  (repeat' first|intro _|(refine go _ ?_ ?_ ?_)|(refine go _ ?_ ?_)|(with_reducible apply And.intro))
  all_goals first|omega|(with_reducible exact hm)|(with_reducible exact hm.1)|(with_reducible exact hm.2)|(unfold maxLen;omega)|(simp only[List.length_take];unfold maxLen;omega)|(simp only[List.length_take];omega)|(rw[mC hk'];rfl)
 intro hge _
 rw[show List.take k st=st from List.take_of_length_le (by omega)]
 clear go
 refine eW (fun k=>((k:Int),List.take k a)) (List.length a) rfl fun I μ k hk _ go=>?_
 dsimp only
 (refine eD ?_;try with_reducible exact True.intro)
 skip
 constructor
 ·intro hlt
  have hk':k<a.length:=by omega
  have hm:=h3m _ (List.getElem_mem hk')
  simp only[aW hk']
  (repeat' first|intro _|(refine go _ ?_ ?_ ?_)|(refine go _ ?_ ?_)|(with_reducible apply And.intro))
  all_goals first|omega|(with_reducible exact hm)|(with_reducible exact hm.1)|(with_reducible exact hm.2)|(unfold maxLen;omega)|(simp only[List.length_take];unfold maxLen;omega)|(simp only[List.length_take];omega)|(rw[mC hk'];rfl)
 intro hge _
 rw[show List.take k a=a from List.take_of_length_le (by omega)]
 clear go
 refine eW (fun k=>((k:Int),List.take k r)) (List.length r) rfl fun I μ k hk _ go=>?_
 dsimp only
 (refine eD ?_;try with_reducible exact True.intro)
 skip
 constructor
 ·intro hlt
  have hk':k<r.length:=by omega
  have hm:=h4m _ (List.getElem_mem hk')
  simp only[aW hk']
  (repeat' first|intro _|(refine go _ ?_ ?_ ?_)|(refine go _ ?_ ?_)|(with_reducible apply And.intro))
  all_goals first|omega|(with_reducible exact hm)|(with_reducible exact hm.1)|(with_reducible exact hm.2)|(unfold maxLen;omega)|(simp only[List.length_take];unfold maxLen;omega)|(simp only[List.length_take];omega)|(rw[mC hk'];rfl)
 intro hge
 rw[show List.take k r=r from List.take_of_length_le (by omega)]
theorem aFU:Con.Holds Tryz.prog iM:=aX aZ (aG aCW (aG pM (aG vZ aT))) aQM aQL
def qO:Con:=⟨71,(.bPW aK tI),aD,[.val ⟨true,aK,[]⟩,.val ⟨false,tI,[]⟩],[⟨true,aD,[0,0]⟩],false,none,
 ((fun _=>True):(bF × Int)→Prop),
 ((fun x=>aV x.1 x.2):(bF × Int)→(Int × Int))⟩
def aMK:T :=
 .bPX (.cmp .lss .i64) (.bPY tI tI (aS (.bPW aK tI) 1 (.Z 0)) (.ci .i64 0)) <|
 .ite (.Z 1) (
  .ret (.bPY tI tI (.ci .i64 0) (.ci .i64 0))) (
  .bPX (.bQ0 66 aA) (aH aK 1 (.p1 aK tI (.Z 0))) <|
  .bPX (.cmp .geq .i64) (.bPY tI tI (aS (.bPW aK tI) 1 (.Z 0)) (.Z 2)) <|
  .ite (.Z 3) (
   .ret (.bPY tI tI (.ci .i64 0) (.ci .i64 0))) (
   .bPX (.bQ1 66 aA) (.bPY (.slice 66 aA) tI (aH aK 1 (.p1 aK tI (.Z 0))) (aS (.bPW aK tI) 1 (.Z 0))) <|
   .bPX (.cmp .lss .i64) (.bPY tI tI (.p1 tI gO (.Z 4)) (.ci .i64 0)) <|
   .ite (.Z 5) (
    .ret (.bPY tI tI (.ci .i64 0) (.ci .i64 0))) (
    .bPX (.bQ0 76 aD) (aH aA 1 (.Z 4)) <|
    .bPX (.cmp .geq .i64) (.bPY tI tI (.p1 tI gO (.Z 4)) (.Z 6)) <|
    .ite (.Z 7) (
     .ret (.bPY tI tI (.ci .i64 0) (.ci .i64 0))) (
     .bPX (.bQ1 76 aD) (.bPY aR tI (aH aA 1 (.Z 4)) (.p1 tI gO (.Z 4))) <|
     .ret (.Z 8)))))
theorem bH0:bW Tryz.prog [] qO false 3000 ⟨[],[]⟩ = .ok aMK:=by kernel_rfl
theorem bJB (x:bF × Int) (hx:okD (.bPW aK tI) x) (hp:(fun _=>True) x):aMK.wp [] [⟨(.bPW aK tI),x⟩] [] (fun v=>v.as aD=(fun x=>aV x.1 x.2) x):=by
 obtain ⟨p,s⟩:=x
 delta aMK;refine dY ?_
 (refine eD ?_;try with_reducible exact True.intro)
 (repeat' first|intro _|(with_reducible apply And.intro))
 all_goals first|omega|exact aTA (by omega) (by omega) (by omega) (by omega)|exact bL3 (by omega)|skip
theorem aT1:Con.Holds Tryz.prog qO:=aX aZ aT bH0 bJB
def qM:Con:=⟨72,aM,.bool,[.val ⟨true,aM,[]⟩],[⟨false,.bool,[0]⟩],false,none,
 ((fun _=>True):(cY)→Prop),
 ((fun x=>uS x):(cY)→(Bool))⟩
def aB7:T :=
 .bPX (.bQ0 115 aI) (aS aM 1 (.Z 0)) <|
 .bPX (.cmp .lss .i64) (.bPY tI tI (.Z 1) (.p1 tI (.slice 115 aI) (.Z 0))) <|
 .ret (.Z 2)
theorem aT7:bW Tryz.prog [] qM false 3000 ⟨[],[]⟩ = .ok aB7:=by kernel_rfl
theorem aUE (x:cY) (hx:okD aM x) (hp:(fun _=>True) x):aB7.wp [] [⟨aM,x⟩] [] (fun v=>v.as .bool=(fun x=>uS x) x):=by
 delta aB7;refine dY ?_
 exact fun _=>rfl
theorem aWD:Con.Holds Tryz.prog qM:=aX aZ aT aT7 aUE
def gB:Con:=⟨41,(.bPW aK tI),.bool,[.val ⟨true,aK,[]⟩,.val ⟨false,tI,[]⟩],[⟨false,.bool,[0]⟩],false,none,
 ((fun _=>True):(bF × Int)→Prop),
 ((fun x=>cC x.1 x.2):(bF × Int)→(Bool))⟩
def aB2:T:=.call 0 (.p1 aK tI (.Z 0)) <|
 .bPX .not (.Z 1) <|
 .ite (.Z 2) (
  .ret (.cb false)) (
  .bPX (.cmp .lss .i64) (.bPY tI tI (aS (.bPW aK tI) 1 (.Z 0)) (.ci .i64 0)) <|
  .ite (.Z 3) (
   .ret (.cb false)) (
   .bPX (.bQ0 66 aA) (aH aK 1 (.p1 aK tI (.Z 0))) <|
   .bPX (.cmp .geq .i64) (.bPY tI tI (aS (.bPW aK tI) 1 (.Z 0)) (.Z 4)) <|
   .ite (.Z 5) (
    .ret (.cb false)) (
    .bPX (.bQ0 66 aA) (aH aK 1 (.p1 aK tI (.Z 0))) <|
    .bPX (.ar .sub .i64) (.bPY tI tI (.Z 6) (.ci .i64 1)) <|
    .bPX (.cmp .lss .i64) (.bPY tI tI (aS (.bPW aK tI) 1 (.Z 0)) (.Z 7)) <|
    .call 1 (.Z 0) <|
    .bPX (.cmp .eql .i64) (.bPY tI tI (.p1 tI tI (.Z 9)) (.ci .i64 1)) <|
    .ite (.Z 10) (
     .bPX (.cmp .gtr .i64) (.bPY tI tI (aS (.bPW aK tI) 1 (.Z 0)) (.ci .i64 0)) <|
     .ite (.Z 11) (
      .bPX (.ar .sub .i64) (.bPY tI tI (aS (.bPW aK tI) 1 (.Z 0)) (.ci .i64 1)) <|
      .bPX (.bQ1 98 aM) (.bPY aU tI (aH aK 2 (.p1 aK tI (.Z 0))) (.Z 12)) <|
      .bPX (.bQ0 115 aI) (aS aM 1 (.Z 13)) <|
      .bPX (.cmp .gtr .i64) (.bPY tI tI (.Z 14) (.ci .i64 0)) <|
      .ret (.Z 15)) (
      .ret (.cb false))) (
     .bPX (.cmp .eql .i64) (.bPY tI tI (.p1 tI tI (.Z 9)) (.ci .i64 3)) <|
     .ite (.Z 11) (
      .ite (.Z 8) (
       .bPX (.bQ1 98 aM) (.bPY aU tI (aH aK 2 (.p1 aK tI (.Z 0))) (aS (.bPW aK tI) 1 (.Z 0))) <|
       .call 2 (.Z 12) <|
       .ret (.Z 13)) (
       .ret (.cb false))) (
      .bPX (.cmp .eql .i64) (.bPY tI tI (.p1 tI tI (.Z 9)) (.ci .i64 4)) <|
      .ite (.Z 12) (
       .ite (.Z 8) (
        .bPX (.bQ1 98 aM) (.bPY aU tI (aS aK 3 (.p1 aK tI (.Z 0))) (aS (.bPW aK tI) 1 (.Z 0))) <|
        .bPX (.bQ0 115 aI) (aS aM 1 (.Z 13)) <|
        .bPX (.cmp .gtr .i64) (.bPY tI tI (.Z 14) (.ci .i64 0)) <|
        .ret (.Z 15)) (
        .ret (.cb false))) (
       .bPX (.cmp .eql .i64) (.bPY tI tI (.p1 tI tI (.Z 9)) (.ci .i64 7)) <|
       .ite (.Z 13) (
        .bPX (.cmp .gtr .i64) (.bPY tI tI (aS (.bPW aK tI) 1 (.Z 0)) (.ci .i64 0)) <|
        .ite (.Z 14) (
         .bPX (.ar .sub .i64) (.bPY tI tI (aS (.bPW aK tI) 1 (.Z 0)) (.ci .i64 1)) <|
         .bPX (.bQ1 98 aM) (.bPY aU tI (aS aK 3 (.p1 aK tI (.Z 0))) (.Z 15)) <|
         .call 2 (.Z 16) <|
         .ret (.Z 17)) (
         .ret (.cb false))) (
        .bPX (.cmp .eql .i64) (.bPY tI tI (.p1 tI tI (.Z 9)) (.ci .i64 2)) <|
        .ite (.Z 14) (
         .ret (.cb true)) (
         .bPX (.cmp .eql .i64) (.bPY tI tI (.p1 tI tI (.Z 9)) (.ci .i64 5)) <|
         .ite (.Z 15) (
          .ret (.cb true)) (
          .bPX (.cmp .eql .i64) (.bPY tI tI (.p1 tI tI (.Z 9)) (.ci .i64 6)) <|
          .ite (.Z 16) (
           .ret (.cb true)) (
           .bPX (.cmp .eql .i64) (.bPY tI tI (.p1 tI tI (.Z 9)) (.ci .i64 8)) <|
           .ite (.Z 17) (
            .bPX (.bQ0 66 aA) (aH aK 1 (.p1 aK tI (.Z 0))) <|
            .loop tI (.ci .i64 0) <|
             .bPX (.cmp .lss .i64) (.bPY tI tI (.Z 19) (.Z 18)) <|
             .ite (.Z 20) (
              .bPX (.bQ1 66 aA) (.bPY (.slice 66 aA) tI (aH aK 1 (.p1 aK tI (.Z 0))) (.Z 19)) <|
              .bPX (.bQ0 76 aD) (aH aA 1 (.Z 21)) <|
              .bPX (.ar .sub .i64) (.bPY tI tI (.Z 22) (.ci .i64 1)) <|
              .bPX (.cmp .lss .i64) (.bPY tI tI (.p1 tI gO (.Z 21)) (.Z 23)) <|
              .ite (.Z 24) (
               .ret (.cb false)) (
               .bPX (.ar .add .i64) (.bPY tI tI (.Z 19) (.ci .i64 1)) <|
               .bPZ 0 (.Z 25))) (
              .ret (.cb true))) (
            .ret (.cb false))))))))))))
theorem aT9:bW Tryz.prog [sX,qO,qM] gB false 3000 ⟨[(2958,3072019,[.dr 90,.dr 88,.dr 89,.dr 84]++jV 87 85++[.dr 71,.dr 72,.dr 58,.dr 59,.dr 47,.dr 48,.dr 32,.dr 33]++jV 31 28++[.dr 5]++jV 27 8++[.dr 2,.dr 0,.dr 1,.tm 93 0])],[]⟩ = .ok aB2:=by kernel_rfl
set_option maxHeartbeats 1000000 in
theorem aW5 (x:bF × Int) (hx:okD (.bPW aK tI) x) (hp:(fun _=>True) x):aB2.wp [sX,qO,qM] [⟨(.bPW aK tI),x⟩] [] (fun v=>v.as .bool=(fun x=>cC x.1 x.2) x):=by
 obtain ⟨p,s⟩:=x
 have hm:∀ k,k<p.2.1.length→(p.2.1.getD k (aP aA)).2.1.length≤9223372036854775807:=fun k hk=>by rw[aW hk];exact (hx.1.2.1.2 _ (List.getElem_mem hk)).2.1.1
 have hm1:p.2.1.length≤9223372036854775807:=hx.1.2.1.1
 delta aB2 sX qO qM;refine dY ?_
 refine eD ?_
 refine ⟨fun h=>aVV (.inl h),fun h1=>⟨fun h=>aVV (.inr (.inl h)),fun h2 _=>⟨fun h=>aVV (.inr (.inr h)),fun h3 _=>⟨by omega,fun _ _=>?_⟩⟩⟩⟩
 have hp':=(mJ.1 h1).1
 (repeat' first|intro _|(with_reducible apply And.intro))
 all_goals first|omega|exact aRH h1 h2 h3 (.inl (by assumption))|exact aRH h1 h2 h3 (.inr (.inl (by assumption)))|exact aRH h1 h2 h3 (.inr (.inr (by assumption)))|exact bN2 ⟨by assumption,by assumption,by assumption,by assumption,by assumption,by assumption,by assumption,by assumption⟩|exact bP5 h1 h2 h3 (by assumption) (by omega)|exact bPA h1 h2 h3 (by assumption) (by omega)|exact bPH h1 h2 h3 (by assumption) (by omega)|exact bOZ h1 h2 h3 (by assumption) (by omega)|exact bPK h1 h2 h3 (by assumption) (by omega)|exact bOR h1 h2 h3 (by assumption) (by omega)|exact bP9 h1 h2 h3 (by assumption) (by omega)|exact bP0 h1 h2 h3 (by assumption) (by omega)|skip
 rw[bM8 h1 h2 h3 (by assumption),bL4]
 refine aAT (fun k=>(k:Int)) (fun k=>(List.take k p.2.1).all aT2=true) (List.length p.2.1) rfl rfl fun I μ k hk hG _ go=>?_
 try dsimp only
 refine eD ?_
 constructor
 ·intro hlt
  have hk':k<p.2.1.length:=by omega
  have hm2:=hm k hk'
  have e:=qF aT2 p.2.1 hk'
  have ng:∀ P:Prop,aT2 p.2.1[k]=false→false=p.2.1.all aT2:=fun _ h=>(yF hk' h).symm
  rw[aW hk'] at hm2
  simp only[aW hk']
  (repeat' first|intro _|(refine go _ ?_ ?_ ?_)|(refine go _ ?_ ?_)|(with_reducible apply And.intro))
  all_goals first|omega|exact ng True (decide_eq_false (by omega))|(rw[e,hG,Bool.true_and];exact decide_eq_true (by omega))|rfl
 ·intro hge
  exact (aQ8 hG (by omega)).symm
set_option maxHeartbeats 1000000 in
theorem aB0:Con.Holds Tryz.prog gB:=aX aZ (aG bA9 (aG aT1 (aG aWD aT))) aT9 aW5
end
end Go.Proofs.YtpafjioccjpmfaaGreat
