/- Core8: lemmas. No conditions. -/
import Derived.Test.YtpleleanibgniaaGreatCoreF
import Derived.Test.YtpleleanibgniaaGreatCoreR
import Derived.Test.YtpleleanibgniaaGreatCoreB
namespace Go.Proofs.YtpleleanibgniaaGreat
noncomputable section
set_option maxRecDepth 100000
open Go.ChangeShapes Go.WideShapes Go.ChangeAt Go.RowKit Go.Deep
set_option linter.unusedVariables false
set_option linter.unusedSimpArgs false
def aZ (p:bI) (s:Int):cQ :=
 if 0≤s∧s<(p.2.1.length:Int)∧0≤(p.2.1.getD s.toNat (aS aA)).1∧(p.2.1.getD s.toNat (aS aA)).1<((p.2.1.getD s.toNat (aS aA)).2.1.length:Int) then (p.2.1.getD s.toNat (aS aA)).2.1.getD (p.2.1.getD s.toNat (aS aA)).1.toNat (0,0) else (0,0)
def aF8 (q:cS):Bool:=decide ((q.2.length:Int)<q.1)
def bGH (p:bI):Bool:=p.2.1.all fun x=>decide ((x.2.1.length:Int) - 1≤x.1)
def cZ (p:bI) (s:Int):Bool :=
 if kW p=true∧0≤s∧s<(p.2.1.length:Int) then
  (if (aZ p s).1=1 then decide (0<s)&&decide (0<(p.2.2.1.getD (s - 1).toNat (aS aN)).2.length)
  else if (aZ p s).1=3 then decide (s<(p.2.1.length:Int) - 1)&&aF8 (p.2.2.1.getD s.toNat (aS aN))
  else if (aZ p s).1=4 then decide (s<(p.2.1.length:Int) - 1)&&decide (0<(p.2.2.2.getD s.toNat (aS aN)).2.length)
  else if (aZ p s).1=7 then decide (0<s)&&aF8 (p.2.2.2.getD (s - 1).toNat (aS aN))
  else if (aZ p s).1=2 then true else if (aZ p s).1=5 then true else if (aZ p s).1=6 then true
  else if (aZ p s).1=8 then bGH p else false)
 else false
def fA (p:bI) (s:Int):bC:=p.2.1.getD s.toNat (aS aA)
def bF0 (x:bC) (v:List Int):bC:=(x.1,x.2.1,x.2.2.1,x.2.2.2.1,x.2.2.2.2.1,x.2.2.2.2.2.1,x.2.2.2.2.2.2.1,v,x.2.2.2.2.2.2.2.2)
def bDT (x:bC) (v:List Int):bC:=(x.1,x.2.1,x.2.2.1,x.2.2.2.1,x.2.2.2.2.1,x.2.2.2.2.2.1,x.2.2.2.2.2.2.1,x.2.2.2.2.2.2.2.1,v,x.2.2.2.2.2.2.2.2.2)
def bDN (x:bC) (v:List Int):bC:=(x.1,x.2.1,x.2.2.1,x.2.2.2.1,x.2.2.2.2.1,x.2.2.2.2.2.1,x.2.2.2.2.2.2.1,x.2.2.2.2.2.2.2.1,x.2.2.2.2.2.2.2.2.1,v,x.2.2.2.2.2.2.2.2.2.2)
def aLP (x:bC) (v:List Int):bC:=(x.1,x.2.1,x.2.2.1,x.2.2.2.1,x.2.2.2.2.1,x.2.2.2.2.2.1,x.2.2.2.2.2.2.1,x.2.2.2.2.2.2.2.1,x.2.2.2.2.2.2.2.2.1,x.2.2.2.2.2.2.2.2.2.1,v,x.2.2.2.2.2.2.2.2.2.2.2)
def rE (x:bC) (k:Int):bC:=(k,x.2)
def eR (p:bI) (s:Int):bC :=
 if (aZ p s).1=1 then bF0 (fA p s) (uG (p.2.2.1.getD (s - 1).toNat (aS aN))).2.1.2
 else if (aZ p s).1=2 then yH (fA p s) (aZ p s).2 (if s=0 then (p.1.getD (aZ p s).2.toNat (aS aQ)).1 else (fA p s).2.2.2.2.2.2.2.1) (p.1.getD (aZ p s).2.toNat (aS aQ)).2
 else if (aZ p s).1=3 then bDT (fA p s) []
 else if (aZ p s).1=4 then bDN (fA p s) (uG (p.2.2.2.getD s.toNat (aS aN))).2.1.2
 else if (aZ p s).1=5 then oW (fA p s) (aZ p s).2
 else if (aZ p s).1=6 then (if s=0 then aLP (uT (fA p s) (aZ p s).2 (p.1.getD (aZ p s).2.toNat (aS aQ)).2) [] else uT (fA p s) (aZ p s).2 (p.1.getD (aZ p s).2.toNat (aS aQ)).2)
 else if (aZ p s).1=7 then aLP (fA p s) []
 else fA p s
def nC (p:bI) (s:Int):List cS :=
 if (aZ p s).1=1 then p.2.2.1.set (s - 1).toNat (uG (p.2.2.1.getD (s - 1).toNat (aS aN))).1
 else if (aZ p s).1=3 then p.2.2.1.set s.toNat (qS (p.2.2.1.getD s.toNat (aS aN)) ((aZ p s).2,(fA p s).2.2.2.2.2.2.2.2.1)).1
 else p.2.2.1
def nM (p:bI) (s:Int):List cS :=
 if (aZ p s).1=4 then p.2.2.2.set s.toNat (uG (p.2.2.2.getD s.toNat (aS aN))).1
 else if (aZ p s).1=7 then p.2.2.2.set (s - 1).toNat (qS (p.2.2.2.getD (s - 1).toNat (aS aN)) ((aZ p s).2,(fA p s).2.2.2.2.2.2.2.2.2.2.1)).1
 else p.2.2.2
def dP (p:bI) (s:Int):bI:=if cZ p s=true then (p.1,p.2.1.set s.toNat (rE (eR p s) ((eR p s).1+1)),nC p s,nM p s) else p
def lO (p:bI):List Int→bI
 | []=>p
 | s :: l=>lO (dP p s) l
theorem aRR {b:List cI} {st:List bC} {a r:List cS} (h:bW aO (b,st,a,r)≤1000000000):List.length b≤1000000000∧bW aF b≤1000000000∧List.length st≤1000000000∧(∀ x∈st,bW aA x≤1000000000) ∧
  List.length a≤1000000000∧(∀ x∈a,bW aN x≤1000000000)∧List.length r≤1000000000∧∀ x∈r,bW aN x≤1000000000:=by
 have e:bW aO (b,st,a,r)=bW aF b+(bW (.slice 50 aA) st+(bW aH a+bW aH r)):=rfl
 have h1:List.length b≤bW aF b:=oE (e:=67) (t:=aQ) b
 have h2:List.length st≤bW (.slice 50 aA) st:=oE (e:=50) (t:=aA) st
 have h3:List.length a≤bW aH a:=oE (e:=74) (t:=aN) a
 have h4:List.length r≤bW aH r:=oE (e:=74) (t:=aN) r
 refine ⟨by omega,by omega,by omega,fun x hx=>?_,by omega,fun x hx=>?_,by omega,fun x hx=>?_⟩
 ·have:=aC3 (e:=50) (t:=aA) hx;omega
 ·have:bW aN x≤bW aH a:=aC3 (e:=74) (t:=aN) hx;omega
 ·have:bW aN x≤bW aH r:=aC3 (e:=74) (t:=aN) hx;omega
theorem bDW {p:bI} {s:Int} (h:¬ (0≤s∧s<(p.2.1.length:Int)∧0≤(p.2.1.getD s.toNat (aS aA)).1∧(p.2.1.getD s.toNat (aS aA)).1<((p.2.1.getD s.toNat (aS aA)).2.1.length:Int))):(0,0)=aZ p s:=(if_neg h).symm
theorem bCC {p:bI} {s:Int} (h1:0≤s) (h2:s<(p.2.1.length:Int)) (h3:0≤(p.2.1.getD s.toNat (aS aA)).1) (h4:(p.2.1.getD s.toNat (aS aA)).1<((p.2.1.getD s.toNat (aS aA)).2.1.length:Int)) :
 (p.2.1.getD s.toNat (aS aA)).2.1.getD (p.2.1.getD s.toNat (aS aA)).1.toNat (aS aC)=aZ p s:=(if_pos ⟨h1,h2,h3,h4⟩).symm
def aRJ (x:bC):Bool:=decide ((x.2.1.length:Int) - 1≤x.1)
theorem bE5 (p:bI):bGH p=p.2.1.all aRJ:=rfl
theorem bCE {p:bI} {s:Int} (h:kW p=false∨s<0∨(p.2.1.length:Int)≤s):false=cZ p s:=by
 unfold cZ;rw[if_neg]
 rintro ⟨h1,h2,h3⟩
 rcases h with h|h|h
 ·rw[h] at h1;cases h1
 ·omega
 ·omega
theorem bA1 {p:bI} {s:Int} (h1:kW p=true) (h2:0≤s) (h3:s<(p.2.1.length:Int)) (k:(aZ p s).1=1):cZ p s=(decide (0<s)&&decide (0<(p.2.2.1.getD (s - 1).toNat (aS aN)).2.length)):=by
 unfold cZ;rw[if_pos ⟨h1,h2,h3⟩,if_pos k]
theorem bGD {p:bI} {s:Int} (h1:kW p=true) (h2:0≤s) (h3:s<(p.2.1.length:Int)) (k:(aZ p s).1=3):cZ p s=(decide (s<(p.2.1.length:Int) - 1)&&aF8 (p.2.2.1.getD s.toNat (aS aN))):=by
 unfold cZ;rw[if_pos ⟨h1,h2,h3⟩,k];rfl
theorem bAD {p:bI} {s:Int} (h1:kW p=true) (h2:0≤s) (h3:s<(p.2.1.length:Int)) (k:(aZ p s).1=4):cZ p s=(decide (s<(p.2.1.length:Int) - 1)&&decide (0<(p.2.2.2.getD s.toNat (aS aN)).2.length)):=by
 unfold cZ;rw[if_pos ⟨h1,h2,h3⟩,k];rfl
theorem bH3 {p:bI} {s:Int} (h1:kW p=true) (h2:0≤s) (h3:s<(p.2.1.length:Int)) (k:(aZ p s).1=7):cZ p s=(decide (0<s)&&aF8 (p.2.2.2.getD (s - 1).toNat (aS aN))):=by
 unfold cZ;rw[if_pos ⟨h1,h2,h3⟩,k];rfl
theorem bG9 {p:bI} {s:Int} (h1:kW p=true) (h2:0≤s) (h3:s<(p.2.1.length:Int)) (k:(aZ p s).1=2∨(aZ p s).1=5∨(aZ p s).1=6):true=cZ p s:=by
 unfold cZ;rw[if_pos ⟨h1,h2,h3⟩]
 rcases k with k|k|k <;> rw[k] <;> rfl
theorem bIX {p:bI} {s:Int} (h1:kW p=true) (h2:0≤s) (h3:s<(p.2.1.length:Int)) (k:(aZ p s).1=8):cZ p s=bGH p:=by
 unfold cZ;rw[if_pos ⟨h1,h2,h3⟩,k];rfl
theorem bCV {n:Nat}:decide ((0:Int)<(n:Int))=decide (0<n):=by rw[Bool.eq_iff_iff,decide_eq_true_eq,decide_eq_true_eq];omega
theorem bI7 {p:bI} {s:Int} (h:¬ (aZ p s).1=1∧¬ (aZ p s).1=2∧¬ (aZ p s).1=3∧¬ (aZ p s).1=4∧¬ (aZ p s).1=5∧¬ (aZ p s).1=6∧¬ (aZ p s).1=7∧¬ (aZ p s).1=8):false=cZ p s:=by
 unfold cZ;split
 ·rw[if_neg h.1,if_neg h.2.2.1,if_neg h.2.2.2.1,if_neg h.2.2.2.2.2.2.1,if_neg h.2.1,if_neg h.2.2.2.2.1,if_neg h.2.2.2.2.2.1,if_neg h.2.2.2.2.2.2.2]
 ·rfl
theorem bI2 {p:bI} {s:Int} (h1:kW p=true) (h2:0≤s) (h3:s<(p.2.1.length:Int)) (k:(aZ p s).1=1) (h:s≤0):false=cZ p s:=by rw[bA1 h1 h2 h3 k,decide_eq_false (by omega)];rfl
theorem bI9 {p:bI} {s:Int} (h1:kW p=true) (h2:0≤s) (h3:s<(p.2.1.length:Int)) (k:(aZ p s).1=1) (h:0<s):decide ((0:Int)<((p.2.2.1.getD (s - 1).toNat (aS aN)).2.length:Int))=cZ p s:=by rw[bA1 h1 h2 h3 k,decide_eq_true h,bCV,Bool.true_and]
theorem bIT {p:bI} {s:Int} (h1:kW p=true) (h2:0≤s) (h3:s<(p.2.1.length:Int)) (k:(aZ p s).1=3) (h:(p.2.1.length:Int) - 1≤s):false=cZ p s:=by rw[bGD h1 h2 h3 k,decide_eq_false (by omega)];rfl
theorem bIG {p:bI} {s:Int} (h1:kW p=true) (h2:0≤s) (h3:s<(p.2.1.length:Int)) (k:(aZ p s).1=3) (h:s<(p.2.1.length:Int) - 1):aF8 (p.2.2.1.getD s.toNat (aS aN))=cZ p s:=by rw[bGD h1 h2 h3 k,decide_eq_true h,Bool.true_and]
theorem bI1 {p:bI} {s:Int} (h1:kW p=true) (h2:0≤s) (h3:s<(p.2.1.length:Int)) (k:(aZ p s).1=4) (h:(p.2.1.length:Int) - 1≤s):false=cZ p s:=by rw[bAD h1 h2 h3 k,decide_eq_false (by omega)];rfl
theorem bIK {p:bI} {s:Int} (h1:kW p=true) (h2:0≤s) (h3:s<(p.2.1.length:Int)) (k:(aZ p s).1=4) (h:s<(p.2.1.length:Int) - 1):decide ((0:Int)<((p.2.2.2.getD s.toNat (aS aN)).2.length:Int))=cZ p s:=by rw[bAD h1 h2 h3 k,decide_eq_true h,bCV,Bool.true_and]
theorem bHY {p:bI} {s:Int} (h1:kW p=true) (h2:0≤s) (h3:s<(p.2.1.length:Int)) (k:(aZ p s).1=7) (h:s≤0):false=cZ p s:=by rw[bH3 h1 h2 h3 k,decide_eq_false (by omega)];rfl
theorem bIJ {p:bI} {s:Int} (h1:kW p=true) (h2:0≤s) (h3:s<(p.2.1.length:Int)) (k:(aZ p s).1=7) (h:0<s):aF8 (p.2.2.2.getD (s - 1).toNat (aS aN))=cZ p s:=by rw[bH3 h1 h2 h3 k,decide_eq_true h,Bool.true_and]
theorem aWK {α:Type} {f:α→Bool} {l:List α} {k:Nat} (h:(List.take k l).all f=true) (hk:l.length≤k):l.all f=true:=by rw[List.take_of_length_le hk] at h;exact h
def gH:Con:=⟨33,aO,aO,[.val ⟨true,aO,[]⟩],[⟨true,aO,[2,2,2,2]⟩],false,none,
 ((fun x=>bW aO x≤1000000000):(bI)→Prop),
 ((fun x=>x):(bI)→(bI))⟩
def vC:T:=.call 0 (.p1 aF (.bJ2 (.slice 50 aA) (.bJ2 aH aH)) (.Z 0)) <|
 .bJ3 (.bJ6 50 aA) (aJ aO 1 (.Z 0)) <|
 .loop (.bJ2 tI (.slice 50 aA)) (.bJ4 tI (.slice 50 aA) (.ci .i64 0) (.nl 50 aA)) <|
  .bJ3 (.cmp .lss .i64) (.bJ4 tI tI (.p1 tI (.slice 50 aA) (.Z 3)) (.Z 2)) <|
  .ite (.Z 4) (
   .bJ3 (.bJ7 50 aA) (.bJ4 (.slice 50 aA) tI (aJ aO 1 (.Z 0)) (.p1 tI (.slice 50 aA) (.Z 3))) <|
   .call 1 (.Z 5) <|
   .bJ3 (.lit 50 aA 1) (.Z 6) <|
   .bJ3 (.bJ9 50 aA 248) (.bJ4 (.slice 50 aA) (.slice 50 aA) (aR (.bJ2 tI (.slice 50 aA)) 1 (.Z 3)) (.Z 7)) <|
   .bJ3 (.ar .add .i64) (.bJ4 tI tI (.p1 tI (.slice 50 aA) (.Z 3)) (.ci .i64 1)) <|
   .bJ5 0 (.bJ4 tI (.slice 50 aA) (.Z 9) (.Z 8))) (
   .bJ3 (.bJ6 74 aN) (aJ aO 2 (.Z 0)) <|
   .loop (.bJ2 tI aH) (.bJ4 tI aH (.ci .i64 0) (.nl 74 aN)) <|
    .bJ3 (.cmp .lss .i64) (.bJ4 tI tI (.p1 tI aH (.Z 6)) (.Z 5)) <|
    .ite (.Z 7) (
     .bJ3 (.bJ7 74 aN) (.bJ4 aH tI (aJ aO 2 (.Z 0)) (.p1 tI aH (.Z 6))) <|
     .call 2 (.Z 8) <|
     .bJ3 (.lit 74 aN 1) (.Z 9) <|
     .bJ3 (.bJ9 74 aN 32) (.bJ4 aH aH (aR (.bJ2 tI aH) 1 (.Z 6)) (.Z 10)) <|
     .bJ3 (.ar .add .i64) (.bJ4 tI tI (.p1 tI aH (.Z 6)) (.ci .i64 1)) <|
     .bJ5 0 (.bJ4 tI aH (.Z 12) (.Z 11))) (
     .bJ3 (.bJ6 74 aN) (aR aO 3 (.Z 0)) <|
     .loop (.bJ2 tI aH) (.bJ4 tI aH (.ci .i64 0) (.nl 74 aN)) <|
      .bJ3 (.cmp .lss .i64) (.bJ4 tI tI (.p1 tI aH (.Z 9)) (.Z 8)) <|
      .ite (.Z 10) (
       .bJ3 (.bJ7 74 aN) (.bJ4 aH tI (aR aO 3 (.Z 0)) (.p1 tI aH (.Z 9))) <|
       .call 2 (.Z 11) <|
       .bJ3 (.lit 74 aN 1) (.Z 12) <|
       .bJ3 (.bJ9 74 aN 32) (.bJ4 aH aH (aR (.bJ2 tI aH) 1 (.Z 9)) (.Z 13)) <|
       .bJ3 (.ar .add .i64) (.bJ4 tI tI (.p1 tI aH (.Z 9)) (.ci .i64 1)) <|
       .bJ5 0 (.bJ4 tI aH (.Z 15) (.Z 14))) (
       .ret (bJ aO [(.Z 1),(aR (.bJ2 tI (.slice 50 aA)) 1 (.Z 3)),(aR (.bJ2 tI aH) 1 (.Z 6)),(aR (.bJ2 tI aH) 1 (.Z 9))]))))
theorem aO4:bV Tryz.prog [kB,cV,dN] gH false 3000 ⟨[(2991,1003,mW 14 10++[.dr 0,.tm 17 0,.sl 13]),(2981,2006,[.dr 29]++mW 18 15++[.tm 32 0,.sl 14]),(2971,4009,[.dr 44]++mW 33 30++[.dr 1,.tm 47 0,.sl 15])],[(2981,3006,[24],[]),(2971,6009,[39],[]),(2961,12012,[54],[])]⟩ = .ok vC:=by kernel_rfl
theorem aMA (x:bI) (hx:okD aO x) (hp:(fun x=>bW aO x≤1000000000) x):vC.wp [kB,cV,dN] [⟨aO,x⟩] [] (fun v=>v.as aO=(fun x=>x) x):=by
 obtain ⟨b,st,a,r⟩:=x
 obtain ⟨h1,h1s,h2,h2m,h3,h3m,h4,h4m⟩:=aRR hp
 delta vC kB cV dN;refine eE ?_
 refine ⟨h1s,fun _ _=>?_⟩
 refine fC (fun k=>((k:Int),List.take k st)) (List.length st) rfl fun I μ k hk _ go=>?_
 dsimp only
 (refine eL ?_;try with_reducible exact True.intro)
 skip
 constructor
 ·intro hlt
  have hk':k<st.length:=by omega
  have hm:=h2m _ (List.getElem_mem hk')
  simp only[bD hk']
  (repeat' first|intro _|(refine go _ ?_ ?_ ?_)|(refine go _ ?_ ?_)|(with_reducible apply And.intro))
  all_goals first|omega|(with_reducible exact hm)|(with_reducible exact hm.1)|(with_reducible exact hm.2)|(unfold maxLen;omega)|(simp only[List.length_take];unfold maxLen;omega)|(simp only[List.length_take];omega)|(rw[iQ hk'];rfl)
 intro hge _
 rw[show List.take k st=st from List.take_of_length_le (by omega)]
 clear go
 refine fC (fun k=>((k:Int),List.take k a)) (List.length a) rfl fun I μ k hk _ go=>?_
 dsimp only
 (refine eL ?_;try with_reducible exact True.intro)
 skip
 constructor
 ·intro hlt
  have hk':k<a.length:=by omega
  have hm:=h3m _ (List.getElem_mem hk')
  simp only[bD hk']
  (repeat' first|intro _|(refine go _ ?_ ?_ ?_)|(refine go _ ?_ ?_)|(with_reducible apply And.intro))
  all_goals first|omega|(with_reducible exact hm)|(with_reducible exact hm.1)|(with_reducible exact hm.2)|(unfold maxLen;omega)|(simp only[List.length_take];unfold maxLen;omega)|(simp only[List.length_take];omega)|(rw[iQ hk'];rfl)
 intro hge _
 rw[show List.take k a=a from List.take_of_length_le (by omega)]
 clear go
 refine fC (fun k=>((k:Int),List.take k r)) (List.length r) rfl fun I μ k hk _ go=>?_
 dsimp only
 (refine eL ?_;try with_reducible exact True.intro)
 skip
 constructor
 ·intro hlt
  have hk':k<r.length:=by omega
  have hm:=h4m _ (List.getElem_mem hk')
  simp only[bD hk']
  (repeat' first|intro _|(refine go _ ?_ ?_ ?_)|(refine go _ ?_ ?_)|(with_reducible apply And.intro))
  all_goals first|omega|(with_reducible exact hm)|(with_reducible exact hm.1)|(with_reducible exact hm.2)|(unfold maxLen;omega)|(simp only[List.length_take];unfold maxLen;omega)|(simp only[List.length_take];omega)|(rw[iQ hk'];rfl)
 intro hge
 rw[show List.take k r=r from List.take_of_length_le (by omega)]
theorem aCJ:Con.Holds Tryz.prog gH:=aV aX (aG aJA (aG mR (aG sE aT))) aO4 aMA
def iS:Con:=⟨29,(.bJ2 aO tI),aC,[.val ⟨true,aO,[]⟩,.val ⟨false,tI,[]⟩],[⟨true,aC,[0,0]⟩],false,none,
 ((fun _=>True):(bI × Int)→Prop),
 ((fun x=>aZ x.1 x.2):(bI × Int)→(Int × Int))⟩
def aGX:T :=
 .bJ3 (.cmp .lss .i64) (.bJ4 tI tI (aR (.bJ2 aO tI) 1 (.Z 0)) (.ci .i64 0)) <|
 .ite (.Z 1) (
  .ret (.bJ4 tI tI (.ci .i64 0) (.ci .i64 0))) (
  .bJ3 (.bJ6 50 aA) (aJ aO 1 (.p1 aO tI (.Z 0))) <|
  .bJ3 (.cmp .geq .i64) (.bJ4 tI tI (aR (.bJ2 aO tI) 1 (.Z 0)) (.Z 2)) <|
  .ite (.Z 3) (
   .ret (.bJ4 tI tI (.ci .i64 0) (.ci .i64 0))) (
   .bJ3 (.bJ7 50 aA) (.bJ4 (.slice 50 aA) tI (aJ aO 1 (.p1 aO tI (.Z 0))) (aR (.bJ2 aO tI) 1 (.Z 0))) <|
   .bJ3 (.cmp .lss .i64) (.bJ4 tI tI (.p1 tI fJ (.Z 4)) (.ci .i64 0)) <|
   .ite (.Z 5) (
    .ret (.bJ4 tI tI (.ci .i64 0) (.ci .i64 0))) (
    .bJ3 (.bJ6 52 aC) (aJ aA 1 (.Z 4)) <|
    .bJ3 (.cmp .geq .i64) (.bJ4 tI tI (.p1 tI fJ (.Z 4)) (.Z 6)) <|
    .ite (.Z 7) (
     .ret (.bJ4 tI tI (.ci .i64 0) (.ci .i64 0))) (
     .bJ3 (.bJ7 52 aC) (.bJ4 aY tI (aJ aA 1 (.Z 4)) (.p1 tI fJ (.Z 4))) <|
     .ret (.Z 8)))))
theorem bAB:bV Tryz.prog [] iS false 3000 ⟨[],[]⟩ = .ok aGX:=by kernel_rfl
theorem bAX (x:bI × Int) (hx:okD (.bJ2 aO tI) x) (hp:(fun _=>True) x):aGX.wp [] [⟨(.bJ2 aO tI),x⟩] [] (fun v=>v.as aC=(fun x=>aZ x.1 x.2) x):=by
 obtain ⟨p,s⟩:=x
 delta aGX;refine eE ?_
 (refine eL ?_;try with_reducible exact True.intro)
 (repeat' first|intro _|(with_reducible apply And.intro))
 all_goals first|omega|exact bCC (by omega) (by omega) (by omega) (by omega)|exact bDW (by omega)|skip
theorem aI1:Con.Holds Tryz.prog iS:=aV aX aT bAB bAX
def nQ:Con:=⟨54,aN,.bool,[.val ⟨true,aN,[]⟩],[⟨false,.bool,[0]⟩],false,none,
 ((fun _=>True):(cS)→Prop),
 ((fun x=>aF8 x):(cS)→(Bool))⟩
def wZ:T :=
 .bJ3 (.bJ6 105 aI) (aR aN 1 (.Z 0)) <|
 .bJ3 (.cmp .lss .i64) (.bJ4 tI tI (.Z 1) (.p1 tI (.slice 105 aI) (.Z 0))) <|
 .ret (.Z 2)
theorem aRT:bV Tryz.prog [] nQ false 3000 ⟨[],[]⟩ = .ok wZ:=by kernel_rfl
theorem aR9 (x:cS) (hx:okD aN x) (hp:(fun _=>True) x):wZ.wp [] [⟨aN,x⟩] [] (fun v=>v.as .bool=(fun x=>aF8 x) x):=by
 delta wZ;refine eE ?_
 exact fun _=>rfl
theorem aPF:Con.Holds Tryz.prog nQ:=aV aX aT aRT aR9
def iB:Con:=⟨30,(.bJ2 aO tI),.bool,[.val ⟨true,aO,[]⟩,.val ⟨false,tI,[]⟩],[⟨false,.bool,[0]⟩],false,none,
 ((fun _=>True):(bI × Int)→Prop),
 ((fun x=>cZ x.1 x.2):(bI × Int)→(Bool))⟩
def xC:T:=.call 0 (.p1 aO tI (.Z 0)) <|
 .bJ3 .not (.Z 1) <|
 .ite (.Z 2) (
  .ret (.cb false)) (
  .bJ3 (.cmp .lss .i64) (.bJ4 tI tI (aR (.bJ2 aO tI) 1 (.Z 0)) (.ci .i64 0)) <|
  .ite (.Z 3) (
   .ret (.cb false)) (
   .bJ3 (.bJ6 50 aA) (aJ aO 1 (.p1 aO tI (.Z 0))) <|
   .bJ3 (.cmp .geq .i64) (.bJ4 tI tI (aR (.bJ2 aO tI) 1 (.Z 0)) (.Z 4)) <|
   .ite (.Z 5) (
    .ret (.cb false)) (
    .bJ3 (.bJ6 50 aA) (aJ aO 1 (.p1 aO tI (.Z 0))) <|
    .bJ3 (.ar .sub .i64) (.bJ4 tI tI (.Z 6) (.ci .i64 1)) <|
    .bJ3 (.cmp .lss .i64) (.bJ4 tI tI (aR (.bJ2 aO tI) 1 (.Z 0)) (.Z 7)) <|
    .call 1 (.Z 0) <|
    .bJ3 (.cmp .eql .i64) (.bJ4 tI tI (.p1 tI tI (.Z 9)) (.ci .i64 1)) <|
    .ite (.Z 10) (
     .bJ3 (.cmp .gtr .i64) (.bJ4 tI tI (aR (.bJ2 aO tI) 1 (.Z 0)) (.ci .i64 0)) <|
     .ite (.Z 11) (
      .bJ3 (.ar .sub .i64) (.bJ4 tI tI (aR (.bJ2 aO tI) 1 (.Z 0)) (.ci .i64 1)) <|
      .bJ3 (.bJ7 74 aN) (.bJ4 aH tI (aJ aO 2 (.p1 aO tI (.Z 0))) (.Z 12)) <|
      .bJ3 (.bJ6 105 aI) (aR aN 1 (.Z 13)) <|
      .bJ3 (.cmp .gtr .i64) (.bJ4 tI tI (.Z 14) (.ci .i64 0)) <|
      .ret (.Z 15)) (
      .ret (.cb false))) (
     .bJ3 (.cmp .eql .i64) (.bJ4 tI tI (.p1 tI tI (.Z 9)) (.ci .i64 3)) <|
     .ite (.Z 11) (
      .ite (.Z 8) (
       .bJ3 (.bJ7 74 aN) (.bJ4 aH tI (aJ aO 2 (.p1 aO tI (.Z 0))) (aR (.bJ2 aO tI) 1 (.Z 0))) <|
       .call 2 (.Z 12) <|
       .ret (.Z 13)) (
       .ret (.cb false))) (
      .bJ3 (.cmp .eql .i64) (.bJ4 tI tI (.p1 tI tI (.Z 9)) (.ci .i64 4)) <|
      .ite (.Z 12) (
       .ite (.Z 8) (
        .bJ3 (.bJ7 74 aN) (.bJ4 aH tI (aR aO 3 (.p1 aO tI (.Z 0))) (aR (.bJ2 aO tI) 1 (.Z 0))) <|
        .bJ3 (.bJ6 105 aI) (aR aN 1 (.Z 13)) <|
        .bJ3 (.cmp .gtr .i64) (.bJ4 tI tI (.Z 14) (.ci .i64 0)) <|
        .ret (.Z 15)) (
        .ret (.cb false))) (
       .bJ3 (.cmp .eql .i64) (.bJ4 tI tI (.p1 tI tI (.Z 9)) (.ci .i64 7)) <|
       .ite (.Z 13) (
        .bJ3 (.cmp .gtr .i64) (.bJ4 tI tI (aR (.bJ2 aO tI) 1 (.Z 0)) (.ci .i64 0)) <|
        .ite (.Z 14) (
         .bJ3 (.ar .sub .i64) (.bJ4 tI tI (aR (.bJ2 aO tI) 1 (.Z 0)) (.ci .i64 1)) <|
         .bJ3 (.bJ7 74 aN) (.bJ4 aH tI (aR aO 3 (.p1 aO tI (.Z 0))) (.Z 15)) <|
         .call 2 (.Z 16) <|
         .ret (.Z 17)) (
         .ret (.cb false))) (
        .bJ3 (.cmp .eql .i64) (.bJ4 tI tI (.p1 tI tI (.Z 9)) (.ci .i64 2)) <|
        .ite (.Z 14) (
         .ret (.cb true)) (
         .bJ3 (.cmp .eql .i64) (.bJ4 tI tI (.p1 tI tI (.Z 9)) (.ci .i64 5)) <|
         .ite (.Z 15) (
          .ret (.cb true)) (
          .bJ3 (.cmp .eql .i64) (.bJ4 tI tI (.p1 tI tI (.Z 9)) (.ci .i64 6)) <|
          .ite (.Z 16) (
           .ret (.cb true)) (
           .bJ3 (.cmp .eql .i64) (.bJ4 tI tI (.p1 tI tI (.Z 9)) (.ci .i64 8)) <|
           .ite (.Z 17) (
            .bJ3 (.bJ6 50 aA) (aJ aO 1 (.p1 aO tI (.Z 0))) <|
            .loop tI (.ci .i64 0) <|
             .bJ3 (.cmp .lss .i64) (.bJ4 tI tI (.Z 19) (.Z 18)) <|
             .ite (.Z 20) (
              .bJ3 (.bJ7 50 aA) (.bJ4 (.slice 50 aA) tI (aJ aO 1 (.p1 aO tI (.Z 0))) (.Z 19)) <|
              .bJ3 (.bJ6 52 aC) (aJ aA 1 (.Z 21)) <|
              .bJ3 (.ar .sub .i64) (.bJ4 tI tI (.Z 22) (.ci .i64 1)) <|
              .bJ3 (.cmp .lss .i64) (.bJ4 tI tI (.p1 tI fJ (.Z 21)) (.Z 23)) <|
              .ite (.Z 24) (
               .ret (.cb false)) (
               .bJ3 (.ar .add .i64) (.bJ4 tI tI (.Z 19) (.ci .i64 1)) <|
               .bJ5 0 (.Z 25))) (
              .ret (.cb true))) (
            .ret (.cb false))))))))))))
theorem aR7:bV Tryz.prog [qE,iS,nQ] iB false 3000 ⟨[(2958,3072019,[.dr 90,.dr 88,.dr 89,.dr 84]++mW 87 85++[.dr 71,.dr 72,.dr 58,.dr 59,.dr 47,.dr 48,.dr 32,.dr 33]++mW 31 28++[.dr 5]++mW 27 8++[.dr 2,.dr 0,.dr 1,.tm 93 0])],[]⟩ = .ok xC:=by kernel_rfl
set_option maxHeartbeats 1000000 in
theorem aPR (x:bI × Int) (hx:okD (.bJ2 aO tI) x) (hp:(fun _=>True) x):xC.wp [qE,iS,nQ] [⟨(.bJ2 aO tI),x⟩] [] (fun v=>v.as .bool=(fun x=>cZ x.1 x.2) x):=by
 obtain ⟨p,s⟩:=x
 have hm:∀ k,k<p.2.1.length→(p.2.1.getD k (aS aA)).2.1.length≤9223372036854775807:=fun k hk=>by rw[bD hk];exact (hx.1.2.1.2 _ (List.getElem_mem hk)).2.1.1
 have hm1:p.2.1.length≤9223372036854775807:=hx.1.2.1.1
 delta xC qE iS nQ;refine eE ?_
 refine eL ?_
 refine ⟨fun h=>bCE (.inl h),fun h1=>⟨fun h=>bCE (.inr (.inl h)),fun h2 _=>⟨fun h=>bCE (.inr (.inr h)),fun h3 _=>⟨by omega,fun _ _=>?_⟩⟩⟩⟩
 have hp':=(nT.1 h1).1
 (repeat' first|intro _|(with_reducible apply And.intro))
 all_goals first|omega|exact bG9 h1 h2 h3 (.inl (by assumption))|exact bG9 h1 h2 h3 (.inr (.inl (by assumption)))|exact bG9 h1 h2 h3 (.inr (.inr (by assumption)))|exact bI7 ⟨by assumption,by assumption,by assumption,by assumption,by assumption,by assumption,by assumption,by assumption⟩|exact bI2 h1 h2 h3 (by assumption) (by omega)|exact bI9 h1 h2 h3 (by assumption) (by omega)|exact bIT h1 h2 h3 (by assumption) (by omega)|exact bIG h1 h2 h3 (by assumption) (by omega)|exact bI1 h1 h2 h3 (by assumption) (by omega)|exact bIK h1 h2 h3 (by assumption) (by omega)|exact bHY h1 h2 h3 (by assumption) (by omega)|exact bIJ h1 h2 h3 (by assumption) (by omega)|skip
 rw[bIX h1 h2 h3 (by assumption),bE5]
 refine aKD (fun k=>(k:Int)) (fun k=>(List.take k p.2.1).all aRJ=true) (List.length p.2.1) rfl rfl fun I μ k hk hG _ go=>?_
 try dsimp only
 refine eL ?_
 constructor
 ·intro hlt
  have hk':k<p.2.1.length:=by omega
  have hm2:=hm k hk'
  have e:=tE aRJ p.2.1 hk'
  have ng:∀ P:Prop,aRJ p.2.1[k]=false→false=p.2.1.all aRJ:=fun _ h=>(zI hk' h).symm
  rw[bD hk'] at hm2
  simp only[bD hk']
  (repeat' first|intro _|(refine go _ ?_ ?_ ?_)|(refine go _ ?_ ?_)|(with_reducible apply And.intro))
  all_goals first|omega|exact ng True (decide_eq_false (by omega))|(rw[e,hG,Bool.true_and];exact decide_eq_true (by omega))|rfl
 ·intro hge
  exact (aWK hG (by omega)).symm
set_option maxHeartbeats 1000000 in
theorem aFA:Con.Holds Tryz.prog iB:=aV aX (aG aRW (aG aI1 (aG aPF aT))) aR7 aPR
end
end Go.Proofs.YtpleleanibgniaaGreat
