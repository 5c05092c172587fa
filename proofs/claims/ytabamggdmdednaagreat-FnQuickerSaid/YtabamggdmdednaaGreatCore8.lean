/- Core8: lemmas. No conditions. -/
import Derived.Test.YtabamggdmdednaaGreatCoreF
import Derived.Test.YtabamggdmdednaaGreatCoreR
import Derived.Test.YtabamggdmdednaaGreatCoreB
namespace Go.Proofs.YtabamggdmdednaaGreat
noncomputable section
set_option maxRecDepth 100000
open Go.ChangeShapes Go.WideShapes Go.ChangeAt Go.RowKit Go.Deep
set_option linter.unusedVariables false
set_option linter.unusedSimpArgs false
def bQ (p:bE) (s:Int):fX :=
 if 0≤s∧s<(p.2.1.length:Int)∧0≤(p.2.1.getD s.toNat (aW aA)).1∧(p.2.1.getD s.toNat (aW aA)).1<((p.2.1.getD s.toNat (aW aA)).2.1.length:Int) then (p.2.1.getD s.toNat (aW aA)).2.1.getD (p.2.1.getD s.toNat (aW aA)).1.toNat (0,0) else (0,0)
def aK7 (q:cG):Bool:=decide ((q.2.length:Int)<q.1)
def bMN (p:bE):Bool:=p.2.1.all fun x=>decide ((x.2.1.length:Int) - 1≤x.1)
def dV (p:bE) (s:Int):Bool :=
 if kM p=true∧0≤s∧s<(p.2.1.length:Int) then
  (if (bQ p s).1=1 then decide (0<s)&&decide (0<(p.2.2.1.getD (s - 1).toNat (aW aN)).2.length)
  else if (bQ p s).1=3 then decide (s<(p.2.1.length:Int) - 1)&&aK7 (p.2.2.1.getD s.toNat (aW aN))
  else if (bQ p s).1=4 then decide (s<(p.2.1.length:Int) - 1)&&decide (0<(p.2.2.2.getD s.toNat (aW aN)).2.length)
  else if (bQ p s).1=7 then decide (0<s)&&aK7 (p.2.2.2.getD (s - 1).toNat (aW aN))
  else if (bQ p s).1=2 then true else if (bQ p s).1=5 then true else if (bQ p s).1=6 then true
  else if (bQ p s).1=8 then bMN p else false)
 else false
def iR (p:bE) (s:Int):bC:=p.2.1.getD s.toNat (aW aA)
def bP8 (x:bC) (v:List Int):bC:=(x.1,x.2.1,x.2.2.1,x.2.2.2.1,x.2.2.2.2.1,x.2.2.2.2.2.1,x.2.2.2.2.2.2.1,v,x.2.2.2.2.2.2.2.2)
def bOW (x:bC) (v:List Int):bC:=(x.1,x.2.1,x.2.2.1,x.2.2.2.1,x.2.2.2.2.1,x.2.2.2.2.2.1,x.2.2.2.2.2.2.1,x.2.2.2.2.2.2.2.1,v,x.2.2.2.2.2.2.2.2.2)
def bOU (x:bC) (v:List Int):bC:=(x.1,x.2.1,x.2.2.1,x.2.2.2.1,x.2.2.2.2.1,x.2.2.2.2.2.1,x.2.2.2.2.2.2.1,x.2.2.2.2.2.2.2.1,x.2.2.2.2.2.2.2.2.1,v,x.2.2.2.2.2.2.2.2.2.2)
def aRC (x:bC) (v:List Int):bC:=(x.1,x.2.1,x.2.2.1,x.2.2.2.1,x.2.2.2.2.1,x.2.2.2.2.2.1,x.2.2.2.2.2.2.1,x.2.2.2.2.2.2.2.1,x.2.2.2.2.2.2.2.2.1,x.2.2.2.2.2.2.2.2.2.1,v,x.2.2.2.2.2.2.2.2.2.2.2)
def yL (x:bC) (k:Int):bC:=(k,x.2)
def kI (p:bE) (s:Int):bC :=
 if (bQ p s).1=1 then bP8 (iR p s) (yG (p.2.2.1.getD (s - 1).toNat (aW aN))).2.1.2
 else if (bQ p s).1=2 then aCQ (iR p s) (bQ p s).2 (if s=0 then (p.1.getD (bQ p s).2.toNat (aW aO)).1 else (iR p s).2.2.2.2.2.2.2.1) (p.1.getD (bQ p s).2.toNat (aW aO)).2
 else if (bQ p s).1=3 then bOW (iR p s) []
 else if (bQ p s).1=4 then bOU (iR p s) (yG (p.2.2.2.getD s.toNat (aW aN))).2.1.2
 else if (bQ p s).1=5 then uQ (iR p s) (bQ p s).2
 else if (bQ p s).1=6 then (if s=0 then aRC (xC (iR p s) (bQ p s).2 (p.1.getD (bQ p s).2.toNat (aW aO)).2) [] else xC (iR p s) (bQ p s).2 (p.1.getD (bQ p s).2.toNat (aW aO)).2)
 else if (bQ p s).1=7 then aRC (iR p s) []
 else iR p s
def yC (p:bE) (s:Int):List cG :=
 if (bQ p s).1=1 then p.2.2.1.set (s - 1).toNat (yG (p.2.2.1.getD (s - 1).toNat (aW aN))).1
 else if (bQ p s).1=3 then p.2.2.1.set s.toNat (vH (p.2.2.1.getD s.toNat (aW aN)) ((bQ p s).2,(iR p s).2.2.2.2.2.2.2.2.1)).1
 else p.2.2.1
def xS (p:bE) (s:Int):List cG :=
 if (bQ p s).1=4 then p.2.2.2.set s.toNat (yG (p.2.2.2.getD s.toNat (aW aN))).1
 else if (bQ p s).1=7 then p.2.2.2.set (s - 1).toNat (vH (p.2.2.2.getD (s - 1).toNat (aW aN)) ((bQ p s).2,(iR p s).2.2.2.2.2.2.2.2.2.2.1)).1
 else p.2.2.2
def fI (p:bE) (s:Int):bE:=if dV p s=true then (p.1,p.2.1.set s.toNat (yL (kI p s) ((kI p s).1+1)),yC p s,xS p s) else p
def uW (p:bE):List Int→bE
 | []=>p
 | s :: l=>uW (fI p s) l
theorem aHQ {b:List bT} {st:List bC} {a r:List cG} (h:bM aJ (b,st,a,r)≤1000000000):List.length b≤1000000000∧bM aG b≤1000000000∧List.length st≤1000000000∧(∀ x∈st,bM aA x≤1000000000) ∧
  List.length a≤1000000000∧(∀ x∈a,bM aN x≤1000000000)∧List.length r≤1000000000∧∀ x∈r,bM aN x≤1000000000:=by
 have e:bM aJ (b,st,a,r)=bM aG b+(bM (.slice 55 aA) st+(bM aM a+bM aM r)):=rfl
 have h1:List.length b≤bM aG b:=mI (e:=92) (t:=aO) b
 have h2:List.length st≤bM (.slice 55 aA) st:=mI (e:=55) (t:=aA) st
 have h3:List.length a≤bM aM a:=mI (e:=75) (t:=aN) a
 have h4:List.length r≤bM aM r:=mI (e:=75) (t:=aN) r
 refine ⟨by omega,by omega,by omega,fun x hx=>?_,by omega,fun x hx=>?_,by omega,fun x hx=>?_⟩
 ·have:=sC (e:=55) (t:=aA) hx;omega
 ·have:bM aN x≤bM aM a:=sC (e:=75) (t:=aN) hx;omega
 ·have:bM aN x≤bM aM r:=sC (e:=75) (t:=aN) hx;omega
theorem bFI {p:bE} {s:Int} (h:¬ (0≤s∧s<(p.2.1.length:Int)∧0≤(p.2.1.getD s.toNat (aW aA)).1∧(p.2.1.getD s.toNat (aW aA)).1<((p.2.1.getD s.toNat (aW aA)).2.1.length:Int))):(0,0)=bQ p s:=(if_neg h).symm
theorem aXE {p:bE} {s:Int} (h1:0≤s) (h2:s<(p.2.1.length:Int)) (h3:0≤(p.2.1.getD s.toNat (aW aA)).1) (h4:(p.2.1.getD s.toNat (aW aA)).1<((p.2.1.getD s.toNat (aW aA)).2.1.length:Int)) :
 (p.2.1.getD s.toNat (aW aA)).2.1.getD (p.2.1.getD s.toNat (aW aA)).1.toNat (aW aD)=bQ p s:=(if_pos ⟨h1,h2,h3,h4⟩).symm
def aGY (x:bC):Bool:=decide ((x.2.1.length:Int) - 1≤x.1)
theorem bFH (p:bE):bMN p=p.2.1.all aGY:=rfl
theorem aRN {p:bE} {s:Int} (h:kM p=false∨s<0∨(p.2.1.length:Int)≤s):false=dV p s:=by
 unfold dV;rw[if_neg]
 rintro ⟨h1,h2,h3⟩
 rcases h with h|h|h
 ·rw[h] at h1;cases h1
 ·omega
 ·omega
theorem bQZ {p:bE} {s:Int} (h1:kM p=true) (h2:0≤s) (h3:s<(p.2.1.length:Int)) (k:(bQ p s).1=1):dV p s=(decide (0<s)&&decide (0<(p.2.2.1.getD (s - 1).toNat (aW aN)).2.length)):=by
 unfold dV;rw[if_pos ⟨h1,h2,h3⟩,if_pos k]
theorem bQD {p:bE} {s:Int} (h1:kM p=true) (h2:0≤s) (h3:s<(p.2.1.length:Int)) (k:(bQ p s).1=3):dV p s=(decide (s<(p.2.1.length:Int) - 1)&&aK7 (p.2.2.1.getD s.toNat (aW aN))):=by
 unfold dV;rw[if_pos ⟨h1,h2,h3⟩,k];rfl
theorem bQW {p:bE} {s:Int} (h1:kM p=true) (h2:0≤s) (h3:s<(p.2.1.length:Int)) (k:(bQ p s).1=4):dV p s=(decide (s<(p.2.1.length:Int) - 1)&&decide (0<(p.2.2.2.getD s.toNat (aW aN)).2.length)):=by
 unfold dV;rw[if_pos ⟨h1,h2,h3⟩,k];rfl
theorem bQH {p:bE} {s:Int} (h1:kM p=true) (h2:0≤s) (h3:s<(p.2.1.length:Int)) (k:(bQ p s).1=7):dV p s=(decide (0<s)&&aK7 (p.2.2.2.getD (s - 1).toNat (aW aN))):=by
 unfold dV;rw[if_pos ⟨h1,h2,h3⟩,k];rfl
theorem bIU {p:bE} {s:Int} (h1:kM p=true) (h2:0≤s) (h3:s<(p.2.1.length:Int)) (k:(bQ p s).1=2∨(bQ p s).1=5∨(bQ p s).1=6):true=dV p s:=by
 unfold dV;rw[if_pos ⟨h1,h2,h3⟩]
 rcases k with k|k|k <;> rw[k] <;> rfl
theorem bR8 {p:bE} {s:Int} (h1:kM p=true) (h2:0≤s) (h3:s<(p.2.1.length:Int)) (k:(bQ p s).1=8):dV p s=bMN p:=by
 unfold dV;rw[if_pos ⟨h1,h2,h3⟩,k];rfl
theorem bNP {n:Nat}:decide ((0:Int)<(n:Int))=decide (0<n):=by rw[Bool.eq_iff_iff,decide_eq_true_eq,decide_eq_true_eq];omega
theorem bQR {p:bE} {s:Int} (h:¬ (bQ p s).1=1∧¬ (bQ p s).1=2∧¬ (bQ p s).1=3∧¬ (bQ p s).1=4∧¬ (bQ p s).1=5∧¬ (bQ p s).1=6∧¬ (bQ p s).1=7∧¬ (bQ p s).1=8):false=dV p s:=by
 unfold dV;split
 ·rw[if_neg h.1,if_neg h.2.2.1,if_neg h.2.2.2.1,if_neg h.2.2.2.2.2.2.1,if_neg h.2.1,if_neg h.2.2.2.2.1,if_neg h.2.2.2.2.2.1,if_neg h.2.2.2.2.2.2.2]
 ·rfl
theorem bQ5 {p:bE} {s:Int} (h1:kM p=true) (h2:0≤s) (h3:s<(p.2.1.length:Int)) (k:(bQ p s).1=1) (h:s≤0):false=dV p s:=by rw[bQZ h1 h2 h3 k,decide_eq_false (by omega)];rfl
theorem bPS {p:bE} {s:Int} (h1:kM p=true) (h2:0≤s) (h3:s<(p.2.1.length:Int)) (k:(bQ p s).1=1) (h:0<s):decide ((0:Int)<((p.2.2.1.getD (s - 1).toNat (aW aN)).2.length:Int))=dV p s:=by rw[bQZ h1 h2 h3 k,decide_eq_true h,bNP,Bool.true_and]
theorem bPY {p:bE} {s:Int} (h1:kM p=true) (h2:0≤s) (h3:s<(p.2.1.length:Int)) (k:(bQ p s).1=3) (h:(p.2.1.length:Int) - 1≤s):false=dV p s:=by rw[bQD h1 h2 h3 k,decide_eq_false (by omega)];rfl
theorem bPZ {p:bE} {s:Int} (h1:kM p=true) (h2:0≤s) (h3:s<(p.2.1.length:Int)) (k:(bQ p s).1=3) (h:s<(p.2.1.length:Int) - 1):aK7 (p.2.2.1.getD s.toNat (aW aN))=dV p s:=by rw[bQD h1 h2 h3 k,decide_eq_true h,Bool.true_and]
theorem bPX {p:bE} {s:Int} (h1:kM p=true) (h2:0≤s) (h3:s<(p.2.1.length:Int)) (k:(bQ p s).1=4) (h:(p.2.1.length:Int) - 1≤s):false=dV p s:=by rw[bQW h1 h2 h3 k,decide_eq_false (by omega)];rfl
theorem bPV {p:bE} {s:Int} (h1:kM p=true) (h2:0≤s) (h3:s<(p.2.1.length:Int)) (k:(bQ p s).1=4) (h:s<(p.2.1.length:Int) - 1):decide ((0:Int)<((p.2.2.2.getD s.toNat (aW aN)).2.length:Int))=dV p s:=by rw[bQW h1 h2 h3 k,decide_eq_true h,bNP,Bool.true_and]
theorem bQ1 {p:bE} {s:Int} (h1:kM p=true) (h2:0≤s) (h3:s<(p.2.1.length:Int)) (k:(bQ p s).1=7) (h:s≤0):false=dV p s:=by rw[bQH h1 h2 h3 k,decide_eq_false (by omega)];rfl
theorem bPQ {p:bE} {s:Int} (h1:kM p=true) (h2:0≤s) (h3:s<(p.2.1.length:Int)) (k:(bQ p s).1=7) (h:0<s):aK7 (p.2.2.2.getD (s - 1).toNat (aW aN))=dV p s:=by rw[bQH h1 h2 h3 k,decide_eq_true h,Bool.true_and]
theorem aL2 {α:Type} {f:α→Bool} {l:List α} {k:Nat} (h:(List.take k l).all f=true) (hk:l.length≤k):l.all f=true:=by rw[List.take_of_length_le hk] at h;exact h
def jC:Con:=⟨33,aJ,aJ,[.val ⟨true,aJ,[]⟩],[⟨true,aJ,[2,2,2,2]⟩],false,none,
 ((fun x=>bM aJ x≤1000000000):(bE)→Prop),
 ((fun x=>x):(bE)→(bE))⟩
def yO:T:=.call 0 (.p1 aG (.bRW (.slice 55 aA) (.bRW aM aM)) (.Z 0)) <|
 .bRX (.bS0 55 aA) (aK aJ 1 (.Z 0)) <|
 .loop (.bRW tI (.slice 55 aA)) (.bRY tI (.slice 55 aA) (.ci .i64 0) (.nl 55 aA)) <|
  .bRX (.cmp .lss .i64) (.bRY tI tI (.p1 tI (.slice 55 aA) (.Z 3)) (.Z 2)) <|
  .ite (.Z 4) (
   .bRX (.bS1 55 aA) (.bRY (.slice 55 aA) tI (aK aJ 1 (.Z 0)) (.p1 tI (.slice 55 aA) (.Z 3))) <|
   .call 1 (.Z 5) <|
   .bRX (.lit 55 aA 1) (.Z 6) <|
   .bRX (.bS3 55 aA 248) (.bRY (.slice 55 aA) (.slice 55 aA) (aP (.bRW tI (.slice 55 aA)) 1 (.Z 3)) (.Z 7)) <|
   .bRX (.ar .add .i64) (.bRY tI tI (.p1 tI (.slice 55 aA) (.Z 3)) (.ci .i64 1)) <|
   .bRZ 0 (.bRY tI (.slice 55 aA) (.Z 9) (.Z 8))) (
   .bRX (.bS0 75 aN) (aK aJ 2 (.Z 0)) <|
   .loop (.bRW tI aM) (.bRY tI aM (.ci .i64 0) (.nl 75 aN)) <|
    .bRX (.cmp .lss .i64) (.bRY tI tI (.p1 tI aM (.Z 6)) (.Z 5)) <|
    .ite (.Z 7) (
     .bRX (.bS1 75 aN) (.bRY aM tI (aK aJ 2 (.Z 0)) (.p1 tI aM (.Z 6))) <|
     .call 2 (.Z 8) <|
     .bRX (.lit 75 aN 1) (.Z 9) <|
     .bRX (.bS3 75 aN 32) (.bRY aM aM (aP (.bRW tI aM) 1 (.Z 6)) (.Z 10)) <|
     .bRX (.ar .add .i64) (.bRY tI tI (.p1 tI aM (.Z 6)) (.ci .i64 1)) <|
     .bRZ 0 (.bRY tI aM (.Z 12) (.Z 11))) (
     .bRX (.bS0 75 aN) (aP aJ 3 (.Z 0)) <|
     .loop (.bRW tI aM) (.bRY tI aM (.ci .i64 0) (.nl 75 aN)) <|
      .bRX (.cmp .lss .i64) (.bRY tI tI (.p1 tI aM (.Z 9)) (.Z 8)) <|
      .ite (.Z 10) (
       .bRX (.bS1 75 aN) (.bRY aM tI (aP aJ 3 (.Z 0)) (.p1 tI aM (.Z 9))) <|
       .call 2 (.Z 11) <|
       .bRX (.lit 75 aN 1) (.Z 12) <|
       .bRX (.bS3 75 aN 32) (.bRY aM aM (aP (.bRW tI aM) 1 (.Z 9)) (.Z 13)) <|
       .bRX (.ar .add .i64) (.bRY tI tI (.p1 tI aM (.Z 9)) (.ci .i64 1)) <|
       .bRZ 0 (.bRY tI aM (.Z 15) (.Z 14))) (
       .ret (bB aJ [(.Z 1),(aP (.bRW tI (.slice 55 aA)) 1 (.Z 3)),(aP (.bRW tI aM) 1 (.Z 6)),(aP (.bRW tI aM) 1 (.Z 9))]))))
theorem aUY:bI Tryz.prog [iA,dF,eD] jC false 3000 ⟨[(2991,1003,gQ 14 10++[.dr 0,.tm 17 0,.sl 13]),(2981,2006,[.dr 29]++gQ 18 15++[.tm 32 0,.sl 14]),(2971,4009,[.dr 44]++gQ 33 30++[.dr 1,.tm 47 0,.sl 15])],[(2981,3006,[24],[]),(2971,6009,[39],[]),(2961,12012,[54],[])]⟩ = .ok yO:=by kernel_rfl
theorem aSV (x:bE) (hx:okD aJ x) (hp:(fun x=>bM aJ x≤1000000000) x):yO.wp [iA,dF,eD] [⟨aJ,x⟩] [] (fun v=>v.as aJ=(fun x=>x) x):=by
 obtain ⟨b,st,a,r⟩:=x
 obtain ⟨h1,h1s,h2,h2m,h3,h3m,h4,h4m⟩:=aHQ hp
 delta yO iA dF eD;refine cW ?_
 refine ⟨h1s,fun _ _=>?_⟩
 refine cN (fun k=>((k:Int),List.take k st)) (List.length st) rfl fun I μ k hk _ go=>?_
 dsimp only
 (refine dB ?_;try with_reducible exact True.intro)
 skip
 constructor
 ·intro hlt
  have hk':k<st.length:=by omega
  have hm:=h2m _ (List.getElem_mem hk')
  simp only[aZ hk']
  (repeat' first|intro _|(refine go _ ?_ ?_ ?_)|(refine go _ ?_ ?_)|(with_reducible apply And.intro))
  all_goals first|omega|(with_reducible exact hm)|(with_reducible exact hm.1)|(with_reducible exact hm.2)|(unfold maxLen;omega)|(simp only[List.length_take];unfold maxLen;omega)|(simp only[List.length_take];omega)|(rw[iW hk'];rfl)
 intro hge _
 rw[show List.take k st=st from List.take_of_length_le (by omega)]
 clear go
 refine cN (fun k=>((k:Int),List.take k a)) (List.length a) rfl fun I μ k hk _ go=>?_
 dsimp only
 (refine dB ?_;try with_reducible exact True.intro)
 skip
 constructor
 ·intro hlt
  have hk':k<a.length:=by omega
  have hm:=h3m _ (List.getElem_mem hk')
  simp only[aZ hk']
  (repeat' first|intro _|(refine go _ ?_ ?_ ?_)|(refine go _ ?_ ?_)|(with_reducible apply And.intro))
  all_goals first|omega|(with_reducible exact hm)|(with_reducible exact hm.1)|(with_reducible exact hm.2)|(unfold maxLen;omega)|(simp only[List.length_take];unfold maxLen;omega)|(simp only[List.length_take];omega)|(rw[iW hk'];rfl)
 intro hge _
 rw[show List.take k a=a from List.take_of_length_le (by omega)]
 clear go
 refine cN (fun k=>((k:Int),List.take k r)) (List.length r) rfl fun I μ k hk _ go=>?_
 dsimp only
 (refine dB ?_;try with_reducible exact True.intro)
 skip
 constructor
 ·intro hlt
  have hk':k<r.length:=by omega
  have hm:=h4m _ (List.getElem_mem hk')
  simp only[aZ hk']
  (repeat' first|intro _|(refine go _ ?_ ?_ ?_)|(refine go _ ?_ ?_)|(with_reducible apply And.intro))
  all_goals first|omega|(with_reducible exact hm)|(with_reducible exact hm.1)|(with_reducible exact hm.2)|(unfold maxLen;omega)|(simp only[List.length_take];unfold maxLen;omega)|(simp only[List.length_take];omega)|(rw[iW hk'];rfl)
 intro hge
 rw[show List.take k r=r from List.take_of_length_le (by omega)]
theorem aGS:Con.Holds Tryz.prog jC:=aS aV (aI aE6 (aI qC (aI wI aQ))) aUY aSV
def kH:Con:=⟨78,aJ,aJ,[.val ⟨true,aJ,[]⟩],[⟨true,aJ,[2,2,2,2]⟩],false,none,
 ((fun x=>bM aJ x≤1000000000):(bE)→Prop),
 ((fun x=>x):(bE)→(bE))⟩
def aAX:T:=.loop (.bRW tI aG) (.bRY tI aG (.ci .i64 0) (.nl 92 aO)) <|
 .bRX (.bS0 92 aO) (.p1 aG (.bRW (.slice 55 aA) (.bRW aM aM)) (.Z 0)) <|
 .bRX (.cmp .lss .i64) (.bRY tI tI (.p1 tI aG (.Z 1)) (.Z 2)) <|
 .ite (.Z 3) (
  .bRX (.bS1 92 aO) (.bRY aG tI (.p1 aG (.bRW (.slice 55 aA) (.bRW aM aM)) (.Z 0)) (.p1 tI aG (.Z 1))) <|
  .bRX (.bS1 92 aO) (.bRY aG tI (.p1 aG (.bRW (.slice 55 aA) (.bRW aM aM)) (.Z 0)) (.p1 tI aG (.Z 1))) <|
  .bRX (.bS3 3 tI 8) (.bRY aB aB (.nl 3 tI) (.p1 aB aB (.Z 4))) <|
  .bRX (.bS3 3 tI 8) (.bRY aB aB (.nl 3 tI) (aP aO 1 (.Z 5))) <|
  .bRX (.lit 92 aO 1) (.bRY aB aB (.Z 6) (.Z 7)) <|
  .bRX (.bS3 92 aO 48) (.bRY aG aG (aP (.bRW tI aG) 1 (.Z 1)) (.Z 8)) <|
  .bRX (.ar .add .i64) (.bRY tI tI (.p1 tI aG (.Z 1)) (.ci .i64 1)) <|
  .bRZ 0 (.bRY tI aG (.Z 10) (.Z 9))) (
  .loop (.bRW tI (.slice 55 aA)) (.bRY tI (.slice 55 aA) (.ci .i64 0) (.nl 55 aA)) <|
   .bRX (.bS0 55 aA) (aK aJ 1 (.Z 0)) <|
   .bRX (.cmp .lss .i64) (.bRY tI tI (.p1 tI (.slice 55 aA) (.Z 4)) (.Z 5)) <|
   .ite (.Z 6) (
    .bRX (.bS1 55 aA) (.bRY (.slice 55 aA) tI (aK aJ 1 (.Z 0)) (.p1 tI (.slice 55 aA) (.Z 4))) <|
    .call 0 (.Z 7) <|
    .bRX (.lit 55 aA 1) (.Z 8) <|
    .bRX (.bS3 55 aA 248) (.bRY (.slice 55 aA) (.slice 55 aA) (aP (.bRW tI (.slice 55 aA)) 1 (.Z 4)) (.Z 9)) <|
    .bRX (.ar .add .i64) (.bRY tI tI (.p1 tI (.slice 55 aA) (.Z 4)) (.ci .i64 1)) <|
    .bRZ 0 (.bRY tI (.slice 55 aA) (.Z 11) (.Z 10))) (
    .loop (.bRW tI aM) (.bRY tI aM (.ci .i64 0) (.nl 75 aN)) <|
     .bRX (.bS0 75 aN) (aK aJ 2 (.Z 0)) <|
     .bRX (.cmp .lss .i64) (.bRY tI tI (.p1 tI aM (.Z 7)) (.Z 8)) <|
     .ite (.Z 9) (
      .bRX (.bS1 75 aN) (.bRY aM tI (aK aJ 2 (.Z 0)) (.p1 tI aM (.Z 7))) <|
      .call 1 (.Z 10) <|
      .bRX (.lit 75 aN 1) (.Z 11) <|
      .bRX (.bS3 75 aN 32) (.bRY aM aM (aP (.bRW tI aM) 1 (.Z 7)) (.Z 12)) <|
      .bRX (.ar .add .i64) (.bRY tI tI (.p1 tI aM (.Z 7)) (.ci .i64 1)) <|
      .bRZ 0 (.bRY tI aM (.Z 14) (.Z 13))) (
      .loop (.bRW tI aM) (.bRY tI aM (.ci .i64 0) (.nl 75 aN)) <|
       .bRX (.bS0 75 aN) (aP aJ 3 (.Z 0)) <|
       .bRX (.cmp .lss .i64) (.bRY tI tI (.p1 tI aM (.Z 10)) (.Z 11)) <|
       .ite (.Z 12) (
        .bRX (.bS1 75 aN) (.bRY aM tI (aP aJ 3 (.Z 0)) (.p1 tI aM (.Z 10))) <|
        .call 1 (.Z 13) <|
        .bRX (.lit 75 aN 1) (.Z 14) <|
        .bRX (.bS3 75 aN 32) (.bRY aM aM (aP (.bRW tI aM) 1 (.Z 10)) (.Z 15)) <|
        .bRX (.ar .add .i64) (.bRY tI tI (.p1 tI aM (.Z 10)) (.ci .i64 1)) <|
        .bRZ 0 (.bRY tI aM (.Z 17) (.Z 16))) (
        .ret (bB aJ [(aP (.bRW tI aG) 1 (.Z 1)),(aP (.bRW tI (.slice 55 aA)) 1 (.Z 4)),(aP (.bRW tI aM) 1 (.Z 7)),(aP (.bRW tI aM) 1 (.Z 10))])))))
theorem aY9:bI Tryz.prog [eA,gE] kH false 3000 ⟨[(2991,1001,[.dr 8,.dr 0,.tm 4 0,.sl 12]),(2981,2004,gQ 13 9++[.dr 4,.tm 5 0,.sl 13]),(2971,4007,gQ 42 38++[.dr 5,.tm 6 0,.sl 14]),(2961,8010,gQ 60 56++[.dr 6,.tm 7 0,.sl 15])],[(2983,3004,[33,25],[]),(2973,6007,[52],[]),(2963,12010,[70],[]),(2953,24013,[88],[])]⟩ = .ok aAX:=by kernel_rfl
theorem aYG (x:bE) (hx:okD aJ x) (hp:(fun x=>bM aJ x≤1000000000) x):aAX.wp [eA,gE] [⟨aJ,x⟩] [] (fun v=>v.as aJ=(fun x=>x) x):=by
 obtain ⟨b,st,a,r⟩:=x
 obtain ⟨h1,h1s,h2,h2m,h3,h3m,h4,h4m⟩:=aHQ hp
 have hb:∀ x∈b,List.length x.1≤1000000000∧List.length x.2≤1000000000:=fun x hx=>⟨((gZ (t:=aG) h1s).2 x hx).1.1,((gZ (t:=aG) h1s).2 x hx).2.1⟩
 delta aAX eA gE;refine cW ?_
 refine cN (fun k=>((k:Int),List.take k b)) (List.length b) rfl fun I μ k hk _ go=>?_
 dsimp only
 refine dB ?_
 intro _
 constructor
 ·intro hlt
  have hk':k<b.length:=by omega
  have hm:=hb _ (List.getElem_mem hk')
  simp only[aZ hk']
  (repeat' first|intro _|(refine go _ ?_ ?_ ?_)|(refine go _ ?_ ?_)|(with_reducible apply And.intro))
  all_goals first|omega|(with_reducible exact hm)|(with_reducible exact hm.1)|(with_reducible exact hm.2)|(unfold maxLen;omega)|(simp only[List.length_take];unfold maxLen;omega)|(simp only[List.length_take];omega)|(rw[iW hk'];rfl)
 intro hge
 rw[show List.take k b=b from List.take_of_length_le (by omega)]
 clear go
 refine cN (fun k=>((k:Int),List.take k st)) (List.length st) rfl fun I μ k hk _ go=>?_
 dsimp only
 refine dB ?_
 intro _
 constructor
 ·intro hlt
  have hk':k<st.length:=by omega
  have hm:=h2m _ (List.getElem_mem hk')
  simp only[aZ hk']
  (repeat' first|intro _|(refine go _ ?_ ?_ ?_)|(refine go _ ?_ ?_)|(with_reducible apply And.intro))
  all_goals first|omega|(with_reducible exact hm)|(with_reducible exact hm.1)|(with_reducible exact hm.2)|(unfold maxLen;omega)|(simp only[List.length_take];unfold maxLen;omega)|(simp only[List.length_take];omega)|(rw[iW hk'];rfl)
 intro hge
 rw[show List.take k st=st from List.take_of_length_le (by omega)]
 clear go
 refine cN (fun k=>((k:Int),List.take k a)) (List.length a) rfl fun I μ k hk _ go=>?_
 dsimp only
 refine dB ?_
 intro _
 constructor
 ·intro hlt
  have hk':k<a.length:=by omega
  have hm:=h3m _ (List.getElem_mem hk')
  simp only[aZ hk']
  (repeat' first|intro _|(refine go _ ?_ ?_ ?_)|(refine go _ ?_ ?_)|(with_reducible apply And.intro))
  all_goals first|omega|(with_reducible exact hm)|(with_reducible exact hm.1)|(with_reducible exact hm.2)|(unfold maxLen;omega)|(simp only[List.length_take];unfold maxLen;omega)|(simp only[List.length_take];omega)|(rw[iW hk'];rfl)
 intro hge
 rw[show List.take k a=a from List.take_of_length_le (by omega)]
 clear go
 refine cN (fun k=>((k:Int),List.take k r)) (List.length r) rfl fun I μ k hk _ go=>?_
 dsimp only
 refine dB ?_
 intro _
 constructor
 ·intro hlt
  have hk':k<r.length:=by omega
  have hm:=h4m _ (List.getElem_mem hk')
  simp only[aZ hk']
  (repeat' first|intro _|(refine go _ ?_ ?_ ?_)|(refine go _ ?_ ?_)|(with_reducible apply And.intro))
  all_goals first|omega|(with_reducible exact hm)|(with_reducible exact hm.1)|(with_reducible exact hm.2)|(unfold maxLen;omega)|(simp only[List.length_take];unfold maxLen;omega)|(simp only[List.length_take];omega)|(rw[iW hk'];rfl)
 intro hge
 rw[show List.take k r=r from List.take_of_length_le (by omega)]
theorem aKJ:Con.Holds Tryz.prog kH:=aS aV (aI vT (aI aBK aQ)) aY9 aYG
def rF:Con:=⟨63,(.bRW aJ tI),aD,[.val ⟨true,aJ,[]⟩,.val ⟨false,tI,[]⟩],[⟨true,aD,[0,0]⟩],false,none,
 ((fun _=>True):(bE × Int)→Prop),
 ((fun x=>bQ x.1 x.2):(bE × Int)→(Int × Int))⟩
def aLC:T :=
 .bRX (.cmp .lss .i64) (.bRY tI tI (aP (.bRW aJ tI) 1 (.Z 0)) (.ci .i64 0)) <|
 .ite (.Z 1) (
  .ret (.bRY tI tI (.ci .i64 0) (.ci .i64 0))) (
  .bRX (.bS0 55 aA) (aK aJ 1 (.p1 aJ tI (.Z 0))) <|
  .bRX (.cmp .geq .i64) (.bRY tI tI (aP (.bRW aJ tI) 1 (.Z 0)) (.Z 2)) <|
  .ite (.Z 3) (
   .ret (.bRY tI tI (.ci .i64 0) (.ci .i64 0))) (
   .bRX (.bS1 55 aA) (.bRY (.slice 55 aA) tI (aK aJ 1 (.p1 aJ tI (.Z 0))) (aP (.bRW aJ tI) 1 (.Z 0))) <|
   .bRX (.cmp .lss .i64) (.bRY tI tI (.p1 tI dA (.Z 4)) (.ci .i64 0)) <|
   .ite (.Z 5) (
    .ret (.bRY tI tI (.ci .i64 0) (.ci .i64 0))) (
    .bRX (.bS0 102 aD) (aK aA 1 (.Z 4)) <|
    .bRX (.cmp .geq .i64) (.bRY tI tI (.p1 tI dA (.Z 4)) (.Z 6)) <|
    .ite (.Z 7) (
     .ret (.bRY tI tI (.ci .i64 0) (.ci .i64 0))) (
     .bRX (.bS1 102 aD) (.bRY aU tI (aK aA 1 (.Z 4)) (.p1 tI dA (.Z 4))) <|
     .ret (.Z 8)))))
theorem bNB:bI Tryz.prog [] rF false 3000 ⟨[],[]⟩ = .ok aLC:=by kernel_rfl
theorem bK8 (x:bE × Int) (hx:okD (.bRW aJ tI) x) (hp:(fun _=>True) x):aLC.wp [] [⟨(.bRW aJ tI),x⟩] [] (fun v=>v.as aD=(fun x=>bQ x.1 x.2) x):=by
 obtain ⟨p,s⟩:=x
 delta aLC;refine cW ?_
 (refine dB ?_;try with_reducible exact True.intro)
 (repeat' first|intro _|(with_reducible apply And.intro))
 all_goals first|omega|exact aXE (by omega) (by omega) (by omega) (by omega)|exact bFI (by omega)|skip
theorem aX1:Con.Holds Tryz.prog rF:=aS aV aQ bNB bK8
def qO:Con:=⟨122,(.bRW aJ tI),aD,[.val ⟨true,aJ,[]⟩,.val ⟨false,tI,[]⟩],[⟨true,aD,[0,0]⟩],false,none,
 ((fun _=>True):(bE × Int)→Prop),
 ((fun x=>bQ x.1 x.2):(bE × Int)→(Int × Int))⟩
def aMW:T :=
 .bRX (.bS0 55 aA) (aK aJ 1 (.p1 aJ tI (.Z 0))) <|
 .bRX (.ar .sub .i64) (.bRY tI tI (.Z 1) (.ci .i64 1)) <|
 .call 0 (bB (.bRW tI aD) [(aP (.bRW aJ tI) 1 (.Z 0)),(.ci .i64 0),(.Z 2)]) <|
 .bRX .not (.Z 3) <|
 .ite (.Z 4) (
  .ret (.bRY tI tI (.ci .i64 0) (.ci .i64 0))) (
  .bRX (.bS1 55 aA) (.bRY (.slice 55 aA) tI (aK aJ 1 (.p1 aJ tI (.Z 0))) (aP (.bRW aJ tI) 1 (.Z 0))) <|
  .bRX (.bS1 55 aA) (.bRY (.slice 55 aA) tI (aK aJ 1 (.p1 aJ tI (.Z 0))) (aP (.bRW aJ tI) 1 (.Z 0))) <|
  .bRX (.bS0 102 aD) (aK aA 1 (.Z 6)) <|
  .bRX (.ar .sub .i64) (.bRY tI tI (.Z 7) (.ci .i64 1)) <|
  .call 0 (bB (.bRW tI aD) [(.p1 tI dA (.Z 5)),(.ci .i64 0),(.Z 8)]) <|
  .bRX .not (.Z 9) <|
  .ite (.Z 10) (
   .ret (.bRY tI tI (.ci .i64 0) (.ci .i64 0))) (
   .bRX (.bS1 55 aA) (.bRY (.slice 55 aA) tI (aK aJ 1 (.p1 aJ tI (.Z 0))) (aP (.bRW aJ tI) 1 (.Z 0))) <|
   .bRX (.bS1 55 aA) (.bRY (.slice 55 aA) tI (aK aJ 1 (.p1 aJ tI (.Z 0))) (aP (.bRW aJ tI) 1 (.Z 0))) <|
   .bRX (.bS1 102 aD) (.bRY aU tI (aK aA 1 (.Z 11)) (.p1 tI dA (.Z 12))) <|
   .ret (.Z 13)))
theorem bLC:bI Tryz.prog [bL] qO false 3000 ⟨[],[]⟩ = .ok aMW:=by kernel_rfl
theorem bLO (x:bE × Int) (hx:okD (.bRW aJ tI) x) (hp:(fun _=>True) x):aMW.wp [bL] [⟨(.bRW aJ tI),x⟩] [] (fun v=>v.as aD=(fun x=>bQ x.1 x.2) x):=by
 obtain ⟨p,s⟩:=x
 have hm:∀ k,k<p.2.1.length→(p.2.1.getD k (aW aA)).2.1.length≤9223372036854775807:=fun k hk=>by rw[aZ hk];exact (hx.1.2.1.2 _ (List.getElem_mem hk)).2.1.1
 have hm1:p.2.1.length≤9223372036854775807:=hx.1.2.1.1
 have hm2:=hm s.toNat
 delta aMW bL;refine cW ?_
 (refine dB ?_;try with_reducible exact True.intro)
 (repeat' first|intro _|(with_reducible apply And.intro))
 all_goals first|omega|exact aXE (by omega) (by omega) (by omega) (by omega)|exact bFI (by omega)|skip
theorem aVK:Con.Holds Tryz.prog qO:=aS aV (aI eV aQ) bLC bLO
def rD:Con:=⟨97,aN,.bool,[.val ⟨true,aN,[]⟩],[⟨false,.bool,[0]⟩],false,none,
 ((fun _=>True):(cG)→Prop),
 ((fun x=>aK7 x):(cG)→(Bool))⟩
def aCO:T :=
 .bRX (.bS0 110 aH) (aP aN 1 (.Z 0)) <|
 .bRX (.cmp .lss .i64) (.bRY tI tI (.Z 1) (.p1 tI (.slice 110 aH) (.Z 0))) <|
 .ret (.Z 2)
theorem aVE:bI Tryz.prog [] rD false 3000 ⟨[],[]⟩ = .ok aCO:=by kernel_rfl
theorem aXF (x:cG) (hx:okD aN x) (hp:(fun _=>True) x):aCO.wp [] [⟨aN,x⟩] [] (fun v=>v.as .bool=(fun x=>aK7 x) x):=by
 delta aCO;refine cW ?_
 exact fun _=>rfl
theorem aWV:Con.Holds Tryz.prog rD:=aS aV aQ aVE aXF
def sK:Con:=⟨143,aJ,.bool,[.val ⟨true,aJ,[]⟩],[⟨false,.bool,[0]⟩],false,none,
 ((fun _=>True):(bE)→Prop),
 ((fun x=>bMN x):(bE)→(Bool))⟩
def aFU:T:=.loop tI (.ci .i64 0) <|
 .bRX (.bS0 55 aA) (aK aJ 1 (.Z 0)) <|
 .bRX (.cmp .lss .i64) (.bRY tI tI (.Z 1) (.Z 2)) <|
 .ite (.Z 3) (
  .bRX (.bS1 55 aA) (.bRY (.slice 55 aA) tI (aK aJ 1 (.Z 0)) (.Z 1)) <|
  .bRX (.bS1 55 aA) (.bRY (.slice 55 aA) tI (aK aJ 1 (.Z 0)) (.Z 1)) <|
  .bRX (.bS0 102 aD) (aK aA 1 (.Z 5)) <|
  .bRX (.ar .sub .i64) (.bRY tI tI (.Z 6) (.ci .i64 1)) <|
  .bRX (.cmp .lss .i64) (.bRY tI tI (.p1 tI dA (.Z 4)) (.Z 7)) <|
  .ite (.Z 8) (
   .ret (.cb false)) (
   .bRX (.ar .add .i64) (.bRY tI tI (.Z 1) (.ci .i64 1)) <|
   .bRZ 0 (.Z 9))) (
  .ret (.cb true))
theorem bCA:bI Tryz.prog [] sK false 3000 ⟨[(2993,1001,[.dr 0,.tm 3 0])],[]⟩ = .ok aFU:=by kernel_rfl
theorem bCU (x:bE) (hx:okD aJ x) (hp:(fun _=>True) x):aFU.wp [] [⟨aJ,x⟩] [] (fun v=>v.as .bool=(fun x=>bMN x) x):=by
 have hm:∀ k,k<x.2.1.length→(x.2.1.getD k (aW aA)).2.1.length≤9223372036854775807:=fun k hk=>by rw[aZ hk];exact (hx.2.1.2 _ (List.getElem_mem hk)).2.1.1
 have hm1:x.2.1.length≤9223372036854775807:=hx.2.1.1
 delta aFU;refine cW ?_
 rw[bFH]
 refine pA (fun k=>(k:Int)) (fun k=>(List.take k x.2.1).all aGY=true) (List.length x.2.1) rfl rfl fun I μ k hk hG _ go=>?_
 try dsimp only
 refine dB ?_
 intro _
 constructor
 ·intro hlt
  have hk':k<x.2.1.length:=by omega
  have hm2:=hm k hk'
  have e:=mT aGY x.2.1 hk'
  have ng:∀ P:Prop,aGY x.2.1[k]=false→false=x.2.1.all aGY:=fun _ h=>(vE hk' h).symm
  rw[aZ hk'] at hm2
  simp only[aZ hk']
  (repeat' first|intro _|(refine go _ ?_ ?_ ?_)|(refine go _ ?_ ?_)|(with_reducible apply And.intro))
  all_goals first|omega|exact ng True (decide_eq_false (by omega))|(rw[e,hG,Bool.true_and];exact decide_eq_true (by omega))|rfl
 ·intro hge
  exact (aL2 hG (by omega)).symm
theorem bDW:Con.Holds Tryz.prog sK:=aS aV aQ bCA bCU
def kE:Con:=⟨60,(.bRW aJ tI),.bool,[.val ⟨true,aJ,[]⟩,.val ⟨false,tI,[]⟩],[⟨false,.bool,[0]⟩],false,none,
 ((fun _=>True):(bE × Int)→Prop),
 ((fun x=>dV x.1 x.2):(bE × Int)→(Bool))⟩
def aCZ:T:=.call 0 (.p1 aJ tI (.Z 0)) <|
 .bRX .not (.Z 1) <|
 .ite (.Z 2) (
  .ret (.cb false)) (
  .bRX (.cmp .lss .i64) (.bRY tI tI (aP (.bRW aJ tI) 1 (.Z 0)) (.ci .i64 0)) <|
  .ite (.Z 3) (
   .ret (.cb false)) (
   .bRX (.bS0 55 aA) (aK aJ 1 (.p1 aJ tI (.Z 0))) <|
   .bRX (.cmp .geq .i64) (.bRY tI tI (aP (.bRW aJ tI) 1 (.Z 0)) (.Z 4)) <|
   .ite (.Z 5) (
    .ret (.cb false)) (
    .bRX (.bS0 55 aA) (aK aJ 1 (.p1 aJ tI (.Z 0))) <|
    .bRX (.ar .sub .i64) (.bRY tI tI (.Z 6) (.ci .i64 1)) <|
    .bRX (.cmp .lss .i64) (.bRY tI tI (aP (.bRW aJ tI) 1 (.Z 0)) (.Z 7)) <|
    .call 1 (.Z 0) <|
    .bRX (.cmp .eql .i64) (.bRY tI tI (.p1 tI tI (.Z 9)) (.ci .i64 1)) <|
    .ite (.Z 10) (
     .bRX (.cmp .gtr .i64) (.bRY tI tI (aP (.bRW aJ tI) 1 (.Z 0)) (.ci .i64 0)) <|
     .ite (.Z 11) (
      .bRX (.ar .sub .i64) (.bRY tI tI (aP (.bRW aJ tI) 1 (.Z 0)) (.ci .i64 1)) <|
      .bRX (.bS1 75 aN) (.bRY aM tI (aK aJ 2 (.p1 aJ tI (.Z 0))) (.Z 12)) <|
      .bRX (.bS0 110 aH) (aP aN 1 (.Z 13)) <|
      .bRX (.cmp .gtr .i64) (.bRY tI tI (.Z 14) (.ci .i64 0)) <|
      .ret (.Z 15)) (
      .ret (.cb false))) (
     .bRX (.cmp .eql .i64) (.bRY tI tI (.p1 tI tI (.Z 9)) (.ci .i64 3)) <|
     .ite (.Z 11) (
      .ite (.Z 8) (
       .bRX (.bS1 75 aN) (.bRY aM tI (aK aJ 2 (.p1 aJ tI (.Z 0))) (aP (.bRW aJ tI) 1 (.Z 0))) <|
       .call 2 (.Z 12) <|
       .ret (.Z 13)) (
       .ret (.cb false))) (
      .bRX (.cmp .eql .i64) (.bRY tI tI (.p1 tI tI (.Z 9)) (.ci .i64 4)) <|
      .ite (.Z 12) (
       .ite (.Z 8) (
        .bRX (.bS1 75 aN) (.bRY aM tI (aP aJ 3 (.p1 aJ tI (.Z 0))) (aP (.bRW aJ tI) 1 (.Z 0))) <|
        .bRX (.bS0 110 aH) (aP aN 1 (.Z 13)) <|
        .bRX (.cmp .gtr .i64) (.bRY tI tI (.Z 14) (.ci .i64 0)) <|
        .ret (.Z 15)) (
        .ret (.cb false))) (
       .bRX (.cmp .eql .i64) (.bRY tI tI (.p1 tI tI (.Z 9)) (.ci .i64 7)) <|
       .ite (.Z 13) (
        .bRX (.cmp .gtr .i64) (.bRY tI tI (aP (.bRW aJ tI) 1 (.Z 0)) (.ci .i64 0)) <|
        .ite (.Z 14) (
         .bRX (.ar .sub .i64) (.bRY tI tI (aP (.bRW aJ tI) 1 (.Z 0)) (.ci .i64 1)) <|
         .bRX (.bS1 75 aN) (.bRY aM tI (aP aJ 3 (.p1 aJ tI (.Z 0))) (.Z 15)) <|
         .call 2 (.Z 16) <|
         .ret (.Z 17)) (
         .ret (.cb false))) (
        .bRX (.cmp .eql .i64) (.bRY tI tI (.p1 tI tI (.Z 9)) (.ci .i64 2)) <|
        .ite (.Z 14) (
         .ret (.cb true)) (
         .bRX (.cmp .eql .i64) (.bRY tI tI (.p1 tI tI (.Z 9)) (.ci .i64 5)) <|
         .ite (.Z 15) (
          .ret (.cb true)) (
          .bRX (.cmp .eql .i64) (.bRY tI tI (.p1 tI tI (.Z 9)) (.ci .i64 6)) <|
          .ite (.Z 16) (
           .ret (.cb true)) (
           .bRX (.cmp .eql .i64) (.bRY tI tI (.p1 tI tI (.Z 9)) (.ci .i64 8)) <|
           .ite (.Z 17) (
            .bRX (.bS0 55 aA) (aK aJ 1 (.p1 aJ tI (.Z 0))) <|
            .loop tI (.ci .i64 0) <|
             .bRX (.cmp .lss .i64) (.bRY tI tI (.Z 19) (.Z 18)) <|
             .ite (.Z 20) (
              .bRX (.bS1 55 aA) (.bRY (.slice 55 aA) tI (aK aJ 1 (.p1 aJ tI (.Z 0))) (.Z 19)) <|
              .bRX (.bS0 102 aD) (aK aA 1 (.Z 21)) <|
              .bRX (.ar .sub .i64) (.bRY tI tI (.Z 22) (.ci .i64 1)) <|
              .bRX (.cmp .lss .i64) (.bRY tI tI (.p1 tI dA (.Z 21)) (.Z 23)) <|
              .ite (.Z 24) (
               .ret (.cb false)) (
               .bRX (.ar .add .i64) (.bRY tI tI (.Z 19) (.ci .i64 1)) <|
               .bRZ 0 (.Z 25))) (
              .ret (.cb true))) (
            .ret (.cb false))))))))))))
theorem aX0:bI Tryz.prog [tA,rF,rD] kE false 3000 ⟨[(2958,3072019,[.dr 90,.dr 88,.dr 89,.dr 84]++gQ 87 85++[.dr 71,.dr 72,.dr 58,.dr 59,.dr 47,.dr 48,.dr 32,.dr 33]++gQ 31 28++[.dr 5]++gQ 27 8++[.dr 2,.dr 0,.dr 1,.tm 93 0])],[]⟩ = .ok aCZ:=by kernel_rfl
set_option maxHeartbeats 1000000 in
theorem aXN (x:bE × Int) (hx:okD (.bRW aJ tI) x) (hp:(fun _=>True) x):aCZ.wp [tA,rF,rD] [⟨(.bRW aJ tI),x⟩] [] (fun v=>v.as .bool=(fun x=>dV x.1 x.2) x):=by
 obtain ⟨p,s⟩:=x
 have hm:∀ k,k<p.2.1.length→(p.2.1.getD k (aW aA)).2.1.length≤9223372036854775807:=fun k hk=>by rw[aZ hk];exact (hx.1.2.1.2 _ (List.getElem_mem hk)).2.1.1
 have hm1:p.2.1.length≤9223372036854775807:=hx.1.2.1.1
 delta aCZ tA rF rD;refine cW ?_
 refine dB ?_
 refine ⟨fun h=>aRN (.inl h),fun h1=>⟨fun h=>aRN (.inr (.inl h)),fun h2 _=>⟨fun h=>aRN (.inr (.inr h)),fun h3 _=>⟨by omega,fun _ _=>?_⟩⟩⟩⟩
 have hp':=(nJ.1 h1).1
 (repeat' first|intro _|(with_reducible apply And.intro))
 all_goals first|omega|exact bIU h1 h2 h3 (.inl (by assumption))|exact bIU h1 h2 h3 (.inr (.inl (by assumption)))|exact bIU h1 h2 h3 (.inr (.inr (by assumption)))|exact bQR ⟨by assumption,by assumption,by assumption,by assumption,by assumption,by assumption,by assumption,by assumption⟩|exact bQ5 h1 h2 h3 (by assumption) (by omega)|exact bPS h1 h2 h3 (by assumption) (by omega)|exact bPY h1 h2 h3 (by assumption) (by omega)|exact bPZ h1 h2 h3 (by assumption) (by omega)|exact bPX h1 h2 h3 (by assumption) (by omega)|exact bPV h1 h2 h3 (by assumption) (by omega)|exact bQ1 h1 h2 h3 (by assumption) (by omega)|exact bPQ h1 h2 h3 (by assumption) (by omega)|skip
 rw[bR8 h1 h2 h3 (by assumption),bFH]
 refine pA (fun k=>(k:Int)) (fun k=>(List.take k p.2.1).all aGY=true) (List.length p.2.1) rfl rfl fun I μ k hk hG _ go=>?_
 try dsimp only
 refine dB ?_
 constructor
 ·intro hlt
  have hk':k<p.2.1.length:=by omega
  have hm2:=hm k hk'
  have e:=mT aGY p.2.1 hk'
  have ng:∀ P:Prop,aGY p.2.1[k]=false→false=p.2.1.all aGY:=fun _ h=>(vE hk' h).symm
  rw[aZ hk'] at hm2
  simp only[aZ hk']
  (repeat' first|intro _|(refine go _ ?_ ?_ ?_)|(refine go _ ?_ ?_)|(with_reducible apply And.intro))
  all_goals first|omega|exact ng True (decide_eq_false (by omega))|(rw[e,hG,Bool.true_and];exact decide_eq_true (by omega))|rfl
 ·intro hge
  exact (aL2 hG (by omega)).symm
set_option maxHeartbeats 1000000 in
theorem aKH:Con.Holds Tryz.prog kE:=aS aV (aI bA3 (aI aX1 (aI aWV aQ))) aX0 aXN
def kA:Con:=⟨119,(.bRW aJ tI),.bool,[.val ⟨true,aJ,[]⟩,.val ⟨false,tI,[]⟩],[⟨false,.bool,[0]⟩],false,none,
 ((fun _=>True):(bE × Int)→Prop),
 ((fun x=>dV x.1 x.2):(bE × Int)→(Bool))⟩
def aCR:T:=.call 0 (.p1 aJ tI (.Z 0)) <|
 .bRX .not (.Z 1) <|
 .ite (.Z 2) (
  .ret (.cb false)) (
  .bRX (.bS0 55 aA) (aK aJ 1 (.p1 aJ tI (.Z 0))) <|
  .bRX (.ar .sub .i64) (.bRY tI tI (.Z 3) (.ci .i64 1)) <|
  .call 1 (bB (.bRW tI aD) [(aP (.bRW aJ tI) 1 (.Z 0)),(.ci .i64 0),(.Z 4)]) <|
  .bRX .not (.Z 5) <|
  .ite (.Z 6) (
   .ret (.cb false)) (
   .call 2 (.Z 0) <|
   .bRX (.cmp .eql .i64) (.bRY tI tI (.p1 tI tI (.Z 7)) (.ci .i64 1)) <|
   .ite (.Z 8) (
    .bRX (.cmp .gtr .i64) (.bRY tI tI (aP (.bRW aJ tI) 1 (.Z 0)) (.ci .i64 0)) <|
    .ite (.Z 9) (
     .bRX (.ar .sub .i64) (.bRY tI tI (aP (.bRW aJ tI) 1 (.Z 0)) (.ci .i64 1)) <|
     .bRX (.bS1 75 aN) (.bRY aM tI (aK aJ 2 (.p1 aJ tI (.Z 0))) (.Z 10)) <|
     .bRX (.bS0 110 aH) (aP aN 1 (.Z 11)) <|
     .bRX (.cmp .gtr .i64) (.bRY tI tI (.Z 12) (.ci .i64 0)) <|
     .ret (.Z 13)) (
     .ret (.cb false))) (
    .bRX (.cmp .eql .i64) (.bRY tI tI (.p1 tI tI (.Z 7)) (.ci .i64 3)) <|
    .ite (.Z 9) (
     .bRX (.bS0 55 aA) (aK aJ 1 (.p1 aJ tI (.Z 0))) <|
     .bRX (.ar .sub .i64) (.bRY tI tI (.Z 10) (.ci .i64 1)) <|
     .bRX (.cmp .lss .i64) (.bRY tI tI (aP (.bRW aJ tI) 1 (.Z 0)) (.Z 11)) <|
     .ite (.Z 12) (
      .bRX (.bS1 75 aN) (.bRY aM tI (aK aJ 2 (.p1 aJ tI (.Z 0))) (aP (.bRW aJ tI) 1 (.Z 0))) <|
      .bRX (.bS0 110 aH) (aP aN 1 (.Z 13)) <|
      .bRX (.bS1 75 aN) (.bRY aM tI (aK aJ 2 (.p1 aJ tI (.Z 0))) (aP (.bRW aJ tI) 1 (.Z 0))) <|
      .bRX (.cmp .lss .i64) (.bRY tI tI (.Z 14) (.p1 tI (.slice 110 aH) (.Z 15))) <|
      .ret (.Z 16)) (
      .ret (.cb false))) (
     .bRX (.cmp .eql .i64) (.bRY tI tI (.p1 tI tI (.Z 7)) (.ci .i64 4)) <|
     .ite (.Z 10) (
      .bRX (.bS0 55 aA) (aK aJ 1 (.p1 aJ tI (.Z 0))) <|
      .bRX (.ar .sub .i64) (.bRY tI tI (.Z 11) (.ci .i64 1)) <|
      .bRX (.cmp .lss .i64) (.bRY tI tI (aP (.bRW aJ tI) 1 (.Z 0)) (.Z 12)) <|
      .ite (.Z 13) (
       .bRX (.bS1 75 aN) (.bRY aM tI (aP aJ 3 (.p1 aJ tI (.Z 0))) (aP (.bRW aJ tI) 1 (.Z 0))) <|
       .bRX (.bS0 110 aH) (aP aN 1 (.Z 14)) <|
       .bRX (.cmp .gtr .i64) (.bRY tI tI (.Z 15) (.ci .i64 0)) <|
       .ret (.Z 16)) (
       .ret (.cb false))) (
      .bRX (.cmp .eql .i64) (.bRY tI tI (.p1 tI tI (.Z 7)) (.ci .i64 7)) <|
      .ite (.Z 11) (
       .bRX (.cmp .gtr .i64) (.bRY tI tI (aP (.bRW aJ tI) 1 (.Z 0)) (.ci .i64 0)) <|
       .ite (.Z 12) (
        .bRX (.ar .sub .i64) (.bRY tI tI (aP (.bRW aJ tI) 1 (.Z 0)) (.ci .i64 1)) <|
        .bRX (.ar .sub .i64) (.bRY tI tI (aP (.bRW aJ tI) 1 (.Z 0)) (.ci .i64 1)) <|
        .bRX (.bS1 75 aN) (.bRY aM tI (aP aJ 3 (.p1 aJ tI (.Z 0))) (.Z 13)) <|
        .bRX (.bS0 110 aH) (aP aN 1 (.Z 15)) <|
        .bRX (.bS1 75 aN) (.bRY aM tI (aP aJ 3 (.p1 aJ tI (.Z 0))) (.Z 14)) <|
        .bRX (.cmp .lss .i64) (.bRY tI tI (.Z 16) (.p1 tI (.slice 110 aH) (.Z 17))) <|
        .ret (.Z 18)) (
        .ret (.cb false))) (
       .bRX (.cmp .eql .i64) (.bRY tI tI (.p1 tI tI (.Z 7)) (.ci .i64 2)) <|
       .ite (.Z 12) (
        .ret (.cb true)) (
        .bRX (.cmp .eql .i64) (.bRY tI tI (.p1 tI tI (.Z 7)) (.ci .i64 5)) <|
        .ite (.Z 13) (
         .ret (.cb true)) (
         .bRX (.cmp .eql .i64) (.bRY tI tI (.p1 tI tI (.Z 7)) (.ci .i64 6)) <|
         .ite (.Z 14) (
          .ret (.cb true)) (
          .bRX (.cmp .eql .i64) (.bRY tI tI (.p1 tI tI (.Z 7)) (.ci .i64 8)) <|
          .ite (.Z 15) (
           .call 3 (.p1 aJ tI (.Z 0)) <|
           .ret (.Z 16)) (
           .ret (.cb false)))))))))))
theorem aXB:bI Tryz.prog [tJ,bL,qO,sK] kA false 3000 ⟨[],[]⟩ = .ok aCR:=by kernel_rfl
set_option maxHeartbeats 1000000 in
theorem aWA (x:bE × Int) (hx:okD (.bRW aJ tI) x) (hp:(fun _=>True) x):aCR.wp [tJ,bL,qO,sK] [⟨(.bRW aJ tI),x⟩] [] (fun v=>v.as .bool=(fun x=>dV x.1 x.2) x):=by
 obtain ⟨p,s⟩:=x
 have hm1:p.2.1.length≤9223372036854775807:=hx.1.2.1.1
 delta aCR tJ bL qO sK;refine cW ?_
 refine dB ?_
 refine ⟨fun h=>aRN (.inl h),fun h1 _=>⟨by omega,fun _=>⟨fun h=>aRN (.inr (by omega)),fun hs _=>?_⟩⟩⟩
 have h2:0≤s:=hs.1
 have h3:s<(p.2.1.length:Int):=by omega
 have hp':=(nJ.1 h1).1
 (repeat' first|intro _|(with_reducible apply And.intro))
 all_goals first|omega|exact bIU h1 h2 h3 (.inl (by assumption))|exact bIU h1 h2 h3 (.inr (.inl (by assumption)))|exact bIU h1 h2 h3 (.inr (.inr (by assumption)))|exact bQR ⟨by assumption,by assumption,by assumption,by assumption,by assumption,by assumption,by assumption,by assumption⟩|exact bQ5 h1 h2 h3 (by assumption) (by omega)|exact bPS h1 h2 h3 (by assumption) (by omega)|exact bPY h1 h2 h3 (by assumption) (by omega)|exact bPZ h1 h2 h3 (by assumption) (by omega)|exact bPX h1 h2 h3 (by assumption) (by omega)|exact bPV h1 h2 h3 (by assumption) (by omega)|exact bQ1 h1 h2 h3 (by assumption) (by omega)|exact bPQ h1 h2 h3 (by assumption) (by omega)|skip
 all_goals exact (bR8 h1 h2 h3 (by assumption)).symm
set_option maxHeartbeats 1000000 in
theorem aKE:Con.Holds Tryz.prog kA:=aS aV (aI bBP (aI eV (aI aVK (aI bDW aQ)))) aXB aWA
end
end Go.Proofs.YtabamggdmdednaaGreat
