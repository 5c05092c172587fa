/- Core8: lemmas. No conditions. -/
import Derived.Test.YtmfpkkbhnmkfdaaGreatCoreF
import Derived.Test.YtmfpkkbhnmkfdaaGreatCoreR
import Derived.Test.YtmfpkkbhnmkfdaaGreatCoreB
namespace Go.Proofs.YtmfpkkbhnmkfdaaGreat
noncomputable section
set_option maxRecDepth 100000
open Go.ChangeShapes Go.WideShapes Go.ChangeAt Go.RowKit Go.Deep
set_option linter.unusedVariables false
set_option linter.unusedSimpArgs false
def bM (p:bF) (s:Int):gI :=
 if 0≤s∧s<(p.2.1.length:Int)∧0≤(p.2.1.getD s.toNat (aX aA)).1∧(p.2.1.getD s.toNat (aX aA)).1<((p.2.1.getD s.toNat (aX aA)).2.1.length:Int) then (p.2.1.getD s.toNat (aX aA)).2.1.getD (p.2.1.getD s.toNat (aX aA)).1.toNat (0,0) else (0,0)
def aIY (q:cH):Bool:=decide ((q.2.length:Int)<q.1)
def bIB (p:bF):Bool:=p.2.1.all fun x=>decide ((x.2.1.length:Int) - 1≤x.1)
def eB (p:bF) (s:Int):Bool :=
 if kV p=true∧0≤s∧s<(p.2.1.length:Int) then
  (if (bM p s).1=1 then decide (0<s)&&decide (0<(p.2.2.1.getD (s - 1).toNat (aX aO)).2.length)
  else if (bM p s).1=3 then decide (s<(p.2.1.length:Int) - 1)&&aIY (p.2.2.1.getD s.toNat (aX aO))
  else if (bM p s).1=4 then decide (s<(p.2.1.length:Int) - 1)&&decide (0<(p.2.2.2.getD s.toNat (aX aO)).2.length)
  else if (bM p s).1=7 then decide (0<s)&&aIY (p.2.2.2.getD (s - 1).toNat (aX aO))
  else if (bM p s).1=2 then true else if (bM p s).1=5 then true else if (bM p s).1=6 then true
  else if (bM p s).1=8 then bIB p else false)
 else false
def jA (p:bF) (s:Int):bC:=p.2.1.getD s.toNat (aX aA)
def bLS (x:bC) (v:List Int):bC:=(x.1,x.2.1,x.2.2.1,x.2.2.2.1,x.2.2.2.2.1,x.2.2.2.2.2.1,x.2.2.2.2.2.2.1,v,x.2.2.2.2.2.2.2.2)
def bN0 (x:bC) (v:List Int):bC:=(x.1,x.2.1,x.2.2.1,x.2.2.2.1,x.2.2.2.2.1,x.2.2.2.2.2.1,x.2.2.2.2.2.2.1,x.2.2.2.2.2.2.2.1,v,x.2.2.2.2.2.2.2.2.2)
def bLU (x:bC) (v:List Int):bC:=(x.1,x.2.1,x.2.2.1,x.2.2.2.1,x.2.2.2.2.1,x.2.2.2.2.2.1,x.2.2.2.2.2.2.1,x.2.2.2.2.2.2.2.1,x.2.2.2.2.2.2.2.2.1,v,x.2.2.2.2.2.2.2.2.2.2)
def aQ8 (x:bC) (v:List Int):bC:=(x.1,x.2.1,x.2.2.1,x.2.2.2.1,x.2.2.2.2.1,x.2.2.2.2.2.1,x.2.2.2.2.2.2.1,x.2.2.2.2.2.2.2.1,x.2.2.2.2.2.2.2.2.1,x.2.2.2.2.2.2.2.2.2.1,v,x.2.2.2.2.2.2.2.2.2.2.2)
def xE (x:bC) (k:Int):bC:=(k,x.2)
def kR (p:bF) (s:Int):bC :=
 if (bM p s).1=1 then bLS (jA p s) (xP (p.2.2.1.getD (s - 1).toNat (aX aO))).2.1.2
 else if (bM p s).1=2 then aBX (jA p s) (bM p s).2 (if s=0 then (p.1.getD (bM p s).2.toNat (aX aI)).1 else (jA p s).2.2.2.2.2.2.2.1) (p.1.getD (bM p s).2.toNat (aX aI)).2
 else if (bM p s).1=3 then bN0 (jA p s) []
 else if (bM p s).1=4 then bLU (jA p s) (xP (p.2.2.2.getD s.toNat (aX aO))).2.1.2
 else if (bM p s).1=5 then sE (jA p s) (bM p s).2
 else if (bM p s).1=6 then (if s=0 then aQ8 (wD (jA p s) (bM p s).2 (p.1.getD (bM p s).2.toNat (aX aI)).2) [] else wD (jA p s) (bM p s).2 (p.1.getD (bM p s).2.toNat (aX aI)).2)
 else if (bM p s).1=7 then aQ8 (jA p s) []
 else jA p s
def wW (p:bF) (s:Int):List cH :=
 if (bM p s).1=1 then p.2.2.1.set (s - 1).toNat (xP (p.2.2.1.getD (s - 1).toNat (aX aO))).1
 else if (bM p s).1=3 then p.2.2.1.set s.toNat (uZ (p.2.2.1.getD s.toNat (aX aO)) ((bM p s).2,(jA p s).2.2.2.2.2.2.2.2.1)).1
 else p.2.2.1
def xH (p:bF) (s:Int):List cH :=
 if (bM p s).1=4 then p.2.2.2.set s.toNat (xP (p.2.2.2.getD s.toNat (aX aO))).1
 else if (bM p s).1=7 then p.2.2.2.set (s - 1).toNat (uZ (p.2.2.2.getD (s - 1).toNat (aX aO)) ((bM p s).2,(jA p s).2.2.2.2.2.2.2.2.2.2.1)).1
 else p.2.2.2
def fY (p:bF) (s:Int):bF:=if eB p s=true then (p.1,p.2.1.set s.toNat (xE (kR p s) ((kR p s).1+1)),wW p s,xH p s) else p
def uP (p:bF):List Int→bF
 | []=>p
 | s :: l=>uP (fY p s) l
theorem aGT {b:List bP} {st:List bC} {a r:List cH} (h:aY aG (b,st,a,r)≤1000000000):List.length b≤1000000000∧aY aM b≤1000000000∧List.length st≤1000000000∧(∀ x∈st,aY aA x≤1000000000) ∧
  List.length a≤1000000000∧(∀ x∈a,aY aO x≤1000000000)∧List.length r≤1000000000∧∀ x∈r,aY aO x≤1000000000:=by
 have e:aY aG (b,st,a,r)=aY aM b+(aY (.slice 121 aA) st+(aY aL a+aY aL r)):=rfl
 have h1:List.length b≤aY aM b:=mM (e:=126) (t:=aI) b
 have h2:List.length st≤aY (.slice 121 aA) st:=mM (e:=121) (t:=aA) st
 have h3:List.length a≤aY aL a:=mM (e:=157) (t:=aO) a
 have h4:List.length r≤aY aL r:=mM (e:=157) (t:=aO) r
 refine ⟨by omega,by omega,by omega,fun x hx=>?_,by omega,fun x hx=>?_,by omega,fun x hx=>?_⟩
 ·have:=pR (e:=121) (t:=aA) hx;omega
 ·have:aY aO x≤aY aL a:=pR (e:=157) (t:=aO) hx;omega
 ·have:aY aO x≤aY aL r:=pR (e:=157) (t:=aO) hx;omega
theorem bDS {p:bF} {s:Int} (h:¬ (0≤s∧s<(p.2.1.length:Int)∧0≤(p.2.1.getD s.toNat (aX aA)).1∧(p.2.1.getD s.toNat (aX aA)).1<((p.2.1.getD s.toNat (aX aA)).2.1.length:Int))):(0,0)=bM p s:=(if_neg h).symm
theorem aVJ {p:bF} {s:Int} (h1:0≤s) (h2:s<(p.2.1.length:Int)) (h3:0≤(p.2.1.getD s.toNat (aX aA)).1) (h4:(p.2.1.getD s.toNat (aX aA)).1<((p.2.1.getD s.toNat (aX aA)).2.1.length:Int)) :
 (p.2.1.getD s.toNat (aX aA)).2.1.getD (p.2.1.getD s.toNat (aX aA)).1.toNat (aX aP)=bM p s:=(if_pos ⟨h1,h2,h3,h4⟩).symm
def aG6 (x:bC):Bool:=decide ((x.2.1.length:Int) - 1≤x.1)
theorem bDX (p:bF):bIB p=p.2.1.all aG6:=rfl
theorem aPW {p:bF} {s:Int} (h:kV p=false∨s<0∨(p.2.1.length:Int)≤s):false=eB p s:=by
 unfold eB;rw[if_neg]
 rintro ⟨h1,h2,h3⟩
 rcases h with h|h|h
 ·rw[h] at h1;cases h1
 ·omega
 ·omega
theorem bO7 {p:bF} {s:Int} (h1:kV p=true) (h2:0≤s) (h3:s<(p.2.1.length:Int)) (k:(bM p s).1=1):eB p s=(decide (0<s)&&decide (0<(p.2.2.1.getD (s - 1).toNat (aX aO)).2.length)):=by
 unfold eB;rw[if_pos ⟨h1,h2,h3⟩,if_pos k]
theorem bOA {p:bF} {s:Int} (h1:kV p=true) (h2:0≤s) (h3:s<(p.2.1.length:Int)) (k:(bM p s).1=3):eB p s=(decide (s<(p.2.1.length:Int) - 1)&&aIY (p.2.2.1.getD s.toNat (aX aO))):=by
 unfold eB;rw[if_pos ⟨h1,h2,h3⟩,k];rfl
theorem bO6 {p:bF} {s:Int} (h1:kV p=true) (h2:0≤s) (h3:s<(p.2.1.length:Int)) (k:(bM p s).1=4):eB p s=(decide (s<(p.2.1.length:Int) - 1)&&decide (0<(p.2.2.2.getD s.toNat (aX aO)).2.length)):=by
 unfold eB;rw[if_pos ⟨h1,h2,h3⟩,k];rfl
theorem bO8 {p:bF} {s:Int} (h1:kV p=true) (h2:0≤s) (h3:s<(p.2.1.length:Int)) (k:(bM p s).1=7):eB p s=(decide (0<s)&&aIY (p.2.2.2.getD (s - 1).toNat (aX aO))):=by
 unfold eB;rw[if_pos ⟨h1,h2,h3⟩,k];rfl
theorem bGG {p:bF} {s:Int} (h1:kV p=true) (h2:0≤s) (h3:s<(p.2.1.length:Int)) (k:(bM p s).1=2∨(bM p s).1=5∨(bM p s).1=6):true=eB p s:=by
 unfold eB;rw[if_pos ⟨h1,h2,h3⟩]
 rcases k with k|k|k <;> rw[k] <;> rfl
theorem bP0 {p:bF} {s:Int} (h1:kV p=true) (h2:0≤s) (h3:s<(p.2.1.length:Int)) (k:(bM p s).1=8):eB p s=bIB p:=by
 unfold eB;rw[if_pos ⟨h1,h2,h3⟩,k];rfl
theorem bK0 {n:Nat}:decide ((0:Int)<(n:Int))=decide (0<n):=by rw[Bool.eq_iff_iff,decide_eq_true_eq,decide_eq_true_eq];omega
theorem bO4 {p:bF} {s:Int} (h:¬ (bM p s).1=1∧¬ (bM p s).1=2∧¬ (bM p s).1=3∧¬ (bM p s).1=4∧¬ (bM p s).1=5∧¬ (bM p s).1=6∧¬ (bM p s).1=7∧¬ (bM p s).1=8):false=eB p s:=by
 unfold eB;split
 ·rw[if_neg h.1,if_neg h.2.2.1,if_neg h.2.2.2.1,if_neg h.2.2.2.2.2.2.1,if_neg h.2.1,if_neg h.2.2.2.2.1,if_neg h.2.2.2.2.2.1,if_neg h.2.2.2.2.2.2.2]
 ·rfl
theorem bND {p:bF} {s:Int} (h1:kV p=true) (h2:0≤s) (h3:s<(p.2.1.length:Int)) (k:(bM p s).1=1) (h:s≤0):false=eB p s:=by rw[bO7 h1 h2 h3 k,decide_eq_false (by omega)];rfl
theorem bNB {p:bF} {s:Int} (h1:kV p=true) (h2:0≤s) (h3:s<(p.2.1.length:Int)) (k:(bM p s).1=1) (h:0<s):decide ((0:Int)<((p.2.2.1.getD (s - 1).toNat (aX aO)).2.length:Int))=eB p s:=by rw[bO7 h1 h2 h3 k,decide_eq_true h,bK0,Bool.true_and]
theorem bNE {p:bF} {s:Int} (h1:kV p=true) (h2:0≤s) (h3:s<(p.2.1.length:Int)) (k:(bM p s).1=3) (h:(p.2.1.length:Int) - 1≤s):false=eB p s:=by rw[bOA h1 h2 h3 k,decide_eq_false (by omega)];rfl
theorem bNA {p:bF} {s:Int} (h1:kV p=true) (h2:0≤s) (h3:s<(p.2.1.length:Int)) (k:(bM p s).1=3) (h:s<(p.2.1.length:Int) - 1):aIY (p.2.2.1.getD s.toNat (aX aO))=eB p s:=by rw[bOA h1 h2 h3 k,decide_eq_true h,Bool.true_and]
theorem bNH {p:bF} {s:Int} (h1:kV p=true) (h2:0≤s) (h3:s<(p.2.1.length:Int)) (k:(bM p s).1=4) (h:(p.2.1.length:Int) - 1≤s):false=eB p s:=by rw[bO6 h1 h2 h3 k,decide_eq_false (by omega)];rfl
theorem bN9 {p:bF} {s:Int} (h1:kV p=true) (h2:0≤s) (h3:s<(p.2.1.length:Int)) (k:(bM p s).1=4) (h:s<(p.2.1.length:Int) - 1):decide ((0:Int)<((p.2.2.2.getD s.toNat (aX aO)).2.length:Int))=eB p s:=by rw[bO6 h1 h2 h3 k,decide_eq_true h,bK0,Bool.true_and]
theorem bNN {p:bF} {s:Int} (h1:kV p=true) (h2:0≤s) (h3:s<(p.2.1.length:Int)) (k:(bM p s).1=7) (h:s≤0):false=eB p s:=by rw[bO8 h1 h2 h3 k,decide_eq_false (by omega)];rfl
theorem bNJ {p:bF} {s:Int} (h1:kV p=true) (h2:0≤s) (h3:s<(p.2.1.length:Int)) (k:(bM p s).1=7) (h:0<s):aIY (p.2.2.2.getD (s - 1).toNat (aX aO))=eB p s:=by rw[bO8 h1 h2 h3 k,decide_eq_true h,Bool.true_and]
theorem aJO {α:Type} {f:α→Bool} {l:List α} {k:Nat} (h:(List.take k l).all f=true) (hk:l.length≤k):l.all f=true:=by rw[List.take_of_length_le hk] at h;exact h
def jE:Con:=⟨106,aG,aG,[.val ⟨true,aG,[]⟩],[⟨true,aG,[2,2,2,2]⟩],false,none,
 ((fun x=>aY aG x≤1000000000):(bF)→Prop),
 ((fun x=>x):(bF)→(bF))⟩
def yZ:T:=.call 0 (.p1 aM (.bP9 (.slice 121 aA) (.bP9 aL aL)) (.Z 0)) <|
 .bPA (.bPD 121 aA) (aK aG 1 (.Z 0)) <|
 .loop (.bP9 tI (.slice 121 aA)) (.bPB tI (.slice 121 aA) (.ci .i64 0) (.nl 121 aA)) <|
  .bPA (.cmp .lss .i64) (.bPB tI tI (.p1 tI (.slice 121 aA) (.Z 3)) (.Z 2)) <|
  .ite (.Z 4) (
   .bPA (.bPE 121 aA) (.bPB (.slice 121 aA) tI (aK aG 1 (.Z 0)) (.p1 tI (.slice 121 aA) (.Z 3))) <|
   .call 1 (.Z 5) <|
   .bPA (.lit 121 aA 1) (.Z 6) <|
   .bPA (.bPG 121 aA 248) (.bPB (.slice 121 aA) (.slice 121 aA) (aQ (.bP9 tI (.slice 121 aA)) 1 (.Z 3)) (.Z 7)) <|
   .bPA (.ar .add .i64) (.bPB tI tI (.p1 tI (.slice 121 aA) (.Z 3)) (.ci .i64 1)) <|
   .bPC 0 (.bPB tI (.slice 121 aA) (.Z 9) (.Z 8))) (
   .bPA (.bPD 157 aO) (aK aG 2 (.Z 0)) <|
   .loop (.bP9 tI aL) (.bPB tI aL (.ci .i64 0) (.nl 157 aO)) <|
    .bPA (.cmp .lss .i64) (.bPB tI tI (.p1 tI aL (.Z 6)) (.Z 5)) <|
    .ite (.Z 7) (
     .bPA (.bPE 157 aO) (.bPB aL tI (aK aG 2 (.Z 0)) (.p1 tI aL (.Z 6))) <|
     .call 2 (.Z 8) <|
     .bPA (.lit 157 aO 1) (.Z 9) <|
     .bPA (.bPG 157 aO 32) (.bPB aL aL (aQ (.bP9 tI aL) 1 (.Z 6)) (.Z 10)) <|
     .bPA (.ar .add .i64) (.bPB tI tI (.p1 tI aL (.Z 6)) (.ci .i64 1)) <|
     .bPC 0 (.bPB tI aL (.Z 12) (.Z 11))) (
     .bPA (.bPD 157 aO) (aQ aG 3 (.Z 0)) <|
     .loop (.bP9 tI aL) (.bPB tI aL (.ci .i64 0) (.nl 157 aO)) <|
      .bPA (.cmp .lss .i64) (.bPB tI tI (.p1 tI aL (.Z 9)) (.Z 8)) <|
      .ite (.Z 10) (
       .bPA (.bPE 157 aO) (.bPB aL tI (aQ aG 3 (.Z 0)) (.p1 tI aL (.Z 9))) <|
       .call 2 (.Z 11) <|
       .bPA (.lit 157 aO 1) (.Z 12) <|
       .bPA (.bPG 157 aO 32) (.bPB aL aL (aQ (.bP9 tI aL) 1 (.Z 9)) (.Z 13)) <|
       .bPA (.ar .add .i64) (.bPB tI tI (.p1 tI aL (.Z 9)) (.ci .i64 1)) <|
       .bPC 0 (.bPB tI aL (.Z 15) (.Z 14))) (
       .ret (bG aG [(.Z 1),(aQ (.bP9 tI (.slice 121 aA)) 1 (.Z 3)),(aQ (.bP9 tI aL) 1 (.Z 6)),(aQ (.bP9 tI aL) 1 (.Z 9))]))))
theorem aQY:bN Tryz.prog [iH,dG,eK] jE false 3000 ⟨[(2991,1003,iL 14 10++[.dr 0,.tm 17 0,.sl 13]),(2981,2006,[.dr 29]++iL 18 15++[.tm 32 0,.sl 14]),(2971,4009,[.dr 44]++iL 33 30++[.dr 1,.tm 47 0,.sl 15])],[(2981,3006,[24],[]),(2971,6009,[39],[]),(2961,12012,[54],[])]⟩ = .ok yZ:=by kernel_rfl
theorem aS3 (x:bF) (hx:okD aG x) (hp:(fun x=>aY aG x≤1000000000) x):yZ.wp [iH,dG,eK] [⟨aG,x⟩] [] (fun v=>v.as aG=(fun x=>x) x):=by
 obtain ⟨b,st,a,r⟩:=x
 obtain ⟨h1,h1s,h2,h2m,h3,h3m,h4,h4m⟩:=aGT hp
 delta yZ iH dG eK;refine dD ?_
 refine ⟨h1s,fun _ _=>?_⟩
 refine cJ (fun k=>((k:Int),List.take k st)) (List.length st) rfl fun I μ k hk _ go=>?_
 dsimp only
 (refine dM ?_;try with_reducible exact True.intro)
 skip
 constructor
 ·intro hlt
  have hk':k<st.length:=by omega
  have hm:=h2m _ (List.getElem_mem hk')
  simp only[aZ hk']
  (repeat' first|intro _|(refine go _ ?_ ?_ ?_)|(refine go _ ?_ ?_)|(with_reducible apply And.intro))
  all_goals first|omega|(with_reducible exact hm)|(with_reducible exact hm.1)|(with_reducible exact hm.2)|(unfold maxLen;omega)|(simp only[List.length_take];unfold maxLen;omega)|(simp only[List.length_take];omega)|(rw[jF hk'];rfl)
 intro hge _
 rw[show List.take k st=st from List.take_of_length_le (by omega)]
 clear go
 refine cJ (fun k=>((k:Int),List.take k a)) (List.length a) rfl fun I μ k hk _ go=>?_
 dsimp only
 (refine dM ?_;try with_reducible exact True.intro)
 skip
 constructor
 ·intro hlt
  have hk':k<a.length:=by omega
  have hm:=h3m _ (List.getElem_mem hk')
  simp only[aZ hk']
  (repeat' first|intro _|(refine go _ ?_ ?_ ?_)|(refine go _ ?_ ?_)|(with_reducible apply And.intro))
  all_goals first|omega|(with_reducible exact hm)|(with_reducible exact hm.1)|(with_reducible exact hm.2)|(unfold maxLen;omega)|(simp only[List.length_take];unfold maxLen;omega)|(simp only[List.length_take];omega)|(rw[jF hk'];rfl)
 intro hge _
 rw[show List.take k a=a from List.take_of_length_le (by omega)]
 clear go
 refine cJ (fun k=>((k:Int),List.take k r)) (List.length r) rfl fun I μ k hk _ go=>?_
 dsimp only
 (refine dM ?_;try with_reducible exact True.intro)
 skip
 constructor
 ·intro hlt
  have hk':k<r.length:=by omega
  have hm:=h4m _ (List.getElem_mem hk')
  simp only[aZ hk']
  (repeat' first|intro _|(refine go _ ?_ ?_ ?_)|(refine go _ ?_ ?_)|(with_reducible apply And.intro))
  all_goals first|omega|(with_reducible exact hm)|(with_reducible exact hm.1)|(with_reducible exact hm.2)|(unfold maxLen;omega)|(simp only[List.length_take];unfold maxLen;omega)|(simp only[List.length_take];omega)|(rw[jF hk'];rfl)
 intro hge
 rw[show List.take k r=r from List.take_of_length_le (by omega)]
theorem aG9:Con.Holds Tryz.prog jE:=aS aV (aH aDK (aH pV (aH wB aT))) aQY aS3
def kL:Con:=⟨61,aG,aG,[.val ⟨true,aG,[]⟩],[⟨true,aG,[2,2,2,2]⟩],false,none,
 ((fun x=>aY aG x≤1000000000):(bF)→Prop),
 ((fun x=>x):(bF)→(bF))⟩
def aC0:T:=.loop (.bP9 tI aM) (.bPB tI aM (.ci .i64 0) (.nl 126 aI)) <|
 .bPA (.bPD 126 aI) (.p1 aM (.bP9 (.slice 121 aA) (.bP9 aL aL)) (.Z 0)) <|
 .bPA (.cmp .lss .i64) (.bPB tI tI (.p1 tI aM (.Z 1)) (.Z 2)) <|
 .ite (.Z 3) (
  .bPA (.bPE 126 aI) (.bPB aM tI (.p1 aM (.bP9 (.slice 121 aA) (.bP9 aL aL)) (.Z 0)) (.p1 tI aM (.Z 1))) <|
  .bPA (.bPE 126 aI) (.bPB aM tI (.p1 aM (.bP9 (.slice 121 aA) (.bP9 aL aL)) (.Z 0)) (.p1 tI aM (.Z 1))) <|
  .bPA (.bPG 3 tI 8) (.bPB aB aB (.nl 3 tI) (.p1 aB aB (.Z 4))) <|
  .bPA (.bPG 3 tI 8) (.bPB aB aB (.nl 3 tI) (aQ aI 1 (.Z 5))) <|
  .bPA (.lit 126 aI 1) (.bPB aB aB (.Z 6) (.Z 7)) <|
  .bPA (.bPG 126 aI 48) (.bPB aM aM (aQ (.bP9 tI aM) 1 (.Z 1)) (.Z 8)) <|
  .bPA (.ar .add .i64) (.bPB tI tI (.p1 tI aM (.Z 1)) (.ci .i64 1)) <|
  .bPC 0 (.bPB tI aM (.Z 10) (.Z 9))) (
  .loop (.bP9 tI (.slice 121 aA)) (.bPB tI (.slice 121 aA) (.ci .i64 0) (.nl 121 aA)) <|
   .bPA (.bPD 121 aA) (aK aG 1 (.Z 0)) <|
   .bPA (.cmp .lss .i64) (.bPB tI tI (.p1 tI (.slice 121 aA) (.Z 4)) (.Z 5)) <|
   .ite (.Z 6) (
    .bPA (.bPE 121 aA) (.bPB (.slice 121 aA) tI (aK aG 1 (.Z 0)) (.p1 tI (.slice 121 aA) (.Z 4))) <|
    .call 0 (.Z 7) <|
    .bPA (.lit 121 aA 1) (.Z 8) <|
    .bPA (.bPG 121 aA 248) (.bPB (.slice 121 aA) (.slice 121 aA) (aQ (.bP9 tI (.slice 121 aA)) 1 (.Z 4)) (.Z 9)) <|
    .bPA (.ar .add .i64) (.bPB tI tI (.p1 tI (.slice 121 aA) (.Z 4)) (.ci .i64 1)) <|
    .bPC 0 (.bPB tI (.slice 121 aA) (.Z 11) (.Z 10))) (
    .loop (.bP9 tI aL) (.bPB tI aL (.ci .i64 0) (.nl 157 aO)) <|
     .bPA (.bPD 157 aO) (aK aG 2 (.Z 0)) <|
     .bPA (.cmp .lss .i64) (.bPB tI tI (.p1 tI aL (.Z 7)) (.Z 8)) <|
     .ite (.Z 9) (
      .bPA (.bPE 157 aO) (.bPB aL tI (aK aG 2 (.Z 0)) (.p1 tI aL (.Z 7))) <|
      .call 1 (.Z 10) <|
      .bPA (.lit 157 aO 1) (.Z 11) <|
      .bPA (.bPG 157 aO 32) (.bPB aL aL (aQ (.bP9 tI aL) 1 (.Z 7)) (.Z 12)) <|
      .bPA (.ar .add .i64) (.bPB tI tI (.p1 tI aL (.Z 7)) (.ci .i64 1)) <|
      .bPC 0 (.bPB tI aL (.Z 14) (.Z 13))) (
      .loop (.bP9 tI aL) (.bPB tI aL (.ci .i64 0) (.nl 157 aO)) <|
       .bPA (.bPD 157 aO) (aQ aG 3 (.Z 0)) <|
       .bPA (.cmp .lss .i64) (.bPB tI tI (.p1 tI aL (.Z 10)) (.Z 11)) <|
       .ite (.Z 12) (
        .bPA (.bPE 157 aO) (.bPB aL tI (aQ aG 3 (.Z 0)) (.p1 tI aL (.Z 10))) <|
        .call 1 (.Z 13) <|
        .bPA (.lit 157 aO 1) (.Z 14) <|
        .bPA (.bPG 157 aO 32) (.bPB aL aL (aQ (.bP9 tI aL) 1 (.Z 10)) (.Z 15)) <|
        .bPA (.ar .add .i64) (.bPB tI tI (.p1 tI aL (.Z 10)) (.ci .i64 1)) <|
        .bPC 0 (.bPB tI aL (.Z 17) (.Z 16))) (
        .ret (bG aG [(aQ (.bP9 tI aM) 1 (.Z 1)),(aQ (.bP9 tI (.slice 121 aA)) 1 (.Z 4)),(aQ (.bP9 tI aL) 1 (.Z 7)),(aQ (.bP9 tI aL) 1 (.Z 10))])))))
theorem aXD:bN Tryz.prog [eD,gP] kL false 3000 ⟨[(2991,1001,[.dr 8,.dr 0,.tm 4 0,.sl 12]),(2981,2004,iL 13 9++[.dr 4,.tm 5 0,.sl 13]),(2971,4007,iL 42 38++[.dr 5,.tm 6 0,.sl 14]),(2961,8010,iL 60 56++[.dr 6,.tm 7 0,.sl 15])],[(2983,3004,[33,25],[]),(2973,6007,[52],[]),(2963,12010,[70],[]),(2953,24013,[88],[])]⟩ = .ok aC0:=by kernel_rfl
theorem aV1 (x:bF) (hx:okD aG x) (hp:(fun x=>aY aG x≤1000000000) x):aC0.wp [eD,gP] [⟨aG,x⟩] [] (fun v=>v.as aG=(fun x=>x) x):=by
 obtain ⟨b,st,a,r⟩:=x
 obtain ⟨h1,h1s,h2,h2m,h3,h3m,h4,h4m⟩:=aGT hp
 have hb:∀ x∈b,List.length x.1≤1000000000∧List.length x.2≤1000000000:=fun x hx=>⟨((iD (t:=aM) h1s).2 x hx).1.1,((iD (t:=aM) h1s).2 x hx).2.1⟩
 delta aC0 eD gP;refine dD ?_
 refine cJ (fun k=>((k:Int),List.take k b)) (List.length b) rfl fun I μ k hk _ go=>?_
 dsimp only
 refine dM ?_
 intro _
 constructor
 ·intro hlt
  have hk':k<b.length:=by omega
  have hm:=hb _ (List.getElem_mem hk')
  simp only[aZ hk']
  (repeat' first|intro _|(refine go _ ?_ ?_ ?_)|(refine go _ ?_ ?_)|(with_reducible apply And.intro))
  all_goals first|omega|(with_reducible exact hm)|(with_reducible exact hm.1)|(with_reducible exact hm.2)|(unfold maxLen;omega)|(simp only[List.length_take];unfold maxLen;omega)|(simp only[List.length_take];omega)|(rw[jF hk'];rfl)
 intro hge
 rw[show List.take k b=b from List.take_of_length_le (by omega)]
 clear go
 refine cJ (fun k=>((k:Int),List.take k st)) (List.length st) rfl fun I μ k hk _ go=>?_
 dsimp only
 refine dM ?_
 intro _
 constructor
 ·intro hlt
  have hk':k<st.length:=by omega
  have hm:=h2m _ (List.getElem_mem hk')
  simp only[aZ hk']
  (repeat' first|intro _|(refine go _ ?_ ?_ ?_)|(refine go _ ?_ ?_)|(with_reducible apply And.intro))
  all_goals first|omega|(with_reducible exact hm)|(with_reducible exact hm.1)|(with_reducible exact hm.2)|(unfold maxLen;omega)|(simp only[List.length_take];unfold maxLen;omega)|(simp only[List.length_take];omega)|(rw[jF hk'];rfl)
 intro hge
 rw[show List.take k st=st from List.take_of_length_le (by omega)]
 clear go
 refine cJ (fun k=>((k:Int),List.take k a)) (List.length a) rfl fun I μ k hk _ go=>?_
 dsimp only
 refine dM ?_
 intro _
 constructor
 ·intro hlt
  have hk':k<a.length:=by omega
  have hm:=h3m _ (List.getElem_mem hk')
  simp only[aZ hk']
  (repeat' first|intro _|(refine go _ ?_ ?_ ?_)|(refine go _ ?_ ?_)|(with_reducible apply And.intro))
  all_goals first|omega|(with_reducible exact hm)|(with_reducible exact hm.1)|(with_reducible exact hm.2)|(unfold maxLen;omega)|(simp only[List.length_take];unfold maxLen;omega)|(simp only[List.length_take];omega)|(rw[jF hk'];rfl)
 intro hge
 rw[show List.take k a=a from List.take_of_length_le (by omega)]
 clear go
 refine cJ (fun k=>((k:Int),List.take k r)) (List.length r) rfl fun I μ k hk _ go=>?_
 dsimp only
 refine dM ?_
 intro _
 constructor
 ·intro hlt
  have hk':k<r.length:=by omega
  have hm:=h4m _ (List.getElem_mem hk')
  simp only[aZ hk']
  (repeat' first|intro _|(refine go _ ?_ ?_ ?_)|(refine go _ ?_ ?_)|(with_reducible apply And.intro))
  all_goals first|omega|(with_reducible exact hm)|(with_reducible exact hm.1)|(with_reducible exact hm.2)|(unfold maxLen;omega)|(simp only[List.length_take];unfold maxLen;omega)|(simp only[List.length_take];omega)|(rw[jF hk'];rfl)
 intro hge
 rw[show List.take k r=r from List.take_of_length_le (by omega)]
theorem aJ1:Con.Holds Tryz.prog kL:=aS aV (aH vJ (aH aBC aT)) aXD aV1
def qY:Con:=⟨68,(.bP9 aG tI),aP,[.val ⟨true,aG,[]⟩,.val ⟨false,tI,[]⟩],[⟨true,aP,[0,0]⟩],false,none,
 ((fun _=>True):(bF × Int)→Prop),
 ((fun x=>bM x.1 x.2):(bF × Int)→(Int × Int))⟩
def aNH:T :=
 .bPA (.cmp .lss .i64) (.bPB tI tI (aQ (.bP9 aG tI) 1 (.Z 0)) (.ci .i64 0)) <|
 .ite (.Z 1) (
  .ret (.bPB tI tI (.ci .i64 0) (.ci .i64 0))) (
  .bPA (.bPD 121 aA) (aK aG 1 (.p1 aG tI (.Z 0))) <|
  .bPA (.cmp .geq .i64) (.bPB tI tI (aQ (.bP9 aG tI) 1 (.Z 0)) (.Z 2)) <|
  .ite (.Z 3) (
   .ret (.bPB tI tI (.ci .i64 0) (.ci .i64 0))) (
   .bPA (.bPE 121 aA) (.bPB (.slice 121 aA) tI (aK aG 1 (.p1 aG tI (.Z 0))) (aQ (.bP9 aG tI) 1 (.Z 0))) <|
   .bPA (.cmp .lss .i64) (.bPB tI tI (.p1 tI dA (.Z 4)) (.ci .i64 0)) <|
   .ite (.Z 5) (
    .ret (.bPB tI tI (.ci .i64 0) (.ci .i64 0))) (
    .bPA (.bPD 95 aP) (aK aA 1 (.Z 4)) <|
    .bPA (.cmp .geq .i64) (.bPB tI tI (.p1 tI dA (.Z 4)) (.Z 6)) <|
    .ite (.Z 7) (
     .ret (.bPB tI tI (.ci .i64 0) (.ci .i64 0))) (
     .bPA (.bPE 95 aP) (.bPB aU tI (aK aA 1 (.Z 4)) (.p1 tI dA (.Z 4))) <|
     .ret (.Z 8)))))
theorem bIR:bN Tryz.prog [] qY false 3000 ⟨[],[]⟩ = .ok aNH:=by kernel_rfl
theorem bGX (x:bF × Int) (hx:okD (.bP9 aG tI) x) (hp:(fun _=>True) x):aNH.wp [] [⟨(.bP9 aG tI),x⟩] [] (fun v=>v.as aP=(fun x=>bM x.1 x.2) x):=by
 obtain ⟨p,s⟩:=x
 delta aNH;refine dD ?_
 (refine dM ?_;try with_reducible exact True.intro)
 (repeat' first|intro _|(with_reducible apply And.intro))
 all_goals first|omega|exact aVJ (by omega) (by omega) (by omega) (by omega)|exact bDS (by omega)|skip
theorem aV9:Con.Holds Tryz.prog qY:=aS aV aT bIR bGX
def qX:Con:=⟨62,(.bP9 aG tI),aP,[.val ⟨true,aG,[]⟩,.val ⟨false,tI,[]⟩],[⟨true,aP,[0,0]⟩],false,none,
 ((fun _=>True):(bF × Int)→Prop),
 ((fun x=>bM x.1 x.2):(bF × Int)→(Int × Int))⟩
def aKP:T :=
 .bPA (.bPD 121 aA) (aK aG 1 (.p1 aG tI (.Z 0))) <|
 .bPA (.ar .sub .i64) (.bPB tI tI (.Z 1) (.ci .i64 1)) <|
 .call 0 (bG (.bP9 tI aP) [(aQ (.bP9 aG tI) 1 (.Z 0)),(.ci .i64 0),(.Z 2)]) <|
 .bPA .not (.Z 3) <|
 .ite (.Z 4) (
  .ret (.bPB tI tI (.ci .i64 0) (.ci .i64 0))) (
  .bPA (.bPE 121 aA) (.bPB (.slice 121 aA) tI (aK aG 1 (.p1 aG tI (.Z 0))) (aQ (.bP9 aG tI) 1 (.Z 0))) <|
  .bPA (.bPE 121 aA) (.bPB (.slice 121 aA) tI (aK aG 1 (.p1 aG tI (.Z 0))) (aQ (.bP9 aG tI) 1 (.Z 0))) <|
  .bPA (.bPD 95 aP) (aK aA 1 (.Z 6)) <|
  .bPA (.ar .sub .i64) (.bPB tI tI (.Z 7) (.ci .i64 1)) <|
  .call 0 (bG (.bP9 tI aP) [(.p1 tI dA (.Z 5)),(.ci .i64 0),(.Z 8)]) <|
  .bPA .not (.Z 9) <|
  .ite (.Z 10) (
   .ret (.bPB tI tI (.ci .i64 0) (.ci .i64 0))) (
   .bPA (.bPE 121 aA) (.bPB (.slice 121 aA) tI (aK aG 1 (.p1 aG tI (.Z 0))) (aQ (.bP9 aG tI) 1 (.Z 0))) <|
   .bPA (.bPE 121 aA) (.bPB (.slice 121 aA) tI (aK aG 1 (.p1 aG tI (.Z 0))) (aQ (.bP9 aG tI) 1 (.Z 0))) <|
   .bPA (.bPE 95 aP) (.bPB aU tI (aK aA 1 (.Z 11)) (.p1 tI dA (.Z 12))) <|
   .ret (.Z 13)))
theorem bI0:bN Tryz.prog [bK] qX false 3000 ⟨[],[]⟩ = .ok aKP:=by kernel_rfl
theorem bKK (x:bF × Int) (hx:okD (.bP9 aG tI) x) (hp:(fun _=>True) x):aKP.wp [bK] [⟨(.bP9 aG tI),x⟩] [] (fun v=>v.as aP=(fun x=>bM x.1 x.2) x):=by
 obtain ⟨p,s⟩:=x
 have hm:∀ k,k<p.2.1.length→(p.2.1.getD k (aX aA)).2.1.length≤9223372036854775807:=fun k hk=>by rw[aZ hk];exact (hx.1.2.1.2 _ (List.getElem_mem hk)).2.1.1
 have hm1:p.2.1.length≤9223372036854775807:=hx.1.2.1.1
 have hm2:=hm s.toNat
 delta aKP bK;refine dD ?_
 (refine dM ?_;try with_reducible exact True.intro)
 (repeat' first|intro _|(with_reducible apply And.intro))
 all_goals first|omega|exact aVJ (by omega) (by omega) (by omega) (by omega)|exact bDS (by omega)|skip
theorem aUX:Con.Holds Tryz.prog qX:=aS aV (aH fM aT) bI0 bKK
def qS:Con:=⟨124,aO,.bool,[.val ⟨true,aO,[]⟩],[⟨false,.bool,[0]⟩],false,none,
 ((fun _=>True):(cH)→Prop),
 ((fun x=>aIY x):(cH)→(Bool))⟩
def aB6:T :=
 .bPA (.bPD 161 aF) (aQ aO 1 (.Z 0)) <|
 .bPA (.cmp .lss .i64) (.bPB tI tI (.Z 1) (.p1 tI (.slice 161 aF) (.Z 0))) <|
 .ret (.Z 2)
theorem aUP:bN Tryz.prog [] qS false 3000 ⟨[],[]⟩ = .ok aB6:=by kernel_rfl
theorem aW9 (x:cH) (hx:okD aO x) (hp:(fun _=>True) x):aB6.wp [] [⟨aO,x⟩] [] (fun v=>v.as .bool=(fun x=>aIY x) x):=by
 delta aB6;refine dD ?_
 exact fun _=>rfl
theorem aTR:Con.Holds Tryz.prog qS:=aS aV aT aUP aW9
def uN:Con:=⟨116,aG,.bool,[.val ⟨true,aG,[]⟩],[⟨false,.bool,[0]⟩],false,none,
 ((fun _=>True):(bF)→Prop),
 ((fun x=>bIB x):(bF)→(Bool))⟩
def aFU:T:=.loop tI (.ci .i64 0) <|
 .bPA (.bPD 121 aA) (aK aG 1 (.Z 0)) <|
 .bPA (.cmp .lss .i64) (.bPB tI tI (.Z 1) (.Z 2)) <|
 .ite (.Z 3) (
  .bPA (.bPE 121 aA) (.bPB (.slice 121 aA) tI (aK aG 1 (.Z 0)) (.Z 1)) <|
  .bPA (.bPE 121 aA) (.bPB (.slice 121 aA) tI (aK aG 1 (.Z 0)) (.Z 1)) <|
  .bPA (.bPD 95 aP) (aK aA 1 (.Z 5)) <|
  .bPA (.ar .sub .i64) (.bPB tI tI (.Z 6) (.ci .i64 1)) <|
  .bPA (.cmp .lss .i64) (.bPB tI tI (.p1 tI dA (.Z 4)) (.Z 7)) <|
  .ite (.Z 8) (
   .ret (.cb false)) (
   .bPA (.ar .add .i64) (.bPB tI tI (.Z 1) (.ci .i64 1)) <|
   .bPC 0 (.Z 9))) (
  .ret (.cb true))
theorem bAM:bN Tryz.prog [] uN false 3000 ⟨[(2993,1001,[.dr 0,.tm 3 0])],[]⟩ = .ok aFU:=by kernel_rfl
theorem aYE (x:bF) (hx:okD aG x) (hp:(fun _=>True) x):aFU.wp [] [⟨aG,x⟩] [] (fun v=>v.as .bool=(fun x=>bIB x) x):=by
 have hm:∀ k,k<x.2.1.length→(x.2.1.getD k (aX aA)).2.1.length≤9223372036854775807:=fun k hk=>by rw[aZ hk];exact (hx.2.1.2 _ (List.getElem_mem hk)).2.1.1
 have hm1:x.2.1.length≤9223372036854775807:=hx.2.1.1
 delta aFU;refine dD ?_
 rw[bDX]
 refine rL (fun k=>(k:Int)) (fun k=>(List.take k x.2.1).all aG6=true) (List.length x.2.1) rfl rfl fun I μ k hk hG _ go=>?_
 try dsimp only
 refine dM ?_
 intro _
 constructor
 ·intro hlt
  have hk':k<x.2.1.length:=by omega
  have hm2:=hm k hk'
  have e:=mV aG6 x.2.1 hk'
  have ng:∀ P:Prop,aG6 x.2.1[k]=false→false=x.2.1.all aG6:=fun _ h=>(vH hk' h).symm
  rw[aZ hk'] at hm2
  simp only[aZ hk']
  (repeat' first|intro _|(refine go _ ?_ ?_ ?_)|(refine go _ ?_ ?_)|(with_reducible apply And.intro))
  all_goals first|omega|exact ng True (decide_eq_false (by omega))|(rw[e,hG,Bool.true_and];exact decide_eq_true (by omega))|rfl
 ·intro hge
  exact (aJO hG (by omega)).symm
theorem bAE:Con.Holds Tryz.prog uN:=aS aV aT bAM aYE
def kK:Con:=⟨69,(.bP9 aG tI),.bool,[.val ⟨true,aG,[]⟩,.val ⟨false,tI,[]⟩],[⟨false,.bool,[0]⟩],false,none,
 ((fun _=>True):(bF × Int)→Prop),
 ((fun x=>eB x.1 x.2):(bF × Int)→(Bool))⟩
def aBA:T:=.call 0 (.p1 aG tI (.Z 0)) <|
 .bPA .not (.Z 1) <|
 .ite (.Z 2) (
  .ret (.cb false)) (
  .bPA (.cmp .lss .i64) (.bPB tI tI (aQ (.bP9 aG tI) 1 (.Z 0)) (.ci .i64 0)) <|
  .ite (.Z 3) (
   .ret (.cb false)) (
   .bPA (.bPD 121 aA) (aK aG 1 (.p1 aG tI (.Z 0))) <|
   .bPA (.cmp .geq .i64) (.bPB tI tI (aQ (.bP9 aG tI) 1 (.Z 0)) (.Z 4)) <|
   .ite (.Z 5) (
    .ret (.cb false)) (
    .bPA (.bPD 121 aA) (aK aG 1 (.p1 aG tI (.Z 0))) <|
    .bPA (.ar .sub .i64) (.bPB tI tI (.Z 6) (.ci .i64 1)) <|
    .bPA (.cmp .lss .i64) (.bPB tI tI (aQ (.bP9 aG tI) 1 (.Z 0)) (.Z 7)) <|
    .call 1 (.Z 0) <|
    .bPA (.cmp .eql .i64) (.bPB tI tI (.p1 tI tI (.Z 9)) (.ci .i64 1)) <|
    .ite (.Z 10) (
     .bPA (.cmp .gtr .i64) (.bPB tI tI (aQ (.bP9 aG tI) 1 (.Z 0)) (.ci .i64 0)) <|
     .ite (.Z 11) (
      .bPA (.ar .sub .i64) (.bPB tI tI (aQ (.bP9 aG tI) 1 (.Z 0)) (.ci .i64 1)) <|
      .bPA (.bPE 157 aO) (.bPB aL tI (aK aG 2 (.p1 aG tI (.Z 0))) (.Z 12)) <|
      .bPA (.bPD 161 aF) (aQ aO 1 (.Z 13)) <|
      .bPA (.cmp .gtr .i64) (.bPB tI tI (.Z 14) (.ci .i64 0)) <|
      .ret (.Z 15)) (
      .ret (.cb false))) (
     .bPA (.cmp .eql .i64) (.bPB tI tI (.p1 tI tI (.Z 9)) (.ci .i64 3)) <|
     .ite (.Z 11) (
      .ite (.Z 8) (
       .bPA (.bPE 157 aO) (.bPB aL tI (aK aG 2 (.p1 aG tI (.Z 0))) (aQ (.bP9 aG tI) 1 (.Z 0))) <|
       .call 2 (.Z 12) <|
       .ret (.Z 13)) (
       .ret (.cb false))) (
      .bPA (.cmp .eql .i64) (.bPB tI tI (.p1 tI tI (.Z 9)) (.ci .i64 4)) <|
      .ite (.Z 12) (
       .ite (.Z 8) (
        .bPA (.bPE 157 aO) (.bPB aL tI (aQ aG 3 (.p1 aG tI (.Z 0))) (aQ (.bP9 aG tI) 1 (.Z 0))) <|
        .bPA (.bPD 161 aF) (aQ aO 1 (.Z 13)) <|
        .bPA (.cmp .gtr .i64) (.bPB tI tI (.Z 14) (.ci .i64 0)) <|
        .ret (.Z 15)) (
        .ret (.cb false))) (
       .bPA (.cmp .eql .i64) (.bPB tI tI (.p1 tI tI (.Z 9)) (.ci .i64 7)) <|
       .ite (.Z 13) (
        .bPA (.cmp .gtr .i64) (.bPB tI tI (aQ (.bP9 aG tI) 1 (.Z 0)) (.ci .i64 0)) <|
        .ite (.Z 14) (
         .bPA (.ar .sub .i64) (.bPB tI tI (aQ (.bP9 aG tI) 1 (.Z 0)) (.ci .i64 1)) <|
         .bPA (.bPE 157 aO) (.bPB aL tI (aQ aG 3 (.p1 aG tI (.Z 0))) (.Z 15)) <|
         .call 2 (.Z 16) <|
         .ret (.Z 17)) (
         .ret (.cb false))) (
        .bPA (.cmp .eql .i64) (.bPB tI tI (.p1 tI tI (.Z 9)) (.ci .i64 2)) <|
        .ite (.Z 14) (
         .ret (.cb true)) (
         .bPA (.cmp .eql .i64) (.bPB tI tI (.p1 tI tI (.Z 9)) (.ci .i64 5)) <|
         .ite (.Z 15) (
          .ret (.cb true)) (
          .bPA (.cmp .eql .i64) (.bPB tI tI (.p1 tI tI (.Z 9)) (.ci .i64 6)) <|
          .ite (.Z 16) (
           .ret (.cb true)) (
           .bPA (.cmp .eql .i64) (.bPB tI tI (.p1 tI tI (.Z 9)) (.ci .i64 8)) <|
           .ite (.Z 17) (
            .bPA (.bPD 121 aA) (aK aG 1 (.p1 aG tI (.Z 0))) <|
            .loop tI (.ci .i64 0) <|
             .bPA (.cmp .lss .i64) (.bPB tI tI (.Z 19) (.Z 18)) <|
             .ite (.Z 20) (
              .bPA (.bPE 121 aA) (.bPB (.slice 121 aA) tI (aK aG 1 (.p1 aG tI (.Z 0))) (.Z 19)) <|
              .bPA (.bPD 95 aP) (aK aA 1 (.Z 21)) <|
              .bPA (.ar .sub .i64) (.bPB tI tI (.Z 22) (.ci .i64 1)) <|
              .bPA (.cmp .lss .i64) (.bPB tI tI (.p1 tI dA (.Z 21)) (.Z 23)) <|
              .ite (.Z 24) (
               .ret (.cb false)) (
               .bPA (.ar .add .i64) (.bPB tI tI (.Z 19) (.ci .i64 1)) <|
               .bPC 0 (.Z 25))) (
              .ret (.cb true))) (
            .ret (.cb false))))))))))))
theorem aVT:bN Tryz.prog [uO,qY,qS] kK false 3000 ⟨[(2958,3072019,[.dr 90,.dr 88,.dr 89,.dr 84]++iL 87 85++[.dr 71,.dr 72,.dr 58,.dr 59,.dr 47,.dr 48,.dr 32,.dr 33]++iL 31 28++[.dr 5]++iL 27 8++[.dr 2,.dr 0,.dr 1,.tm 93 0])],[]⟩ = .ok aBA:=by kernel_rfl
set_option maxHeartbeats 1000000 in
theorem aU0 (x:bF × Int) (hx:okD (.bP9 aG tI) x) (hp:(fun _=>True) x):aBA.wp [uO,qY,qS] [⟨(.bP9 aG tI),x⟩] [] (fun v=>v.as .bool=(fun x=>eB x.1 x.2) x):=by
 obtain ⟨p,s⟩:=x
 have hm:∀ k,k<p.2.1.length→(p.2.1.getD k (aX aA)).2.1.length≤9223372036854775807:=fun k hk=>by rw[aZ hk];exact (hx.1.2.1.2 _ (List.getElem_mem hk)).2.1.1
 have hm1:p.2.1.length≤9223372036854775807:=hx.1.2.1.1
 delta aBA uO qY qS;refine dD ?_
 refine dM ?_
 refine ⟨fun h=>aPW (.inl h),fun h1=>⟨fun h=>aPW (.inr (.inl h)),fun h2 _=>⟨fun h=>aPW (.inr (.inr h)),fun h3 _=>⟨by omega,fun _ _=>?_⟩⟩⟩⟩
 have hp':=(nK.1 h1).1
 (repeat' first|intro _|(with_reducible apply And.intro))
 all_goals first|omega|exact bGG h1 h2 h3 (.inl (by assumption))|exact bGG h1 h2 h3 (.inr (.inl (by assumption)))|exact bGG h1 h2 h3 (.inr (.inr (by assumption)))|exact bO4 ⟨by assumption,by assumption,by assumption,by assumption,by assumption,by assumption,by assumption,by assumption⟩|exact bND h1 h2 h3 (by assumption) (by omega)|exact bNB h1 h2 h3 (by assumption) (by omega)|exact bNE h1 h2 h3 (by assumption) (by omega)|exact bNA h1 h2 h3 (by assumption) (by omega)|exact bNH h1 h2 h3 (by assumption) (by omega)|exact bN9 h1 h2 h3 (by assumption) (by omega)|exact bNN h1 h2 h3 (by assumption) (by omega)|exact bNJ h1 h2 h3 (by assumption) (by omega)|skip
 rw[bP0 h1 h2 h3 (by assumption),bDX]
 refine rL (fun k=>(k:Int)) (fun k=>(List.take k p.2.1).all aG6=true) (List.length p.2.1) rfl rfl fun I μ k hk hG _ go=>?_
 try dsimp only
 refine dM ?_
 constructor
 ·intro hlt
  have hk':k<p.2.1.length:=by omega
  have hm2:=hm k hk'
  have e:=mV aG6 p.2.1 hk'
  have ng:∀ P:Prop,aG6 p.2.1[k]=false→false=p.2.1.all aG6:=fun _ h=>(vH hk' h).symm
  rw[aZ hk'] at hm2
  simp only[aZ hk']
  (repeat' first|intro _|(refine go _ ?_ ?_ ?_)|(refine go _ ?_ ?_)|(with_reducible apply And.intro))
  all_goals first|omega|exact ng True (decide_eq_false (by omega))|(rw[e,hG,Bool.true_and];exact decide_eq_true (by omega))|rfl
 ·intro hge
  exact (aJO hG (by omega)).symm
set_option maxHeartbeats 1000000 in
theorem aII:Con.Holds Tryz.prog kK:=aS aV (aH aZN (aH aV9 (aH aTR aT))) aVT aU0
def kO:Con:=⟨63,(.bP9 aG tI),.bool,[.val ⟨true,aG,[]⟩,.val ⟨false,tI,[]⟩],[⟨false,.bool,[0]⟩],false,none,
 ((fun _=>True):(bF × Int)→Prop),
 ((fun x=>eB x.1 x.2):(bF × Int)→(Bool))⟩
def aC4:T:=.call 0 (.p1 aG tI (.Z 0)) <|
 .bPA .not (.Z 1) <|
 .ite (.Z 2) (
  .ret (.cb false)) (
  .bPA (.bPD 121 aA) (aK aG 1 (.p1 aG tI (.Z 0))) <|
  .bPA (.ar .sub .i64) (.bPB tI tI (.Z 3) (.ci .i64 1)) <|
  .call 1 (bG (.bP9 tI aP) [(aQ (.bP9 aG tI) 1 (.Z 0)),(.ci .i64 0),(.Z 4)]) <|
  .bPA .not (.Z 5) <|
  .ite (.Z 6) (
   .ret (.cb false)) (
   .call 2 (.Z 0) <|
   .bPA (.cmp .eql .i64) (.bPB tI tI (.p1 tI tI (.Z 7)) (.ci .i64 1)) <|
   .ite (.Z 8) (
    .bPA (.cmp .gtr .i64) (.bPB tI tI (aQ (.bP9 aG tI) 1 (.Z 0)) (.ci .i64 0)) <|
    .ite (.Z 9) (
     .bPA (.ar .sub .i64) (.bPB tI tI (aQ (.bP9 aG tI) 1 (.Z 0)) (.ci .i64 1)) <|
     .bPA (.bPE 157 aO) (.bPB aL tI (aK aG 2 (.p1 aG tI (.Z 0))) (.Z 10)) <|
     .bPA (.bPD 161 aF) (aQ aO 1 (.Z 11)) <|
     .bPA (.cmp .gtr .i64) (.bPB tI tI (.Z 12) (.ci .i64 0)) <|
     .ret (.Z 13)) (
     .ret (.cb false))) (
    .bPA (.cmp .eql .i64) (.bPB tI tI (.p1 tI tI (.Z 7)) (.ci .i64 3)) <|
    .ite (.Z 9) (
     .bPA (.bPD 121 aA) (aK aG 1 (.p1 aG tI (.Z 0))) <|
     .bPA (.ar .sub .i64) (.bPB tI tI (.Z 10) (.ci .i64 1)) <|
     .bPA (.cmp .lss .i64) (.bPB tI tI (aQ (.bP9 aG tI) 1 (.Z 0)) (.Z 11)) <|
     .ite (.Z 12) (
      .bPA (.bPE 157 aO) (.bPB aL tI (aK aG 2 (.p1 aG tI (.Z 0))) (aQ (.bP9 aG tI) 1 (.Z 0))) <|
      .bPA (.bPD 161 aF) (aQ aO 1 (.Z 13)) <|
      .bPA (.bPE 157 aO) (.bPB aL tI (aK aG 2 (.p1 aG tI (.Z 0))) (aQ (.bP9 aG tI) 1 (.Z 0))) <|
      .bPA (.cmp .lss .i64) (.bPB tI tI (.Z 14) (.p1 tI (.slice 161 aF) (.Z 15))) <|
      .ret (.Z 16)) (
      .ret (.cb false))) (
     .bPA (.cmp .eql .i64) (.bPB tI tI (.p1 tI tI (.Z 7)) (.ci .i64 4)) <|
     .ite (.Z 10) (
      .bPA (.bPD 121 aA) (aK aG 1 (.p1 aG tI (.Z 0))) <|
      .bPA (.ar .sub .i64) (.bPB tI tI (.Z 11) (.ci .i64 1)) <|
      .bPA (.cmp .lss .i64) (.bPB tI tI (aQ (.bP9 aG tI) 1 (.Z 0)) (.Z 12)) <|
      .ite (.Z 13) (
       .bPA (.bPE 157 aO) (.bPB aL tI (aQ aG 3 (.p1 aG tI (.Z 0))) (aQ (.bP9 aG tI) 1 (.Z 0))) <|
       .bPA (.bPD 161 aF) (aQ aO 1 (.Z 14)) <|
       .bPA (.cmp .gtr .i64) (.bPB tI tI (.Z 15) (.ci .i64 0)) <|
       .ret (.Z 16)) (
       .ret (.cb false))) (
      .bPA (.cmp .eql .i64) (.bPB tI tI (.p1 tI tI (.Z 7)) (.ci .i64 7)) <|
      .ite (.Z 11) (
       .bPA (.cmp .gtr .i64) (.bPB tI tI (aQ (.bP9 aG tI) 1 (.Z 0)) (.ci .i64 0)) <|
       .ite (.Z 12) (
        .bPA (.ar .sub .i64) (.bPB tI tI (aQ (.bP9 aG tI) 1 (.Z 0)) (.ci .i64 1)) <|
        .bPA (.ar .sub .i64) (.bPB tI tI (aQ (.bP9 aG tI) 1 (.Z 0)) (.ci .i64 1)) <|
        .bPA (.bPE 157 aO) (.bPB aL tI (aQ aG 3 (.p1 aG tI (.Z 0))) (.Z 13)) <|
        .bPA (.bPD 161 aF) (aQ aO 1 (.Z 15)) <|
        .bPA (.bPE 157 aO) (.bPB aL tI (aQ aG 3 (.p1 aG tI (.Z 0))) (.Z 14)) <|
        .bPA (.cmp .lss .i64) (.bPB tI tI (.Z 16) (.p1 tI (.slice 161 aF) (.Z 17))) <|
        .ret (.Z 18)) (
        .ret (.cb false))) (
       .bPA (.cmp .eql .i64) (.bPB tI tI (.p1 tI tI (.Z 7)) (.ci .i64 2)) <|
       .ite (.Z 12) (
        .ret (.cb true)) (
        .bPA (.cmp .eql .i64) (.bPB tI tI (.p1 tI tI (.Z 7)) (.ci .i64 5)) <|
        .ite (.Z 13) (
         .ret (.cb true)) (
         .bPA (.cmp .eql .i64) (.bPB tI tI (.p1 tI tI (.Z 7)) (.ci .i64 6)) <|
         .ite (.Z 14) (
          .ret (.cb true)) (
          .bPA (.cmp .eql .i64) (.bPB tI tI (.p1 tI tI (.Z 7)) (.ci .i64 8)) <|
          .ite (.Z 15) (
           .call 3 (.p1 aG tI (.Z 0)) <|
           .ret (.Z 16)) (
           .ret (.cb false)))))))))))
theorem aUK:bN Tryz.prog [sL,bK,qX,uN] kO false 3000 ⟨[],[]⟩ = .ok aC4:=by kernel_rfl
set_option maxHeartbeats 1000000 in
theorem aWW (x:bF × Int) (hx:okD (.bP9 aG tI) x) (hp:(fun _=>True) x):aC4.wp [sL,bK,qX,uN] [⟨(.bP9 aG tI),x⟩] [] (fun v=>v.as .bool=(fun x=>eB x.1 x.2) x):=by
 obtain ⟨p,s⟩:=x
 have hm1:p.2.1.length≤9223372036854775807:=hx.1.2.1.1
 delta aC4 sL bK qX uN;refine dD ?_
 refine dM ?_
 refine ⟨fun h=>aPW (.inl h),fun h1 _=>⟨by omega,fun _=>⟨fun h=>aPW (.inr (by omega)),fun hs _=>?_⟩⟩⟩
 have h2:0≤s:=hs.1
 have h3:s<(p.2.1.length:Int):=by omega
 have hp':=(nK.1 h1).1
 (repeat' first|intro _|(with_reducible apply And.intro))
 all_goals first|omega|exact bGG h1 h2 h3 (.inl (by assumption))|exact bGG h1 h2 h3 (.inr (.inl (by assumption)))|exact bGG h1 h2 h3 (.inr (.inr (by assumption)))|exact bO4 ⟨by assumption,by assumption,by assumption,by assumption,by assumption,by assumption,by assumption,by assumption⟩|exact bND h1 h2 h3 (by assumption) (by omega)|exact bNB h1 h2 h3 (by assumption) (by omega)|exact bNE h1 h2 h3 (by assumption) (by omega)|exact bNA h1 h2 h3 (by assumption) (by omega)|exact bNH h1 h2 h3 (by assumption) (by omega)|exact bN9 h1 h2 h3 (by assumption) (by omega)|exact bNN h1 h2 h3 (by assumption) (by omega)|exact bNJ h1 h2 h3 (by assumption) (by omega)|skip
 all_goals exact (bP0 h1 h2 h3 (by assumption)).symm
set_option maxHeartbeats 1000000 in
theorem aIN:Con.Holds Tryz.prog kO:=aS aV (aH aYU (aH fM (aH aUX (aH bAE aT)))) aUK aWW
end
end Go.Proofs.YtmfpkkbhnmkfdaaGreat
