/- DrawR: lemmas. No conditions. -/
import Derived.Test.YtpafjioccjpmfaaGreatDraw2
namespace Go.Proofs.YtpafjioccjpmfaaGreat
noncomputable section
set_option maxRecDepth 100000
open Go.ChangeShapes Go.WideShapes Go.ChangeAt Go.RowKit Go.Deep
set_option linter.unusedVariables false
set_option linter.unusedSimpArgs false
def aGW:Con:=⟨83,(.bPW (.slice 5 (.int .u8)) aD),(.bPW bU (.bPW (.slice 5 (.int .u8)) aD)),[.box 91 ⟨true,(.bPW (.slice 5 (.int .u8)) aD),[]⟩],[⟨true,bU,[0,0,0,1]⟩],false,none,
 ((fun x=>0≤x.2.1):(aN)→Prop),
 ((fun _=>aP (.bPW bU (.bPW (.slice 5 (.int .u8)) aD))):(aN)→(cZ × aN))⟩
def aGK:T:=.call 0 (.bPY (.bPW (.slice 5 (.int .u8)) aD) tI (.Z 0) (.ci .i64 3)) <|
 .bPX (.ar .add .i64) (.bPY tI tI (.ci .i64 1) (.p1 tI (.bPW (.slice 5 (.int .u8)) aD) (.Z 1))) <|
 .call 1 (.bPY (.bPW (.slice 5 (.int .u8)) aD) tI (aS (.bPW tI (.bPW (.slice 5 (.int .u8)) aD)) 1 (.Z 1)) (.Z 2)) <|
 .call 0 (.bPY (.bPW (.slice 5 (.int .u8)) aD) tI (aS (.bPW bU (.bPW (.slice 5 (.int .u8)) aD)) 1 (.Z 3)) (.ci .i64 14)) <|
 .bPX (.cmp .eql .i64) (.bPY tI tI (.p1 tI (.bPW (.slice 5 (.int .u8)) aD) (.Z 4)) (.ci .i64 0)) <|
 .ite (.Z 5) (
  .call 0 (.bPY (.bPW (.slice 5 (.int .u8)) aD) tI (aS (.bPW tI (.bPW (.slice 5 (.int .u8)) aD)) 1 (.Z 4)) (.ci .i64 8)) <|
  .bPX (.ar .sub .i64) (.bPY tI tI (.p1 tI (.bPW (.slice 5 (.int .u8)) aD) (.Z 6)) (.ci .i64 1)) <|
  .ret (.bPY bU (.bPW (.slice 5 (.int .u8)) aD) (.bPY tI (.bPW tI aI) (.Z 7) (aS bU 1 (.p1 bU (.bPW (.slice 5 (.int .u8)) aD) (.Z 3)))) (aS (.bPW tI (.bPW (.slice 5 (.int .u8)) aD)) 1 (.Z 6)))) (
  .bPX (.cmp .eql .i64) (.bPY tI tI (.p1 tI (.bPW (.slice 5 (.int .u8)) aD) (.Z 4)) (.ci .i64 1)) <|
  .ite (.Z 6) (
   .bPX (.ar .add .i64) (.bPY tI tI (aH bU 1 (.p1 bU (.bPW (.slice 5 (.int .u8)) aD) (.Z 3))) (.ci .i64 1)) <|
   .bPX (.lit 3 tI 3) (bP (.bPW tI aD) [(.ci .i64 0),(.ci .i64 7),(.Z 7)]) <|
   .call 2 (.bPY (.bPW (.slice 5 (.int .u8)) aD) aB (aS (.bPW tI (.bPW (.slice 5 (.int .u8)) aD)) 1 (.Z 4)) (.Z 8)) <|
   .ret (.bPY bU (.bPW (.slice 5 (.int .u8)) aD) (bP bU [(.p1 tI (.bPW tI aI) (.p1 bU (.bPW (.slice 5 (.int .u8)) aD) (.Z 3))),(.p1 tI (.bPW (.slice 5 (.int .u8)) aD) (.Z 9)),(aS bU 2 (.p1 bU (.bPW (.slice 5 (.int .u8)) aD) (.Z 3)))]) (aS (.bPW tI (.bPW (.slice 5 (.int .u8)) aD)) 1 (.Z 9)))) (
   .bPX (.cmp .eql .i64) (.bPY tI tI (.p1 tI (.bPW (.slice 5 (.int .u8)) aD) (.Z 4)) (.ci .i64 2)) <|
   .ite (.Z 7) (
    .bPX (.lit 3 tI 1) (.ci .i64 0) <|
    .bPX (.bQ3 3 tI 8) (.bPY aB aB (aS bU 3 (.p1 bU (.bPW (.slice 5 (.int .u8)) aD) (.Z 3))) (.Z 8)) <|
    .ret (.bPY bU (.bPW (.slice 5 (.int .u8)) aD) (bP bU [(.p1 tI (.bPW tI aI) (.p1 bU (.bPW (.slice 5 (.int .u8)) aD) (.Z 3))),(aH bU 1 (.p1 bU (.bPW (.slice 5 (.int .u8)) aD) (.Z 3))),(aH bU 2 (.p1 bU (.bPW (.slice 5 (.int .u8)) aD) (.Z 3))),(.Z 9)]) (aS (.bPW tI (.bPW (.slice 5 (.int .u8)) aD)) 1 (.Z 4)))) (
    .bPX (.cmp .eql .i64) (.bPY tI tI (.p1 tI (.bPW (.slice 5 (.int .u8)) aD) (.Z 4)) (.ci .i64 3)) <|
    .ite (.Z 8) (
     .bPX (.bQ0 3 tI) (aS bU 3 (.p1 bU (.bPW (.slice 5 (.int .u8)) aD) (.Z 3))) <|
     .bPX (.cmp .gtr .i64) (.bPY tI tI (.Z 9) (.ci .i64 0)) <|
     .ite (.Z 10) (
      .call 3 (aS (.bPW tI (.bPW (.slice 5 (.int .u8)) aD)) 1 (.Z 4)) <|
      .bPX (.bQ1 3 tI) (.bPY aB tI (aS bU 3 (.p1 bU (.bPW (.slice 5 (.int .u8)) aD) (.Z 3))) (.ci .i64 0)) <|
      .bPX (.bQ4 3 tI) (bP (.bPW aB aD) [(aS bU 3 (.p1 bU (.bPW (.slice 5 (.int .u8)) aD) (.Z 3))),(.ci .i64 0),(.p1 tI (.bPW (.slice 5 (.int .u8)) aD) (.Z 11))]) <|
      .ret (.bPY bU (.bPW (.slice 5 (.int .u8)) aD) (bP bU [(.p1 tI (.bPW tI aI) (.p1 bU (.bPW (.slice 5 (.int .u8)) aD) (.Z 3))),(aH bU 1 (.p1 bU (.bPW (.slice 5 (.int .u8)) aD) (.Z 3))),(aH bU 2 (.p1 bU (.bPW (.slice 5 (.int .u8)) aD) (.Z 3))),(.Z 13)]) (aS (.bPW tI (.bPW (.slice 5 (.int .u8)) aD)) 1 (.Z 11)))) (
      .ret (.bPY bU (.bPW (.slice 5 (.int .u8)) aD) (.p1 bU (.bPW (.slice 5 (.int .u8)) aD) (.Z 3)) (aS (.bPW tI (.bPW (.slice 5 (.int .u8)) aD)) 1 (.Z 4))))) (
     .ret (.bPY bU (.bPW (.slice 5 (.int .u8)) aD) (.p1 bU (.bPW (.slice 5 (.int .u8)) aD) (.Z 3)) (aS (.bPW tI (.bPW (.slice 5 (.int .u8)) aD)) 1 (.Z 4)))))))
theorem bDN (f:(aN)→(cZ × aN)):bW Tryz.prog [bN,sP,cM,pH] { aGW with fn:=f } false 3000 ⟨[],[(2985,6007,[23],[])]⟩ = .ok aGK:=by kernel_rfl
theorem bD7 (x:aN) (hx:okD (.bPW (.slice 5 (.int .u8)) aD) x) (hp:(fun x=>0≤x.2.1) x):aGK.wp [bN,sP,cM,pH] [⟨(.bPW (.slice 5 (.int .u8)) aD),x⟩] [] (fun v=>(fun x r=>r.1.2.2.2.length≤40∧0≤r.2.2.1:(aN)→(cZ × aN)→Prop) x (v.as (.bPW bU (.bPW (.slice 5 (.int .u8)) aD)))):=by
 have q1:=cK (x,3) ⟨hx,okI (by omega) (by omega)⟩ hp
 delta aGK bN sP cM pH;refine dY ?_
 refine eD ?_
 refine ⟨hp,fun _=>?_⟩
 generalize cF (x,3)=r at q1 ⊢;obtain ⟨n1,c1⟩:=r;obtain ⟨k1,u1⟩:=q1;replace k1:okD mM c1:=k1.2;dsimp only at u1 ⊢
 refine ⟨by omega,fun _=>⟨⟨u1.2.2.2,by omega,by omega⟩,fun _=>?_⟩⟩
 have q2:=aV9 (c1,1+n1) ⟨k1,okI (by omega) (by omega)⟩ ⟨u1.2.2.2,by show 1≤1+n1;omega,by show 1+n1≤6;omega⟩
 generalize wM (c1,1+n1)=r at q2 ⊢;obtain ⟨o2,c2⟩:=r;obtain ⟨k2,u2⟩:=q2;have ko:=k2.1;replace k2:okD mM c2:=k2.2;dsimp only at u2 ⊢
 have hP:=bAX u2.1.1
 have hI:=((eH _).1 u2.1.1).1
 refine ⟨u2.2,fun _=>?_⟩
 have q3:=cK (c2,14) ⟨k2,okI (by omega) (by omega)⟩ u2.2
 generalize cF (c2,14)=r at q3 ⊢;obtain ⟨n3,c3⟩:=r;obtain ⟨k3,u3⟩:=q3;replace k3:okD mM c3:=k3.2;dsimp only at u3 ⊢
 have hc3:=u3.2.2.2
 refine ⟨fun _=>⟨hc3,fun _=>?_⟩,fun _=>⟨fun _=>?_,fun _=>⟨fun _=>?_,fun _=>⟨fun _=>?_,fun _=>?_⟩⟩⟩⟩
 ·have q4:=(cK (c3,8) ⟨k3,okI (by omega) (by omega)⟩ hc3).2
  generalize cF (c3,8)=r at q4 ⊢;obtain ⟨n4,c4⟩:=r;dsimp only at q4 ⊢
  exact ⟨by omega,fun _=>⟨by omega,q4.2.2.2⟩⟩
 ·obtain ⟨_,_,i3,i4,_⟩:=hI
  refine ⟨by omega,fun h1 h2=>⟨⟨hc3,fun h=>by cases h⟩,fun _=>⟨by omega,?_⟩⟩⟩
  exact (kH (c3,[0,7,o2.2.1+1]) ⟨k3,h2⟩ ⟨hc3,by simp⟩).2.2
 ·exact fun _=>⟨⟨by omega,by unfold maxLen;omega⟩,fun _=>⟨by omega,hc3⟩⟩
 ·have q4:=(aP3 c3 k3 hc3).2
  exact fun _=>⟨fun hl=>⟨hc3,fun _=>⟨⟨by omega,hl⟩,fun _=>⟨⟨by omega,hl⟩,fun _=>⟨by rw[List.length_set];omega,q4⟩⟩⟩⟩,fun _=>⟨by omega,hc3⟩⟩
 ·exact ⟨by omega,hc3⟩
theorem aHR:∃ f:(aN)→(cZ × aN),(∀ x,okD (.bPW (.slice 5 (.int .u8)) aD) x→(fun x=>0≤x.2.1) x→(fun x r=>r.1.2.2.2.length≤40∧0≤r.2.2.1:(aN)→(cZ × aN)→Prop) x (f x))∧Con.Holds Tryz.prog { aGW with fn:=f }:=iX (C:=aGW) aZ (aG eV (aG aK3 (aG jA (aG aGV aT)))) bDN (fun x r=>r.1.2.2.2.length≤40∧0≤r.2.2.1:(aN)→(cZ × aN)→Prop) bD7
def xJ:(aN)→(cZ × aN):=Classical.choose aHR
def aCN:Con:=⟨83,(.bPW (.slice 5 (.int .u8)) aD),(.bPW bU (.bPW (.slice 5 (.int .u8)) aD)),[.box 91 ⟨true,(.bPW (.slice 5 (.int .u8)) aD),[]⟩],[⟨true,bU,[0,0,0,1]⟩],false,none,
 ((fun x=>0≤x.2.1):(aN)→Prop),
 ((xJ):(aN)→(cZ × aN))⟩
theorem bEX:∀ x,okD (.bPW (.slice 5 (.int .u8)) aD) x→(fun x=>0≤x.2.1) x→(fun x r=>r.1.2.2.2.length≤40∧0≤r.2.2.1:(aN)→(cZ × aN)→Prop) x (xJ x):=(Classical.choose_spec aHR).1
theorem aP0:Con.Holds Tryz.prog aCN:=(Classical.choose_spec aHR).2
theorem bDW (x:aN) (hx:okD (.bPW (.slice 5 (.int .u8)) aD) x) (hp:(fun x=>0≤x.2.1) x):okD (.bPW bU (.bPW (.slice 5 (.int .u8)) aD)) (xJ x)∧(fun x r=>r.1.2.2.2.length≤40∧0≤r.2.2.1:(aN)→(cZ × aN)→Prop) x (xJ x):=⟨aP0.ok x hp hx,bEX x hx hp⟩
def aGF:Con:=⟨47,(.bPW (.slice 5 (.int .u8)) aD),(.bPW aE (.bPW (.slice 5 (.int .u8)) aD)),[.box 91 ⟨true,(.bPW (.slice 5 (.int .u8)) aD),[]⟩],[⟨true,aE,[0]⟩],false,none,
 ((fun x=>0≤x.2.1):(aN)→Prop),
 ((fun _=>aP (.bPW aE (.bPW (.slice 5 (.int .u8)) aD))):(aN)→(bE × aN))⟩
def aGC:T:=.call 0 (.Z 0) <|
 .bPX (.bQ0 80 bU) (.p1 aE (.bPW (.slice 5 (.int .u8)) aD) (.Z 1)) <|
 .call 1 (.bPY (.bPW (.slice 5 (.int .u8)) aD) tI (aS (.bPW aE (.bPW (.slice 5 (.int .u8)) aD)) 1 (.Z 1)) (.Z 2)) <|
 .call 1 (.bPY (.bPW (.slice 5 (.int .u8)) aD) tI (aS (.bPW tI (.bPW (.slice 5 (.int .u8)) aD)) 1 (.Z 3)) (.ci .i64 16)) <|
 .bPX (.cmp .eql .i64) (.bPY tI tI (.p1 tI (.bPW (.slice 5 (.int .u8)) aD) (.Z 4)) (.ci .i64 0)) <|
 .ite (.Z 5) (
  .call 2 (aS (.bPW tI (.bPW (.slice 5 (.int .u8)) aD)) 1 (.Z 4)) <|
  .bPX (.bQ1 80 bU) (.bPY aE tI (.p1 aE (.bPW (.slice 5 (.int .u8)) aD) (.Z 1)) (.p1 tI (.bPW (.slice 5 (.int .u8)) aD) (.Z 3))) <|
  .bPX (.bQ4 80 bU) (bP (.bPW aE (.bPW tI bU)) [(.p1 aE (.bPW (.slice 5 (.int .u8)) aD) (.Z 1)),(.p1 tI (.bPW (.slice 5 (.int .u8)) aD) (.Z 3)),(.p1 bU (.bPW (.slice 5 (.int .u8)) aD) (.Z 6))]) <|
  .ret (.bPY aE (.bPW (.slice 5 (.int .u8)) aD) (.Z 8) (aS (.bPW bU (.bPW (.slice 5 (.int .u8)) aD)) 1 (.Z 6)))) (
  .bPX (.cmp .eql .i64) (.bPY tI tI (.p1 tI (.bPW (.slice 5 (.int .u8)) aD) (.Z 4)) (.ci .i64 1)) <|
  .ite (.Z 6) (
   .bPX (.bQ2 80 bU) (bP (.bPW aE aD) [(.p1 aE (.bPW (.slice 5 (.int .u8)) aD) (.Z 1)),(.ci .i64 0),(.p1 tI (.bPW (.slice 5 (.int .u8)) aD) (.Z 3))]) <|
   .ret (.bPY aE (.bPW (.slice 5 (.int .u8)) aD) (.Z 7) (aS (.bPW tI (.bPW (.slice 5 (.int .u8)) aD)) 1 (.Z 4)))) (
   .bPX (.cmp .eql .i64) (.bPY tI tI (.p1 tI (.bPW (.slice 5 (.int .u8)) aD) (.Z 4)) (.ci .i64 2)) <|
   .ite (.Z 7) (
    .loop (.bPW (.slice 5 (.int .u8)) (.bPW tI (.bPW tI aE))) (bP (.bPW (.slice 5 (.int .u8)) (.bPW tI (.bPW tI aE))) [(aH (.bPW tI (.bPW (.slice 5 (.int .u8)) aD)) 1 (.Z 4)),(aH (.bPW tI (.bPW (.slice 5 (.int .u8)) aD)) 2 (.Z 4)),(aS (.bPW tI (.bPW (.slice 5 (.int .u8)) aD)) 3 (.Z 4)),(.p1 aE (.bPW (.slice 5 (.int .u8)) aD) (.Z 1))]) <|
     .bPX (.bQ0 80 bU) (aS (.bPW (.slice 5 (.int .u8)) (.bPW tI (.bPW tI aE))) 3 (.Z 8)) <|
     .call 1 (.bPY (.bPW (.slice 5 (.int .u8)) aD) tI (bP (.bPW (.slice 5 (.int .u8)) aD) [(.p1 (.slice 5 (.int .u8)) (.bPW tI (.bPW tI aE)) (.Z 8)),(aH (.bPW (.slice 5 (.int .u8)) (.bPW tI (.bPW tI aE))) 1 (.Z 8)),(aH (.bPW (.slice 5 (.int .u8)) (.bPW tI (.bPW tI aE))) 2 (.Z 8))]) (.ci .i64 2)) <|
     .bPX (.ar .add .i64) (.bPY tI tI (.ci .i64 8) (.p1 tI (.bPW (.slice 5 (.int .u8)) aD) (.Z 10))) <|
     .bPX (.cmp .lss .i64) (.bPY tI tI (.Z 9) (.Z 11)) <|
     .ite (.Z 12) (
      .bPX (.bQ0 80 bU) (aS (.bPW (.slice 5 (.int .u8)) (.bPW tI (.bPW tI aE))) 3 (.Z 8)) <|
      .bPX (.ar .sub .i64) (.bPY tI tI (.Z 13) (.ci .i64 1)) <|
      .bPX (.bQ1 80 bU) (.bPY aE tI (aS (.bPW (.slice 5 (.int .u8)) (.bPW tI (.bPW tI aE))) 3 (.Z 8)) (.Z 14)) <|
      .bPX (.bQ1 80 bU) (.bPY aE tI (aS (.bPW (.slice 5 (.int .u8)) (.bPW tI (.bPW tI aE))) 3 (.Z 8)) (.Z 14)) <|
      .bPX (.bQ0 80 bU) (aS (.bPW (.slice 5 (.int .u8)) (.bPW tI (.bPW tI aE))) 3 (.Z 8)) <|
      .bPX (.ar .sub .i64) (.bPY tI tI (.Z 17) (.ci .i64 1)) <|
      .bPX (.bQ1 80 bU) (.bPY aE tI (aS (.bPW (.slice 5 (.int .u8)) (.bPW tI (.bPW tI aE))) 3 (.Z 8)) (.Z 18)) <|
      .bPX (.bQ1 80 bU) (.bPY aE tI (aS (.bPW (.slice 5 (.int .u8)) (.bPW tI (.bPW tI aE))) 3 (.Z 8)) (.Z 18)) <|
      .bPX (.lit 80 bU 1) (bP bU [(.ci .i64 3),(aH bU 2 (.Z 16)),(aH bU 2 (.Z 20)),(.nl 3 tI)]) <|
      .bPX (.bQ3 80 bU 48) (.bPY aE aE (aS (.bPW (.slice 5 (.int .u8)) (.bPW tI (.bPW tI aE))) 3 (.Z 8)) (.Z 21)) <|
      .bPZ 0 (bP (.bPW (.slice 5 (.int .u8)) (.bPW tI (.bPW tI aE))) [(aH (.bPW tI (.bPW (.slice 5 (.int .u8)) aD)) 1 (.Z 10)),(aH (.bPW tI (.bPW (.slice 5 (.int .u8)) aD)) 2 (.Z 10)),(aS (.bPW tI (.bPW (.slice 5 (.int .u8)) aD)) 3 (.Z 10)),(.Z 22)])) (
      .ret (.bPY aE (.bPW (.slice 5 (.int .u8)) aD) (aS (.bPW (.slice 5 (.int .u8)) (.bPW tI (.bPW tI aE))) 3 (.Z 8)) (aS (.bPW tI (.bPW (.slice 5 (.int .u8)) aD)) 1 (.Z 10))))) (
    .ret (.bPY aE (.bPW (.slice 5 (.int .u8)) aD) (.p1 aE (.bPW (.slice 5 (.int .u8)) aD) (.Z 1)) (aS (.bPW tI (.bPW (.slice 5 (.int .u8)) aD)) 1 (.Z 4))))))
theorem bDU (f:(aN)→(bE × aN)):bW Tryz.prog [lJ,bN,aCN] { aGF with fn:=f } false 3000 ⟨[(2979,12008,[.dr 29,.dr 30,.dr 22,.dr 23,.dr 14,.dr 15,.dr 13,.dr 12,.dr 4]++jV 11 5++[.bx 1 0,.bx 1 1,.bx 1 2,.sl 4])],[(2983,6007,[],[4])]⟩ = .ok aGC:=by kernel_rfl
theorem bFD (x:aN) (hx:okD (.bPW (.slice 5 (.int .u8)) aD) x) (hp:(fun x=>0≤x.2.1) x):aGC.wp [lJ,bN,aCN] [⟨(.bPW (.slice 5 (.int .u8)) aD),x⟩] [] (fun v=>(fun x r=>r.1.length≤9∧(∀ o∈r.1,o.2.2.2.length≤40)∧0≤r.2.2.1:(aN)→(bE × aN)→Prop) x (v.as (.bPW aE (.bPW (.slice 5 (.int .u8)) aD)))):=by
 have q1:=aI2 x hx hp
 delta aGC lJ bN aCN;refine dY ?_
 refine eD ?_
 refine ⟨hp,fun _=>?_⟩
 generalize nP x=r at q1 ⊢;obtain ⟨m1,c1⟩:=r;obtain ⟨kq1,uq1⟩:=q1;have kl1:=kq1.1;replace kq1:okD mM c1:=kq1.2;dsimp only at uq1 ⊢
 change List cZ at m1
 have hP:∀ o∈m1,List.length o.2.2.2≤40:=fun o ho=>by have:=bAX (uq1.2.2.1 o ho);omega
 have hl1:1≤List.length m1:=uq1.1.1
 have hl6:List.length m1≤6:=uq1.2.1
 refine fun _=>⟨uq1.2.2.2,fun _=>?_⟩
 have q2:=cK (c1,((List.length m1:Nat):Int)) ⟨kq1,okI (by omega) (by omega)⟩ uq1.2.2.2
 generalize cF (c1,((List.length m1:Nat):Int))=r at q2 ⊢;obtain ⟨n2,c2⟩:=r;obtain ⟨kq2,uq2⟩:=q2;replace kq2:okD mM c2:=kq2.2;dsimp only at uq2 ⊢
 have hn2:0≤n2∧n2<((List.length m1:Nat):Int):=⟨uq2.1,uq2.2.1 (by show 0<((List.length m1:Nat):Int);omega)⟩
 refine ⟨uq2.2.2.2,fun _=>?_⟩
 have q3:=cK (c2,16) ⟨kq2,okI (by omega) (by omega)⟩ uq2.2.2.2
 generalize cF (c2,16)=r at q3 ⊢;obtain ⟨n3,c3⟩:=r;obtain ⟨kq3,uq3⟩:=q3;replace kq3:okD mM c3:=kq3.2;dsimp only at uq3 ⊢
 have hc3:=uq3.2.2.2
 refine ⟨fun _=>?_,fun _=>⟨fun _=>?_,fun _=>⟨fun _=>?_,fun _=>?_⟩⟩⟩
 ·have q4:=(bDW c3 kq3 hc3).2
  generalize xJ c3=r at q4 ⊢;obtain ⟨o4,c4⟩:=r;dsimp only at q4 ⊢
  exact ⟨hc3,fun _=>⟨hn2,fun _=>⟨hn2,fun _=>⟨by rw[List.length_set];omega,fun o ho=>(List.mem_or_eq_of_mem_set ho).elim (hP o) (fun h=>by rw[h];exact q4.1),q4.2⟩⟩⟩⟩
 ·exact ⟨⟨by omega,by omega,by omega⟩,fun _=>⟨by rw[List.length_drop,List.length_take];omega,fun o ho=>hP o (List.mem_of_mem_take (by simpa using ho)),hc3⟩⟩
 ·refine ⟨fun s=>1≤List.length s.2.2.2∧List.length s.2.2.2≤9∧(∀ o∈s.2.2.2,List.length o.2.2.2≤40)∧@LE.le Int _ 0 s.2.1,fun s=>10 - List.length s.2.2.2,⟨hl1,by show m1.length≤9;omega,hP,hc3⟩,fun s hs hI=>?_⟩
  obtain ⟨b,i,h,l⟩:=s
  obtain ⟨e1,e2,e3,e4⟩:=hI
  change List cZ at l
  change 1≤l.length at e1
  change l.length≤9 at e2
  change ∀ o∈l,List.length o.2.2.2≤40 at e3
  change 0≤(i:Int) at e4
  have q5:=(cK ((b,i,h),2) ⟨⟨hs.1,hs.2.1,hs.2.2.1⟩,okI (by omega) (by omega)⟩ e4).2
  try dsimp only
  try refine eD ?_
  generalize cF ((b,i,h),2)=r at q5 ⊢;obtain ⟨n5,c5⟩:=r;dsimp only at q5 ⊢
  refine fun _=>⟨e4,fun _=>⟨by omega,fun _=>⟨fun hlt=>?_,fun hge=>⟨e2,e3,q5.2.2.2⟩⟩⟩⟩
  generalize (List.getD l (List.length l - 1) (aP bU)).2.2.1=z
  have e5:∀ o∈l++[((3:Int),z,z,([]:List Int))],List.length o.2.2.2≤40:=fun p hp=>by
   rcases List.mem_append.1 hp with hp|hp
   ·exact e3 p hp
   ·rw[List.mem_singleton] at hp
    rw[hp];exact Nat.zero_le _
  (repeat' first|intro _|(with_reducible apply And.intro))
  all_goals first|omega|(unfold maxLen;omega)|exact q5.2.2.2|exact e5 _ (by assumption)
 ·exact ⟨by omega,hP,hc3⟩
theorem aHI:∃ f:(aN)→(bE × aN),(∀ x,okD (.bPW (.slice 5 (.int .u8)) aD) x→(fun x=>0≤x.2.1) x→(fun x r=>r.1.length≤9∧(∀ o∈r.1,o.2.2.2.length≤40)∧0≤r.2.2.1:(aN)→(bE × aN)→Prop) x (f x))∧Con.Holds Tryz.prog { aGF with fn:=f }:=iX (C:=aGF) aZ (aG aBJ (aG eV (aG aP0 aT))) bDU (fun x r=>r.1.length≤9∧(∀ o∈r.1,o.2.2.2.length≤40)∧0≤r.2.2.1:(aN)→(bE × aN)→Prop) bFD
def wU:(aN)→(bE × aN):=Classical.choose aHI
def aBR:Con:=⟨47,(.bPW (.slice 5 (.int .u8)) aD),(.bPW aE (.bPW (.slice 5 (.int .u8)) aD)),[.box 91 ⟨true,(.bPW (.slice 5 (.int .u8)) aD),[]⟩],[⟨true,aE,[0]⟩],false,none,
 ((fun x=>0≤x.2.1):(aN)→Prop),
 ((wU):(aN)→(bE × aN))⟩
theorem bE9:∀ x,okD (.bPW (.slice 5 (.int .u8)) aD) x→(fun x=>0≤x.2.1) x→(fun x r=>r.1.length≤9∧(∀ o∈r.1,o.2.2.2.length≤40)∧0≤r.2.2.1:(aN)→(bE × aN)→Prop) x (wU x):=(Classical.choose_spec aHI).1
theorem aPW:Con.Holds Tryz.prog aBR:=(Classical.choose_spec aHI).2
theorem bF5 (x:aN) (hx:okD (.bPW (.slice 5 (.int .u8)) aD) x) (hp:(fun x=>0≤x.2.1) x):okD (.bPW aE (.bPW (.slice 5 (.int .u8)) aD)) (wU x)∧(fun x r=>r.1.length≤9∧(∀ o∈r.1,o.2.2.2.length≤40)∧0≤r.2.2.1:(aN)→(bE × aN)→Prop) x (wU x):=⟨aPW.ok x hp hx,bE9 x hx hp⟩
end
end Go.Proofs.YtpafjioccjpmfaaGreat
