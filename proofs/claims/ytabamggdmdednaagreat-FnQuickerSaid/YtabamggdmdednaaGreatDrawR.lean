/- DrawR: lemmas. No conditions. -/
import Derived.Test.YtabamggdmdednaaGreatDraw2
namespace Go.Proofs.YtabamggdmdednaaGreat
noncomputable section
set_option maxRecDepth 100000
open Go.ChangeShapes Go.WideShapes Go.ChangeAt Go.RowKit Go.Deep
set_option linter.unusedVariables false
set_option linter.unusedSimpArgs false
def aJQ:Con:=⟨47,(.bRW (.slice 5 (.int .u8)) aD),(.bRW bF (.bRW (.slice 5 (.int .u8)) aD)),[.box 62 ⟨true,(.bRW (.slice 5 (.int .u8)) aD),[]⟩],[⟨true,bF,[0,0,0,1]⟩],false,none,
 ((fun x=>0≤x.2.1):(aT)→Prop),
 ((fun _=>aW (.bRW bF (.bRW (.slice 5 (.int .u8)) aD))):(aT)→(dI × aT))⟩
def aJH:T:=.call 0 (.bRY (.bRW (.slice 5 (.int .u8)) aD) tI (.Z 0) (.ci .i64 3)) <|
 .bRX (.ar .add .i64) (.bRY tI tI (.ci .i64 1) (.p1 tI (.bRW (.slice 5 (.int .u8)) aD) (.Z 1))) <|
 .call 1 (.bRY (.bRW (.slice 5 (.int .u8)) aD) tI (aP (.bRW tI (.bRW (.slice 5 (.int .u8)) aD)) 1 (.Z 1)) (.Z 2)) <|
 .call 0 (.bRY (.bRW (.slice 5 (.int .u8)) aD) tI (aP (.bRW bF (.bRW (.slice 5 (.int .u8)) aD)) 1 (.Z 3)) (.ci .i64 14)) <|
 .bRX (.cmp .eql .i64) (.bRY tI tI (.p1 tI (.bRW (.slice 5 (.int .u8)) aD) (.Z 4)) (.ci .i64 0)) <|
 .ite (.Z 5) (
  .call 0 (.bRY (.bRW (.slice 5 (.int .u8)) aD) tI (aP (.bRW tI (.bRW (.slice 5 (.int .u8)) aD)) 1 (.Z 4)) (.ci .i64 8)) <|
  .bRX (.ar .sub .i64) (.bRY tI tI (.p1 tI (.bRW (.slice 5 (.int .u8)) aD) (.Z 6)) (.ci .i64 1)) <|
  .ret (.bRY bF (.bRW (.slice 5 (.int .u8)) aD) (.bRY tI (.bRW tI aH) (.Z 7) (aP bF 1 (.p1 bF (.bRW (.slice 5 (.int .u8)) aD) (.Z 3)))) (aP (.bRW tI (.bRW (.slice 5 (.int .u8)) aD)) 1 (.Z 6)))) (
  .bRX (.cmp .eql .i64) (.bRY tI tI (.p1 tI (.bRW (.slice 5 (.int .u8)) aD) (.Z 4)) (.ci .i64 1)) <|
  .ite (.Z 6) (
   .bRX (.ar .add .i64) (.bRY tI tI (aK bF 1 (.p1 bF (.bRW (.slice 5 (.int .u8)) aD) (.Z 3))) (.ci .i64 1)) <|
   .bRX (.lit 3 tI 3) (bB (.bRW tI aD) [(.ci .i64 0),(.ci .i64 7),(.Z 7)]) <|
   .call 2 (.bRY (.bRW (.slice 5 (.int .u8)) aD) aB (aP (.bRW tI (.bRW (.slice 5 (.int .u8)) aD)) 1 (.Z 4)) (.Z 8)) <|
   .ret (.bRY bF (.bRW (.slice 5 (.int .u8)) aD) (bB bF [(.p1 tI (.bRW tI aH) (.p1 bF (.bRW (.slice 5 (.int .u8)) aD) (.Z 3))),(.p1 tI (.bRW (.slice 5 (.int .u8)) aD) (.Z 9)),(aP bF 2 (.p1 bF (.bRW (.slice 5 (.int .u8)) aD) (.Z 3)))]) (aP (.bRW tI (.bRW (.slice 5 (.int .u8)) aD)) 1 (.Z 9)))) (
   .bRX (.cmp .eql .i64) (.bRY tI tI (.p1 tI (.bRW (.slice 5 (.int .u8)) aD) (.Z 4)) (.ci .i64 2)) <|
   .ite (.Z 7) (
    .bRX (.lit 3 tI 1) (.ci .i64 0) <|
    .bRX (.bS3 3 tI 8) (.bRY aB aB (aP bF 3 (.p1 bF (.bRW (.slice 5 (.int .u8)) aD) (.Z 3))) (.Z 8)) <|
    .ret (.bRY bF (.bRW (.slice 5 (.int .u8)) aD) (bB bF [(.p1 tI (.bRW tI aH) (.p1 bF (.bRW (.slice 5 (.int .u8)) aD) (.Z 3))),(aK bF 1 (.p1 bF (.bRW (.slice 5 (.int .u8)) aD) (.Z 3))),(aK bF 2 (.p1 bF (.bRW (.slice 5 (.int .u8)) aD) (.Z 3))),(.Z 9)]) (aP (.bRW tI (.bRW (.slice 5 (.int .u8)) aD)) 1 (.Z 4)))) (
    .bRX (.cmp .eql .i64) (.bRY tI tI (.p1 tI (.bRW (.slice 5 (.int .u8)) aD) (.Z 4)) (.ci .i64 3)) <|
    .ite (.Z 8) (
     .bRX (.bS0 3 tI) (aP bF 3 (.p1 bF (.bRW (.slice 5 (.int .u8)) aD) (.Z 3))) <|
     .bRX (.cmp .gtr .i64) (.bRY tI tI (.Z 9) (.ci .i64 0)) <|
     .ite (.Z 10) (
      .call 3 (aP (.bRW tI (.bRW (.slice 5 (.int .u8)) aD)) 1 (.Z 4)) <|
      .bRX (.bS1 3 tI) (.bRY aB tI (aP bF 3 (.p1 bF (.bRW (.slice 5 (.int .u8)) aD) (.Z 3))) (.ci .i64 0)) <|
      .bRX (.bS4 3 tI) (bB (.bRW aB aD) [(aP bF 3 (.p1 bF (.bRW (.slice 5 (.int .u8)) aD) (.Z 3))),(.ci .i64 0),(.p1 tI (.bRW (.slice 5 (.int .u8)) aD) (.Z 11))]) <|
      .ret (.bRY bF (.bRW (.slice 5 (.int .u8)) aD) (bB bF [(.p1 tI (.bRW tI aH) (.p1 bF (.bRW (.slice 5 (.int .u8)) aD) (.Z 3))),(aK bF 1 (.p1 bF (.bRW (.slice 5 (.int .u8)) aD) (.Z 3))),(aK bF 2 (.p1 bF (.bRW (.slice 5 (.int .u8)) aD) (.Z 3))),(.Z 13)]) (aP (.bRW tI (.bRW (.slice 5 (.int .u8)) aD)) 1 (.Z 11)))) (
      .ret (.bRY bF (.bRW (.slice 5 (.int .u8)) aD) (.p1 bF (.bRW (.slice 5 (.int .u8)) aD) (.Z 3)) (aP (.bRW tI (.bRW (.slice 5 (.int .u8)) aD)) 1 (.Z 4))))) (
     .ret (.bRY bF (.bRW (.slice 5 (.int .u8)) aD) (.p1 bF (.bRW (.slice 5 (.int .u8)) aD) (.Z 3)) (aP (.bRW tI (.bRW (.slice 5 (.int .u8)) aD)) 1 (.Z 4)))))))
theorem bIP (f:(aT)→(dI × aT)):bI Tryz.prog [bP,sT,cH,pG] { aJQ with fn:=f } false 3000 ⟨[],[(2985,6007,[23],[])]⟩ = .ok aJH:=by kernel_rfl
theorem bJ1 (x:aT) (hx:okD (.bRW (.slice 5 (.int .u8)) aD) x) (hp:(fun x=>0≤x.2.1) x):aJH.wp [bP,sT,cH,pG] [⟨(.bRW (.slice 5 (.int .u8)) aD),x⟩] [] (fun v=>(fun x r=>r.1.2.2.2.length≤40∧0≤r.2.2.1:(aT)→(dI × aT)→Prop) x (v.as (.bRW bF (.bRW (.slice 5 (.int .u8)) aD)))):=by
 have q1:=cF (x,3) ⟨hx,okI (by omega) (by omega)⟩ hp
 delta aJH bP sT cH pG;refine cW ?_
 refine dB ?_
 refine ⟨hp,fun _=>?_⟩
 generalize cA (x,3)=r at q1 ⊢;obtain ⟨n1,c1⟩:=r;obtain ⟨k1,u1⟩:=q1;replace k1:okD nB c1:=k1.2;dsimp only at u1 ⊢
 refine ⟨by omega,fun _=>⟨⟨u1.2.2.2,by omega,by omega⟩,fun _=>?_⟩⟩
 have q2:=aZQ (c1,1+n1) ⟨k1,okI (by omega) (by omega)⟩ ⟨u1.2.2.2,by show 1≤1+n1;omega,by show 1+n1≤6;omega⟩
 generalize xK (c1,1+n1)=r at q2 ⊢;obtain ⟨o2,c2⟩:=r;obtain ⟨k2,u2⟩:=q2;have ko:=k2.1;replace k2:okD nB c2:=k2.2;dsimp only at u2 ⊢
 have hP:=bF1 u2.1
 have hI:=((gY _).1 u2.1).1
 refine ⟨u2.2,fun _=>?_⟩
 have q3:=cF (c2,14) ⟨k2,okI (by omega) (by omega)⟩ u2.2
 generalize cA (c2,14)=r at q3 ⊢;obtain ⟨n3,c3⟩:=r;obtain ⟨k3,u3⟩:=q3;replace k3:okD nB c3:=k3.2;dsimp only at u3 ⊢
 have hc3:=u3.2.2.2
 refine ⟨fun _=>⟨hc3,fun _=>?_⟩,fun _=>⟨fun _=>?_,fun _=>⟨fun _=>?_,fun _=>⟨fun _=>?_,fun _=>?_⟩⟩⟩⟩
 ·have q4:=(cF (c3,8) ⟨k3,okI (by omega) (by omega)⟩ hc3).2
  generalize cA (c3,8)=r at q4 ⊢;obtain ⟨n4,c4⟩:=r;dsimp only at q4 ⊢
  exact ⟨by omega,fun _=>⟨by omega,q4.2.2.2⟩⟩
 ·obtain ⟨_,_,i3,i4,_⟩:=hI
  refine ⟨by omega,fun h1 h2=>⟨⟨hc3,fun h=>by cases h⟩,fun _=>⟨by omega,?_⟩⟩⟩
  exact (kP (c3,[0,7,o2.2.1+1]) ⟨k3,h2⟩ ⟨hc3,by simp⟩).2.2
 ·exact fun _=>⟨⟨by omega,by unfold maxLen;omega⟩,fun _=>⟨by omega,hc3⟩⟩
 ·have q4:=(aRM c3 k3 hc3).2
  exact fun _=>⟨fun hl=>⟨hc3,fun _=>⟨⟨by omega,hl⟩,fun _=>⟨⟨by omega,hl⟩,fun _=>⟨by rw[List.length_set];omega,q4⟩⟩⟩⟩,fun _=>⟨by omega,hc3⟩⟩
 ·exact ⟨by omega,hc3⟩
theorem aI9:∃ f:(aT)→(dI × aT),(∀ x,okD (.bRW (.slice 5 (.int .u8)) aD) x→(fun x=>0≤x.2.1) x→(fun x r=>r.1.2.2.2.length≤40∧0≤r.2.2.1:(aT)→(dI × aT)→Prop) x (f x))∧Con.Holds Tryz.prog { aJQ with fn:=f }:=kT (C:=aJQ) aV (aI eN (aI aOY (aI jJ (aI aIQ aQ)))) bIP (fun x r=>r.1.2.2.2.length≤40∧0≤r.2.2.1:(aT)→(dI × aT)→Prop) bJ1
def yM:(aT)→(dI × aT):=Classical.choose aI9
def aDN:Con:=⟨47,(.bRW (.slice 5 (.int .u8)) aD),(.bRW bF (.bRW (.slice 5 (.int .u8)) aD)),[.box 62 ⟨true,(.bRW (.slice 5 (.int .u8)) aD),[]⟩],[⟨true,bF,[0,0,0,1]⟩],false,none,
 ((fun x=>0≤x.2.1):(aT)→Prop),
 ((yM):(aT)→(dI × aT))⟩
theorem bIA:∀ x,okD (.bRW (.slice 5 (.int .u8)) aD) x→(fun x=>0≤x.2.1) x→(fun x r=>r.1.2.2.2.length≤40∧0≤r.2.2.1:(aT)→(dI × aT)→Prop) x (yM x):=(Classical.choose_spec aI9).1
theorem aQZ:Con.Holds Tryz.prog aDN:=(Classical.choose_spec aI9).2
theorem bI6 (x:aT) (hx:okD (.bRW (.slice 5 (.int .u8)) aD) x) (hp:(fun x=>0≤x.2.1) x):okD (.bRW bF (.bRW (.slice 5 (.int .u8)) aD)) (yM x)∧(fun x r=>r.1.2.2.2.length≤40∧0≤r.2.2.1:(aT)→(dI × aT)→Prop) x (yM x):=⟨aQZ.ok x hp hx,bIA x hx hp⟩
def aIB:Con:=⟨19,(.bRW (.slice 5 (.int .u8)) aD),(.bRW aE (.bRW (.slice 5 (.int .u8)) aD)),[.box 62 ⟨true,(.bRW (.slice 5 (.int .u8)) aD),[]⟩],[⟨true,aE,[0]⟩],false,none,
 ((fun x=>0≤x.2.1):(aT)→Prop),
 ((fun _=>aW (.bRW aE (.bRW (.slice 5 (.int .u8)) aD))):(aT)→(aY × aT))⟩
def aJ0:T:=.call 0 (.Z 0) <|
 .bRX (.bS0 88 bF) (.p1 aE (.bRW (.slice 5 (.int .u8)) aD) (.Z 1)) <|
 .call 1 (.bRY (.bRW (.slice 5 (.int .u8)) aD) tI (aP (.bRW aE (.bRW (.slice 5 (.int .u8)) aD)) 1 (.Z 1)) (.Z 2)) <|
 .call 1 (.bRY (.bRW (.slice 5 (.int .u8)) aD) tI (aP (.bRW tI (.bRW (.slice 5 (.int .u8)) aD)) 1 (.Z 3)) (.ci .i64 16)) <|
 .bRX (.cmp .eql .i64) (.bRY tI tI (.p1 tI (.bRW (.slice 5 (.int .u8)) aD) (.Z 4)) (.ci .i64 0)) <|
 .ite (.Z 5) (
  .call 2 (aP (.bRW tI (.bRW (.slice 5 (.int .u8)) aD)) 1 (.Z 4)) <|
  .bRX (.bS1 88 bF) (.bRY aE tI (.p1 aE (.bRW (.slice 5 (.int .u8)) aD) (.Z 1)) (.p1 tI (.bRW (.slice 5 (.int .u8)) aD) (.Z 3))) <|
  .bRX (.bS4 88 bF) (bB (.bRW aE (.bRW tI bF)) [(.p1 aE (.bRW (.slice 5 (.int .u8)) aD) (.Z 1)),(.p1 tI (.bRW (.slice 5 (.int .u8)) aD) (.Z 3)),(.p1 bF (.bRW (.slice 5 (.int .u8)) aD) (.Z 6))]) <|
  .ret (.bRY aE (.bRW (.slice 5 (.int .u8)) aD) (.Z 8) (aP (.bRW bF (.bRW (.slice 5 (.int .u8)) aD)) 1 (.Z 6)))) (
  .bRX (.cmp .eql .i64) (.bRY tI tI (.p1 tI (.bRW (.slice 5 (.int .u8)) aD) (.Z 4)) (.ci .i64 1)) <|
  .ite (.Z 6) (
   .bRX (.bS2 88 bF) (bB (.bRW aE aD) [(.p1 aE (.bRW (.slice 5 (.int .u8)) aD) (.Z 1)),(.ci .i64 0),(.p1 tI (.bRW (.slice 5 (.int .u8)) aD) (.Z 3))]) <|
   .ret (.bRY aE (.bRW (.slice 5 (.int .u8)) aD) (.Z 7) (aP (.bRW tI (.bRW (.slice 5 (.int .u8)) aD)) 1 (.Z 4)))) (
   .bRX (.cmp .eql .i64) (.bRY tI tI (.p1 tI (.bRW (.slice 5 (.int .u8)) aD) (.Z 4)) (.ci .i64 2)) <|
   .ite (.Z 7) (
    .loop (.bRW (.slice 5 (.int .u8)) (.bRW tI (.bRW tI aE))) (bB (.bRW (.slice 5 (.int .u8)) (.bRW tI (.bRW tI aE))) [(aK (.bRW tI (.bRW (.slice 5 (.int .u8)) aD)) 1 (.Z 4)),(aK (.bRW tI (.bRW (.slice 5 (.int .u8)) aD)) 2 (.Z 4)),(aP (.bRW tI (.bRW (.slice 5 (.int .u8)) aD)) 3 (.Z 4)),(.p1 aE (.bRW (.slice 5 (.int .u8)) aD) (.Z 1))]) <|
     .bRX (.bS0 88 bF) (aP (.bRW (.slice 5 (.int .u8)) (.bRW tI (.bRW tI aE))) 3 (.Z 8)) <|
     .call 1 (.bRY (.bRW (.slice 5 (.int .u8)) aD) tI (bB (.bRW (.slice 5 (.int .u8)) aD) [(.p1 (.slice 5 (.int .u8)) (.bRW tI (.bRW tI aE)) (.Z 8)),(aK (.bRW (.slice 5 (.int .u8)) (.bRW tI (.bRW tI aE))) 1 (.Z 8)),(aK (.bRW (.slice 5 (.int .u8)) (.bRW tI (.bRW tI aE))) 2 (.Z 8))]) (.ci .i64 2)) <|
     .bRX (.ar .add .i64) (.bRY tI tI (.ci .i64 8) (.p1 tI (.bRW (.slice 5 (.int .u8)) aD) (.Z 10))) <|
     .bRX (.cmp .lss .i64) (.bRY tI tI (.Z 9) (.Z 11)) <|
     .ite (.Z 12) (
      .bRX (.bS0 88 bF) (aP (.bRW (.slice 5 (.int .u8)) (.bRW tI (.bRW tI aE))) 3 (.Z 8)) <|
      .bRX (.ar .sub .i64) (.bRY tI tI (.Z 13) (.ci .i64 1)) <|
      .bRX (.bS1 88 bF) (.bRY aE tI (aP (.bRW (.slice 5 (.int .u8)) (.bRW tI (.bRW tI aE))) 3 (.Z 8)) (.Z 14)) <|
      .bRX (.bS1 88 bF) (.bRY aE tI (aP (.bRW (.slice 5 (.int .u8)) (.bRW tI (.bRW tI aE))) 3 (.Z 8)) (.Z 14)) <|
      .bRX (.bS0 88 bF) (aP (.bRW (.slice 5 (.int .u8)) (.bRW tI (.bRW tI aE))) 3 (.Z 8)) <|
      .bRX (.ar .sub .i64) (.bRY tI tI (.Z 17) (.ci .i64 1)) <|
      .bRX (.bS1 88 bF) (.bRY aE tI (aP (.bRW (.slice 5 (.int .u8)) (.bRW tI (.bRW tI aE))) 3 (.Z 8)) (.Z 18)) <|
      .bRX (.bS1 88 bF) (.bRY aE tI (aP (.bRW (.slice 5 (.int .u8)) (.bRW tI (.bRW tI aE))) 3 (.Z 8)) (.Z 18)) <|
      .bRX (.lit 88 bF 1) (bB bF [(.ci .i64 3),(aK bF 2 (.Z 16)),(aK bF 2 (.Z 20)),(.nl 3 tI)]) <|
      .bRX (.bS3 88 bF 48) (.bRY aE aE (aP (.bRW (.slice 5 (.int .u8)) (.bRW tI (.bRW tI aE))) 3 (.Z 8)) (.Z 21)) <|
      .bRZ 0 (bB (.bRW (.slice 5 (.int .u8)) (.bRW tI (.bRW tI aE))) [(aK (.bRW tI (.bRW (.slice 5 (.int .u8)) aD)) 1 (.Z 10)),(aK (.bRW tI (.bRW (.slice 5 (.int .u8)) aD)) 2 (.Z 10)),(aP (.bRW tI (.bRW (.slice 5 (.int .u8)) aD)) 3 (.Z 10)),(.Z 22)])) (
      .ret (.bRY aE (.bRW (.slice 5 (.int .u8)) aD) (aP (.bRW (.slice 5 (.int .u8)) (.bRW tI (.bRW tI aE))) 3 (.Z 8)) (aP (.bRW tI (.bRW (.slice 5 (.int .u8)) aD)) 1 (.Z 10))))) (
    .ret (.bRY aE (.bRW (.slice 5 (.int .u8)) aD) (.p1 aE (.bRW (.slice 5 (.int .u8)) aD) (.Z 1)) (aP (.bRW tI (.bRW (.slice 5 (.int .u8)) aD)) 1 (.Z 4))))))
theorem bGO (f:(aT)→(aY × aT)):bI Tryz.prog [lB,bP,aDN] { aIB with fn:=f } false 3000 ⟨[(2979,12008,[.dr 29,.dr 30,.dr 22,.dr 23,.dr 14,.dr 15,.dr 13,.dr 12,.dr 4]++gQ 11 5++[.bx 1 0,.bx 1 1,.bx 1 2,.sl 4])],[(2983,6007,[],[4])]⟩ = .ok aJ0:=by kernel_rfl
theorem bHG (x:aT) (hx:okD (.bRW (.slice 5 (.int .u8)) aD) x) (hp:(fun x=>0≤x.2.1) x):aJ0.wp [lB,bP,aDN] [⟨(.bRW (.slice 5 (.int .u8)) aD),x⟩] [] (fun v=>(fun x r=>r.1.length≤9∧(∀ o∈r.1,o.2.2.2.length≤40)∧0≤r.2.2.1:(aT)→(aY × aT)→Prop) x (v.as (.bRW aE (.bRW (.slice 5 (.int .u8)) aD)))):=by
 have q1:=aK2 x hx hp
 delta aJ0 lB bP aDN;refine cW ?_
 refine dB ?_
 refine ⟨hp,fun _=>?_⟩
 generalize nM x=r at q1 ⊢;obtain ⟨m1,c1⟩:=r;obtain ⟨kq1,uq1⟩:=q1;have kl1:=kq1.1;replace kq1:okD nB c1:=kq1.2;dsimp only at uq1 ⊢
 change List dI at m1
 have hP:∀ o∈m1,List.length o.2.2.2≤40:=fun o ho=>by have:=bF1 (uq1.2.2.1 o ho);omega
 have hl1:1≤List.length m1:=uq1.1
 have hl6:List.length m1≤6:=uq1.2.1
 refine fun _=>⟨uq1.2.2.2,fun _=>?_⟩
 have q2:=cF (c1,((List.length m1:Nat):Int)) ⟨kq1,okI (by omega) (by omega)⟩ uq1.2.2.2
 generalize cA (c1,((List.length m1:Nat):Int))=r at q2 ⊢;obtain ⟨n2,c2⟩:=r;obtain ⟨kq2,uq2⟩:=q2;replace kq2:okD nB c2:=kq2.2;dsimp only at uq2 ⊢
 have hn2:0≤n2∧n2<((List.length m1:Nat):Int):=⟨uq2.1,uq2.2.1 (by show 0<((List.length m1:Nat):Int);omega)⟩
 refine ⟨uq2.2.2.2,fun _=>?_⟩
 have q3:=cF (c2,16) ⟨kq2,okI (by omega) (by omega)⟩ uq2.2.2.2
 generalize cA (c2,16)=r at q3 ⊢;obtain ⟨n3,c3⟩:=r;obtain ⟨kq3,uq3⟩:=q3;replace kq3:okD nB c3:=kq3.2;dsimp only at uq3 ⊢
 have hc3:=uq3.2.2.2
 refine ⟨fun _=>?_,fun _=>⟨fun _=>?_,fun _=>⟨fun _=>?_,fun _=>?_⟩⟩⟩
 ·have q4:=(bI6 c3 kq3 hc3).2
  generalize yM c3=r at q4 ⊢;obtain ⟨o4,c4⟩:=r;dsimp only at q4 ⊢
  exact ⟨hc3,fun _=>⟨hn2,fun _=>⟨hn2,fun _=>⟨by rw[List.length_set];omega,fun o ho=>(List.mem_or_eq_of_mem_set ho).elim (hP o) (fun h=>by rw[h];exact q4.1),q4.2⟩⟩⟩⟩
 ·exact ⟨⟨by omega,by omega,by omega⟩,fun _=>⟨by rw[List.length_drop,List.length_take];omega,fun o ho=>hP o (List.mem_of_mem_take (by simpa using ho)),hc3⟩⟩
 ·refine ⟨fun s=>1≤List.length s.2.2.2∧List.length s.2.2.2≤9∧(∀ o∈s.2.2.2,List.length o.2.2.2≤40)∧@LE.le Int _ 0 s.2.1,fun s=>10 - List.length s.2.2.2,⟨hl1,by show m1.length≤9;omega,hP,hc3⟩,fun s hs hI=>?_⟩
  obtain ⟨b,i,h,l⟩:=s
  obtain ⟨e1,e2,e3,e4⟩:=hI
  change List dI at l
  change 1≤l.length at e1
  change l.length≤9 at e2
  change ∀ o∈l,List.length o.2.2.2≤40 at e3
  change 0≤(i:Int) at e4
  have q5:=(cF ((b,i,h),2) ⟨⟨hs.1,hs.2.1,hs.2.2.1⟩,okI (by omega) (by omega)⟩ e4).2
  try dsimp only
  try refine dB ?_
  generalize cA ((b,i,h),2)=r at q5 ⊢;obtain ⟨n5,c5⟩:=r;dsimp only at q5 ⊢
  refine fun _=>⟨e4,fun _=>⟨by omega,fun _=>⟨fun hlt=>?_,fun hge=>⟨e2,e3,q5.2.2.2⟩⟩⟩⟩
  generalize (List.getD l (List.length l - 1) (aW bF)).2.2.1=z
  have e5:∀ o∈l++[((3:Int),z,z,([]:List Int))],List.length o.2.2.2≤40:=fun p hp=>by
   rcases List.mem_append.1 hp with hp|hp
   ·exact e3 p hp
   ·rw[List.mem_singleton] at hp
    rw[hp];exact Nat.zero_le _
  (repeat' first|intro _|(with_reducible apply And.intro))
  all_goals first|omega|(unfold maxLen;omega)|exact q5.2.2.2|exact e5 _ (by assumption)
 ·exact ⟨by omega,hP,hc3⟩
theorem aJ3:∃ f:(aT)→(aY × aT),(∀ x,okD (.bRW (.slice 5 (.int .u8)) aD) x→(fun x=>0≤x.2.1) x→(fun x r=>r.1.length≤9∧(∀ o∈r.1,o.2.2.2.length≤40)∧0≤r.2.2.1:(aT)→(aY × aT)→Prop) x (f x))∧Con.Holds Tryz.prog { aIB with fn:=f }:=kT (C:=aIB) aV (aI aAO (aI eN (aI aQZ aQ))) bGO (fun x r=>r.1.length≤9∧(∀ o∈r.1,o.2.2.2.length≤40)∧0≤r.2.2.1:(aT)→(aY × aT)→Prop) bHG
def yN:(aT)→(aY × aT):=Classical.choose aJ3
def aDB:Con:=⟨19,(.bRW (.slice 5 (.int .u8)) aD),(.bRW aE (.bRW (.slice 5 (.int .u8)) aD)),[.box 62 ⟨true,(.bRW (.slice 5 (.int .u8)) aD),[]⟩],[⟨true,aE,[0]⟩],false,none,
 ((fun x=>0≤x.2.1):(aT)→Prop),
 ((yN):(aT)→(aY × aT))⟩
theorem bJ3:∀ x,okD (.bRW (.slice 5 (.int .u8)) aD) x→(fun x=>0≤x.2.1) x→(fun x r=>r.1.length≤9∧(∀ o∈r.1,o.2.2.2.length≤40)∧0≤r.2.2.1:(aT)→(aY × aT)→Prop) x (yN x):=(Classical.choose_spec aJ3).1
theorem aQW:Con.Holds Tryz.prog aDB:=(Classical.choose_spec aJ3).2
theorem bH8 (x:aT) (hx:okD (.bRW (.slice 5 (.int .u8)) aD) x) (hp:(fun x=>0≤x.2.1) x):okD (.bRW aE (.bRW (.slice 5 (.int .u8)) aD)) (yN x)∧(fun x r=>r.1.length≤9∧(∀ o∈r.1,o.2.2.2.length≤40)∧0≤r.2.2.1:(aT)→(aY × aT)→Prop) x (yN x):=⟨aQW.ok x hp hx,bJ3 x hx hp⟩
end
end Go.Proofs.YtabamggdmdednaaGreat
