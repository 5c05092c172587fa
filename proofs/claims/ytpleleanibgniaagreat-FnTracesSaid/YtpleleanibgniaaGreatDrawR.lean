/- DrawR: lemmas. No conditions. -/
import Derived.Test.YtpleleanibgniaaGreatDraw2
namespace Go.Proofs.YtpleleanibgniaaGreat
noncomputable section
set_option maxRecDepth 100000
open Go.ChangeShapes Go.WideShapes Go.ChangeAt Go.RowKit Go.Deep
set_option linter.unusedVariables false
set_option linter.unusedSimpArgs false
def aD3:Con:=⟨68,(.bJ2 (.slice 5 (.int .u8)) aC),(.bJ2 bN (.bJ2 (.slice 5 (.int .u8)) aC)),[.box 90 ⟨true,(.bJ2 (.slice 5 (.int .u8)) aC),[]⟩],[⟨true,bN,[0,0,0,1]⟩],false,none,
 ((fun x=>0≤x.2.1):(aL)→Prop),
 ((fun _=>aS (.bJ2 bN (.bJ2 (.slice 5 (.int .u8)) aC))):(aL)→(dE × aL))⟩
def aDD:T:=.call 0 (.bJ4 (.bJ2 (.slice 5 (.int .u8)) aC) tI (.Z 0) (.ci .i64 3)) <|
 .bJ3 (.ar .add .i64) (.bJ4 tI tI (.ci .i64 1) (.p1 tI (.bJ2 (.slice 5 (.int .u8)) aC) (.Z 1))) <|
 .call 1 (.bJ4 (.bJ2 (.slice 5 (.int .u8)) aC) tI (aR (.bJ2 tI (.bJ2 (.slice 5 (.int .u8)) aC)) 1 (.Z 1)) (.Z 2)) <|
 .call 0 (.bJ4 (.bJ2 (.slice 5 (.int .u8)) aC) tI (aR (.bJ2 bN (.bJ2 (.slice 5 (.int .u8)) aC)) 1 (.Z 3)) (.ci .i64 14)) <|
 .bJ3 (.cmp .eql .i64) (.bJ4 tI tI (.p1 tI (.bJ2 (.slice 5 (.int .u8)) aC) (.Z 4)) (.ci .i64 0)) <|
 .ite (.Z 5) (
  .call 0 (.bJ4 (.bJ2 (.slice 5 (.int .u8)) aC) tI (aR (.bJ2 tI (.bJ2 (.slice 5 (.int .u8)) aC)) 1 (.Z 4)) (.ci .i64 8)) <|
  .bJ3 (.ar .sub .i64) (.bJ4 tI tI (.p1 tI (.bJ2 (.slice 5 (.int .u8)) aC) (.Z 6)) (.ci .i64 1)) <|
  .ret (.bJ4 bN (.bJ2 (.slice 5 (.int .u8)) aC) (.bJ4 tI (.bJ2 tI aI) (.Z 7) (aR bN 1 (.p1 bN (.bJ2 (.slice 5 (.int .u8)) aC) (.Z 3)))) (aR (.bJ2 tI (.bJ2 (.slice 5 (.int .u8)) aC)) 1 (.Z 6)))) (
  .bJ3 (.cmp .eql .i64) (.bJ4 tI tI (.p1 tI (.bJ2 (.slice 5 (.int .u8)) aC) (.Z 4)) (.ci .i64 1)) <|
  .ite (.Z 6) (
   .bJ3 (.ar .add .i64) (.bJ4 tI tI (aJ bN 1 (.p1 bN (.bJ2 (.slice 5 (.int .u8)) aC) (.Z 3))) (.ci .i64 1)) <|
   .bJ3 (.lit 3 tI 3) (bJ (.bJ2 tI aC) [(.ci .i64 0),(.ci .i64 7),(.Z 7)]) <|
   .call 2 (.bJ4 (.bJ2 (.slice 5 (.int .u8)) aC) aB (aR (.bJ2 tI (.bJ2 (.slice 5 (.int .u8)) aC)) 1 (.Z 4)) (.Z 8)) <|
   .ret (.bJ4 bN (.bJ2 (.slice 5 (.int .u8)) aC) (bJ bN [(.p1 tI (.bJ2 tI aI) (.p1 bN (.bJ2 (.slice 5 (.int .u8)) aC) (.Z 3))),(.p1 tI (.bJ2 (.slice 5 (.int .u8)) aC) (.Z 9)),(aR bN 2 (.p1 bN (.bJ2 (.slice 5 (.int .u8)) aC) (.Z 3)))]) (aR (.bJ2 tI (.bJ2 (.slice 5 (.int .u8)) aC)) 1 (.Z 9)))) (
   .bJ3 (.cmp .eql .i64) (.bJ4 tI tI (.p1 tI (.bJ2 (.slice 5 (.int .u8)) aC) (.Z 4)) (.ci .i64 2)) <|
   .ite (.Z 7) (
    .bJ3 (.lit 3 tI 1) (.ci .i64 0) <|
    .bJ3 (.bJ9 3 tI 8) (.bJ4 aB aB (aR bN 3 (.p1 bN (.bJ2 (.slice 5 (.int .u8)) aC) (.Z 3))) (.Z 8)) <|
    .ret (.bJ4 bN (.bJ2 (.slice 5 (.int .u8)) aC) (bJ bN [(.p1 tI (.bJ2 tI aI) (.p1 bN (.bJ2 (.slice 5 (.int .u8)) aC) (.Z 3))),(aJ bN 1 (.p1 bN (.bJ2 (.slice 5 (.int .u8)) aC) (.Z 3))),(aJ bN 2 (.p1 bN (.bJ2 (.slice 5 (.int .u8)) aC) (.Z 3))),(.Z 9)]) (aR (.bJ2 tI (.bJ2 (.slice 5 (.int .u8)) aC)) 1 (.Z 4)))) (
    .bJ3 (.cmp .eql .i64) (.bJ4 tI tI (.p1 tI (.bJ2 (.slice 5 (.int .u8)) aC) (.Z 4)) (.ci .i64 3)) <|
    .ite (.Z 8) (
     .bJ3 (.bJ6 3 tI) (aR bN 3 (.p1 bN (.bJ2 (.slice 5 (.int .u8)) aC) (.Z 3))) <|
     .bJ3 (.cmp .gtr .i64) (.bJ4 tI tI (.Z 9) (.ci .i64 0)) <|
     .ite (.Z 10) (
      .call 3 (aR (.bJ2 tI (.bJ2 (.slice 5 (.int .u8)) aC)) 1 (.Z 4)) <|
      .bJ3 (.bJ7 3 tI) (.bJ4 aB tI (aR bN 3 (.p1 bN (.bJ2 (.slice 5 (.int .u8)) aC) (.Z 3))) (.ci .i64 0)) <|
      .bJ3 (.bJA 3 tI) (bJ (.bJ2 aB aC) [(aR bN 3 (.p1 bN (.bJ2 (.slice 5 (.int .u8)) aC) (.Z 3))),(.ci .i64 0),(.p1 tI (.bJ2 (.slice 5 (.int .u8)) aC) (.Z 11))]) <|
      .ret (.bJ4 bN (.bJ2 (.slice 5 (.int .u8)) aC) (bJ bN [(.p1 tI (.bJ2 tI aI) (.p1 bN (.bJ2 (.slice 5 (.int .u8)) aC) (.Z 3))),(aJ bN 1 (.p1 bN (.bJ2 (.slice 5 (.int .u8)) aC) (.Z 3))),(aJ bN 2 (.p1 bN (.bJ2 (.slice 5 (.int .u8)) aC) (.Z 3))),(.Z 13)]) (aR (.bJ2 tI (.bJ2 (.slice 5 (.int .u8)) aC)) 1 (.Z 11)))) (
      .ret (.bJ4 bN (.bJ2 (.slice 5 (.int .u8)) aC) (.p1 bN (.bJ2 (.slice 5 (.int .u8)) aC) (.Z 3)) (aR (.bJ2 tI (.bJ2 (.slice 5 (.int .u8)) aC)) 1 (.Z 4))))) (
     .ret (.bJ4 bN (.bJ2 (.slice 5 (.int .u8)) aC) (.p1 bN (.bJ2 (.slice 5 (.int .u8)) aC) (.Z 3)) (aR (.bJ2 tI (.bJ2 (.slice 5 (.int .u8)) aC)) 1 (.Z 4)))))))
theorem aY3 (f:(aL)→(dE × aL)):bV Tryz.prog [bG,pM,cC,mO] { aD3 with fn:=f } false 3000 ⟨[],[(2985,6007,[23],[])]⟩ = .ok aDD:=by kernel_rfl
theorem aXF (x:aL) (hx:okD (.bJ2 (.slice 5 (.int .u8)) aC) x) (hp:(fun x=>0≤x.2.1) x):aDD.wp [bG,pM,cC,mO] [⟨(.bJ2 (.slice 5 (.int .u8)) aC),x⟩] [] (fun v=>(fun x r=>r.1.2.2.2.length≤40∧0≤r.2.2.1:(aL)→(dE × aL)→Prop) x (v.as (.bJ2 bN (.bJ2 (.slice 5 (.int .u8)) aC)))):=by
 have q1:=cA (x,3) ⟨hx,okI (by omega) (by omega)⟩ hp
 delta aDD bG pM cC mO;refine eE ?_
 refine eL ?_
 refine ⟨hp,fun _=>?_⟩
 generalize bU (x,3)=r at q1 ⊢;obtain ⟨n1,c1⟩:=r;obtain ⟨k1,u1⟩:=q1;replace k1:okD kA c1:=k1.2;dsimp only at u1 ⊢
 refine ⟨by omega,fun _=>⟨⟨u1.2.2.2,by omega,by omega⟩,fun _=>?_⟩⟩
 have q2:=aQ0 (c1,1+n1) ⟨k1,okI (by omega) (by omega)⟩ ⟨u1.2.2.2,by show 1≤1+n1;omega,by show 1+n1≤6;omega⟩
 generalize tM (c1,1+n1)=r at q2 ⊢;obtain ⟨o2,c2⟩:=r;obtain ⟨k2,u2⟩:=q2;have ko:=k2.1;replace k2:okD kA c2:=k2.2;dsimp only at u2 ⊢
 have hP:=aWM u2.1.1
 have hI:=((gG _).1 u2.1.1).1
 refine ⟨u2.2,fun _=>?_⟩
 have q3:=cA (c2,14) ⟨k2,okI (by omega) (by omega)⟩ u2.2
 generalize bU (c2,14)=r at q3 ⊢;obtain ⟨n3,c3⟩:=r;obtain ⟨k3,u3⟩:=q3;replace k3:okD kA c3:=k3.2;dsimp only at u3 ⊢
 have hc3:=u3.2.2.2
 refine ⟨fun _=>⟨hc3,fun _=>?_⟩,fun _=>⟨fun _=>?_,fun _=>⟨fun _=>?_,fun _=>⟨fun _=>?_,fun _=>?_⟩⟩⟩⟩
 ·have q4:=(cA (c3,8) ⟨k3,okI (by omega) (by omega)⟩ hc3).2
  generalize bU (c3,8)=r at q4 ⊢;obtain ⟨n4,c4⟩:=r;dsimp only at q4 ⊢
  exact ⟨by omega,fun _=>⟨by omega,q4.2.2.2⟩⟩
 ·obtain ⟨_,_,i3,i4,_⟩:=hI
  refine ⟨by omega,fun h1 h2=>⟨⟨hc3,fun h=>by cases h⟩,fun _=>⟨by omega,?_⟩⟩⟩
  exact (iK (c3,[0,7,o2.2.1+1]) ⟨k3,h2⟩ ⟨hc3,by simp⟩).2.2
 ·exact fun _=>⟨⟨by omega,by unfold maxLen;omega⟩,fun _=>⟨by omega,hc3⟩⟩
 ·have q4:=(aLT c3 k3 hc3).2
  exact fun _=>⟨fun hl=>⟨hc3,fun _=>⟨⟨by omega,hl⟩,fun _=>⟨⟨by omega,hl⟩,fun _=>⟨by rw[List.length_set];omega,q4⟩⟩⟩⟩,fun _=>⟨by omega,hc3⟩⟩
 ·exact ⟨by omega,hc3⟩
theorem aDL:∃ f:(aL)→(dE × aL),(∀ x,okD (.bJ2 (.slice 5 (.int .u8)) aC) x→(fun x=>0≤x.2.1) x→(fun x r=>r.1.2.2.2.length≤40∧0≤r.2.2.1:(aL)→(dE × aL)→Prop) x (f x))∧Con.Holds Tryz.prog { aD3 with fn:=f }:=gY (C:=aD3) aX (aG dV (aG aIA (aG gM (aG aDH aT)))) aY3 (fun x r=>r.1.2.2.2.length≤40∧0≤r.2.2.1:(aL)→(dE × aL)→Prop) aXF
def tQ:(aL)→(dE × aL):=Classical.choose aDL
def yU:Con:=⟨68,(.bJ2 (.slice 5 (.int .u8)) aC),(.bJ2 bN (.bJ2 (.slice 5 (.int .u8)) aC)),[.box 90 ⟨true,(.bJ2 (.slice 5 (.int .u8)) aC),[]⟩],[⟨true,bN,[0,0,0,1]⟩],false,none,
 ((fun x=>0≤x.2.1):(aL)→Prop),
 ((tQ):(aL)→(dE × aL))⟩
theorem aX4:∀ x,okD (.bJ2 (.slice 5 (.int .u8)) aC) x→(fun x=>0≤x.2.1) x→(fun x r=>r.1.2.2.2.length≤40∧0≤r.2.2.1:(aL)→(dE × aL)→Prop) x (tQ x):=(Classical.choose_spec aDL).1
theorem aLM:Con.Holds Tryz.prog yU:=(Classical.choose_spec aDL).2
theorem aYB (x:aL) (hx:okD (.bJ2 (.slice 5 (.int .u8)) aC) x) (hp:(fun x=>0≤x.2.1) x):okD (.bJ2 bN (.bJ2 (.slice 5 (.int .u8)) aC)) (tQ x)∧(fun x r=>r.1.2.2.2.length≤40∧0≤r.2.2.1:(aL)→(dE × aL)→Prop) x (tQ x):=⟨aLM.ok x hp hx,aX4 x hx hp⟩
def aDG:Con:=⟨39,(.bJ2 (.slice 5 (.int .u8)) aC),(.bJ2 aD (.bJ2 (.slice 5 (.int .u8)) aC)),[.box 90 ⟨true,(.bJ2 (.slice 5 (.int .u8)) aC),[]⟩],[⟨true,aD,[0]⟩],false,none,
 ((fun x=>0≤x.2.1):(aL)→Prop),
 ((fun _=>aS (.bJ2 aD (.bJ2 (.slice 5 (.int .u8)) aC))):(aL)→(aW × aL))⟩
def aE1:T:=.call 0 (.Z 0) <|
 .bJ3 (.bJ6 93 bN) (.p1 aD (.bJ2 (.slice 5 (.int .u8)) aC) (.Z 1)) <|
 .call 1 (.bJ4 (.bJ2 (.slice 5 (.int .u8)) aC) tI (aR (.bJ2 aD (.bJ2 (.slice 5 (.int .u8)) aC)) 1 (.Z 1)) (.Z 2)) <|
 .call 1 (.bJ4 (.bJ2 (.slice 5 (.int .u8)) aC) tI (aR (.bJ2 tI (.bJ2 (.slice 5 (.int .u8)) aC)) 1 (.Z 3)) (.ci .i64 16)) <|
 .bJ3 (.cmp .eql .i64) (.bJ4 tI tI (.p1 tI (.bJ2 (.slice 5 (.int .u8)) aC) (.Z 4)) (.ci .i64 0)) <|
 .ite (.Z 5) (
  .call 2 (aR (.bJ2 tI (.bJ2 (.slice 5 (.int .u8)) aC)) 1 (.Z 4)) <|
  .bJ3 (.bJ7 93 bN) (.bJ4 aD tI (.p1 aD (.bJ2 (.slice 5 (.int .u8)) aC) (.Z 1)) (.p1 tI (.bJ2 (.slice 5 (.int .u8)) aC) (.Z 3))) <|
  .bJ3 (.bJA 93 bN) (bJ (.bJ2 aD (.bJ2 tI bN)) [(.p1 aD (.bJ2 (.slice 5 (.int .u8)) aC) (.Z 1)),(.p1 tI (.bJ2 (.slice 5 (.int .u8)) aC) (.Z 3)),(.p1 bN (.bJ2 (.slice 5 (.int .u8)) aC) (.Z 6))]) <|
  .ret (.bJ4 aD (.bJ2 (.slice 5 (.int .u8)) aC) (.Z 8) (aR (.bJ2 bN (.bJ2 (.slice 5 (.int .u8)) aC)) 1 (.Z 6)))) (
  .bJ3 (.cmp .eql .i64) (.bJ4 tI tI (.p1 tI (.bJ2 (.slice 5 (.int .u8)) aC) (.Z 4)) (.ci .i64 1)) <|
  .ite (.Z 6) (
   .bJ3 (.bJ8 93 bN) (bJ (.bJ2 aD aC) [(.p1 aD (.bJ2 (.slice 5 (.int .u8)) aC) (.Z 1)),(.ci .i64 0),(.p1 tI (.bJ2 (.slice 5 (.int .u8)) aC) (.Z 3))]) <|
   .ret (.bJ4 aD (.bJ2 (.slice 5 (.int .u8)) aC) (.Z 7) (aR (.bJ2 tI (.bJ2 (.slice 5 (.int .u8)) aC)) 1 (.Z 4)))) (
   .bJ3 (.cmp .eql .i64) (.bJ4 tI tI (.p1 tI (.bJ2 (.slice 5 (.int .u8)) aC) (.Z 4)) (.ci .i64 2)) <|
   .ite (.Z 7) (
    .loop (.bJ2 (.slice 5 (.int .u8)) (.bJ2 tI (.bJ2 tI aD))) (bJ (.bJ2 (.slice 5 (.int .u8)) (.bJ2 tI (.bJ2 tI aD))) [(aJ (.bJ2 tI (.bJ2 (.slice 5 (.int .u8)) aC)) 1 (.Z 4)),(aJ (.bJ2 tI (.bJ2 (.slice 5 (.int .u8)) aC)) 2 (.Z 4)),(aR (.bJ2 tI (.bJ2 (.slice 5 (.int .u8)) aC)) 3 (.Z 4)),(.p1 aD (.bJ2 (.slice 5 (.int .u8)) aC) (.Z 1))]) <|
     .bJ3 (.bJ6 93 bN) (aR (.bJ2 (.slice 5 (.int .u8)) (.bJ2 tI (.bJ2 tI aD))) 3 (.Z 8)) <|
     .call 1 (.bJ4 (.bJ2 (.slice 5 (.int .u8)) aC) tI (bJ (.bJ2 (.slice 5 (.int .u8)) aC) [(.p1 (.slice 5 (.int .u8)) (.bJ2 tI (.bJ2 tI aD)) (.Z 8)),(aJ (.bJ2 (.slice 5 (.int .u8)) (.bJ2 tI (.bJ2 tI aD))) 1 (.Z 8)),(aJ (.bJ2 (.slice 5 (.int .u8)) (.bJ2 tI (.bJ2 tI aD))) 2 (.Z 8))]) (.ci .i64 2)) <|
     .bJ3 (.ar .add .i64) (.bJ4 tI tI (.ci .i64 8) (.p1 tI (.bJ2 (.slice 5 (.int .u8)) aC) (.Z 10))) <|
     .bJ3 (.cmp .lss .i64) (.bJ4 tI tI (.Z 9) (.Z 11)) <|
     .ite (.Z 12) (
      .bJ3 (.bJ6 93 bN) (aR (.bJ2 (.slice 5 (.int .u8)) (.bJ2 tI (.bJ2 tI aD))) 3 (.Z 8)) <|
      .bJ3 (.ar .sub .i64) (.bJ4 tI tI (.Z 13) (.ci .i64 1)) <|
      .bJ3 (.bJ7 93 bN) (.bJ4 aD tI (aR (.bJ2 (.slice 5 (.int .u8)) (.bJ2 tI (.bJ2 tI aD))) 3 (.Z 8)) (.Z 14)) <|
      .bJ3 (.bJ7 93 bN) (.bJ4 aD tI (aR (.bJ2 (.slice 5 (.int .u8)) (.bJ2 tI (.bJ2 tI aD))) 3 (.Z 8)) (.Z 14)) <|
      .bJ3 (.bJ6 93 bN) (aR (.bJ2 (.slice 5 (.int .u8)) (.bJ2 tI (.bJ2 tI aD))) 3 (.Z 8)) <|
      .bJ3 (.ar .sub .i64) (.bJ4 tI tI (.Z 17) (.ci .i64 1)) <|
      .bJ3 (.bJ7 93 bN) (.bJ4 aD tI (aR (.bJ2 (.slice 5 (.int .u8)) (.bJ2 tI (.bJ2 tI aD))) 3 (.Z 8)) (.Z 18)) <|
      .bJ3 (.bJ7 93 bN) (.bJ4 aD tI (aR (.bJ2 (.slice 5 (.int .u8)) (.bJ2 tI (.bJ2 tI aD))) 3 (.Z 8)) (.Z 18)) <|
      .bJ3 (.lit 93 bN 1) (bJ bN [(.ci .i64 3),(aJ bN 2 (.Z 16)),(aJ bN 2 (.Z 20)),(.nl 3 tI)]) <|
      .bJ3 (.bJ9 93 bN 48) (.bJ4 aD aD (aR (.bJ2 (.slice 5 (.int .u8)) (.bJ2 tI (.bJ2 tI aD))) 3 (.Z 8)) (.Z 21)) <|
      .bJ5 0 (bJ (.bJ2 (.slice 5 (.int .u8)) (.bJ2 tI (.bJ2 tI aD))) [(aJ (.bJ2 tI (.bJ2 (.slice 5 (.int .u8)) aC)) 1 (.Z 10)),(aJ (.bJ2 tI (.bJ2 (.slice 5 (.int .u8)) aC)) 2 (.Z 10)),(aR (.bJ2 tI (.bJ2 (.slice 5 (.int .u8)) aC)) 3 (.Z 10)),(.Z 22)])) (
      .ret (.bJ4 aD (.bJ2 (.slice 5 (.int .u8)) aC) (aR (.bJ2 (.slice 5 (.int .u8)) (.bJ2 tI (.bJ2 tI aD))) 3 (.Z 8)) (aR (.bJ2 tI (.bJ2 (.slice 5 (.int .u8)) aC)) 1 (.Z 10))))) (
    .ret (.bJ4 aD (.bJ2 (.slice 5 (.int .u8)) aC) (.p1 aD (.bJ2 (.slice 5 (.int .u8)) aC) (.Z 1)) (aR (.bJ2 tI (.bJ2 (.slice 5 (.int .u8)) aC)) 1 (.Z 4))))))
theorem aZO (f:(aL)→(aW × aL)):bV Tryz.prog [iV,bG,yU] { aDG with fn:=f } false 3000 ⟨[(2979,12008,[.dr 29,.dr 30,.dr 22,.dr 23,.dr 14,.dr 15,.dr 13,.dr 12,.dr 4]++mW 11 5++[.bx 1 0,.bx 1 1,.bx 1 2,.sl 4])],[(2983,6007,[],[4])]⟩ = .ok aE1:=by kernel_rfl
theorem aXY (x:aL) (hx:okD (.bJ2 (.slice 5 (.int .u8)) aC) x) (hp:(fun x=>0≤x.2.1) x):aE1.wp [iV,bG,yU] [⟨(.bJ2 (.slice 5 (.int .u8)) aC),x⟩] [] (fun v=>(fun x r=>r.1.length≤9∧(∀ o∈r.1,o.2.2.2.length≤40)∧0≤r.2.2.1:(aL)→(aW × aL)→Prop) x (v.as (.bJ2 aD (.bJ2 (.slice 5 (.int .u8)) aC)))):=by
 have q1:=aF5 x hx hp
 delta aE1 iV bG yU;refine eE ?_
 refine eL ?_
 refine ⟨hp,fun _=>?_⟩
 generalize lD x=r at q1 ⊢;obtain ⟨m1,c1⟩:=r;obtain ⟨kq1,uq1⟩:=q1;have kl1:=kq1.1;replace kq1:okD kA c1:=kq1.2;dsimp only at uq1 ⊢
 change List dE at m1
 have hP:∀ o∈m1,List.length o.2.2.2≤40:=fun o ho=>by have:=aWM (uq1.2.2.1 o ho);omega
 have hl1:1≤List.length m1:=uq1.1.1
 have hl6:List.length m1≤6:=uq1.2.1
 refine fun _=>⟨uq1.2.2.2,fun _=>?_⟩
 have q2:=cA (c1,((List.length m1:Nat):Int)) ⟨kq1,okI (by omega) (by omega)⟩ uq1.2.2.2
 generalize bU (c1,((List.length m1:Nat):Int))=r at q2 ⊢;obtain ⟨n2,c2⟩:=r;obtain ⟨kq2,uq2⟩:=q2;replace kq2:okD kA c2:=kq2.2;dsimp only at uq2 ⊢
 have hn2:0≤n2∧n2<((List.length m1:Nat):Int):=⟨uq2.1,uq2.2.1 (by show 0<((List.length m1:Nat):Int);omega)⟩
 refine ⟨uq2.2.2.2,fun _=>?_⟩
 have q3:=cA (c2,16) ⟨kq2,okI (by omega) (by omega)⟩ uq2.2.2.2
 generalize bU (c2,16)=r at q3 ⊢;obtain ⟨n3,c3⟩:=r;obtain ⟨kq3,uq3⟩:=q3;replace kq3:okD kA c3:=kq3.2;dsimp only at uq3 ⊢
 have hc3:=uq3.2.2.2
 refine ⟨fun _=>?_,fun _=>⟨fun _=>?_,fun _=>⟨fun _=>?_,fun _=>?_⟩⟩⟩
 ·have q4:=(aYB c3 kq3 hc3).2
  generalize tQ c3=r at q4 ⊢;obtain ⟨o4,c4⟩:=r;dsimp only at q4 ⊢
  exact ⟨hc3,fun _=>⟨hn2,fun _=>⟨hn2,fun _=>⟨by rw[List.length_set];omega,fun o ho=>(List.mem_or_eq_of_mem_set ho).elim (hP o) (fun h=>by rw[h];exact q4.1),q4.2⟩⟩⟩⟩
 ·exact ⟨⟨by omega,by omega,by omega⟩,fun _=>⟨by rw[List.length_drop,List.length_take];omega,fun o ho=>hP o (List.mem_of_mem_take (by simpa using ho)),hc3⟩⟩
 ·refine ⟨fun s=>1≤List.length s.2.2.2∧List.length s.2.2.2≤9∧(∀ o∈s.2.2.2,List.length o.2.2.2≤40)∧@LE.le Int _ 0 s.2.1,fun s=>10 - List.length s.2.2.2,⟨hl1,by show m1.length≤9;omega,hP,hc3⟩,fun s hs hI=>?_⟩
  obtain ⟨b,i,h,l⟩:=s
  obtain ⟨e1,e2,e3,e4⟩:=hI
  change List dE at l
  change 1≤l.length at e1
  change l.length≤9 at e2
  change ∀ o∈l,List.length o.2.2.2≤40 at e3
  change 0≤(i:Int) at e4
  have q5:=(cA ((b,i,h),2) ⟨⟨hs.1,hs.2.1,hs.2.2.1⟩,okI (by omega) (by omega)⟩ e4).2
  try dsimp only
  try refine eL ?_
  generalize bU ((b,i,h),2)=r at q5 ⊢;obtain ⟨n5,c5⟩:=r;dsimp only at q5 ⊢
  refine fun _=>⟨e4,fun _=>⟨by omega,fun _=>⟨fun hlt=>?_,fun hge=>⟨e2,e3,q5.2.2.2⟩⟩⟩⟩
  generalize (List.getD l (List.length l - 1) (aS bN)).2.2.1=z
  have e5:∀ o∈l++[((3:Int),z,z,([]:List Int))],List.length o.2.2.2≤40:=fun p hp=>by
   rcases List.mem_append.1 hp with hp|hp
   ·exact e3 p hp
   ·rw[List.mem_singleton] at hp
    rw[hp];exact Nat.zero_le _
  (repeat' first|intro _|(with_reducible apply And.intro))
  all_goals first|omega|(unfold maxLen;omega)|exact q5.2.2.2|exact e5 _ (by assumption)
 ·exact ⟨by omega,hP,hc3⟩
theorem aDJ:∃ f:(aL)→(aW × aL),(∀ x,okD (.bJ2 (.slice 5 (.int .u8)) aC) x→(fun x=>0≤x.2.1) x→(fun x r=>r.1.length≤9∧(∀ o∈r.1,o.2.2.2.length≤40)∧0≤r.2.2.1:(aL)→(aW × aL)→Prop) x (f x))∧Con.Holds Tryz.prog { aDG with fn:=f }:=gY (C:=aDG) aX (aG yE (aG dV (aG aLM aT))) aZO (fun x r=>r.1.length≤9∧(∀ o∈r.1,o.2.2.2.length≤40)∧0≤r.2.2.1:(aL)→(aW × aL)→Prop) aXY
def sV:(aL)→(aW × aL):=Classical.choose aDJ
def zA:Con:=⟨39,(.bJ2 (.slice 5 (.int .u8)) aC),(.bJ2 aD (.bJ2 (.slice 5 (.int .u8)) aC)),[.box 90 ⟨true,(.bJ2 (.slice 5 (.int .u8)) aC),[]⟩],[⟨true,aD,[0]⟩],false,none,
 ((fun x=>0≤x.2.1):(aL)→Prop),
 ((sV):(aL)→(aW × aL))⟩
theorem aXO:∀ x,okD (.bJ2 (.slice 5 (.int .u8)) aC) x→(fun x=>0≤x.2.1) x→(fun x r=>r.1.length≤9∧(∀ o∈r.1,o.2.2.2.length≤40)∧0≤r.2.2.1:(aL)→(aW × aL)→Prop) x (sV x):=(Classical.choose_spec aDJ).1
theorem aLC:Con.Holds Tryz.prog zA:=(Classical.choose_spec aDJ).2
theorem aZ1 (x:aL) (hx:okD (.bJ2 (.slice 5 (.int .u8)) aC) x) (hp:(fun x=>0≤x.2.1) x):okD (.bJ2 aD (.bJ2 (.slice 5 (.int .u8)) aC)) (sV x)∧(fun x r=>r.1.length≤9∧(∀ o∈r.1,o.2.2.2.length≤40)∧0≤r.2.2.1:(aL)→(aW × aL)→Prop) x (sV x):=⟨aLC.ok x hp hx,aXO x hx hp⟩
end
end Go.Proofs.YtpleleanibgniaaGreat
