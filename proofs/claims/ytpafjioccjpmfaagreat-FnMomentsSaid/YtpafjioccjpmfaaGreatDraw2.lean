/- Draw2: lemmas. No conditions. -/
import Derived.Test.YtpafjioccjpmfaaGreatDraw1
namespace Go.Proofs.YtpafjioccjpmfaaGreat
noncomputable section
set_option maxRecDepth 100000
open Go.ChangeShapes Go.WideShapes Go.ChangeAt Go.RowKit Go.Deep
set_option linter.unusedVariables false
set_option linter.unusedSimpArgs false
theorem bPR (L N:Nat):Int.tmod (L:Int) (N:Int)=((L % N:Nat):Int):=by
 rw[Int.tmod_eq_emod_of_nonneg (by omega)];rfl
def tY:Con:=⟨49,(.bPW (.bPW (.slice 5 (.int .u8)) aD) aE),(.bPW aF (.bPW (.slice 5 (.int .u8)) aD)),[.box 91 ⟨true,(.bPW (.slice 5 (.int .u8)) aD),[]⟩,.val ⟨true,aE,[]⟩],[⟨false,aF,[0]⟩],false,none,
 ((fun x=>0≤x.1.2.1):(aN × bE)→Prop),
 ((fun _=>aP (.bPW aF (.bPW (.slice 5 (.int .u8)) aD))):(aN × bE)→(bL × aN))⟩
def sL:T:=.call 0 (.Z 0) <|.call 1 (.bPY (.bPW (.slice 5 (.int .u8)) aD) tI (aS (.bPW aF (.bPW (.slice 5 (.int .u8)) aD)) 1 (.Z 1)) (.ci .i64 16)) <|
 .bPX (.cmp .eql .i64) (.bPY tI tI (.p1 tI (.bPW (.slice 5 (.int .u8)) aD) (.Z 2)) (.ci .i64 0)) <|
 .ite (.Z 3) (
  .ret (.bPY aF (.bPW (.slice 5 (.int .u8)) aD) (.nl 108 aQ) (aS (.bPW tI (.bPW (.slice 5 (.int .u8)) aD)) 1 (.Z 2)))) (
  .bPX (.cmp .eql .i64) (.bPY tI tI (.p1 tI (.bPW (.slice 5 (.int .u8)) aD) (.Z 2)) (.ci .i64 1)) <|
  .ite (.Z 4) (
   .call 2 (aS (.bPW tI (.bPW (.slice 5 (.int .u8)) aD)) 1 (.Z 2)) <|
   .bPX (.bQ1 108 aQ) (.bPY aF tI (.p1 aF (.bPW (.slice 5 (.int .u8)) aD) (.Z 1)) (.ci .i64 0)) <|
   .bPX (.bQ1 108 aQ) (.bPY aF tI (.p1 aF (.bPW (.slice 5 (.int .u8)) aD) (.Z 1)) (.ci .i64 0)) <|
   .bPX (.bQ4 108 aQ) (bP (.bPW aF (.bPW tI aQ)) [(.p1 aF (.bPW (.slice 5 (.int .u8)) aD) (.Z 1)),(.ci .i64 0),(.p1 aB (.bPW (.slice 5 (.int .u8)) aD) (.Z 5)),(aS aQ 1 (.Z 7))]) <|
   .ret (.bPY aF (.bPW (.slice 5 (.int .u8)) aD) (.Z 8) (aS (.bPW aB (.bPW (.slice 5 (.int .u8)) aD)) 1 (.Z 5)))) (
   .bPX (.cmp .eql .i64) (.bPY tI tI (.p1 tI (.bPW (.slice 5 (.int .u8)) aD) (.Z 2)) (.ci .i64 2)) <|
   .ite (.Z 5) (
    .loop (.bPW (.slice 5 (.int .u8)) (.bPW tI (.bPW tI aF))) (bP (.bPW (.slice 5 (.int .u8)) (.bPW tI (.bPW tI aF))) [(aH (.bPW tI (.bPW (.slice 5 (.int .u8)) aD)) 1 (.Z 2)),(aH (.bPW tI (.bPW (.slice 5 (.int .u8)) aD)) 2 (.Z 2)),(aS (.bPW tI (.bPW (.slice 5 (.int .u8)) aD)) 3 (.Z 2)),(.p1 aF (.bPW (.slice 5 (.int .u8)) aD) (.Z 1))]) <|
     .bPX (.bQ0 108 aQ) (aS (.bPW (.slice 5 (.int .u8)) (.bPW tI (.bPW tI aF))) 3 (.Z 6)) <|
     .call 1 (.bPY (.bPW (.slice 5 (.int .u8)) aD) tI (bP (.bPW (.slice 5 (.int .u8)) aD) [(.p1 (.slice 5 (.int .u8)) (.bPW tI (.bPW tI aF)) (.Z 6)),(aH (.bPW (.slice 5 (.int .u8)) (.bPW tI (.bPW tI aF))) 1 (.Z 6)),(aH (.bPW (.slice 5 (.int .u8)) (.bPW tI (.bPW tI aF))) 2 (.Z 6))]) (.ci .i64 2)) <|
     .bPX (.ar .add .i64) (.bPY tI tI (.ci .i64 5) (.p1 tI (.bPW (.slice 5 (.int .u8)) aD) (.Z 8))) <|
     .bPX (.cmp .lss .i64) (.bPY tI tI (.Z 7) (.Z 9)) <|
     .ite (.Z 10) (
      .bPX (.bQ1 108 aQ) (.bPY aF tI (aS (.bPW (.slice 5 (.int .u8)) (.bPW tI (.bPW tI aF))) 3 (.Z 6)) (.ci .i64 0)) <|
      .bPX (.bQ1 108 aQ) (.bPY aF tI (aS (.bPW (.slice 5 (.int .u8)) (.bPW tI (.bPW tI aF))) 3 (.Z 6)) (.ci .i64 0)) <|
      .bPX (.lit 108 aQ 1) (.Z 12) <|
      .bPX (.bQ3 108 aQ 48) (.bPY aF aF (aS (.bPW (.slice 5 (.int .u8)) (.bPW tI (.bPW tI aF))) 3 (.Z 6)) (.Z 13)) <|
      .bPZ 0 (bP (.bPW (.slice 5 (.int .u8)) (.bPW tI (.bPW tI aF))) [(aH (.bPW tI (.bPW (.slice 5 (.int .u8)) aD)) 1 (.Z 8)),(aH (.bPW tI (.bPW (.slice 5 (.int .u8)) aD)) 2 (.Z 8)),(aS (.bPW tI (.bPW (.slice 5 (.int .u8)) aD)) 3 (.Z 8)),(.Z 14)])) (
      .ret (.bPY aF (.bPW (.slice 5 (.int .u8)) aD) (aS (.bPW (.slice 5 (.int .u8)) (.bPW tI (.bPW tI aF))) 3 (.Z 6)) (aS (.bPW tI (.bPW (.slice 5 (.int .u8)) aD)) 1 (.Z 8))))) (
    .ret (.bPY aF (.bPW (.slice 5 (.int .u8)) aD) (.p1 aF (.bPW (.slice 5 (.int .u8)) aD) (.Z 1)) (aS (.bPW tI (.bPW (.slice 5 (.int .u8)) aD)) 1 (.Z 2))))))
theorem aKF (f:(aN × bE)→(bL × aN)):bW Tryz.prog [lV,bN,aCI] { tY with fn:=f } false 3000 ⟨[(2981,12006,[.dr 21,.dr 22,.dr 14,.dr 15,.dr 11,.dr 12]++jV 10 6++[.dr 3,.dr 1,.bx 1 0,.bx 1 1,.bx 1 2,.sl 3,.nq 3])],[(2985,6005,[18],[])]⟩ = .ok sL:=by kernel_rfl
theorem aKR (x:aN × bE) (hx:okD (.bPW (.bPW (.slice 5 (.int .u8)) aD) aE) x) (hp:(fun x=>0≤x.1.2.1) x):sL.wp [lV,bN,aCI] [⟨(.bPW (.bPW (.slice 5 (.int .u8)) aD) aE),x⟩] [] (fun v=>(fun x r=>r.1.length≤6∧(∀ p∈r.1,p.1.length≤7∧p.2.length≤7)∧0≤r.2.2.1:(aN × bE)→(bL × aN)→Prop) x (v.as (.bPW aF (.bPW (.slice 5 (.int .u8)) aD)))):=by
 obtain ⟨c,m⟩:=x
 have q1:=aIA (c,m) hx hp
 delta sL lV bN aCI;refine dY ?_
 refine eD ?_
 refine ⟨hp,fun _=>?_⟩
 generalize nN (c,m)=r at q1 ⊢;obtain ⟨l1,c1⟩:=r;obtain ⟨kq1,uq1⟩:=q1;have kl1:=kq1.1;replace kq1:okD mM c1:=kq1.2;dsimp only at uq1 ⊢
 change List cB at l1
 have u7:∀ p∈l1,List.length p.1≤7∧List.length p.2≤7:=fun p hp=>by have:=uq1.2.2.1 p hp;omega
 refine ⟨uq1.2.2.2,fun _=>?_⟩
 have q2:=cK (c1,16) ⟨kq1,okI (by omega) (by omega)⟩ uq1.2.2.2
 generalize cF (c1,16)=r at q2 ⊢;obtain ⟨n2,c2⟩:=r;obtain ⟨kq2,uq2⟩:=q2;replace kq2:okD mM c2:=kq2.2;dsimp only at uq2 ⊢
 refine ⟨fun _=>⟨by omega,fun p hp=>by simp at hp,uq2.2.2.2⟩,fun _=>⟨fun _=>⟨uq2.2.2.2,fun _=>?_⟩,fun _=>⟨fun _=>?_,fun _=>⟨by omega,u7,uq2.2.2.2⟩⟩⟩⟩
 ·have q3:=(bE6 c2 kq2 uq2.2.2.2).2
  generalize wR c2=r at q3 ⊢;obtain ⟨v3,c3⟩:=r;dsimp only at q3 ⊢
  have hl0:0<l1.length:=by omega
  refine ⟨⟨by omega,by omega⟩,fun _=>⟨⟨by omega,by omega⟩,fun _=>⟨⟨by omega,by omega⟩,fun _=>⟨by rw[List.length_set];omega,fun p hp=>?_,q3.2⟩⟩⟩⟩
  rcases List.mem_or_eq_of_mem_set hp with hp|hp
  ·exact u7 p hp
  ·subst hp
   rw[aW hl0]
   exact ⟨q3.1,(u7 _ (List.getElem_mem hl0)).2⟩
 ·refine ⟨fun s=>1≤List.length s.2.2.2∧List.length s.2.2.2≤6∧(∀ p∈s.2.2.2,List.length p.1≤7∧List.length p.2≤7)∧@LE.le Int _ 0 s.2.1,fun s=>7 - List.length s.2.2.2,⟨uq1.1.1,by show l1.length≤6;omega,u7,uq2.2.2.2⟩,fun s hs hI=>?_⟩
  obtain ⟨b,i,h,l⟩:=s
  obtain ⟨e1,e2,e3,e4⟩:=hI
  change List cB at l
  change 1≤l.length at e1
  change l.length≤6 at e2
  change ∀ p∈l,List.length p.1≤7∧List.length p.2≤7 at e3
  change 0≤(i:Int) at e4
  have q3:=(cK ((b,i,h),2) ⟨⟨hs.1,hs.2.1,hs.2.2.1⟩,okI (by omega) (by omega)⟩ e4).2
  try dsimp only
  try refine eD ?_
  generalize cF ((b,i,h),2)=r at q3 ⊢;obtain ⟨n3,c3⟩:=r;dsimp only at q3 ⊢
  have hl0:0<l.length:=by omega
  refine fun _=>⟨e4,fun _=>⟨by omega,fun _=>⟨fun hlt=>?_,fun hge=>⟨e2,e3,q3.2.2.2⟩⟩⟩⟩
  rw[aW hl0]
  have e5:∀ p∈l++[l[0]],List.length p.1≤7∧List.length p.2≤7:=fun p hp=>by
   rcases List.mem_append.1 hp with hp|hp
   ·exact e3 p hp
   ·rw[List.mem_singleton] at hp
    rw[hp];exact e3 _ (List.getElem_mem hl0)
  (repeat' first|intro _|(with_reducible apply And.intro))
  all_goals first|omega|(unfold maxLen;omega)|exact q3.2.2.2|exact (e5 _ (by assumption)).1|exact (e5 _ (by assumption)).2
theorem tE:∃ f:(aN × bE)→(bL × aN),(∀ x,okD (.bPW (.bPW (.slice 5 (.int .u8)) aD) aE) x→(fun x=>0≤x.1.2.1) x→(fun x r=>r.1.length≤6∧(∀ p∈r.1,p.1.length≤7∧p.2.length≤7)∧0≤r.2.2.1:(aN × bE)→(bL × aN)→Prop) x (f x))∧Con.Holds Tryz.prog { tY with fn:=f }:=iX (C:=tY) aZ (aG zW (aG eV (aG aQ3 aT))) aKF (fun x r=>r.1.length≤6∧(∀ p∈r.1,p.1.length≤7∧p.2.length≤7)∧0≤r.2.2.1:(aN × bE)→(bL × aN)→Prop) aKR
def kW:(aN × bE)→(bL × aN):=Classical.choose tE
def nR:Con:=⟨49,(.bPW (.bPW (.slice 5 (.int .u8)) aD) aE),(.bPW aF (.bPW (.slice 5 (.int .u8)) aD)),[.box 91 ⟨true,(.bPW (.slice 5 (.int .u8)) aD),[]⟩,.val ⟨true,aE,[]⟩],[⟨false,aF,[0]⟩],false,none,
 ((fun x=>0≤x.1.2.1):(aN × bE)→Prop),
 ((kW):(aN × bE)→(bL × aN))⟩
theorem aKA:∀ x,okD (.bPW (.bPW (.slice 5 (.int .u8)) aD) aE) x→(fun x=>0≤x.1.2.1) x→(fun x r=>r.1.length≤6∧(∀ p∈r.1,p.1.length≤7∧p.2.length≤7)∧0≤r.2.2.1:(aN × bE)→(bL × aN)→Prop) x (kW x):=(Classical.choose_spec tE).1
theorem aAH:Con.Holds Tryz.prog nR:=(Classical.choose_spec tE).2
theorem aLN (x:aN × bE) (hx:okD (.bPW (.bPW (.slice 5 (.int .u8)) aD) aE) x) (hp:(fun x=>0≤x.1.2.1) x):okD (.bPW aF (.bPW (.slice 5 (.int .u8)) aD)) (kW x)∧(fun x r=>r.1.length≤6∧(∀ p∈r.1,p.1.length≤7∧p.2.length≤7)∧0≤r.2.2.1:(aN × bE)→(bL × aN)→Prop) x (kW x):=⟨aAH.ok x hp hx,aKA x hx hp⟩
def uX:Con:=⟨5,(.slice 5 (.int .u8)),.bool,[.val ⟨false,(.slice 5 (.int .u8)),[]⟩],[⟨false,.bool,[0]⟩],false,none,
 ((fun _=>True):(List Int)→Prop),
 ((fun x=>decide (1048576<x.length)):(List Int)→(Bool))⟩
def aSK:T :=
 .bPX (.bQ0 5 (.int .u8)) (.Z 0) <|
 .bPX (.cmp .gtr .i64) (.bPY tI tI (.Z 1) (.ci .i64 1048576)) <|
 .ret (.Z 2)
theorem bML:bW Tryz.prog [] uX false 3000 ⟨[],[]⟩ = .ok aSK:=by kernel_rfl
theorem bKM (x:List Int) (hx:okD (.slice 5 (.int .u8)) x) (hp:(fun _=>True) x):aSK.wp [] [⟨(.slice 5 (.int .u8)),x⟩] [] (fun v=>v.as .bool=(fun x=>decide (1048576<x.length)) x):=by
 delta aSK;refine dY ?_
 refine eD ?_
 intro _
 rw[decide_eq_decide];omega
theorem bCW:Con.Holds Tryz.prog uX:=aX aZ aT bML bKM
end
end Go.Proofs.YtpafjioccjpmfaaGreat
