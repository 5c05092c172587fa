/- Draw2: lemmas. No conditions. -/
import Derived.Test.YtpleleanibgniaaGreatDraw1
namespace Go.Proofs.YtpleleanibgniaaGreat
noncomputable section
set_option maxRecDepth 100000
open Go.ChangeShapes Go.WideShapes Go.ChangeAt Go.RowKit Go.Deep
set_option linter.unusedVariables false
set_option linter.unusedSimpArgs false
def pS:Con:=⟨41,(.bJ2 (.bJ2 (.slice 5 (.int .u8)) aC) aD),(.bJ2 aF (.bJ2 (.slice 5 (.int .u8)) aC)),[.box 90 ⟨true,(.bJ2 (.slice 5 (.int .u8)) aC),[]⟩,.val ⟨true,aD,[]⟩],[⟨false,aF,[0]⟩],false,none,
 ((fun x=>0≤x.1.2.1):(aL × aW)→Prop),
 ((fun _=>aS (.bJ2 aF (.bJ2 (.slice 5 (.int .u8)) aC))):(aL × aW)→(bS × aL))⟩
def oT:T:=.call 0 (.Z 0) <|.call 1 (.bJ4 (.bJ2 (.slice 5 (.int .u8)) aC) tI (aR (.bJ2 aF (.bJ2 (.slice 5 (.int .u8)) aC)) 1 (.Z 1)) (.ci .i64 16)) <|
 .bJ3 (.cmp .eql .i64) (.bJ4 tI tI (.p1 tI (.bJ2 (.slice 5 (.int .u8)) aC) (.Z 2)) (.ci .i64 0)) <|
 .ite (.Z 3) (
  .ret (.bJ4 aF (.bJ2 (.slice 5 (.int .u8)) aC) (.nl 67 aQ) (aR (.bJ2 tI (.bJ2 (.slice 5 (.int .u8)) aC)) 1 (.Z 2)))) (
  .bJ3 (.cmp .eql .i64) (.bJ4 tI tI (.p1 tI (.bJ2 (.slice 5 (.int .u8)) aC) (.Z 2)) (.ci .i64 1)) <|
  .ite (.Z 4) (
   .call 2 (aR (.bJ2 tI (.bJ2 (.slice 5 (.int .u8)) aC)) 1 (.Z 2)) <|
   .bJ3 (.bJ7 67 aQ) (.bJ4 aF tI (.p1 aF (.bJ2 (.slice 5 (.int .u8)) aC) (.Z 1)) (.ci .i64 0)) <|
   .bJ3 (.bJ7 67 aQ) (.bJ4 aF tI (.p1 aF (.bJ2 (.slice 5 (.int .u8)) aC) (.Z 1)) (.ci .i64 0)) <|
   .bJ3 (.bJA 67 aQ) (bJ (.bJ2 aF (.bJ2 tI aQ)) [(.p1 aF (.bJ2 (.slice 5 (.int .u8)) aC) (.Z 1)),(.ci .i64 0),(.p1 aB (.bJ2 (.slice 5 (.int .u8)) aC) (.Z 5)),(aR aQ 1 (.Z 7))]) <|
   .ret (.bJ4 aF (.bJ2 (.slice 5 (.int .u8)) aC) (.Z 8) (aR (.bJ2 aB (.bJ2 (.slice 5 (.int .u8)) aC)) 1 (.Z 5)))) (
   .bJ3 (.cmp .eql .i64) (.bJ4 tI tI (.p1 tI (.bJ2 (.slice 5 (.int .u8)) aC) (.Z 2)) (.ci .i64 2)) <|
   .ite (.Z 5) (
    .loop (.bJ2 (.slice 5 (.int .u8)) (.bJ2 tI (.bJ2 tI aF))) (bJ (.bJ2 (.slice 5 (.int .u8)) (.bJ2 tI (.bJ2 tI aF))) [(aJ (.bJ2 tI (.bJ2 (.slice 5 (.int .u8)) aC)) 1 (.Z 2)),(aJ (.bJ2 tI (.bJ2 (.slice 5 (.int .u8)) aC)) 2 (.Z 2)),(aR (.bJ2 tI (.bJ2 (.slice 5 (.int .u8)) aC)) 3 (.Z 2)),(.p1 aF (.bJ2 (.slice 5 (.int .u8)) aC) (.Z 1))]) <|
     .bJ3 (.bJ6 67 aQ) (aR (.bJ2 (.slice 5 (.int .u8)) (.bJ2 tI (.bJ2 tI aF))) 3 (.Z 6)) <|
     .call 1 (.bJ4 (.bJ2 (.slice 5 (.int .u8)) aC) tI (bJ (.bJ2 (.slice 5 (.int .u8)) aC) [(.p1 (.slice 5 (.int .u8)) (.bJ2 tI (.bJ2 tI aF)) (.Z 6)),(aJ (.bJ2 (.slice 5 (.int .u8)) (.bJ2 tI (.bJ2 tI aF))) 1 (.Z 6)),(aJ (.bJ2 (.slice 5 (.int .u8)) (.bJ2 tI (.bJ2 tI aF))) 2 (.Z 6))]) (.ci .i64 2)) <|
     .bJ3 (.ar .add .i64) (.bJ4 tI tI (.ci .i64 5) (.p1 tI (.bJ2 (.slice 5 (.int .u8)) aC) (.Z 8))) <|
     .bJ3 (.cmp .lss .i64) (.bJ4 tI tI (.Z 7) (.Z 9)) <|
     .ite (.Z 10) (
      .bJ3 (.bJ7 67 aQ) (.bJ4 aF tI (aR (.bJ2 (.slice 5 (.int .u8)) (.bJ2 tI (.bJ2 tI aF))) 3 (.Z 6)) (.ci .i64 0)) <|
      .bJ3 (.bJ7 67 aQ) (.bJ4 aF tI (aR (.bJ2 (.slice 5 (.int .u8)) (.bJ2 tI (.bJ2 tI aF))) 3 (.Z 6)) (.ci .i64 0)) <|
      .bJ3 (.lit 67 aQ 1) (.Z 12) <|
      .bJ3 (.bJ9 67 aQ 48) (.bJ4 aF aF (aR (.bJ2 (.slice 5 (.int .u8)) (.bJ2 tI (.bJ2 tI aF))) 3 (.Z 6)) (.Z 13)) <|
      .bJ5 0 (bJ (.bJ2 (.slice 5 (.int .u8)) (.bJ2 tI (.bJ2 tI aF))) [(aJ (.bJ2 tI (.bJ2 (.slice 5 (.int .u8)) aC)) 1 (.Z 8)),(aJ (.bJ2 tI (.bJ2 (.slice 5 (.int .u8)) aC)) 2 (.Z 8)),(aR (.bJ2 tI (.bJ2 (.slice 5 (.int .u8)) aC)) 3 (.Z 8)),(.Z 14)])) (
      .ret (.bJ4 aF (.bJ2 (.slice 5 (.int .u8)) aC) (aR (.bJ2 (.slice 5 (.int .u8)) (.bJ2 tI (.bJ2 tI aF))) 3 (.Z 6)) (aR (.bJ2 tI (.bJ2 (.slice 5 (.int .u8)) aC)) 1 (.Z 8))))) (
    .ret (.bJ4 aF (.bJ2 (.slice 5 (.int .u8)) aC) (.p1 aF (.bJ2 (.slice 5 (.int .u8)) aC) (.Z 1)) (aR (.bJ2 tI (.bJ2 (.slice 5 (.int .u8)) aC)) 1 (.Z 2))))))
theorem aIP (f:(aL × aW)→(bS × aL)):bV Tryz.prog [iZ,bG,yN] { pS with fn:=f } false 3000 ⟨[(2981,12006,[.dr 21,.dr 22,.dr 14,.dr 15,.dr 11,.dr 12]++mW 10 6++[.dr 3,.dr 1,.bx 1 0,.bx 1 1,.bx 1 2,.sl 3,.nq 3])],[(2985,6005,[18],[])]⟩ = .ok oT:=by kernel_rfl
theorem aH0 (x:aL × aW) (hx:okD (.bJ2 (.bJ2 (.slice 5 (.int .u8)) aC) aD) x) (hp:(fun x=>0≤x.1.2.1) x):oT.wp [iZ,bG,yN] [⟨(.bJ2 (.bJ2 (.slice 5 (.int .u8)) aC) aD),x⟩] [] (fun v=>(fun x r=>r.1.length≤6∧(∀ p∈r.1,p.1.length≤7∧p.2.length≤7)∧0≤r.2.2.1:(aL × aW)→(bS × aL)→Prop) x (v.as (.bJ2 aF (.bJ2 (.slice 5 (.int .u8)) aC)))):=by
 obtain ⟨c,m⟩:=x
 have q1:=aEW (c,m) hx hp
 delta oT iZ bG yN;refine eE ?_
 refine eL ?_
 refine ⟨hp,fun _=>?_⟩
 generalize kZ (c,m)=r at q1 ⊢;obtain ⟨l1,c1⟩:=r;obtain ⟨kq1,uq1⟩:=q1;have kl1:=kq1.1;replace kq1:okD kA c1:=kq1.2;dsimp only at uq1 ⊢
 change List cI at l1
 have u7:∀ p∈l1,List.length p.1≤7∧List.length p.2≤7:=fun p hp=>by have:=uq1.2.2.1 p hp;omega
 refine ⟨uq1.2.2.2,fun _=>?_⟩
 have q2:=cA (c1,16) ⟨kq1,okI (by omega) (by omega)⟩ uq1.2.2.2
 generalize bU (c1,16)=r at q2 ⊢;obtain ⟨n2,c2⟩:=r;obtain ⟨kq2,uq2⟩:=q2;replace kq2:okD kA c2:=kq2.2;dsimp only at uq2 ⊢
 refine ⟨fun _=>⟨by omega,fun p hp=>by simp at hp,uq2.2.2.2⟩,fun _=>⟨fun _=>⟨uq2.2.2.2,fun _=>?_⟩,fun _=>⟨fun _=>?_,fun _=>⟨by omega,u7,uq2.2.2.2⟩⟩⟩⟩
 ·have q3:=(aX5 c2 kq2 uq2.2.2.2).2
  generalize tP c2=r at q3 ⊢;obtain ⟨v3,c3⟩:=r;dsimp only at q3 ⊢
  have hl0:0<l1.length:=by omega
  refine ⟨⟨by omega,by omega⟩,fun _=>⟨⟨by omega,by omega⟩,fun _=>⟨⟨by omega,by omega⟩,fun _=>⟨by rw[List.length_set];omega,fun p hp=>?_,q3.2⟩⟩⟩⟩
  rcases List.mem_or_eq_of_mem_set hp with hp|hp
  ·exact u7 p hp
  ·subst hp
   rw[bD hl0]
   exact ⟨q3.1,(u7 _ (List.getElem_mem hl0)).2⟩
 ·refine ⟨fun s=>1≤List.length s.2.2.2∧List.length s.2.2.2≤6∧(∀ p∈s.2.2.2,List.length p.1≤7∧List.length p.2≤7)∧@LE.le Int _ 0 s.2.1,fun s=>7 - List.length s.2.2.2,⟨uq1.1.1,by show l1.length≤6;omega,u7,uq2.2.2.2⟩,fun s hs hI=>?_⟩
  obtain ⟨b,i,h,l⟩:=s
  obtain ⟨e1,e2,e3,e4⟩:=hI
  change List cI at l
  change 1≤l.length at e1
  change l.length≤6 at e2
  change ∀ p∈l,List.length p.1≤7∧List.length p.2≤7 at e3
  change 0≤(i:Int) at e4
  have q3:=(cA ((b,i,h),2) ⟨⟨hs.1,hs.2.1,hs.2.2.1⟩,okI (by omega) (by omega)⟩ e4).2
  try dsimp only
  try refine eL ?_
  generalize bU ((b,i,h),2)=r at q3 ⊢;obtain ⟨n3,c3⟩:=r;dsimp only at q3 ⊢
  have hl0:0<l.length:=by omega
  refine fun _=>⟨e4,fun _=>⟨by omega,fun _=>⟨fun hlt=>?_,fun hge=>⟨e2,e3,q3.2.2.2⟩⟩⟩⟩
  rw[bD hl0]
  have e5:∀ p∈l++[l[0]],List.length p.1≤7∧List.length p.2≤7:=fun p hp=>by
   rcases List.mem_append.1 hp with hp|hp
   ·exact e3 p hp
   ·rw[List.mem_singleton] at hp
    rw[hp];exact e3 _ (List.getElem_mem hl0)
  (repeat' first|intro _|(with_reducible apply And.intro))
  all_goals first|omega|(unfold maxLen;omega)|exact q3.2.2.2|exact (e5 _ (by assumption)).1|exact (e5 _ (by assumption)).2
theorem oZ:∃ f:(aL × aW)→(bS × aL),(∀ x,okD (.bJ2 (.bJ2 (.slice 5 (.int .u8)) aC) aD) x→(fun x=>0≤x.1.2.1) x→(fun x r=>r.1.length≤6∧(∀ p∈r.1,p.1.length≤7∧p.2.length≤7)∧0≤r.2.2.1:(aL × aW)→(bS × aL)→Prop) x (f x))∧Con.Holds Tryz.prog { pS with fn:=f }:=gY (C:=pS) aX (aG xS (aG dV (aG aKU aT))) aIP (fun x r=>r.1.length≤6∧(∀ p∈r.1,p.1.length≤7∧p.2.length≤7)∧0≤r.2.2.1:(aL × aW)→(bS × aL)→Prop) aH0
def iX:(aL × aW)→(bS × aL):=Classical.choose oZ
def lG:Con:=⟨41,(.bJ2 (.bJ2 (.slice 5 (.int .u8)) aC) aD),(.bJ2 aF (.bJ2 (.slice 5 (.int .u8)) aC)),[.box 90 ⟨true,(.bJ2 (.slice 5 (.int .u8)) aC),[]⟩,.val ⟨true,aD,[]⟩],[⟨false,aF,[0]⟩],false,none,
 ((fun x=>0≤x.1.2.1):(aL × aW)→Prop),
 ((iX):(aL × aW)→(bS × aL))⟩
theorem aGQ:∀ x,okD (.bJ2 (.bJ2 (.slice 5 (.int .u8)) aC) aD) x→(fun x=>0≤x.1.2.1) x→(fun x r=>r.1.length≤6∧(∀ p∈r.1,p.1.length≤7∧p.2.length≤7)∧0≤r.2.2.1:(aL × aW)→(bS × aL)→Prop) x (iX x):=(Classical.choose_spec oZ).1
theorem wA:Con.Holds Tryz.prog lG:=(Classical.choose_spec oZ).2
theorem aGK (x:aL × aW) (hx:okD (.bJ2 (.bJ2 (.slice 5 (.int .u8)) aC) aD) x) (hp:(fun x=>0≤x.1.2.1) x):okD (.bJ2 aF (.bJ2 (.slice 5 (.int .u8)) aC)) (iX x)∧(fun x r=>r.1.length≤6∧(∀ p∈r.1,p.1.length≤7∧p.2.length≤7)∧0≤r.2.2.1:(aL × aW)→(bS × aL)→Prop) x (iX x):=⟨wA.ok x hp hx,aGQ x hx hp⟩
def aCR:Con:=⟨4,(.slice 5 (.int .u8)),.bool,[.val ⟨false,(.slice 5 (.int .u8)),[]⟩],[⟨false,.bool,[0]⟩],false,none,
 ((fun _=>True):(List Int)→Prop),
 ((fun x=>decide (1048576<x.length)):(List Int)→(Bool))⟩
def aLU:T :=
 .bJ3 (.bJ6 5 (.int .u8)) (.Z 0) <|
 .bJ3 (.cmp .gtr .i64) (.bJ4 tI tI (.Z 1) (.ci .i64 1048576)) <|
 .ret (.Z 2)
theorem bEK:bV Tryz.prog [] aCR false 3000 ⟨[],[]⟩ = .ok aLU:=by kernel_rfl
theorem bEN (x:List Int) (hx:okD (.slice 5 (.int .u8)) x) (hp:(fun _=>True) x):aLU.wp [] [⟨(.slice 5 (.int .u8)),x⟩] [] (fun v=>v.as .bool=(fun x=>decide (1048576<x.length)) x):=by
 delta aLU;refine eE ?_
 refine eL ?_
 intro _
 rw[decide_eq_decide];omega
theorem bE9:Con.Holds Tryz.prog aCR:=aV aX aT bEK bEN
end
end Go.Proofs.YtpleleanibgniaaGreat
