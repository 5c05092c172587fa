/- Draw2: lemmas. No conditions. -/
import Derived.Test.YtabamggdmdednaaGreatDraw1
namespace Go.Proofs.YtabamggdmdednaaGreat
noncomputable section
set_option maxRecDepth 100000
open Go.ChangeShapes Go.WideShapes Go.ChangeAt Go.RowKit Go.Deep
set_option linter.unusedVariables false
set_option linter.unusedSimpArgs false
def tS:Con:=⟨21,(.bRW (.bRW (.slice 5 (.int .u8)) aD) aE),(.bRW aG (.bRW (.slice 5 (.int .u8)) aD)),[.box 62 ⟨true,(.bRW (.slice 5 (.int .u8)) aD),[]⟩,.val ⟨true,aE,[]⟩],[⟨false,aG,[0]⟩],false,none,
 ((fun x=>0≤x.1.2.1):(aT × aY)→Prop),
 ((fun _=>aW (.bRW aG (.bRW (.slice 5 (.int .u8)) aD))):(aT × aY)→(bO × aT))⟩
def tY:T:=.call 0 (.Z 0) <|.call 1 (.bRY (.bRW (.slice 5 (.int .u8)) aD) tI (aP (.bRW aG (.bRW (.slice 5 (.int .u8)) aD)) 1 (.Z 1)) (.ci .i64 16)) <|
 .bRX (.cmp .eql .i64) (.bRY tI tI (.p1 tI (.bRW (.slice 5 (.int .u8)) aD) (.Z 2)) (.ci .i64 0)) <|
 .ite (.Z 3) (
  .ret (.bRY aG (.bRW (.slice 5 (.int .u8)) aD) (.nl 92 aO) (aP (.bRW tI (.bRW (.slice 5 (.int .u8)) aD)) 1 (.Z 2)))) (
  .bRX (.cmp .eql .i64) (.bRY tI tI (.p1 tI (.bRW (.slice 5 (.int .u8)) aD) (.Z 2)) (.ci .i64 1)) <|
  .ite (.Z 4) (
   .call 2 (aP (.bRW tI (.bRW (.slice 5 (.int .u8)) aD)) 1 (.Z 2)) <|
   .bRX (.bS1 92 aO) (.bRY aG tI (.p1 aG (.bRW (.slice 5 (.int .u8)) aD) (.Z 1)) (.ci .i64 0)) <|
   .bRX (.bS1 92 aO) (.bRY aG tI (.p1 aG (.bRW (.slice 5 (.int .u8)) aD) (.Z 1)) (.ci .i64 0)) <|
   .bRX (.bS4 92 aO) (bB (.bRW aG (.bRW tI aO)) [(.p1 aG (.bRW (.slice 5 (.int .u8)) aD) (.Z 1)),(.ci .i64 0),(.p1 aB (.bRW (.slice 5 (.int .u8)) aD) (.Z 5)),(aP aO 1 (.Z 7))]) <|
   .ret (.bRY aG (.bRW (.slice 5 (.int .u8)) aD) (.Z 8) (aP (.bRW aB (.bRW (.slice 5 (.int .u8)) aD)) 1 (.Z 5)))) (
   .bRX (.cmp .eql .i64) (.bRY tI tI (.p1 tI (.bRW (.slice 5 (.int .u8)) aD) (.Z 2)) (.ci .i64 2)) <|
   .ite (.Z 5) (
    .loop (.bRW (.slice 5 (.int .u8)) (.bRW tI (.bRW tI aG))) (bB (.bRW (.slice 5 (.int .u8)) (.bRW tI (.bRW tI aG))) [(aK (.bRW tI (.bRW (.slice 5 (.int .u8)) aD)) 1 (.Z 2)),(aK (.bRW tI (.bRW (.slice 5 (.int .u8)) aD)) 2 (.Z 2)),(aP (.bRW tI (.bRW (.slice 5 (.int .u8)) aD)) 3 (.Z 2)),(.p1 aG (.bRW (.slice 5 (.int .u8)) aD) (.Z 1))]) <|
     .bRX (.bS0 92 aO) (aP (.bRW (.slice 5 (.int .u8)) (.bRW tI (.bRW tI aG))) 3 (.Z 6)) <|
     .call 1 (.bRY (.bRW (.slice 5 (.int .u8)) aD) tI (bB (.bRW (.slice 5 (.int .u8)) aD) [(.p1 (.slice 5 (.int .u8)) (.bRW tI (.bRW tI aG)) (.Z 6)),(aK (.bRW (.slice 5 (.int .u8)) (.bRW tI (.bRW tI aG))) 1 (.Z 6)),(aK (.bRW (.slice 5 (.int .u8)) (.bRW tI (.bRW tI aG))) 2 (.Z 6))]) (.ci .i64 2)) <|
     .bRX (.ar .add .i64) (.bRY tI tI (.ci .i64 5) (.p1 tI (.bRW (.slice 5 (.int .u8)) aD) (.Z 8))) <|
     .bRX (.cmp .lss .i64) (.bRY tI tI (.Z 7) (.Z 9)) <|
     .ite (.Z 10) (
      .bRX (.bS1 92 aO) (.bRY aG tI (aP (.bRW (.slice 5 (.int .u8)) (.bRW tI (.bRW tI aG))) 3 (.Z 6)) (.ci .i64 0)) <|
      .bRX (.bS1 92 aO) (.bRY aG tI (aP (.bRW (.slice 5 (.int .u8)) (.bRW tI (.bRW tI aG))) 3 (.Z 6)) (.ci .i64 0)) <|
      .bRX (.lit 92 aO 1) (.Z 12) <|
      .bRX (.bS3 92 aO 48) (.bRY aG aG (aP (.bRW (.slice 5 (.int .u8)) (.bRW tI (.bRW tI aG))) 3 (.Z 6)) (.Z 13)) <|
      .bRZ 0 (bB (.bRW (.slice 5 (.int .u8)) (.bRW tI (.bRW tI aG))) [(aK (.bRW tI (.bRW (.slice 5 (.int .u8)) aD)) 1 (.Z 8)),(aK (.bRW tI (.bRW (.slice 5 (.int .u8)) aD)) 2 (.Z 8)),(aP (.bRW tI (.bRW (.slice 5 (.int .u8)) aD)) 3 (.Z 8)),(.Z 14)])) (
      .ret (.bRY aG (.bRW (.slice 5 (.int .u8)) aD) (aP (.bRW (.slice 5 (.int .u8)) (.bRW tI (.bRW tI aG))) 3 (.Z 6)) (aP (.bRW tI (.bRW (.slice 5 (.int .u8)) aD)) 1 (.Z 8))))) (
    .ret (.bRY aG (.bRW (.slice 5 (.int .u8)) aD) (.p1 aG (.bRW (.slice 5 (.int .u8)) aD) (.Z 1)) (aP (.bRW tI (.bRW (.slice 5 (.int .u8)) aD)) 1 (.Z 2))))))
theorem aMC (f:(aT × aY)→(bO × aT)):bI Tryz.prog [lO,bP,aDZ] { tS with fn:=f } false 3000 ⟨[(2981,12006,[.dr 21,.dr 22,.dr 14,.dr 15,.dr 11,.dr 12]++gQ 10 6++[.dr 3,.dr 1,.bx 1 0,.bx 1 1,.bx 1 2,.sl 3,.nq 3])],[(2985,6005,[18],[])]⟩ = .ok tY:=by kernel_rfl
theorem aNT (x:aT × aY) (hx:okD (.bRW (.bRW (.slice 5 (.int .u8)) aD) aE) x) (hp:(fun x=>0≤x.1.2.1) x):tY.wp [lO,bP,aDZ] [⟨(.bRW (.bRW (.slice 5 (.int .u8)) aD) aE),x⟩] [] (fun v=>(fun x r=>r.1.length≤6∧(∀ p∈r.1,p.1.length≤7∧p.2.length≤7)∧0≤r.2.2.1:(aT × aY)→(bO × aT)→Prop) x (v.as (.bRW aG (.bRW (.slice 5 (.int .u8)) aD)))):=by
 obtain ⟨c,m⟩:=x
 have q1:=aK1 (c,m) hx hp
 delta tY lO bP aDZ;refine cW ?_
 refine dB ?_
 refine ⟨hp,fun _=>?_⟩
 generalize nU (c,m)=r at q1 ⊢;obtain ⟨l1,c1⟩:=r;obtain ⟨kq1,uq1⟩:=q1;have kl1:=kq1.1;replace kq1:okD nB c1:=kq1.2;dsimp only at uq1 ⊢
 change List bT at l1
 have u7:∀ p∈l1,List.length p.1≤7∧List.length p.2≤7:=fun p hp=>by have:=uq1.2.2.1 p hp;omega
 refine ⟨uq1.2.2.2,fun _=>?_⟩
 have q2:=cF (c1,16) ⟨kq1,okI (by omega) (by omega)⟩ uq1.2.2.2
 generalize cA (c1,16)=r at q2 ⊢;obtain ⟨n2,c2⟩:=r;obtain ⟨kq2,uq2⟩:=q2;replace kq2:okD nB c2:=kq2.2;dsimp only at uq2 ⊢
 refine ⟨fun _=>⟨by omega,fun p hp=>by simp at hp,uq2.2.2.2⟩,fun _=>⟨fun _=>⟨uq2.2.2.2,fun _=>?_⟩,fun _=>⟨fun _=>?_,fun _=>⟨by omega,u7,uq2.2.2.2⟩⟩⟩⟩
 ·have q3:=(bHD c2 kq2 uq2.2.2.2).2
  generalize yB c2=r at q3 ⊢;obtain ⟨v3,c3⟩:=r;dsimp only at q3 ⊢
  have hl0:0<l1.length:=by omega
  refine ⟨⟨by omega,by omega⟩,fun _=>⟨⟨by omega,by omega⟩,fun _=>⟨⟨by omega,by omega⟩,fun _=>⟨by rw[List.length_set];omega,fun p hp=>?_,q3.2⟩⟩⟩⟩
  rcases List.mem_or_eq_of_mem_set hp with hp|hp
  ·exact u7 p hp
  ·subst hp
   rw[aZ hl0]
   exact ⟨q3.1,(u7 _ (List.getElem_mem hl0)).2⟩
 ·refine ⟨fun s=>1≤List.length s.2.2.2∧List.length s.2.2.2≤6∧(∀ p∈s.2.2.2,List.length p.1≤7∧List.length p.2≤7)∧@LE.le Int _ 0 s.2.1,fun s=>7 - List.length s.2.2.2,⟨uq1.1,by show l1.length≤6;omega,u7,uq2.2.2.2⟩,fun s hs hI=>?_⟩
  obtain ⟨b,i,h,l⟩:=s
  obtain ⟨e1,e2,e3,e4⟩:=hI
  change List bT at l
  change 1≤l.length at e1
  change l.length≤6 at e2
  change ∀ p∈l,List.length p.1≤7∧List.length p.2≤7 at e3
  change 0≤(i:Int) at e4
  have q3:=(cF ((b,i,h),2) ⟨⟨hs.1,hs.2.1,hs.2.2.1⟩,okI (by omega) (by omega)⟩ e4).2
  try dsimp only
  try refine dB ?_
  generalize cA ((b,i,h),2)=r at q3 ⊢;obtain ⟨n3,c3⟩:=r;dsimp only at q3 ⊢
  have hl0:0<l.length:=by omega
  refine fun _=>⟨e4,fun _=>⟨by omega,fun _=>⟨fun hlt=>?_,fun hge=>⟨e2,e3,q3.2.2.2⟩⟩⟩⟩
  rw[aZ hl0]
  have e5:∀ p∈l++[l[0]],List.length p.1≤7∧List.length p.2≤7:=fun p hp=>by
   rcases List.mem_append.1 hp with hp|hp
   ·exact e3 p hp
   ·rw[List.mem_singleton] at hp
    rw[hp];exact e3 _ (List.getElem_mem hl0)
  (repeat' first|intro _|(with_reducible apply And.intro))
  all_goals first|omega|(unfold maxLen;omega)|exact q3.2.2.2|exact (e5 _ (by assumption)).1|exact (e5 _ (by assumption)).2
theorem uH:∃ f:(aT × aY)→(bO × aT),(∀ x,okD (.bRW (.bRW (.slice 5 (.int .u8)) aD) aE) x→(fun x=>0≤x.1.2.1) x→(fun x r=>r.1.length≤6∧(∀ p∈r.1,p.1.length≤7∧p.2.length≤7)∧0≤r.2.2.1:(aT × aY)→(bO × aT)→Prop) x (f x))∧Con.Holds Tryz.prog { tS with fn:=f }:=kT (C:=tS) aV (aI aAQ (aI eN (aI aQY aQ))) aMC (fun x r=>r.1.length≤6∧(∀ p∈r.1,p.1.length≤7∧p.2.length≤7)∧0≤r.2.2.1:(aT × aY)→(bO × aT)→Prop) aNT
def lZ:(aT × aY)→(bO × aT):=Classical.choose uH
def oN:Con:=⟨21,(.bRW (.bRW (.slice 5 (.int .u8)) aD) aE),(.bRW aG (.bRW (.slice 5 (.int .u8)) aD)),[.box 62 ⟨true,(.bRW (.slice 5 (.int .u8)) aD),[]⟩,.val ⟨true,aE,[]⟩],[⟨false,aG,[0]⟩],false,none,
 ((fun x=>0≤x.1.2.1):(aT × aY)→Prop),
 ((lZ):(aT × aY)→(bO × aT))⟩
theorem aOM:∀ x,okD (.bRW (.bRW (.slice 5 (.int .u8)) aD) aE) x→(fun x=>0≤x.1.2.1) x→(fun x r=>r.1.length≤6∧(∀ p∈r.1,p.1.length≤7∧p.2.length≤7)∧0≤r.2.2.1:(aT × aY)→(bO × aT)→Prop) x (lZ x):=(Classical.choose_spec uH).1
theorem aC0:Con.Holds Tryz.prog oN:=(Classical.choose_spec uH).2
theorem aOG (x:aT × aY) (hx:okD (.bRW (.bRW (.slice 5 (.int .u8)) aD) aE) x) (hp:(fun x=>0≤x.1.2.1) x):okD (.bRW aG (.bRW (.slice 5 (.int .u8)) aD)) (lZ x)∧(fun x r=>r.1.length≤6∧(∀ p∈r.1,p.1.length≤7∧p.2.length≤7)∧0≤r.2.2.1:(aT × aY)→(bO × aT)→Prop) x (lZ x):=⟨aC0.ok x hp hx,aOM x hx hp⟩
def aH3:Con:=⟨4,(.slice 5 (.int .u8)),.bool,[.val ⟨false,(.slice 5 (.int .u8)),[]⟩],[⟨false,.bool,[0]⟩],false,none,
 ((fun _=>True):(List Int)→Prop),
 ((fun x=>decide (1048576<x.length)):(List Int)→(Bool))⟩
def aV6:T :=
 .bRX (.bS0 5 (.int .u8)) (.Z 0) <|
 .bRX (.cmp .gtr .i64) (.bRY tI tI (.Z 1) (.ci .i64 1048576)) <|
 .ret (.Z 2)
theorem bPF:bI Tryz.prog [] aH3 false 3000 ⟨[],[]⟩ = .ok aV6:=by kernel_rfl
theorem bPB (x:List Int) (hx:okD (.slice 5 (.int .u8)) x) (hp:(fun _=>True) x):aV6.wp [] [⟨(.slice 5 (.int .u8)),x⟩] [] (fun v=>v.as .bool=(fun x=>decide (1048576<x.length)) x):=by
 delta aV6;refine cW ?_
 refine dB ?_
 intro _
 rw[decide_eq_decide];omega
theorem bO8:Con.Holds Tryz.prog aH3:=aS aV aQ bPF bPB
end
end Go.Proofs.YtabamggdmdednaaGreat
