/- DrawTx: lemmas. No conditions. -/
import Derived.Test.YtdeobhdbmehpgaaGreatDrawR
import Derived.Test.YtdeobhdbmehpgaaGreatVec2
namespace Go.Proofs.YtdeobhdbmehpgaaGreat
noncomputable section
set_option maxRecDepth 100000
open Go.ChangeShapes Go.WideShapes Go.ChangeAt Go.RowKit Go.Deep
set_option linter.unusedVariables false
set_option linter.unusedSimpArgs false
def aAH:Con:=⟨29,(.bEL (.bEL (.slice 5 (.int .u8)) aD) tI),(.bEL .str (.bEL (.slice 5 (.int .u8)) aD)),[.box 97 ⟨true,(.bEL (.slice 5 (.int .u8)) aD),[]⟩,.val ⟨false,tI,[]⟩],[⟨false,.str,[0]⟩],false,none,
 ((fun x=>0≤x.1.2.1∧0≤x.2∧x.2≤1000):(aJ × Int)→Prop),
 ((fun _=>bG (.bEL .str (.bEL (.slice 5 (.int .u8)) aD))):(aJ × Int)→((ByteArray) × aJ))⟩
def zU:T:=.call 0 (.bEN (.bEL (.slice 5 (.int .u8)) aD) tI (.p1 (.bEL (.slice 5 (.int .u8)) aD) tI (.Z 0)) (.ci .i64 4)) <|
 .bEM (.ar .add .i64) (.bEN tI tI (aN (.bEL (.bEL (.slice 5 (.int .u8)) aD) tI) 1 (.Z 0)) (.ci .i64 1)) <|
 .call 0 (.bEN (.bEL (.slice 5 (.int .u8)) aD) tI (aN (.bEL tI (.bEL (.slice 5 (.int .u8)) aD)) 1 (.Z 1)) (.Z 2)) <|
 .loop (.bEL tI (.bEL (.slice 5 (.int .u8)) (.bEL tI (.bEL tI (.slice 5 (.int .u8)))))) (aY (.bEL tI (.bEL (.slice 5 (.int .u8)) (.bEL tI (.bEL tI (.slice 5 (.int .u8)))))) [(.p1 tI (.bEL (.slice 5 (.int .u8)) aD) (.Z 3)),(aI (.bEL tI (.bEL (.slice 5 (.int .u8)) aD)) 1 (.Z 3)),(aI (.bEL tI (.bEL (.slice 5 (.int .u8)) aD)) 2 (.Z 3)),(aN (.bEL tI (.bEL (.slice 5 (.int .u8)) aD)) 3 (.Z 3)),(.nl 5 (.int .u8))]) <|
  .bEM (.cmp .gtr .i64) (.bEN tI tI (.p1 tI (.bEL (.slice 5 (.int .u8)) (.bEL tI (.bEL tI (.slice 5 (.int .u8))))) (.Z 4)) (.ci .i64 0)) <|
  .ite (.Z 5) (
   .call 1 (aY (.bEL (.slice 5 (.int .u8)) aD) [(aI (.bEL tI (.bEL (.slice 5 (.int .u8)) (.bEL tI (.bEL tI (.slice 5 (.int .u8)))))) 1 (.Z 4)),(aI (.bEL tI (.bEL (.slice 5 (.int .u8)) (.bEL tI (.bEL tI (.slice 5 (.int .u8)))))) 2 (.Z 4)),(aI (.bEL tI (.bEL (.slice 5 (.int .u8)) (.bEL tI (.bEL tI (.slice 5 (.int .u8)))))) 3 (.Z 4))]) <|
   .bEM (.cmp .eql .i64) (.bEN tI tI (.p1 tI (.bEL (.slice 5 (.int .u8)) aD) (.Z 1)) (.ci .i64 1)) <|
   .ite (.Z 7) (
    .bEM (.rem .i64) (.bEN tI tI (.p1 tI (.bEL (.slice 5 (.int .u8)) aD) (.Z 6)) (.ci .i64 2)) <|
    .bEM (.cmp .eql .i64) (.bEN tI tI (.p1 tI (.bEL (.slice 5 (.int .u8)) aD) (.Z 1)) (.ci .i64 2)) <|
    .ite (.Z 9) (
     .bEM (.rem .i64) (.bEN tI tI (.Z 8) (.ci .i64 4)) <|
     .bEM (.ar .add .i64) (.bEN tI tI (.ci .i64 97) (.Z 10)) <|
     .bEM (.conv .i64 .u8) (.Z 11) <|
     .bEM (.lit 5 (.int .u8) 1) (.Z 12) <|
     .bEM (.bES 5 (.int .u8) 1) (.bEN (.slice 5 (.int .u8)) (.slice 5 (.int .u8)) (aN (.bEL tI (.bEL (.slice 5 (.int .u8)) (.bEL tI (.bEL tI (.slice 5 (.int .u8)))))) 4 (.Z 4)) (.Z 13)) <|
     .bEM (.ar .sub .i64) (.bEN tI tI (.p1 tI (.bEL (.slice 5 (.int .u8)) (.bEL tI (.bEL tI (.slice 5 (.int .u8))))) (.Z 4)) (.ci .i64 1)) <|
     .bEO 0 (aY (.bEL tI (.bEL (.slice 5 (.int .u8)) (.bEL tI (.bEL tI (.slice 5 (.int .u8)))))) [(.Z 15),(aI (.bEL tI (.bEL (.slice 5 (.int .u8)) aD)) 1 (.Z 6)),(aI (.bEL tI (.bEL (.slice 5 (.int .u8)) aD)) 2 (.Z 6)),(aN (.bEL tI (.bEL (.slice 5 (.int .u8)) aD)) 3 (.Z 6)),(.Z 14)])) (
     .bEM (.conv .i64 .u8) (.Z 8) <|
     .bEM (.lit 5 (.int .u8) 1) (.Z 10) <|
     .bEM (.bES 5 (.int .u8) 1) (.bEN (.slice 5 (.int .u8)) (.slice 5 (.int .u8)) (aN (.bEL tI (.bEL (.slice 5 (.int .u8)) (.bEL tI (.bEL tI (.slice 5 (.int .u8)))))) 4 (.Z 4)) (.Z 11)) <|
     .bEM (.ar .sub .i64) (.bEN tI tI (.p1 tI (.bEL (.slice 5 (.int .u8)) (.bEL tI (.bEL tI (.slice 5 (.int .u8))))) (.Z 4)) (.ci .i64 1)) <|
     .bEO 0 (aY (.bEL tI (.bEL (.slice 5 (.int .u8)) (.bEL tI (.bEL tI (.slice 5 (.int .u8)))))) [(.Z 13),(aI (.bEL tI (.bEL (.slice 5 (.int .u8)) aD)) 1 (.Z 6)),(aI (.bEL tI (.bEL (.slice 5 (.int .u8)) aD)) 2 (.Z 6)),(aN (.bEL tI (.bEL (.slice 5 (.int .u8)) aD)) 3 (.Z 6)),(.Z 12)]))) (
    .bEM (.cmp .eql .i64) (.bEN tI tI (.p1 tI (.bEL (.slice 5 (.int .u8)) aD) (.Z 1)) (.ci .i64 2)) <|
    .ite (.Z 8) (
     .bEM (.rem .i64) (.bEN tI tI (.p1 tI (.bEL (.slice 5 (.int .u8)) aD) (.Z 6)) (.ci .i64 4)) <|
     .bEM (.ar .add .i64) (.bEN tI tI (.ci .i64 97) (.Z 9)) <|
     .bEM (.conv .i64 .u8) (.Z 10) <|
     .bEM (.lit 5 (.int .u8) 1) (.Z 11) <|
     .bEM (.bES 5 (.int .u8) 1) (.bEN (.slice 5 (.int .u8)) (.slice 5 (.int .u8)) (aN (.bEL tI (.bEL (.slice 5 (.int .u8)) (.bEL tI (.bEL tI (.slice 5 (.int .u8)))))) 4 (.Z 4)) (.Z 12)) <|
     .bEM (.ar .sub .i64) (.bEN tI tI (.p1 tI (.bEL (.slice 5 (.int .u8)) (.bEL tI (.bEL tI (.slice 5 (.int .u8))))) (.Z 4)) (.ci .i64 1)) <|
     .bEO 0 (aY (.bEL tI (.bEL (.slice 5 (.int .u8)) (.bEL tI (.bEL tI (.slice 5 (.int .u8)))))) [(.Z 14),(aI (.bEL tI (.bEL (.slice 5 (.int .u8)) aD)) 1 (.Z 6)),(aI (.bEL tI (.bEL (.slice 5 (.int .u8)) aD)) 2 (.Z 6)),(aN (.bEL tI (.bEL (.slice 5 (.int .u8)) aD)) 3 (.Z 6)),(.Z 13)])) (
     .bEM (.conv .i64 .u8) (.p1 tI (.bEL (.slice 5 (.int .u8)) aD) (.Z 6)) <|
     .bEM (.lit 5 (.int .u8) 1) (.Z 9) <|
     .bEM (.bES 5 (.int .u8) 1) (.bEN (.slice 5 (.int .u8)) (.slice 5 (.int .u8)) (aN (.bEL tI (.bEL (.slice 5 (.int .u8)) (.bEL tI (.bEL tI (.slice 5 (.int .u8)))))) 4 (.Z 4)) (.Z 10)) <|
     .bEM (.ar .sub .i64) (.bEN tI tI (.p1 tI (.bEL (.slice 5 (.int .u8)) (.bEL tI (.bEL tI (.slice 5 (.int .u8))))) (.Z 4)) (.ci .i64 1)) <|
     .bEO 0 (aY (.bEL tI (.bEL (.slice 5 (.int .u8)) (.bEL tI (.bEL tI (.slice 5 (.int .u8)))))) [(.Z 12),(aI (.bEL tI (.bEL (.slice 5 (.int .u8)) aD)) 1 (.Z 6)),(aI (.bEL tI (.bEL (.slice 5 (.int .u8)) aD)) 2 (.Z 6)),(aN (.bEL tI (.bEL (.slice 5 (.int .u8)) aD)) 3 (.Z 6)),(.Z 11)])))) (
   .bEM (.b2s 5) (aN (.bEL tI (.bEL (.slice 5 (.int .u8)) (.bEL tI (.bEL tI (.slice 5 (.int .u8)))))) 4 (.Z 4)) <|
   .ret (aY (.bEL .str (.bEL (.slice 5 (.int .u8)) aD)) [(.Z 6),(aI (.bEL tI (.bEL (.slice 5 (.int .u8)) (.bEL tI (.bEL tI (.slice 5 (.int .u8)))))) 1 (.Z 4)),(aI (.bEL tI (.bEL (.slice 5 (.int .u8)) (.bEL tI (.bEL tI (.slice 5 (.int .u8)))))) 2 (.Z 4)),(aI (.bEL tI (.bEL (.slice 5 (.int .u8)) (.bEL tI (.bEL tI (.slice 5 (.int .u8)))))) 3 (.Z 4))]))
theorem aR2 (f:(aJ × Int)→((ByteArray) × aJ)):bJ Tryz.prog [aV,fS] { aAH with fn:=f } false 3000 ⟨[(2989,1004,jT 15 9++[.dr 1,.tm 7 0,.on 5,.bx 1 0,.bx 1 1,.bx 1 2,.sl 2])],[]⟩ = .ok zU:=by kernel_rfl
theorem aSY (x:aJ × Int) (hx:okD (.bEL (.bEL (.slice 5 (.int .u8)) aD) tI) x) (hp:(fun x=>0≤x.1.2.1∧0≤x.2∧x.2≤1000) x):zU.wp [aV,fS] [⟨(.bEL (.bEL (.slice 5 (.int .u8)) aD) tI),x⟩] [] (fun v=>(fun x r=>r.1.size≤1000∧0≤r.2.2.1:(aJ × Int)→((ByteArray) × aJ)→Prop) x (v.as (.bEL .str (.bEL (.slice 5 (.int .u8)) aD)))):=by
 obtain ⟨c,n⟩:=x
 obtain ⟨hp,hn0,hn1⟩:0≤c.2.1∧0≤n∧n≤1000:=hp
 have q1:=bN (c,4) ⟨hx.1,okI (by omega) (by omega)⟩ hp
 delta zU aV fS;refine eE ?_
 refine fJ ?_
 refine ⟨hp,fun _=>?_⟩
 generalize bK (c,4)=r at q1 ⊢;obtain ⟨n1,c1⟩:=r;obtain ⟨kq1,uq1⟩:=q1;replace kq1:okD iF c1:=kq1.2;dsimp only at uq1 ⊢
 have q2:=bN (c1,n+1) ⟨kq1,okI (by omega) (by omega)⟩ uq1.2.2.2
 refine ⟨⟨by omega,by omega⟩,fun _=>⟨uq1.2.2.2,fun _=>?_⟩⟩
 generalize bK (c1,n+1)=r at q2 ⊢;obtain ⟨n2,c2⟩:=r;obtain ⟨kq2,uq2⟩:=q2;replace kq2:okD iF c2:=kq2.2;dsimp only at uq2 ⊢
 have hn2:n2<n+1:=uq2.2.1 (by omega)
 refine ⟨fun s=>((List.length s.2.2.2.2:Nat):Int)+s.1≤1000∧@LE.le Int _ 0 s.2.2.1∧@LE.le Int _ 0 s.1,fun s=>(s.1:Int).toNat,⟨by show ((0:Nat):Int)+n2≤1000;omega,uq2.2.2.2,uq2.1⟩,fun s hs hI=>?_⟩
 obtain ⟨j,b,i,h,l⟩:=s
 obtain ⟨e1,e2,e3⟩:=hI
 change Int at j
 change List Int at l
 change ((List.length l:Nat):Int)+j≤1000 at e1
 change 0≤(i:Int) at e2
 change 0≤j at e3
 have q:=lW (b,i,h) ⟨hs.2.1,hs.2.2.1,hs.2.2.2.1⟩ e2
 generalize lL (b,i,h)=r at q ⊢;obtain ⟨n3,c3⟩:=r;obtain ⟨kq3,uq3⟩:=q;replace kq3:okD iF c3:=kq3.2;dsimp only at uq3 ⊢
 have t1:0≤n3.tmod 2∧n3.tmod 2<2:=⟨Int.tmod_nonneg 2 uq3.1,Int.tmod_lt_of_pos n3 (by omega)⟩
 have t2:0≤(n3.tmod 2).tmod 4∧(n3.tmod 2).tmod 4<4:=⟨Int.tmod_nonneg 4 t1.1,Int.tmod_lt_of_pos _ (by omega)⟩
 have t3:0≤n3.tmod 4∧n3.tmod 4<4:=⟨Int.tmod_nonneg 4 uq3.1,Int.tmod_lt_of_pos _ (by omega)⟩
 try dsimp only
 refine fJ ?_
 have hz:(cN l).size=l.length:=by unfold cN;simp[ByteArray.size]
 (repeat' first|intro _|(with_reducible apply And.intro))
 all_goals first|omega|(unfold maxLen;omega)|exact uq3.2.2|skip
theorem yY:∃ f:(aJ × Int)→((ByteArray) × aJ),(∀ x,okD (.bEL (.bEL (.slice 5 (.int .u8)) aD) tI) x→(fun x=>0≤x.1.2.1∧0≤x.2∧x.2≤1000) x→(fun x r=>r.1.size≤1000∧0≤r.2.2.1:(aJ × Int)→((ByteArray) × aJ)→Prop) x (f x))∧Con.Holds Tryz.prog { aAH with fn:=f }:=iR (C:=aAH) aR (aG dM (aG uC aO)) aR2 (fun x r=>r.1.size≤1000∧0≤r.2.2.1:(aJ × Int)→((ByteArray) × aJ)→Prop) aSY
def pA:(aJ × Int)→((ByteArray) × aJ):=Classical.choose yY
def jX:Con:=⟨29,(.bEL (.bEL (.slice 5 (.int .u8)) aD) tI),(.bEL .str (.bEL (.slice 5 (.int .u8)) aD)),[.box 97 ⟨true,(.bEL (.slice 5 (.int .u8)) aD),[]⟩,.val ⟨false,tI,[]⟩],[⟨false,.str,[0]⟩],false,none,
 ((fun x=>0≤x.1.2.1∧0≤x.2∧x.2≤1000):(aJ × Int)→Prop),
 ((pA):(aJ × Int)→((ByteArray) × aJ))⟩
theorem aQ9:∀ x,okD (.bEL (.bEL (.slice 5 (.int .u8)) aD) tI) x→(fun x=>0≤x.1.2.1∧0≤x.2∧x.2≤1000) x→(fun x r=>r.1.size≤1000∧0≤r.2.2.1:(aJ × Int)→((ByteArray) × aJ)→Prop) x (pA x):=(Classical.choose_spec yY).1
theorem aAL:Con.Holds Tryz.prog jX:=(Classical.choose_spec yY).2
theorem aGP (x:aJ × Int) (hx:okD (.bEL (.bEL (.slice 5 (.int .u8)) aD) tI) x) (hp:(fun x=>0≤x.1.2.1∧0≤x.2∧x.2≤1000) x):okD (.bEL .str (.bEL (.slice 5 (.int .u8)) aD)) (pA x)∧(fun x r=>r.1.size≤1000∧0≤r.2.2.1:(aJ × Int)→((ByteArray) × aJ)→Prop) x (pA x):=⟨aAL.ok x hp hx,aQ9 x hx hp⟩
def wE:Con:=⟨31,(.bEL (.bEL (.slice 5 (.int .u8)) aD) .str),(.bEL .str (.bEL (.slice 5 (.int .u8)) aD)),[.box 97 ⟨true,(.bEL (.slice 5 (.int .u8)) aD),[]⟩,.val ⟨false,.str,[]⟩],[⟨false,.str,[0]⟩],false,none,
 ((fun x=>0≤x.1.2.1∧x.2.size≤1000000):(aJ × (ByteArray))→Prop),
 ((fun _=>bG (.bEL .str (.bEL (.slice 5 (.int .u8)) aD))):(aJ × (ByteArray))→((ByteArray) × aJ))⟩
def vN:T :=
 .bEM .slen (aN (.bEL (.bEL (.slice 5 (.int .u8)) aD) .str) 1 (.Z 0)) <|
 .bEM (.cmp .eql .i64) (.bEN tI tI (.Z 1) (.ci .i64 0)) <|
 .ite (.Z 2) (
  .call 0 (.bEN (.bEL (.slice 5 (.int .u8)) aD) tI (.p1 (.bEL (.slice 5 (.int .u8)) aD) .str (.Z 0)) (.ci .i64 3)) <|
  .ret (.Z 3)) (
  .bEM .slen (aN (.bEL (.bEL (.slice 5 (.int .u8)) aD) .str) 1 (.Z 0)) <|
  .call 1 (.bEN (.bEL (.slice 5 (.int .u8)) aD) tI (.p1 (.bEL (.slice 5 (.int .u8)) aD) .str (.Z 0)) (.Z 3)) <|
  .call 1 (.bEN (.bEL (.slice 5 (.int .u8)) aD) tI (aN (.bEL tI (.bEL (.slice 5 (.int .u8)) aD)) 1 (.Z 4)) (.ci .i64 4)) <|
  .bEM (.cmp .eql .i64) (.bEN tI tI (.p1 tI (.bEL (.slice 5 (.int .u8)) aD) (.Z 5)) (.ci .i64 0)) <|
  .ite (.Z 6) (
   .bEM (.ar .add .i64) (.bEN tI tI (.p1 tI (.bEL (.slice 5 (.int .u8)) aD) (.Z 4)) (.ci .i64 1)) <|
   .bEM .ssub (aY (.bEL .str aD) [(aN (.bEL (.bEL (.slice 5 (.int .u8)) aD) .str) 1 (.Z 0)),(.ci .i64 0),(.p1 tI (.bEL (.slice 5 (.int .u8)) aD) (.Z 4))]) <|
   .bEM .slen (aN (.bEL (.bEL (.slice 5 (.int .u8)) aD) .str) 1 (.Z 0)) <|
   .bEM .ssub (aY (.bEL .str aD) [(aN (.bEL (.bEL (.slice 5 (.int .u8)) aD) .str) 1 (.Z 0)),(.Z 7),(.Z 9)]) <|
   .bEM .sadd (.bEN .str .str (.Z 8) (.Z 10)) <|
   .ret (.bEN .str (.bEL (.slice 5 (.int .u8)) aD) (.Z 11) (aN (.bEL tI (.bEL (.slice 5 (.int .u8)) aD)) 1 (.Z 5)))) (
   .bEM (.cmp .eql .i64) (.bEN tI tI (.p1 tI (.bEL (.slice 5 (.int .u8)) aD) (.Z 5)) (.ci .i64 1)) <|
   .ite (.Z 7) (
    .bEM .ssub (aY (.bEL .str aD) [(aN (.bEL (.bEL (.slice 5 (.int .u8)) aD) .str) 1 (.Z 0)),(.ci .i64 0),(.p1 tI (.bEL (.slice 5 (.int .u8)) aD) (.Z 4))]) <|
    .bEM .slen (aN (.bEL (.bEL (.slice 5 (.int .u8)) aD) .str) 1 (.Z 0)) <|
    .bEM .ssub (aY (.bEL .str aD) [(aN (.bEL (.bEL (.slice 5 (.int .u8)) aD) .str) 1 (.Z 0)),(.p1 tI (.bEL (.slice 5 (.int .u8)) aD) (.Z 4)),(.Z 9)]) <|
    .call 2 (aN (.bEL tI (.bEL (.slice 5 (.int .u8)) aD)) 1 (.Z 5)) <|
    .bEM (.conv .i64 .u8) (.p1 tI (.bEL (.slice 5 (.int .u8)) aD) (.Z 11)) <|
    .bEM (.lit 5 (.int .u8) 1) (.Z 12) <|
    .bEM (.b2s 5) (.Z 13) <|
    .bEM .sadd (.bEN .str .str (.Z 8) (.Z 14)) <|
    .bEM .sadd (.bEN .str .str (.Z 15) (.Z 10)) <|
    .ret (.bEN .str (.bEL (.slice 5 (.int .u8)) aD) (.Z 16) (aN (.bEL tI (.bEL (.slice 5 (.int .u8)) aD)) 1 (.Z 11)))) (
    .bEM (.cmp .eql .i64) (.bEN tI tI (.p1 tI (.bEL (.slice 5 (.int .u8)) aD) (.Z 5)) (.ci .i64 2)) <|
    .ite (.Z 8) (
     .bEM .ssub (aY (.bEL .str aD) [(aN (.bEL (.bEL (.slice 5 (.int .u8)) aD) .str) 1 (.Z 0)),(.ci .i64 0),(.p1 tI (.bEL (.slice 5 (.int .u8)) aD) (.Z 4))]) <|
     .ret (.bEN .str (.bEL (.slice 5 (.int .u8)) aD) (.Z 9) (aN (.bEL tI (.bEL (.slice 5 (.int .u8)) aD)) 1 (.Z 5)))) (
     .bEM .sidx (.bEN .str tI (aN (.bEL (.bEL (.slice 5 (.int .u8)) aD) .str) 1 (.Z 0)) (.p1 tI (.bEL (.slice 5 (.int .u8)) aD) (.Z 4))) <|
     .bEM (.ar .add .i64) (.bEN tI tI (.p1 tI (.bEL (.slice 5 (.int .u8)) aD) (.Z 4)) (.ci .i64 1)) <|
     .bEM .ssub (aY (.bEL .str aD) [(aN (.bEL (.bEL (.slice 5 (.int .u8)) aD) .str) 1 (.Z 0)),(.ci .i64 0),(.p1 tI (.bEL (.slice 5 (.int .u8)) aD) (.Z 4))]) <|
     .bEM (.conv .u8 .i64) (.Z 9) <|
     .bEM .slen (aN (.bEL (.bEL (.slice 5 (.int .u8)) aD) .str) 1 (.Z 0)) <|
     .bEM .ssub (aY (.bEL .str aD) [(aN (.bEL (.bEL (.slice 5 (.int .u8)) aD) .str) 1 (.Z 0)),(.Z 10),(.Z 13)]) <|
     .call 1 (.bEN (.bEL (.slice 5 (.int .u8)) aD) tI (aN (.bEL tI (.bEL (.slice 5 (.int .u8)) aD)) 1 (.Z 5)) (.ci .i64 255)) <|
     .bEM (.ar .add .i64) (.bEN tI tI (.ci .i64 1) (.p1 tI (.bEL (.slice 5 (.int .u8)) aD) (.Z 15))) <|
     .bEM (.bits .xor .i64) (.bEN tI tI (.Z 12) (.Z 16)) <|
     .bEM (.conv .i64 .u8) (.Z 17) <|
     .bEM (.lit 5 (.int .u8) 1) (.Z 18) <|
     .bEM (.b2s 5) (.Z 19) <|
     .bEM .sadd (.bEN .str .str (.Z 11) (.Z 20)) <|
     .bEM .sadd (.bEN .str .str (.Z 21) (.Z 14)) <|
     .ret (.bEN .str (.bEL (.slice 5 (.int .u8)) aD) (.Z 22) (aN (.bEL tI (.bEL (.slice 5 (.int .u8)) aD)) 1 (.Z 15)))))))
theorem aNL (f:(aJ × (ByteArray))→((ByteArray) × aJ)):bJ Tryz.prog [jX,aV,fS] { wE with fn:=f } false 3000 ⟨[],[]⟩ = .ok vN:=by kernel_rfl
theorem aO2 (x:aJ × (ByteArray)) (hx:okD (.bEL (.bEL (.slice 5 (.int .u8)) aD) .str) x) (hp:(fun x=>0≤x.1.2.1∧x.2.size≤1000000) x):vN.wp [jX,aV,fS] [⟨(.bEL (.bEL (.slice 5 (.int .u8)) aD) .str),x⟩] [] (fun v=>(fun x r=>r.1.size≤1002000∧0≤r.2.2.1:(aJ × (ByteArray))→((ByteArray) × aJ)→Prop) x (v.as (.bEL .str (.bEL (.slice 5 (.int .u8)) aD)))):=by
 obtain ⟨c,s⟩:=x
 obtain ⟨hp,hs⟩:0≤c.2.1∧s.size≤1000000:=hp
 delta vN jX aV fS;refine eE ?_
 refine fJ ?_
 refine fun _=>⟨fun h0=>⟨⟨hp,by omega,by omega⟩,fun _=>?_⟩,fun h0 _=>⟨hp,fun _=>?_⟩⟩
 ·have q:=(aGP (c,3) ⟨hx.1,okI (by omega) (by omega)⟩ ⟨hp,by show (0:Int)≤3;omega,by show (3:Int)≤1000;omega⟩).2
  dsimp only at q
  exact ⟨by omega,q.2⟩
 ·have q1:=bN (c,(s.size:Int)) ⟨hx.1,okI (by omega) (by omega)⟩ hp
  generalize bK (c,(s.size:Int))=r at q1 ⊢;obtain ⟨n1,c1⟩:=r;obtain ⟨kq1,uq1⟩:=q1;replace kq1:okD iF c1:=kq1.2;dsimp only at uq1 ⊢
  have hn1:0≤n1∧n1<(s.size:Int):=⟨uq1.1,uq1.2.1 (by omega)⟩
  have hc1:=uq1.2.2.2
  have q2:=bN (c1,4) ⟨kq1,okI (by omega) (by omega)⟩ hc1
  generalize bK (c1,4)=r at q2 ⊢;obtain ⟨n2,c2⟩:=r;obtain ⟨kq2,uq2⟩:=q2;replace kq2:okD iF c2:=kq2.2;dsimp only at uq2 ⊢
  have hc2:=uq2.2.2.2
  have q3:=(lW c2 kq2 hc2).2
  generalize lL c2=r at q3 ⊢;obtain ⟨n3,c3⟩:=r;dsimp only at q3 ⊢
  have q4:=(bN (c2,255) ⟨kq2,okI (by omega) (by omega)⟩ hc2).2
  generalize bK (c2,255)=r at q4 ⊢;obtain ⟨n4,c4⟩:=r;dsimp only at q4 ⊢
  have hc3:=q3.2.2
  have hc4:=q4.2.2.2
  have hn4:0≤n4∧n4<255:=⟨q4.1,q4.2.1 (by omega)⟩
  have ob:∀ z:Int,(cN [z]).size=1:=fun z=>rfl
  (repeat' first|intro _|(with_reducible apply And.intro))
  all_goals first|omega|(unfold maxLen;omega)|((try simp only[dE,ByteArray.size_extract,ob]);(try unfold maxLen);omega)|assumption|skip
theorem aDQ:∃ f:(aJ × (ByteArray))→((ByteArray) × aJ),(∀ x,okD (.bEL (.bEL (.slice 5 (.int .u8)) aD) .str) x→(fun x=>0≤x.1.2.1∧x.2.size≤1000000) x→(fun x r=>r.1.size≤1002000∧0≤r.2.2.1:(aJ × (ByteArray))→((ByteArray) × aJ)→Prop) x (f x))∧Con.Holds Tryz.prog { wE with fn:=f }:=iR (C:=wE) aR (aG aAL (aG dM (aG uC aO))) aNL (fun x r=>r.1.size≤1002000∧0≤r.2.2.1:(aJ × (ByteArray))→((ByteArray) × aJ)→Prop) aO2
def aO3:(aJ × (ByteArray))→((ByteArray) × aJ):=Classical.choose aDQ
def qL:Con:=⟨31,(.bEL (.bEL (.slice 5 (.int .u8)) aD) .str),(.bEL .str (.bEL (.slice 5 (.int .u8)) aD)),[.box 97 ⟨true,(.bEL (.slice 5 (.int .u8)) aD),[]⟩,.val ⟨false,.str,[]⟩],[⟨false,.str,[0]⟩],false,none,
 ((fun x=>0≤x.1.2.1∧x.2.size≤1000000):(aJ × (ByteArray))→Prop),
 ((aO3):(aJ × (ByteArray))→((ByteArray) × aJ))⟩
theorem aPX:Con.Holds Tryz.prog qL:=(Classical.choose_spec aDQ).2
end
end Go.Proofs.YtdeobhdbmehpgaaGreat
