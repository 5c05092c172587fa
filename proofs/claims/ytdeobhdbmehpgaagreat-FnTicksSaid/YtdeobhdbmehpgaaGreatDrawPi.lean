/- DrawPi: lemmas. No conditions. -/
import Derived.Test.YtdeobhdbmehpgaaGreatDrawCf
import Derived.Test.YtdeobhdbmehpgaaGreatCoreM
namespace Go.Proofs.YtdeobhdbmehpgaaGreat
noncomputable section
set_option maxRecDepth 100000
open Go.ChangeShapes Go.WideShapes Go.ChangeAt Go.RowKit Go.Deep
set_option linter.unusedVariables false
set_option linter.unusedSimpArgs false
def aC7 (B:Nat) (p:aY):Prop:=bQ aC p≤B∧1≤List.length p.2.1∧List.length p.2.1≤4∧1≤List.length p.1
theorem bH1 (p:aY) (s:Int):(eR p s).1=p.1:=by unfold eR;split <;> rfl
theorem bCY {B:Nat} {p:aY} (s:Int) (h:aC7 B p):aC7 (B+200) (eR p s):=by
 have h1:=aVR p s
 have h2:=bCH p s
 have h3:=bH1 p s
 obtain ⟨a,b,c,d⟩:=h
 exact ⟨by omega,by omega,by omega,by rw[h3];exact d⟩
theorem bC5 {B:Nat}:{l:List Nat}→(∀ x∈l,x≤B)→l.sum≤l.length * B
 | [],_=>by simp
 | x :: l,h=>by
  have h1:=bC5 (fun y hy=>h y (List.mem_cons_of_mem _ hy)) (l:=l)
  have h2:=h x (by simp)
  rw[List.sum_cons,List.length_cons,Nat.succ_mul];omega
theorem bFD {c:bZ} {l:dL} (h:aYJ 6 3 4 c l):bQ aQ c≤2000000∧bQ aN l≤2000000:=by
 obtain ⟨h1,h2,h3,h4,h5,h6,h7,h8⟩:=h
 constructor
 ·have e:bQ aQ c=(List.length c.1+((c.1:List dJ).map (bQ bG)).sum)+(bQ aB c.2.1+(0+((List.length c.2.2.2.1+((c.2.2.2.1:List Bool).map (bQ .bool)).sum)+(bQ aB c.2.2.2.2.1+bQ aB c.2.2.2.2.2)))):=rfl
  have g1:=bC5 (B:=40) (l:=(c.1:List dJ).map (bQ bG)) (fun x hx=>by
   obtain ⟨o,ho,rfl⟩:=List.mem_map.1 hx
   have e2:bQ bG o=0+(0+(0+bQ aB o.2.2.2)):=rfl
   have:=h2 o ho
   rw[e2,gV];omega)
  rw[List.length_map] at g1
  have g2:=bC5 (B:=0) (l:=(c.2.2.2.1:List Bool).map (bQ .bool)) (fun x hx=>by
   obtain ⟨o,ho,rfl⟩:=List.mem_map.1 hx
   exact Nat.le_refl _)
  rw[List.length_map] at g2
  rw[e,gV,gV,gV];omega
 ·have e:bQ aN l=List.length l+((l:List bP).map (bQ aM)).sum:=rfl
  have g1:=bC5 (B:=14) (l:=(l:List bP).map (bQ aM)) (fun x hx=>by
   obtain ⟨o,ho,rfl⟩:=List.mem_map.1 hx
   have e2:bQ aM o=bQ aB o.1+bQ aB o.2:=rfl
   have:=h8 o ho
   rw[e2,gV,gV];omega)
  rw[List.length_map] at g1
  rw[e];omega
theorem aYY {c:bZ} {b:dL} (h:aYJ 6 3 4 c b) (ha:eQ c b=0):aC7 90000000 (aCF c b):=by
 have hs:=bFD h
 have hl:=bDD ha
 refine ⟨bGO hs.1 hs.2,hl.1,hl.2,?_⟩
 rw[← aYH ha]
 exact ((aJ7 _ _).1 (aQ7 ha).2.1).2.1.1
theorem bMS {p:aY} {i:Nat} {y:bA} (h:bQ aA y≤bQ aA (p.2.1.getD i (aV aA))+10):bQ aC (p.1,p.2.1.set i y,p.2.2)≤bQ aC p+10:=by
 rw[qL,qL]
 have:=aD3 (e:=38) (t:=aA) y (aV aA) 10 p.2.1 i (fun _=>h)
 dsimp only
 omega
theorem bML (p:aY):List.length p.1≤bQ aC p∧List.length p.2.2.1≤bQ aC p∧∀ i,List.length (p.2.1.getD i (aV aA)).2.1≤bQ aC p:=by
 have h1:List.length p.1≤bQ aN p.1:=nP (e:=94) (t:=aM) p.1
 have h2:List.length p.2.2.1≤bQ aG p.2.2.1:=nP (e:=119) (t:=aL) p.2.2.1
 rw[qL]
 refine ⟨by omega,by omega,fun i=>?_⟩
 by_cases hi:i<p.2.1.length
 ·have hm:p.2.1[i]∈p.2.1:=List.getElem_mem hi
  rw[aZ hi]
  generalize p.2.1[i]=y at hm ⊢
  have h3:=aEO (e:=38) (t:=aA) hm
  have h4:=fP y
  have h5:List.length y.2.1≤bQ bC y.2.1:=nP (e:=76) (t:=aE) y.2.1
  omega
 ·rw[List.getD_eq_getElem?_getD,List.getElem?_eq_none (by omega)];exact Nat.zero_le _
theorem bM2 {p:aY}:bQ aC (p.1,p.2.1,p.2.2.1++[((1:Int),([]:List cC))],p.2.2.2)≤bQ aC p+10:=by
 rw[qL,qL]
 dsimp only
 have e:bQ aG (p.2.2.1++[((1:Int),([]:List cC))])=bQ aG p.2.2.1+(1+bQ aL ((1:Int),([]:List cC))):=by
  rw[show bQ aG _=_ from aWO _ _,show bQ aG [((1:Int),([]:List cC))]=_ from aXV _]
 have e2:bQ aL ((1:Int),([]:List cC))=0:=rfl
 omega
theorem bMP {p:aY} {a b:Nat}:bQ aC (List.drop a (List.take b p.1),p.2)≤bQ aC p+10:=by
 rw[qL,qL]
 dsimp only
 have e:bQ aN (List.drop a (List.take b p.1))≤bQ aN p.1:=qA (e:=94) (t:=aM) ((List.drop_sublist _ _).trans (List.take_sublist _ _))
 omega
theorem aC7.mono {A B:Nat} {p:aY} (h:aC7 A p) (hb:A≤B):aC7 B p:=⟨Nat.le_trans h.1 hb,h.2⟩
def aA1:Con:=⟨73,(.bNT (.slice 5 (.int .u8)) aE),(.bNT aC (.bNT (.slice 5 (.int .u8)) aE)),[.box 97 ⟨true,(.bNT (.slice 5 (.int .u8)) aE),[]⟩],[⟨true,aC,[2,3,3,3]⟩],true,none,
 ((fun x=>0≤x.2.1):(aU)→Prop),
 ((fun _=>aV (.bNT aC (.bNT (.slice 5 (.int .u8)) aE))):(aU)→(aY × aU))⟩
def yS:T:=.call 0 (.Z 0) <|.call 1 (.bNV aQ aN (.p1 aQ (.bNT aN (.bNT (.slice 5 (.int .u8)) aE)) (.Z 1)) (aJ (.bNT aQ (.bNT aN (.bNT (.slice 5 (.int .u8)) aE))) 1 (.Z 1))) <|.call 2 (.bNV (.bNT (.slice 5 (.int .u8)) aE) tI (aO (.bNT aQ (.bNT aN (.bNT (.slice 5 (.int .u8)) aE))) 2 (.Z 1)) (.ci .i64 60)) <|.loop (.bNT tI (.bNT (.slice 5 (.int .u8)) (.bNT tI (.bNT tI aC)))) (bB (.bNT tI (.bNT (.slice 5 (.int .u8)) (.bNT tI (.bNT tI aC)))) [(.p1 tI (.bNT (.slice 5 (.int .u8)) aE) (.Z 3)),(aJ (.bNT tI (.bNT (.slice 5 (.int .u8)) aE)) 1 (.Z 3)),(aJ (.bNT tI (.bNT (.slice 5 (.int .u8)) aE)) 2 (.Z 3)),(aO (.bNT tI (.bNT (.slice 5 (.int .u8)) aE)) 3 (.Z 3)),(.Z 2)]) <|
 .bNU (.cmp .gtr .i64) (.bNV tI tI (.p1 tI (.bNT (.slice 5 (.int .u8)) (.bNT tI (.bNT tI aC))) (.Z 4)) (.ci .i64 0)) <|
 .ite (.Z 5) (
  .bNU (.bNX 38 aA) (aJ (.bNT tI (.bNT (.slice 5 (.int .u8)) (.bNT tI (.bNT tI aC)))) 5 (.Z 4)) <|
  .call 2 (.bNV (.bNT (.slice 5 (.int .u8)) aE) tI (bB (.bNT (.slice 5 (.int .u8)) aE) [(aJ (.bNT tI (.bNT (.slice 5 (.int .u8)) (.bNT tI (.bNT tI aC)))) 1 (.Z 4)),(aJ (.bNT tI (.bNT (.slice 5 (.int .u8)) (.bNT tI (.bNT tI aC)))) 2 (.Z 4)),(aJ (.bNT tI (.bNT (.slice 5 (.int .u8)) (.bNT tI (.bNT tI aC)))) 3 (.Z 4))]) (.Z 6)) <|
  .call 3 (.bNV aC tI (aO (.bNT tI (.bNT (.slice 5 (.int .u8)) (.bNT tI (.bNT tI aC)))) 4 (.Z 4)) (.p1 tI (.bNT (.slice 5 (.int .u8)) aE) (.Z 7))) <|
  .bNU (.ar .sub .i64) (.bNV tI tI (.p1 tI (.bNT (.slice 5 (.int .u8)) (.bNT tI (.bNT tI aC))) (.Z 4)) (.ci .i64 1)) <|
  .bNW 0 (bB (.bNT tI (.bNT (.slice 5 (.int .u8)) (.bNT tI (.bNT tI aC)))) [(.Z 9),(aJ (.bNT tI (.bNT (.slice 5 (.int .u8)) aE)) 1 (.Z 7)),(aJ (.bNT tI (.bNT (.slice 5 (.int .u8)) aE)) 2 (.Z 7)),(aO (.bNT tI (.bNT (.slice 5 (.int .u8)) aE)) 3 (.Z 7)),(.Z 8)])) (
  .ret (bB (.bNT aC (.bNT (.slice 5 (.int .u8)) aE)) [(aO (.bNT tI (.bNT (.slice 5 (.int .u8)) (.bNT tI (.bNT tI aC)))) 4 (.Z 4)),(aJ (.bNT tI (.bNT (.slice 5 (.int .u8)) (.bNT tI (.bNT tI aC)))) 1 (.Z 4)),(aJ (.bNT tI (.bNT (.slice 5 (.int .u8)) (.bNT tI (.bNT tI aC)))) 2 (.Z 4)),(aJ (.bNT tI (.bNT (.slice 5 (.int .u8)) (.bNT tI (.bNT tI aC)))) 3 (.Z 4))]))
theorem aVI (f:(aU)→(aY × aU)):bM Tryz.prog [oN,pE,bS,aBC] { aA1 with fn:=f } false 3000 ⟨[(2989,1004,iT 16 12++[.dr 4,.dr 3,.dr 11,.dr 10,.dr 7,.dr 9,.dr 8,.tm 6 0,.bx 1 0,.bx 1 1,.bx 1 2,.sl 19,.nb 19,.sl 20,.nq 20,.nb 20,.sl 21,.nq 21,.nb 21,.sl 22,.nq 22,.nb 22])],[(2981,3006,[],[19,20,21,22])]⟩ = .ok yS:=by kernel_rfl
theorem aTI (x:aU) (hx:okD (.bNT (.slice 5 (.int .u8)) aE) x) (hp:(fun x=>0≤x.2.1) x):yS.wp [oN,pE,bS,aBC] [⟨(.bNT (.slice 5 (.int .u8)) aE),x⟩] [] (fun v=>(fun x r=>aC7 91000000 r.1∧0≤r.2.2.1:(aU)→(aY × aU)→Prop) x (v.as (.bNT aC (.bNT (.slice 5 (.int .u8)) aE)))):=by
 have q1:=aML x hx hp
 delta yS oN pE bS aBC;refine dB ?_
 refine dT ?_
 refine ⟨hp,fun _=>?_⟩
 generalize mD x=r at q1 ⊢;obtain ⟨c,b,c1⟩:=r;obtain ⟨k1,u1⟩:=q1;replace k1:okD nT c1:=k1.2.2;dsimp only at u1 ⊢
 obtain ⟨⟨hcf,had⟩,_,_,_,hc1⟩:=u1
 have hs:=bFD hcf
 have hpi:=aYY hcf had
 generalize aCF c b=p0 at hpi ⊢
 refine ⟨⟨by omega,by omega⟩,fun _=>⟨hc1,fun _=>?_⟩⟩
 have q2:=cR (c1,60) ⟨k1,okI (by omega) (by omega)⟩ hc1
 generalize cI (c1,60)=r at q2 ⊢;obtain ⟨n2,c2⟩:=r;obtain ⟨k2,u2⟩:=q2;replace k2:okD nT c2:=k2.2;dsimp only at u2 ⊢
 have hn2:0≤n2∧n2<60:=⟨u2.1,u2.2.1 (by decide)⟩
 refine ⟨fun s=>@LE.le Int _ 0 s.1∧@LE.le Int _ s.1 60∧aC7 (90000000+200 * (60 - s.1:Int).toNat) s.2.2.2.2∧@LE.le Int _ 0 s.2.2.1,fun s=>(s.1:Int).toNat,⟨hn2.1,by show n2≤60;omega,hpi.mono (Nat.le_add_right _ _),u2.2.2.2⟩,fun s hs hI=>?_⟩
 obtain ⟨j,bf,i,h,p⟩:=s
 obtain ⟨e1,e2,e3,e4⟩:=hI
 change Int at j
 change (0:Int)≤j at e1
 change j≤60 at e2
 change aC7 (90000000+200 * (60 - j:Int).toNat) p at e3
 change 0≤(i:Int) at e4
 have kq:okD nT (bf,i,h):=⟨hs.2.1,hs.2.2.1,hs.2.2.2.1⟩
 obtain ⟨z1,z2,z3,z4⟩:=e3
 try dsimp only
 try refine dT ?_
 refine ⟨fun hlt ho=>⟨e4,fun _=>?_⟩,fun hge=>?_⟩
 ·have q3:=(cR ((bf,i,h),((List.length p.2.1:Nat):Int)) ⟨kq,ho⟩ e4).2
  generalize cI ((bf,i,h),((List.length p.2.1:Nat):Int))=r at q3 ⊢;obtain ⟨n3,c3⟩:=r;dsimp only at q3 ⊢
  have hp3:=bCY n3 (show aC7 (90000000+200 * (60 - j:Int).toNat) p from ⟨z1,z2,z3,z4⟩)
  have hp4:=hp3.mono (B:=90000000+200 * (60 - (j - 1):Int).toNat) (by omega)
  refine ⟨by omega,fun _=>⟨by omega,fun _=>⟨⟨by omega,by omega,hp4,q3.2.2.2⟩,by omega⟩⟩⟩
 ·exact ⟨aC7.mono (show aC7 _ p from ⟨z1,z2,z3,z4⟩) (by omega),e4⟩
theorem aB1:∃ f:(aU)→(aY × aU),(∀ x,okD (.bNT (.slice 5 (.int .u8)) aE) x→(fun x=>0≤x.2.1) x→(fun x r=>aC7 91000000 r.1∧0≤r.2.2.1:(aU)→(aY × aU)→Prop) x (f x))∧Con.Holds Tryz.prog { aA1 with fn:=f }:=lO (C:=aA1) aW (aH aCJ (aH aT1 (aH fU (aH bFA aR)))) aVI (fun x r=>aC7 91000000 r.1∧0≤r.2.2.1:(aU)→(aY × aU)→Prop) aTI
def oX:(aU)→(aY × aU):=Classical.choose aB1
def tM:Con:=⟨73,(.bNT (.slice 5 (.int .u8)) aE),(.bNT aC (.bNT (.slice 5 (.int .u8)) aE)),[.box 97 ⟨true,(.bNT (.slice 5 (.int .u8)) aE),[]⟩],[⟨true,aC,[2,3,3,3]⟩],true,none,
 ((fun x=>0≤x.2.1):(aU)→Prop),
 ((oX):(aU)→(aY × aU))⟩
theorem aTK:∀ x,okD (.bNT (.slice 5 (.int .u8)) aE) x→(fun x=>0≤x.2.1) x→(fun x r=>aC7 91000000 r.1∧0≤r.2.2.1:(aU)→(aY × aU)→Prop) x (oX x):=(Classical.choose_spec aB1).1
theorem aHK:Con.Holds Tryz.prog tM:=(Classical.choose_spec aB1).2
theorem aTE (x:aU) (hx:okD (.bNT (.slice 5 (.int .u8)) aE) x) (hp:(fun x=>0≤x.2.1) x):okD (.bNT aC (.bNT (.slice 5 (.int .u8)) aE)) (oX x)∧(fun x r=>aC7 91000000 r.1∧0≤r.2.2.1:(aU)→(aY × aU)→Prop) x (oX x):=⟨aHK.ok x hp hx,aTK x hx hp⟩
def aDZ:Con:=⟨43,(.bNT (.slice 5 (.int .u8)) aE),(.bNT aC (.bNT (.slice 5 (.int .u8)) aE)),[.box 97 ⟨true,(.bNT (.slice 5 (.int .u8)) aE),[]⟩],[⟨true,aC,[0,0,0,0]⟩],true,none,
 ((fun x=>0≤x.2.1):(aU)→Prop),
 ((fun _=>aV (.bNT aC (.bNT (.slice 5 (.int .u8)) aE))):(aU)→(aY × aU))⟩
def aE1:T:=.call 0 (.Z 0) <|
 .bNU (.bNX 38 aA) (aJ aC 1 (.p1 aC (.bNT (.slice 5 (.int .u8)) aE) (.Z 1))) <|
 .call 1 (.bNV (.bNT (.slice 5 (.int .u8)) aE) tI (aO (.bNT aC (.bNT (.slice 5 (.int .u8)) aE)) 1 (.Z 1)) (.Z 2)) <|
 .call 1 (.bNV (.bNT (.slice 5 (.int .u8)) aE) tI (aO (.bNT tI (.bNT (.slice 5 (.int .u8)) aE)) 1 (.Z 3)) (.ci .i64 18)) <|
 .bNU (.cmp .eql .i64) (.bNV tI tI (.p1 tI (.bNT (.slice 5 (.int .u8)) aE) (.Z 4)) (.ci .i64 0)) <|
 .ite (.Z 5) (
  .bNU (.bNY 38 aA) (.bNV (.slice 38 aA) tI (aJ aC 1 (.p1 aC (.bNT (.slice 5 (.int .u8)) aE) (.Z 1))) (.p1 tI (.bNT (.slice 5 (.int .u8)) aE) (.Z 3))) <|
  .bNU (.bNY 38 aA) (.bNV (.slice 38 aA) tI (aJ aC 1 (.p1 aC (.bNT (.slice 5 (.int .u8)) aE) (.Z 1))) (.p1 tI (.bNT (.slice 5 (.int .u8)) aE) (.Z 3))) <|
  .bNU (.bNX 76 aE) (aJ aA 1 (.Z 7)) <|
  .bNU (.bNY 38 aA) (.bNV (.slice 38 aA) tI (aJ aC 1 (.p1 aC (.bNT (.slice 5 (.int .u8)) aE) (.Z 1))) (.p1 tI (.bNT (.slice 5 (.int .u8)) aE) (.Z 3))) <|
  .bNU (.bNY 38 aA) (.bNV (.slice 38 aA) tI (aJ aC 1 (.p1 aC (.bNT (.slice 5 (.int .u8)) aE) (.Z 1))) (.p1 tI (.bNT (.slice 5 (.int .u8)) aE) (.Z 3))) <|
  .bNU (.bNX 76 aE) (aJ aA 1 (.Z 10)) <|
  .bNU (.ar .add .i64) (.bNV tI tI (.Z 11) (.ci .i64 1)) <|
  .bNU (.lit 3 tI 4) (bB (.bNT tI (.bNT tI aE)) [(.ci .i64 (-1)),(.ci .i64 0),(.Z 8),(.Z 12)]) <|
  .call 2 (.bNV (.bNT (.slice 5 (.int .u8)) aE) aB (aO (.bNT tI (.bNT (.slice 5 (.int .u8)) aE)) 1 (.Z 4)) (.Z 13)) <|
  .bNU (.bNY 38 aA) (.bNV (.slice 38 aA) tI (aJ aC 1 (.p1 aC (.bNT (.slice 5 (.int .u8)) aE) (.Z 1))) (.p1 tI (.bNT (.slice 5 (.int .u8)) aE) (.Z 3))) <|
  .bNU (.bNY 38 aA) (.bNV (.slice 38 aA) tI (aJ aC 1 (.p1 aC (.bNT (.slice 5 (.int .u8)) aE) (.Z 1))) (.p1 tI (.bNT (.slice 5 (.int .u8)) aE) (.Z 3))) <|
  .bNU (.bO1 38 aA) (bB (.bNT (.slice 38 aA) (.bNT tI aA)) [(aJ aC 1 (.p1 aC (.bNT (.slice 5 (.int .u8)) aE) (.Z 1))),(.p1 tI (.bNT (.slice 5 (.int .u8)) aE) (.Z 3)),(.p1 tI (.bNT (.slice 5 (.int .u8)) aE) (.Z 14)),(aO aA 1 (.Z 16))]) <|
  .ret (.bNV aC (.bNT (.slice 5 (.int .u8)) aE) (bB aC [(.p1 aN (.bNT (.slice 38 aA) (.bNT aG aG)) (.p1 aC (.bNT (.slice 5 (.int .u8)) aE) (.Z 1))),(.Z 17),(aO aC 2 (.p1 aC (.bNT (.slice 5 (.int .u8)) aE) (.Z 1)))]) (aO (.bNT tI (.bNT (.slice 5 (.int .u8)) aE)) 1 (.Z 14)))) (
  .bNU (.cmp .eql .i64) (.bNV tI tI (.p1 tI (.bNT (.slice 5 (.int .u8)) aE) (.Z 4)) (.ci .i64 1)) <|
  .ite (.Z 6) (
   .call 3 (aO (.bNT tI (.bNT (.slice 5 (.int .u8)) aE)) 1 (.Z 4)) <|
   .bNU (.bNY 38 aA) (.bNV (.slice 38 aA) tI (aJ aC 1 (.p1 aC (.bNT (.slice 5 (.int .u8)) aE) (.Z 1))) (.p1 tI (.bNT (.slice 5 (.int .u8)) aE) (.Z 3))) <|
   .bNU (.bNY 38 aA) (.bNV (.slice 38 aA) tI (aJ aC 1 (.p1 aC (.bNT (.slice 5 (.int .u8)) aE) (.Z 1))) (.p1 tI (.bNT (.slice 5 (.int .u8)) aE) (.Z 3))) <|
   .bNU (.bO1 38 aA) (bB (.bNT (.slice 38 aA) (.bNT tI aA)) [(aJ aC 1 (.p1 aC (.bNT (.slice 5 (.int .u8)) aE) (.Z 1))),(.p1 tI (.bNT (.slice 5 (.int .u8)) aE) (.Z 3)),(.p1 tI cU (.Z 9)),(aJ aA 1 (.Z 9)),(aJ aA 2 (.Z 9)),(aJ aA 3 (.Z 9)),(aJ aA 4 (.Z 9)),(aJ aA 5 (.Z 9)),(aJ aA 6 (.Z 9)),(.p1 aB (.bNT (.slice 5 (.int .u8)) aE) (.Z 7)),(aO aA 8 (.Z 9))]) <|
   .ret (.bNV aC (.bNT (.slice 5 (.int .u8)) aE) (bB aC [(.p1 aN (.bNT (.slice 38 aA) (.bNT aG aG)) (.p1 aC (.bNT (.slice 5 (.int .u8)) aE) (.Z 1))),(.Z 10),(aO aC 2 (.p1 aC (.bNT (.slice 5 (.int .u8)) aE) (.Z 1)))]) (aO (.bNT aB (.bNT (.slice 5 (.int .u8)) aE)) 1 (.Z 7)))) (
   .bNU (.cmp .eql .i64) (.bNV tI tI (.p1 tI (.bNT (.slice 5 (.int .u8)) aE) (.Z 4)) (.ci .i64 2)) <|
   .ite (.Z 7) (
    .bNU (.lit 119 aL 1) (.bNV tI (.slice 125 aF) (.ci .i64 1) (.nl 125 aF)) <|
    .bNU (.bO0 119 aL 32) (.bNV aG aG (aJ aC 2 (.p1 aC (.bNT (.slice 5 (.int .u8)) aE) (.Z 1))) (.Z 8)) <|
    .ret (.bNV aC (.bNT (.slice 5 (.int .u8)) aE) (bB aC [(.p1 aN (.bNT (.slice 38 aA) (.bNT aG aG)) (.p1 aC (.bNT (.slice 5 (.int .u8)) aE) (.Z 1))),(aJ aC 1 (.p1 aC (.bNT (.slice 5 (.int .u8)) aE) (.Z 1))),(.Z 9),(aO aC 3 (.p1 aC (.bNT (.slice 5 (.int .u8)) aE) (.Z 1)))]) (aO (.bNT tI (.bNT (.slice 5 (.int .u8)) aE)) 1 (.Z 4)))) (
    .bNU (.cmp .eql .i64) (.bNV tI tI (.p1 tI (.bNT (.slice 5 (.int .u8)) aE) (.Z 4)) (.ci .i64 3)) <|
    .ite (.Z 8) (
     .bNU (.bNX 94 aM) (.p1 aN (.bNT (.slice 38 aA) (.bNT aG aG)) (.p1 aC (.bNT (.slice 5 (.int .u8)) aE) (.Z 1))) <|
     .bNU (.ar .sub .i64) (.bNV tI tI (.Z 9) (.ci .i64 1)) <|
     .bNU (.bNZ 94 aM) (bB (.bNT aN aE) [(.p1 aN (.bNT (.slice 38 aA) (.bNT aG aG)) (.p1 aC (.bNT (.slice 5 (.int .u8)) aE) (.Z 1))),(.ci .i64 0),(.Z 10)]) <|
     .ret (.bNV aC (.bNT (.slice 5 (.int .u8)) aE) (.bNV aN (.bNT (.slice 38 aA) (.bNT aG aG)) (.Z 11) (aO aC 1 (.p1 aC (.bNT (.slice 5 (.int .u8)) aE) (.Z 1)))) (aO (.bNT tI (.bNT (.slice 5 (.int .u8)) aE)) 1 (.Z 4)))) (
     .bNU (.cmp .eql .i64) (.bNV tI tI (.p1 tI (.bNT (.slice 5 (.int .u8)) aE) (.Z 4)) (.ci .i64 4)) <|
     .ite (.Z 9) (
      .bNU (.bNY 38 aA) (.bNV (.slice 38 aA) tI (aJ aC 1 (.p1 aC (.bNT (.slice 5 (.int .u8)) aE) (.Z 1))) (.p1 tI (.bNT (.slice 5 (.int .u8)) aE) (.Z 3))) <|
      .bNU (.bNY 38 aA) (.bNV (.slice 38 aA) tI (aJ aC 1 (.p1 aC (.bNT (.slice 5 (.int .u8)) aE) (.Z 1))) (.p1 tI (.bNT (.slice 5 (.int .u8)) aE) (.Z 3))) <|
      .bNU (.bO1 38 aA) (bB (.bNT (.slice 38 aA) (.bNT tI aA)) [(aJ aC 1 (.p1 aC (.bNT (.slice 5 (.int .u8)) aE) (.Z 1))),(.p1 tI (.bNT (.slice 5 (.int .u8)) aE) (.Z 3)),(.p1 tI cU (.Z 11)),(aJ aA 1 (.Z 11)),(aJ aA 2 (.Z 11)),(aJ aA 3 (.Z 11)),(aJ aA 4 (.Z 11)),(.nl 80 aD),(aO aA 6 (.Z 11))]) <|
      .ret (.bNV aC (.bNT (.slice 5 (.int .u8)) aE) (bB aC [(.p1 aN (.bNT (.slice 38 aA) (.bNT aG aG)) (.p1 aC (.bNT (.slice 5 (.int .u8)) aE) (.Z 1))),(.Z 12),(aO aC 2 (.p1 aC (.bNT (.slice 5 (.int .u8)) aE) (.Z 1)))]) (aO (.bNT tI (.bNT (.slice 5 (.int .u8)) aE)) 1 (.Z 4)))) (
      .bNU (.cmp .eql .i64) (.bNV tI tI (.p1 tI (.bNT (.slice 5 (.int .u8)) aE) (.Z 4)) (.ci .i64 5)) <|
      .ite (.Z 10) (
       .bNU (.bNY 38 aA) (.bNV (.slice 38 aA) tI (aJ aC 1 (.p1 aC (.bNT (.slice 5 (.int .u8)) aE) (.Z 1))) (.p1 tI (.bNT (.slice 5 (.int .u8)) aE) (.Z 3))) <|
       .bNU (.bNY 38 aA) (.bNV (.slice 38 aA) tI (aJ aC 1 (.p1 aC (.bNT (.slice 5 (.int .u8)) aE) (.Z 1))) (.p1 tI (.bNT (.slice 5 (.int .u8)) aE) (.Z 3))) <|
       .bNU .not (aJ aA 3 (.Z 12)) <|
       .bNU (.bNY 38 aA) (.bNV (.slice 38 aA) tI (aJ aC 1 (.p1 aC (.bNT (.slice 5 (.int .u8)) aE) (.Z 1))) (.p1 tI (.bNT (.slice 5 (.int .u8)) aE) (.Z 3))) <|
       .bNU (.bNY 38 aA) (.bNV (.slice 38 aA) tI (aJ aC 1 (.p1 aC (.bNT (.slice 5 (.int .u8)) aE) (.Z 1))) (.p1 tI (.bNT (.slice 5 (.int .u8)) aE) (.Z 3))) <|
       .bNU (.bO1 38 aA) (bB (.bNT (.slice 38 aA) (.bNT tI aA)) [(aJ aC 1 (.p1 aC (.bNT (.slice 5 (.int .u8)) aE) (.Z 1))),(.p1 tI (.bNT (.slice 5 (.int .u8)) aE) (.Z 3)),(.p1 tI cU (.Z 15)),(aJ aA 1 (.Z 15)),(aJ aA 2 (.Z 15)),(.Z 13),(aO aA 4 (.Z 15))]) <|
       .ret (.bNV aC (.bNT (.slice 5 (.int .u8)) aE) (bB aC [(.p1 aN (.bNT (.slice 38 aA) (.bNT aG aG)) (.p1 aC (.bNT (.slice 5 (.int .u8)) aE) (.Z 1))),(.Z 16),(aO aC 2 (.p1 aC (.bNT (.slice 5 (.int .u8)) aE) (.Z 1)))]) (aO (.bNT tI (.bNT (.slice 5 (.int .u8)) aE)) 1 (.Z 4)))) (
       .ret (.bNV aC (.bNT (.slice 5 (.int .u8)) aE) (.p1 aC (.bNT (.slice 5 (.int .u8)) aE) (.Z 1)) (aO (.bNT tI (.bNT (.slice 5 (.int .u8)) aE)) 1 (.Z 4)))))))))
theorem aYR (f:(aU)→(aY × aU)):bM Tryz.prog [tM,bS,cO,aBT] { aDZ with fn:=f } false 3000 ⟨[],[(2986,3006,[35],[]),(2983,6007,[45],[]),(2977,24009,[],[7])]⟩ = .ok aE1:=by kernel_rfl
theorem aZS (x:aU) (hx:okD (.bNT (.slice 5 (.int .u8)) aE) x) (hp:(fun x=>0≤x.2.1) x):aE1.wp [tM,bS,cO,aBT] [⟨(.bNT (.slice 5 (.int .u8)) aE),x⟩] [] (fun v=>(fun x r=>bQ aC r.1≤92000000:(aU)→(aY × aU)→Prop) x (v.as (.bNT aC (.bNT (.slice 5 (.int .u8)) aE)))):=by
 have q1:=aTE x hx hp
 delta aE1 tM bS cO aBT;refine dB ?_
 refine dT ?_
 refine ⟨hp,fun _=>?_⟩
 generalize oX x=r at q1 ⊢;obtain ⟨p,c1⟩:=r;obtain ⟨k1,u1⟩:=q1;replace k1:okD nT c1:=k1.2;dsimp only at u1 ⊢
 obtain ⟨⟨z1,z2,z3,z4⟩,hc1⟩:=u1
 refine fun ho=>⟨hc1,fun _=>?_⟩
 have q2:=cR (c1,((List.length p.2.1:Nat):Int)) ⟨k1,ho⟩ hc1
 generalize cI (c1,((List.length p.2.1:Nat):Int))=r at q2 ⊢;obtain ⟨n2,c2⟩:=r;obtain ⟨k2,u2⟩:=q2;replace k2:okD nT c2:=k2.2;dsimp only at u2 ⊢
 have hn2:0≤n2∧n2<((List.length p.2.1:Nat):Int):=⟨u2.1,u2.2.1 (by show (0:Int)<((List.length p.2.1:Nat):Int);omega)⟩
 refine ⟨u2.2.2.2,fun _=>?_⟩
 have hc2:=u2.2.2.2
 clear u2
 have q3:=cR (c2,18) ⟨k2,okI (by omega) (by omega)⟩ hc2
 generalize cI (c2,18)=r at q3 ⊢;obtain ⟨n3,c3⟩:=r;obtain ⟨k3,u3⟩:=q3;replace k3:okD nT c3:=k3.2;dsimp only at u3 ⊢
 have hc3:=u3.2.2.2
 clear u3
 have q4:=(bCI c3 k3 hc3).2.1
 obtain ⟨l1,l2,l3⟩:=bML p
 have l4:=l3 n2.toNat
 have e0:bQ uC ([]:List iQ)=0:=rfl
 (repeat' first|intro _|(with_reducible apply And.intro))
 all_goals first|omega|(unfold maxLen;omega)|(with_reducible exact hc3)|(rename_i hh;cases hh;done)|exact Nat.le_trans bM2 (by omega)|exact Nat.le_trans bMP (by omega)|(refine Nat.le_trans (bMS ?_) (show _≤92000000 by omega);rw[fP,fP];dsimp only;omega)|skip
theorem aDC:∃ f:(aU)→(aY × aU),(∀ x,okD (.bNT (.slice 5 (.int .u8)) aE) x→(fun x=>0≤x.2.1) x→(fun x r=>bQ aC r.1≤92000000:(aU)→(aY × aU)→Prop) x (f x))∧Con.Holds Tryz.prog { aDZ with fn:=f }:=lO (C:=aDZ) aW (aH aHK (aH fU (aH jW (aH aNZ aR)))) aYR (fun x r=>bQ aC r.1≤92000000:(aU)→(aY × aU)→Prop) aZS
def yD:(aU)→(aY × aU):=Classical.choose aDC
def yC:Con:=⟨43,(.bNT (.slice 5 (.int .u8)) aE),(.bNT aC (.bNT (.slice 5 (.int .u8)) aE)),[.box 97 ⟨true,(.bNT (.slice 5 (.int .u8)) aE),[]⟩],[⟨true,aC,[0,0,0,0]⟩],true,none,
 ((fun x=>0≤x.2.1):(aU)→Prop),
 ((yD):(aU)→(aY × aU))⟩
theorem aYO:∀ x,okD (.bNT (.slice 5 (.int .u8)) aE) x→(fun x=>0≤x.2.1) x→(fun x r=>bQ aC r.1≤92000000:(aU)→(aY × aU)→Prop) x (yD x):=(Classical.choose_spec aDC).1
theorem aJ3:Con.Holds Tryz.prog yC:=(Classical.choose_spec aDC).2
theorem aZL (x:aU) (hx:okD (.bNT (.slice 5 (.int .u8)) aE) x) (hp:(fun x=>0≤x.2.1) x):okD (.bNT aC (.bNT (.slice 5 (.int .u8)) aE)) (yD x)∧(fun x r=>bQ aC r.1≤92000000:(aU)→(aY × aU)→Prop) x (yD x):=⟨aJ3.ok x hp hx,aYO x hx hp⟩
def qC:Con:=⟨16,(.slice 5 (.int .u8)),aC,[.val ⟨false,(.slice 5 (.int .u8)),[]⟩],[⟨true,aC,[0,0,0,0]⟩],true,none,
 ((fun x=>x.length≤1048576):(List Int)→Prop),
 ((fun _=>aV aC):(List Int)→(aY))⟩
def qE:T:=.call 0 (.Z 0) <|.call 1 (.Z 1) <|.ret (.p1 aC (.bNT (.slice 5 (.int .u8)) aE) (.Z 2))
theorem aIB (f:(List Int)→(aY)):bM Tryz.prog [gO,yC] { qC with fn:=f } false 3000 ⟨[],[]⟩ = .ok qE:=by kernel_rfl
theorem aIC (x:List Int) (hx:okD (.slice 5 (.int .u8)) x) (hp:(fun x=>x.length≤1048576) x):qE.wp [gO,yC] [⟨(.slice 5 (.int .u8)),x⟩] [] (fun v=>(fun x r=>bQ aC r≤92000000:(List Int)→(aY)→Prop) x (v.as aC)):=by
 have hp':List.length x≤1048576:=hp
 delta qE gO yC;refine dB ?_
 refine dT ?_
 refine ⟨hp',fun hc=>⟨Int.le_refl _,fun _=>?_⟩⟩
 exact (aZL (aQ6 x) hc (Int.le_refl _)).2
theorem qJ:∃ f:(List Int)→(aY),(∀ x,okD (.slice 5 (.int .u8)) x→(fun x=>x.length≤1048576) x→(fun x r=>bQ aC r≤92000000:(List Int)→(aY)→Prop) x (f x))∧Con.Holds Tryz.prog { qC with fn:=f }:=lO (C:=qC) aW (aH bEU (aH aJ3 aR)) aIB (fun x r=>bQ aC r≤92000000:(List Int)→(aY)→Prop) aIC
def jN:(List Int)→(aY):=Classical.choose qJ
def mE:Con:=⟨16,(.slice 5 (.int .u8)),aC,[.val ⟨false,(.slice 5 (.int .u8)),[]⟩],[⟨true,aC,[0,0,0,0]⟩],true,none,
 ((fun x=>x.length≤1048576):(List Int)→Prop),
 ((jN):(List Int)→(aY))⟩
theorem aID:∀ x,okD (.slice 5 (.int .u8)) x→(fun x=>x.length≤1048576) x→(fun x r=>bQ aC r≤92000000:(List Int)→(aY)→Prop) x (jN x):=(Classical.choose_spec qJ).1
theorem yO:Con.Holds Tryz.prog mE:=(Classical.choose_spec qJ).2
theorem aIA (x:List Int) (hx:okD (.slice 5 (.int .u8)) x) (hp:(fun x=>x.length≤1048576) x):okD aC (jN x)∧(fun x r=>bQ aC r≤92000000:(List Int)→(aY)→Prop) x (jN x):=⟨yO.ok x hp hx,aID x hx hp⟩
end
end Go.Proofs.YtdeobhdbmehpgaaGreat
