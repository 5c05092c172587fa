/- DrawCf: lemmas. No conditions. -/
import Derived.Test.YtabamggdmdednaaGreatDrawR
import Derived.Test.YtabamggdmdednaaGreatCoreA
namespace Go.Proofs.YtabamggdmdednaaGreat
noncomputable section
set_option maxRecDepth 100000
open Go.ChangeShapes Go.WideShapes Go.ChangeAt Go.RowKit Go.Deep
set_option linter.unusedVariables false
set_option linter.unusedSimpArgs false
def aBN (n k b:Nat) (c:bG) (l:bO):Prop:=List.length c.1≤n∧(∀ o∈(c.1:aY),List.length o.2.2.2≤40)∧List.length c.2.1≤k∧List.length c.2.2.2.1≤k+1∧List.length c.2.2.2.2.1≤k∧List.length c.2.2.2.2.2≤k+1 ∧
 List.length l≤b∧∀ p∈(l:List bT),List.length p.1≤7∧List.length p.2≤7
theorem bQG (c:bG) (s micro:Int):0≤qK c s micro∧qK c s micro≤330:=by
 unfold qK
 split
 ·rename_i h
  obtain ⟨h1,h2,h3,h4⟩:=h
  have hb:=aOQ c s
  have hs:s≤(c.2.1.length:Int):=Int.not_lt.1 fun hh=>by rw[qG (.inr (.inr hh))] at h1;exact absurd h1 (Int.lt_irrefl _)
  have q1:=bGV (k:=min micro ((c.2.1.length:Int)+1 - s)) (v:=jG c s) (by omega) (by omega) (by omega) (by omega)
  have q2:=bGV (k:=micro) (v:=jG c s) (by omega) (by omega) (by omega) (by omega)
  split <;> split <;> omega
 ·omega
def aFI:Con:=⟨42,(.bRW (.bRW (.slice 5 (.int .u8)) aD) aE),(.bRW aB (.bRW (.slice 5 (.int .u8)) aD)),[.box 62 ⟨true,(.bRW (.slice 5 (.int .u8)) aD),[]⟩,.val ⟨true,aE,[]⟩],[⟨false,aB,[2]⟩],false,none,
 ((fun x=>0≤x.1.2.1∧x.2.length≤9):(aT × aY)→Prop),
 ((fun _=>aW (.bRW aB (.bRW (.slice 5 (.int .u8)) aD))):(aT × aY)→(bK × aT))⟩
def aER:T:=.loop (.bRW tI (.bRW (.slice 5 (.int .u8)) (.bRW tI aH))) (bB (.bRW tI (.bRW (.slice 5 (.int .u8)) (.bRW tI aH))) [(.ci .i64 1),(.p1 (.slice 5 (.int .u8)) aD (.p1 (.bRW (.slice 5 (.int .u8)) aD) aE (.Z 0))),(aK (.bRW (.slice 5 (.int .u8)) aD) 1 (.p1 (.bRW (.slice 5 (.int .u8)) aD) aE (.Z 0))),(aP (.bRW (.slice 5 (.int .u8)) aD) 2 (.p1 (.bRW (.slice 5 (.int .u8)) aD) aE (.Z 0))),(.nl 3 tI)]) <|
 .bRX (.bS0 88 bF) (aP (.bRW (.bRW (.slice 5 (.int .u8)) aD) aE) 1 (.Z 0)) <|
 .bRX (.cmp .lss .i64) (.bRY tI tI (.p1 tI (.bRW (.slice 5 (.int .u8)) (.bRW tI aH)) (.Z 1)) (.Z 2)) <|
 .ite (.Z 3) (
  .call 0 (.bRY (.bRW (.slice 5 (.int .u8)) aD) tI (bB (.bRW (.slice 5 (.int .u8)) aD) [(aK (.bRW tI (.bRW (.slice 5 (.int .u8)) (.bRW tI aH))) 1 (.Z 1)),(aK (.bRW tI (.bRW (.slice 5 (.int .u8)) (.bRW tI aH))) 2 (.Z 1)),(aK (.bRW tI (.bRW (.slice 5 (.int .u8)) (.bRW tI aH))) 3 (.Z 1))]) (.ci .i64 2)) <|
  .ite (.p1 .bool (.bRW (.slice 5 (.int .u8)) aD) (.Z 4)) (
   .bRX (.bS0 3 tI) (aP (.bRW tI (.bRW (.slice 5 (.int .u8)) (.bRW tI aH))) 4 (.Z 1)) <|
   .bRX (.cmp .lss .i64) (.bRY tI tI (.Z 5) (.ci .i64 3)) <|
   .ite (.Z 6) (
    .bRX (.lit 3 tI 1) (.p1 tI (.bRW (.slice 5 (.int .u8)) (.bRW tI aH)) (.Z 1)) <|
    .bRX (.bS3 3 tI 8) (.bRY aB aB (aP (.bRW tI (.bRW (.slice 5 (.int .u8)) (.bRW tI aH))) 4 (.Z 1)) (.Z 7)) <|
    .bRX (.ar .add .i64) (.bRY tI tI (.p1 tI (.bRW (.slice 5 (.int .u8)) (.bRW tI aH)) (.Z 1)) (.ci .i64 1)) <|
    .bRZ 0 (bB (.bRW tI (.bRW (.slice 5 (.int .u8)) (.bRW tI aH))) [(.Z 9),(aK (.bRW .bool (.bRW (.slice 5 (.int .u8)) aD)) 1 (.Z 4)),(aK (.bRW .bool (.bRW (.slice 5 (.int .u8)) aD)) 2 (.Z 4)),(aP (.bRW .bool (.bRW (.slice 5 (.int .u8)) aD)) 3 (.Z 4)),(.Z 8)])) (
    .bRX (.ar .add .i64) (.bRY tI tI (.p1 tI (.bRW (.slice 5 (.int .u8)) (.bRW tI aH)) (.Z 1)) (.ci .i64 1)) <|
    .bRZ 0 (bB (.bRW tI (.bRW (.slice 5 (.int .u8)) (.bRW tI aH))) [(.Z 7),(aK (.bRW .bool (.bRW (.slice 5 (.int .u8)) aD)) 1 (.Z 4)),(aK (.bRW .bool (.bRW (.slice 5 (.int .u8)) aD)) 2 (.Z 4)),(aP (.bRW .bool (.bRW (.slice 5 (.int .u8)) aD)) 3 (.Z 4)),(aP (.bRW tI (.bRW (.slice 5 (.int .u8)) (.bRW tI aH))) 4 (.Z 1))]))) (
   .bRX (.ar .add .i64) (.bRY tI tI (.p1 tI (.bRW (.slice 5 (.int .u8)) (.bRW tI aH)) (.Z 1)) (.ci .i64 1)) <|
   .bRZ 0 (bB (.bRW tI (.bRW (.slice 5 (.int .u8)) (.bRW tI aH))) [(.Z 5),(aK (.bRW .bool (.bRW (.slice 5 (.int .u8)) aD)) 1 (.Z 4)),(aK (.bRW .bool (.bRW (.slice 5 (.int .u8)) aD)) 2 (.Z 4)),(aP (.bRW .bool (.bRW (.slice 5 (.int .u8)) aD)) 3 (.Z 4)),(aP (.bRW tI (.bRW (.slice 5 (.int .u8)) (.bRW tI aH))) 4 (.Z 1))]))) (
  .ret (bB (.bRW aB (.bRW (.slice 5 (.int .u8)) aD)) [(aP (.bRW tI (.bRW (.slice 5 (.int .u8)) (.bRW tI aH))) 4 (.Z 1)),(aK (.bRW tI (.bRW (.slice 5 (.int .u8)) (.bRW tI aH))) 1 (.Z 1)),(aK (.bRW tI (.bRW (.slice 5 (.int .u8)) (.bRW tI aH))) 2 (.Z 1)),(aK (.bRW tI (.bRW (.slice 5 (.int .u8)) (.bRW tI aH))) 3 (.Z 1))]))
theorem aZY (f:(aT × aY)→(bK × aT)):bI Tryz.prog [jI] { aFI with fn:=f } false 3000 ⟨[(2991,1001,[.dr 7,.dr 1,.tm 6 0,.on 5,.bx 1 0,.bx 1 1,.bx 1 2,.sl 3])],[]⟩ = .ok aER:=by kernel_rfl
theorem aZZ (x:aT × aY) (hx:okD (.bRW (.bRW (.slice 5 (.int .u8)) aD) aE) x) (hp:(fun x=>0≤x.1.2.1∧x.2.length≤9) x):aER.wp [jI] [⟨(.bRW (.bRW (.slice 5 (.int .u8)) aD) aE),x⟩] [] (fun v=>(fun x r=>r.1.length≤3∧0≤r.2.2.1:(aT × aY)→(bK × aT)→Prop) x (v.as (.bRW aB (.bRW (.slice 5 (.int .u8)) aD)))):=by
 obtain ⟨c,m⟩:=x
 obtain ⟨hp,hm⟩:0≤c.2.1∧List.length m≤9:=hp
 delta aER jI;refine cW ?_
 refine dB ?_
 refine ⟨fun s=>@LE.le Int _ 1 s.1∧@LE.le Int _ s.1 10∧List.length s.2.2.2.2≤3∧@LE.le Int _ 0 s.2.2.1,fun s=>(20 - s.1:Int).toNat,⟨by show (1:Int)≤1;omega,by show (1:Int)≤10;omega,Nat.zero_le _,hp⟩,fun s hs hI=>?_⟩
 obtain ⟨j,b,i,h,l⟩:=s
 obtain ⟨e1,e2,e3,e4⟩:=hI
 change Int at j
 change List Int at l
 change (1:Int)≤j at e1
 change j≤10 at e2
 change List.length l≤3 at e3
 change 0≤(i:Int) at e4
 have q:=aFT ((b,i,h),2) ⟨⟨hs.2.1,hs.2.2.1,hs.2.2.2.1⟩,okI (by omega) (by omega)⟩ e4
 generalize nG ((b,i,h),2)=r at q ⊢;obtain ⟨n1,c1⟩:=r;obtain ⟨kq1,uq1⟩:=q;dsimp only at uq1 ⊢
 try dsimp only
 (refine dB ?_;try with_reducible exact True.intro)
 (repeat' first|intro _|(with_reducible apply And.intro))
 all_goals first|omega|(unfold maxLen;omega)|exact uq1|exact e4|skip
theorem aGG:∃ f:(aT × aY)→(bK × aT),(∀ x,okD (.bRW (.bRW (.slice 5 (.int .u8)) aD) aE) x→(fun x=>0≤x.1.2.1∧x.2.length≤9) x→(fun x r=>r.1.length≤3∧0≤r.2.2.1:(aT × aY)→(bK × aT)→Prop) x (f x))∧Con.Holds Tryz.prog { aFI with fn:=f }:=kT (C:=aFI) aV (aI yY aQ) aZY (fun x r=>r.1.length≤3∧0≤r.2.2.1:(aT × aY)→(bK × aT)→Prop) aZZ
def sL:(aT × aY)→(bK × aT):=Classical.choose aGG
def zR:Con:=⟨42,(.bRW (.bRW (.slice 5 (.int .u8)) aD) aE),(.bRW aB (.bRW (.slice 5 (.int .u8)) aD)),[.box 62 ⟨true,(.bRW (.slice 5 (.int .u8)) aD),[]⟩,.val ⟨true,aE,[]⟩],[⟨false,aB,[2]⟩],false,none,
 ((fun x=>0≤x.1.2.1∧x.2.length≤9):(aT × aY)→Prop),
 ((sL):(aT × aY)→(bK × aT))⟩
theorem bAH:∀ x,okD (.bRW (.bRW (.slice 5 (.int .u8)) aD) aE) x→(fun x=>0≤x.1.2.1∧x.2.length≤9) x→(fun x r=>r.1.length≤3∧0≤r.2.2.1:(aT × aY)→(bK × aT)→Prop) x (sL x):=(Classical.choose_spec aGG).1
theorem aN4:Con.Holds Tryz.prog zR:=(Classical.choose_spec aGG).2
theorem bD1 (x:aT × aY) (hx:okD (.bRW (.bRW (.slice 5 (.int .u8)) aD) aE) x) (hp:(fun x=>0≤x.1.2.1∧x.2.length≤9) x):okD (.bRW aB (.bRW (.slice 5 (.int .u8)) aD)) (sL x)∧(fun x r=>r.1.length≤3∧0≤r.2.2.1:(aT × aY)→(bK × aT)→Prop) x (sL x):=⟨aN4.ok x hp hx,bAH x hx hp⟩
def wQ:Con:=⟨17,(.bRW (.slice 5 (.int .u8)) aD),(.bRW aC (.bRW aG (.bRW (.slice 5 (.int .u8)) aD))),[.box 62 ⟨true,(.bRW (.slice 5 (.int .u8)) aD),[]⟩],[⟨true,aC,[1,2,0,2,2,2]⟩,⟨false,aG,[1]⟩],false,none,
 ((fun x=>0≤x.2.1):(aT)→Prop),
 ((fun _=>aW (.bRW aC (.bRW aG (.bRW (.slice 5 (.int .u8)) aD)))):(aT)→(bG × (bO × aT)))⟩
def xH:T:=.call 0 (.Z 0) <|.call 1 (.bRY (.bRW (.slice 5 (.int .u8)) aD) aE (aP (.bRW aE (.bRW (.slice 5 (.int .u8)) aD)) 1 (.Z 1)) (.p1 aE (.bRW (.slice 5 (.int .u8)) aD) (.Z 1))) <|.call 2 (.bRY (.bRW (.slice 5 (.int .u8)) aD) tI (aP (.bRW aB (.bRW (.slice 5 (.int .u8)) aD)) 1 (.Z 2)) (.ci .i64 2)) <|
 .bRX (.ar .add .i64) (.bRY tI tI (.ci .i64 1) (.p1 tI (.bRW (.slice 5 (.int .u8)) aD) (.Z 3))) <|
 .bRX .not (.cb true) <|
 .call 3 (.bRY (.bRW (.slice 5 (.int .u8)) aD) aE (aP (.bRW tI (.bRW (.slice 5 (.int .u8)) aD)) 1 (.Z 3)) (.p1 aE (.bRW (.slice 5 (.int .u8)) aD) (.Z 1))) <|
 .loop (.bRW tI (.bRW (.slice 5 (.int .u8)) (.bRW tI (.bRW tI (.bRW bV aB))))) (bB (.bRW tI (.bRW (.slice 5 (.int .u8)) (.bRW tI (.bRW tI (.bRW bV aB))))) [(.ci .i64 0),(aK (.bRW aG (.bRW (.slice 5 (.int .u8)) aD)) 1 (.Z 6)),(aK (.bRW aG (.bRW (.slice 5 (.int .u8)) aD)) 2 (.Z 6)),(aP (.bRW aG (.bRW (.slice 5 (.int .u8)) aD)) 3 (.Z 6)),(.nl 4 .bool),(.nl 3 tI)]) <|
  .bRX (.bS0 3 tI) (.p1 aB (.bRW (.slice 5 (.int .u8)) aD) (.Z 2)) <|
  .bRX (.cmp .leq .i64) (.bRY tI tI (.p1 tI (.bRW (.slice 5 (.int .u8)) (.bRW tI (.bRW tI (.bRW bV aB)))) (.Z 7)) (.Z 8)) <|
  .ite (.Z 9) (
   .call 4 (.bRY (.bRW (.slice 5 (.int .u8)) aD) tI (bB (.bRW (.slice 5 (.int .u8)) aD) [(aK (.bRW tI (.bRW (.slice 5 (.int .u8)) (.bRW tI (.bRW tI (.bRW bV aB))))) 1 (.Z 7)),(aK (.bRW tI (.bRW (.slice 5 (.int .u8)) (.bRW tI (.bRW tI (.bRW bV aB))))) 2 (.Z 7)),(aK (.bRW tI (.bRW (.slice 5 (.int .u8)) (.bRW tI (.bRW tI (.bRW bV aB))))) 3 (.Z 7))]) (.ci .i64 3)) <|
   .bRX (.lit 4 .bool 1) (.p1 .bool (.bRW (.slice 5 (.int .u8)) aD) (.Z 10)) <|
   .bRX (.bS3 4 .bool 1) (.bRY bV bV (aK (.bRW tI (.bRW (.slice 5 (.int .u8)) (.bRW tI (.bRW tI (.bRW bV aB))))) 4 (.Z 7)) (.Z 11)) <|
   .bRX (.cmp .gtr .i64) (.bRY tI tI (.p1 tI (.bRW (.slice 5 (.int .u8)) (.bRW tI (.bRW tI (.bRW bV aB)))) (.Z 7)) (.ci .i64 0)) <|
   .ite (.Z 13) (
    .call 2 (.bRY (.bRW (.slice 5 (.int .u8)) aD) tI (aP (.bRW .bool (.bRW (.slice 5 (.int .u8)) aD)) 1 (.Z 10)) (.ci .i64 3)) <|
    .bRX (.ar .add .i64) (.bRY tI tI (.ci .i64 1) (.p1 tI (.bRW (.slice 5 (.int .u8)) aD) (.Z 14))) <|
    .bRX (.lit 3 tI 1) (.Z 15) <|
    .bRX (.bS3 3 tI 8) (.bRY aB aB (aP (.bRW tI (.bRW (.slice 5 (.int .u8)) (.bRW tI (.bRW tI (.bRW bV aB))))) 5 (.Z 7)) (.Z 16)) <|
    .bRX (.ar .add .i64) (.bRY tI tI (.p1 tI (.bRW (.slice 5 (.int .u8)) (.bRW tI (.bRW tI (.bRW bV aB)))) (.Z 7)) (.ci .i64 1)) <|
    .bRZ 0 (bB (.bRW tI (.bRW (.slice 5 (.int .u8)) (.bRW tI (.bRW tI (.bRW bV aB))))) [(.Z 18),(aK (.bRW tI (.bRW (.slice 5 (.int .u8)) aD)) 1 (.Z 14)),(aK (.bRW tI (.bRW (.slice 5 (.int .u8)) aD)) 2 (.Z 14)),(aP (.bRW tI (.bRW (.slice 5 (.int .u8)) aD)) 3 (.Z 14)),(.Z 12),(.Z 17)])) (
    .bRX (.ar .add .i64) (.bRY tI tI (.p1 tI (.bRW (.slice 5 (.int .u8)) (.bRW tI (.bRW tI (.bRW bV aB)))) (.Z 7)) (.ci .i64 1)) <|
    .bRZ 0 (bB (.bRW tI (.bRW (.slice 5 (.int .u8)) (.bRW tI (.bRW tI (.bRW bV aB))))) [(.Z 14),(aK (.bRW .bool (.bRW (.slice 5 (.int .u8)) aD)) 1 (.Z 10)),(aK (.bRW .bool (.bRW (.slice 5 (.int .u8)) aD)) 2 (.Z 10)),(aP (.bRW .bool (.bRW (.slice 5 (.int .u8)) aD)) 3 (.Z 10)),(.Z 12),(aP (.bRW tI (.bRW (.slice 5 (.int .u8)) (.bRW tI (.bRW tI (.bRW bV aB))))) 5 (.Z 7))]))) (
   .loop (.bRW tI (.bRW (.slice 5 (.int .u8)) (.bRW tI aH))) (bB (.bRW tI (.bRW (.slice 5 (.int .u8)) (.bRW tI aH))) [(.ci .i64 0),(aK (.bRW tI (.bRW (.slice 5 (.int .u8)) (.bRW tI (.bRW tI (.bRW bV aB))))) 1 (.Z 7)),(aK (.bRW tI (.bRW (.slice 5 (.int .u8)) (.bRW tI (.bRW tI (.bRW bV aB))))) 2 (.Z 7)),(aK (.bRW tI (.bRW (.slice 5 (.int .u8)) (.bRW tI (.bRW tI (.bRW bV aB))))) 3 (.Z 7)),(.nl 3 tI)]) <|
    .bRX (.bS0 3 tI) (.p1 aB (.bRW (.slice 5 (.int .u8)) aD) (.Z 2)) <|
    .bRX (.cmp .leq .i64) (.bRY tI tI (.p1 tI (.bRW (.slice 5 (.int .u8)) (.bRW tI aH)) (.Z 10)) (.Z 11)) <|
    .ite (.Z 12) (
     .bRX (.bS0 92 aO) (.p1 aG (.bRW (.slice 5 (.int .u8)) aD) (.Z 6)) <|
     .call 5 (bB (.bRW aC aD) [(bB aC [(.p1 aE (.bRW (.slice 5 (.int .u8)) aD) (.Z 1)),(.p1 aB (.bRW (.slice 5 (.int .u8)) aD) (.Z 2)),(.Z 4),(aK (.bRW tI (.bRW (.slice 5 (.int .u8)) (.bRW tI (.bRW tI (.bRW bV aB))))) 4 (.Z 7)),(aP (.bRW tI (.bRW (.slice 5 (.int .u8)) (.bRW tI (.bRW tI (.bRW bV aB))))) 5 (.Z 7)),(aP (.bRW tI (.bRW (.slice 5 (.int .u8)) (.bRW tI aH))) 4 (.Z 10))]),(.p1 tI (.bRW (.slice 5 (.int .u8)) (.bRW tI aH)) (.Z 10)),(.Z 13)]) <|
     .bRX (.lit 3 tI 3) (bB (.bRW tI aD) [(.ci .i64 0),(.ci .i64 0),(.ci .i64 7)]) <|
     .call 6 (.bRY (.bRW (.slice 5 (.int .u8)) aD) aB (bB (.bRW (.slice 5 (.int .u8)) aD) [(aK (.bRW tI (.bRW (.slice 5 (.int .u8)) (.bRW tI aH))) 1 (.Z 10)),(aK (.bRW tI (.bRW (.slice 5 (.int .u8)) (.bRW tI aH))) 2 (.Z 10)),(aK (.bRW tI (.bRW (.slice 5 (.int .u8)) (.bRW tI aH))) 3 (.Z 10))]) (.Z 15)) <|
     .bRX (.ar .add .i64) (.bRY tI tI (.Z 14) (.p1 tI (.bRW (.slice 5 (.int .u8)) aD) (.Z 16))) <|
     .bRX (.lit 3 tI 1) (.Z 17) <|
     .bRX (.bS3 3 tI 8) (.bRY aB aB (aP (.bRW tI (.bRW (.slice 5 (.int .u8)) (.bRW tI aH))) 4 (.Z 10)) (.Z 18)) <|
     .bRX (.ar .add .i64) (.bRY tI tI (.p1 tI (.bRW (.slice 5 (.int .u8)) (.bRW tI aH)) (.Z 10)) (.ci .i64 1)) <|
     .bRZ 0 (bB (.bRW tI (.bRW (.slice 5 (.int .u8)) (.bRW tI aH))) [(.Z 20),(aK (.bRW tI (.bRW (.slice 5 (.int .u8)) aD)) 1 (.Z 16)),(aK (.bRW tI (.bRW (.slice 5 (.int .u8)) aD)) 2 (.Z 16)),(aP (.bRW tI (.bRW (.slice 5 (.int .u8)) aD)) 3 (.Z 16)),(.Z 19)])) (
     .ret (bB (.bRW aC (.bRW aG (.bRW (.slice 5 (.int .u8)) aD))) [(bB aC [(.p1 aE (.bRW (.slice 5 (.int .u8)) aD) (.Z 1)),(.p1 aB (.bRW (.slice 5 (.int .u8)) aD) (.Z 2)),(.Z 4),(aK (.bRW tI (.bRW (.slice 5 (.int .u8)) (.bRW tI (.bRW tI (.bRW bV aB))))) 4 (.Z 7)),(aP (.bRW tI (.bRW (.slice 5 (.int .u8)) (.bRW tI (.bRW tI (.bRW bV aB))))) 5 (.Z 7)),(aP (.bRW tI (.bRW (.slice 5 (.int .u8)) (.bRW tI aH))) 4 (.Z 10))]),(.p1 aG (.bRW (.slice 5 (.int .u8)) aD) (.Z 6)),(aK (.bRW tI (.bRW (.slice 5 (.int .u8)) (.bRW tI aH))) 1 (.Z 10)),(aK (.bRW tI (.bRW (.slice 5 (.int .u8)) (.bRW tI aH))) 2 (.Z 10)),(aK (.bRW tI (.bRW (.slice 5 (.int .u8)) (.bRW tI aH))) 3 (.Z 10))])))
theorem aQ9 (f:(aT)→(bG × (bO × aT))):bI Tryz.prog [lB,zR,bP,lO,jI,lU,cH] { wQ with fn:=f } false 3000 ⟨[(2987,1007,gQ 21 16++[.dr 14,.dr 13,.dr 11,.dr 15,.dr 12,.dr 4,.dr 10,.dr 9,.tm 7 0,.bx 1 0,.bx 1 1,.bx 1 2,.sl 18,.sl 19]),(2977,2010,gQ 26 22++[.dr 7,.tm 8 0,.bx 1 0,.bx 1 1,.bx 1 2,.sl 20])],[(2994,1002,[],[8]),(2969,6013,[61],[])]⟩ = .ok xH:=by kernel_rfl
theorem aPP (x:aT) (hx:okD (.bRW (.slice 5 (.int .u8)) aD) x) (hp:(fun x=>0≤x.2.1) x):xH.wp [lB,zR,bP,lO,jI,lU,cH] [⟨(.bRW (.slice 5 (.int .u8)) aD),x⟩] [] (fun v=>(fun x r=>aBN 6 3 4 r.1 r.2.1∧1≤r.1.2.2.2.1.length∧1≤r.1.2.2.2.2.2.length∧(∀ v∈r.1.2.2.2.2.2,0≤v∧v≤400)∧0≤r.2.2.2.1:(aT)→(bG × (bO × aT))→Prop) x (v.as (.bRW aC (.bRW aG (.bRW (.slice 5 (.int .u8)) aD))))):=by
 have q1:=aK2 x hx hp
 delta xH lB zR bP lO jI lU cH;refine cW ?_
 refine dB ?_
 refine ⟨hp,fun _=>?_⟩
 generalize nM x=r at q1 ⊢;obtain ⟨m,c1⟩:=r;obtain ⟨k1,u1⟩:=q1;have km:=k1.1;replace k1:okD nB c1:=k1.2;dsimp only at u1 ⊢
 change List dI at m
 have hl6:List.length m≤6:=u1.2.1
 have hP:∀ o∈m,List.length o.2.2.2≤40:=fun o ho=>by have:=bF1 (u1.2.2.1 o ho);omega
 refine ⟨⟨u1.2.2.2,by omega⟩,fun _=>?_⟩
 have q2:=bD1 (c1,m) ⟨k1,km⟩ ⟨u1.2.2.2,by show List.length m≤9;omega⟩
 generalize sL (c1,m)=r at q2 ⊢;obtain ⟨cuts,c2⟩:=r;obtain ⟨k2,u2⟩:=q2;replace k2:okD nB c2:=k2.2;dsimp only at u2 ⊢
 change List Int at cuts
 have hc3:List.length cuts≤3:=u2.1
 refine ⟨u2.2,fun _=>?_⟩
 have q3:=cF (c2,2) ⟨k2,okI (by omega) (by omega)⟩ u2.2
 generalize cA (c2,2)=r at q3 ⊢;obtain ⟨d,c3⟩:=r;obtain ⟨k3,u3⟩:=q3;replace k3:okD nB c3:=k3.2;dsimp only at u3 ⊢
 have hd:0≤d∧d<2:=⟨u3.1,u3.2.1 (by decide)⟩
 refine ⟨by omega,fun _=>⟨u3.2.2.2,fun _=>?_⟩⟩
 have q4:=aK1 (c3,m) ⟨k3,km⟩ u3.2.2.2
 generalize nU (c3,m)=r at q4 ⊢;obtain ⟨b,c4⟩:=r;obtain ⟨k4,u4⟩:=q4;replace k4:okD nB c4:=k4.2;dsimp only at u4 ⊢
 change List bT at b
 have hb4:List.length b≤4:=u4.2.1
 have hbv:∀ p∈b,List.length p.1≤7∧List.length p.2≤7:=fun p hp=>by have:=u4.2.2.1 p hp;omega
 have hc4:=u4.2.2.2
 clear u4 u3 u2 u1
 refine ⟨fun s=>@LE.le Int _ 0 s.1∧@LE.le Int _ s.1 ((List.length cuts:Int)+1)∧((List.length s.2.2.2.2.1:Nat):Int)=s.1∧((List.length s.2.2.2.2.2:Nat):Int)=max 0 (s.1 - 1:Int)∧@LE.le Int _ 0 s.2.2.1,fun s=>(20 - s.1:Int).toNat,⟨Int.le_refl _,by show (0:Int)≤_;omega,rfl,rfl,hc4⟩,fun s hs hI=>?_⟩
 obtain ⟨s,bf,i,h,rd,cp⟩:=s
 obtain ⟨e1,e2,e3,e4,e5⟩:=hI
 change Int at s
 change List Bool at rd
 change List Int at cp
 change (0:Int)≤s at e1
 change s≤(List.length cuts:Int)+1 at e2
 change ((List.length rd:Nat):Int)=s at e3
 change ((List.length cp:Nat):Int)=max 0 (s - 1) at e4
 change 0≤(i:Int) at e5
 have kq:okD nB (bf,i,h):=⟨hs.2.1,hs.2.2.1,hs.2.2.2.1⟩
 try dsimp only
 refine fun _=>⟨fun hlt=>?_,fun hge=>?_⟩
 ·have q5:=aFT ((bf,i,h),3) ⟨kq,okI (by omega) (by omega)⟩ e5
  refine ⟨e5,fun _=>?_⟩
  generalize nG ((bf,i,h),3)=r at q5 ⊢;obtain ⟨b5,c5⟩:=r;obtain ⟨k5,u5⟩:=q5;replace k5:okD nB c5:=k5.2;dsimp only at u5 ⊢
  have q6:=cF (c5,3) ⟨k5,okI (by omega) (by omega)⟩ u5
  generalize cA (c5,3)=r at q6 ⊢;obtain ⟨n6,c6⟩:=r;obtain ⟨k6,u6⟩:=q6;dsimp only at u6 ⊢
  have hn6:0≤n6∧n6<3:=⟨u6.1,u6.2.1 (by decide)⟩
  have hc6:=u6.2.2.2
  clear u6
  simp only[mG,List.length_append,List.length_cons,List.length_nil]
  (repeat' first|intro _|(with_reducible apply And.intro))
  all_goals first|omega|(unfold maxLen;omega)|exact u5|exact hc6|skip
 have hrd:List.length rd=List.length cuts+1:=by omega
 have hcp:List.length cp=List.length cuts:=by omega
 refine ⟨fun t=>@LE.le Int _ 0 t.1∧@LE.le Int _ t.1 ((List.length cuts:Int)+1)∧((List.length t.2.2.2.2:Nat):Int)=t.1∧(∀ v∈t.2.2.2.2,@LE.le Int _ 0 v∧@LE.le Int _ v 400)∧@LE.le Int _ 0 t.2.2.1,fun t=>(20 - t.1:Int).toNat,⟨Int.le_refl _,by show (0:Int)≤_;omega,rfl,(fun v hv=>by cases hv),e5⟩,fun t ht hJ=>?_⟩
 obtain ⟨t,bf,i,h,lm⟩:=t
 obtain ⟨g1,g2,g3,g4,g5⟩:=hJ
 change Int at t
 change List Int at lm
 change (0:Int)≤t at g1
 change t≤(List.length cuts:Int)+1 at g2
 change ((List.length lm:Nat):Int)=t at g3
 change ∀ v∈lm,0≤v∧v≤400 at g4
 change 0≤(i:Int) at g5
 have kq':okD nB (bf,i,h):=⟨ht.2.1,ht.2.2.1,ht.2.2.2.1⟩
 try dsimp only
 refine fun _=>⟨fun hlt=>?_,fun hge=>?_⟩
 ·refine fun _=>⟨⟨⟨by show List.length m≤_;omega,fun o ho=>by have:=hP o ho;omega⟩,by show List.length cuts≤_;omega,by show List.length rd≤_;omega,by show List.length cp≤_;omega,by show List.length lm≤_;omega⟩,fun _ hlit=>⟨⟨g5,by simp⟩,fun _=>?_⟩⟩
  have q7:=kP ((bf,i,h),[0,0,7]) ⟨kq',hlit⟩ ⟨g5,by simp⟩
  generalize hK ((bf,i,h),[0,0,7])=r at q7 ⊢;obtain ⟨n7,c7⟩:=r;obtain ⟨k7,u7⟩:=q7;dsimp only at u7 ⊢
  have hc7:=u7.2
  have hn7:0≤n7∧n7≤7:=by
   have:=u7.1
   simp only[List.mem_cons,List.not_mem_nil,or_false] at this
   omega
  have pb:=bQG (m,cuts,1+d,rd,cp,lm) t (b.length:Int)
  generalize qK (m,cuts,1+d,rd,cp,lm) t (b.length:Int)=pk at pb ⊢
  clear u7
  have g6:∀ v∈lm++[pk+n7],0≤v∧v≤400:=fun v hv=>by
   rcases List.mem_append.1 hv with hv|hv
   ·exact g4 v hv
   ·rw[List.mem_singleton] at hv;omega
  simp only[mG,List.length_append,List.length_cons,List.length_nil]
  (repeat' first|intro _|(with_reducible apply And.intro))
  all_goals first|omega|(unfold maxLen;omega)|exact hc7|exact (g6 _ (by assumption)).1|exact (g6 _ (by assumption)).2|skip
 ·exact ⟨⟨by show List.length m≤6;omega,hP,hc3,by show List.length rd≤4;omega,by show List.length cp≤3;omega,by show List.length lm≤4;omega,hb4,hbv⟩,by show 1≤List.length rd;omega,by show 1≤List.length lm;omega,g4,g5⟩
theorem vW:∃ f:(aT)→(bG × (bO × aT)),(∀ x,okD (.bRW (.slice 5 (.int .u8)) aD) x→(fun x=>0≤x.2.1) x→(fun x r=>aBN 6 3 4 r.1 r.2.1∧1≤r.1.2.2.2.1.length∧1≤r.1.2.2.2.2.2.length∧(∀ v∈r.1.2.2.2.2.2,0≤v∧v≤400)∧0≤r.2.2.2.1:(aT)→(bG × (bO × aT))→Prop) x (f x))∧Con.Holds Tryz.prog { wQ with fn:=f }:=kT (C:=wQ) aV (aI aAO (aI aN4 (aI eN (aI aAQ (aI yY (aI aMS (aI jJ aQ))))))) aQ9 (fun x r=>aBN 6 3 4 r.1 r.2.1∧1≤r.1.2.2.2.1.length∧1≤r.1.2.2.2.2.2.length∧(∀ v∈r.1.2.2.2.2.2,0≤v∧v≤400)∧0≤r.2.2.2.1:(aT)→(bG × (bO × aT))→Prop) aPP
def mY:(aT)→(bG × (bO × aT)):=Classical.choose vW
def qA:Con:=⟨17,(.bRW (.slice 5 (.int .u8)) aD),(.bRW aC (.bRW aG (.bRW (.slice 5 (.int .u8)) aD))),[.box 62 ⟨true,(.bRW (.slice 5 (.int .u8)) aD),[]⟩],[⟨true,aC,[1,2,0,2,2,2]⟩,⟨false,aG,[1]⟩],false,none,
 ((fun x=>0≤x.2.1):(aT)→Prop),
 ((mY):(aT)→(bG × (bO × aT)))⟩
theorem aP6:∀ x,okD (.bRW (.slice 5 (.int .u8)) aD) x→(fun x=>0≤x.2.1) x→(fun x r=>aBN 6 3 4 r.1 r.2.1∧1≤r.1.2.2.2.1.length∧1≤r.1.2.2.2.2.2.length∧(∀ v∈r.1.2.2.2.2.2,0≤v∧v≤400)∧0≤r.2.2.2.1:(aT)→(bG × (bO × aT))→Prop) x (mY x):=(Classical.choose_spec vW).1
theorem aEC:Con.Holds Tryz.prog qA:=(Classical.choose_spec vW).2
theorem aQE (x:aT) (hx:okD (.bRW (.slice 5 (.int .u8)) aD) x) (hp:(fun x=>0≤x.2.1) x):okD (.bRW aC (.bRW aG (.bRW (.slice 5 (.int .u8)) aD))) (mY x)∧(fun x r=>aBN 6 3 4 r.1 r.2.1∧1≤r.1.2.2.2.1.length∧1≤r.1.2.2.2.2.2.length∧(∀ v∈r.1.2.2.2.2.2,0≤v∧v≤400)∧0≤r.2.2.2.1:(aT)→(bG × (bO × aT))→Prop) x (mY x):=⟨aEC.ok x hp hx,aP6 x hx hp⟩
def aFG:Con:=⟨9,(.bRW (.slice 5 (.int .u8)) aD),(.bRW aC (.bRW aG (.bRW (.slice 5 (.int .u8)) aD))),[.box 62 ⟨true,(.bRW (.slice 5 (.int .u8)) aD),[]⟩],[⟨true,aC,[0,0,0,0,0,0]⟩,⟨false,aG,[0]⟩],false,none,
 ((fun x=>0≤x.2.1):(aT)→Prop),
 ((fun _=>aW (.bRW aC (.bRW aG (.bRW (.slice 5 (.int .u8)) aD)))):(aT)→(bG × (bO × aT)))⟩
def aF6:T:=.call 0 (.Z 0) <|.call 1 (.bRY (.bRW (.slice 5 (.int .u8)) aD) tI (aP (.bRW aC (.bRW aG (.bRW (.slice 5 (.int .u8)) aD))) 2 (.Z 1)) (.ci .i64 16)) <|
 .bRX (.cmp .eql .i64) (.bRY tI tI (.p1 tI (.bRW (.slice 5 (.int .u8)) aD) (.Z 2)) (.ci .i64 0)) <|
 .ite (.Z 3) (
  .call 2 (aP (.bRW tI (.bRW (.slice 5 (.int .u8)) aD)) 1 (.Z 2)) <|
  .ret (bB (.bRW aC (.bRW aG (.bRW (.slice 5 (.int .u8)) aD))) [(.bRY aE (.bRW aB (.bRW tI (.bRW bV aO))) (.p1 aE (.bRW (.slice 5 (.int .u8)) aD) (.Z 4)) (aP aC 1 (.p1 aC (.bRW aG (.bRW (.slice 5 (.int .u8)) aD)) (.Z 1)))),(aK (.bRW aC (.bRW aG (.bRW (.slice 5 (.int .u8)) aD))) 1 (.Z 1)),(aP (.bRW aE (.bRW (.slice 5 (.int .u8)) aD)) 1 (.Z 4))])) (
  .bRX (.cmp .eql .i64) (.bRY tI tI (.p1 tI (.bRW (.slice 5 (.int .u8)) aD) (.Z 2)) (.ci .i64 1)) <|
  .ite (.Z 4) (
   .call 1 (.bRY (.bRW (.slice 5 (.int .u8)) aD) tI (aP (.bRW tI (.bRW (.slice 5 (.int .u8)) aD)) 1 (.Z 2)) (.ci .i64 8)) <|
   .bRX (.lit 3 tI 1) (.p1 tI (.bRW (.slice 5 (.int .u8)) aD) (.Z 5)) <|
   .bRX (.bS3 3 tI 8) (.bRY aB aB (aK aC 1 (.p1 aC (.bRW aG (.bRW (.slice 5 (.int .u8)) aD)) (.Z 1))) (.Z 6)) <|
   .ret (bB (.bRW aC (.bRW aG (.bRW (.slice 5 (.int .u8)) aD))) [(bB aC [(.p1 aE (.bRW aB (.bRW tI (.bRW bV aO))) (.p1 aC (.bRW aG (.bRW (.slice 5 (.int .u8)) aD)) (.Z 1))),(.Z 7),(aP aC 2 (.p1 aC (.bRW aG (.bRW (.slice 5 (.int .u8)) aD)) (.Z 1)))]),(aK (.bRW aC (.bRW aG (.bRW (.slice 5 (.int .u8)) aD))) 1 (.Z 1)),(aP (.bRW tI (.bRW (.slice 5 (.int .u8)) aD)) 1 (.Z 5))])) (
   .bRX (.cmp .eql .i64) (.bRY tI tI (.p1 tI (.bRW (.slice 5 (.int .u8)) aD) (.Z 2)) (.ci .i64 2)) <|
   .ite (.Z 5) (
    .bRX (.lit 3 tI 2) (.bRY tI tI (.ci .i64 0) (.ci .i64 3)) <|
    .call 3 (.bRY (.bRW (.slice 5 (.int .u8)) aD) aB (aP (.bRW tI (.bRW (.slice 5 (.int .u8)) aD)) 1 (.Z 2)) (.Z 6)) <|
    .ret (bB (.bRW aC (.bRW aG (.bRW (.slice 5 (.int .u8)) aD))) [(bB aC [(.p1 aE (.bRW aB (.bRW tI (.bRW bV aO))) (.p1 aC (.bRW aG (.bRW (.slice 5 (.int .u8)) aD)) (.Z 1))),(aK aC 1 (.p1 aC (.bRW aG (.bRW (.slice 5 (.int .u8)) aD)) (.Z 1))),(.p1 tI (.bRW (.slice 5 (.int .u8)) aD) (.Z 7)),(aP aC 3 (.p1 aC (.bRW aG (.bRW (.slice 5 (.int .u8)) aD)) (.Z 1)))]),(aK (.bRW aC (.bRW aG (.bRW (.slice 5 (.int .u8)) aD))) 1 (.Z 1)),(aP (.bRW tI (.bRW (.slice 5 (.int .u8)) aD)) 1 (.Z 7))])) (
    .bRX (.cmp .eql .i64) (.bRY tI tI (.p1 tI (.bRW (.slice 5 (.int .u8)) aD) (.Z 2)) (.ci .i64 3)) <|
    .ite (.Z 6) (
     .bRX (.bS0 4 .bool) (aK aC 3 (.p1 aC (.bRW aG (.bRW (.slice 5 (.int .u8)) aD)) (.Z 1))) <|
     .bRX (.ar .sub .i64) (.bRY tI tI (.Z 7) (.ci .i64 1)) <|
     .bRX (.bS2 4 .bool) (bB (.bRW bV aD) [(aK aC 3 (.p1 aC (.bRW aG (.bRW (.slice 5 (.int .u8)) aD)) (.Z 1))),(.ci .i64 0),(.Z 8)]) <|
     .ret (bB (.bRW aC (.bRW aG (.bRW (.slice 5 (.int .u8)) aD))) [(bB aC [(.p1 aE (.bRW aB (.bRW tI (.bRW bV aO))) (.p1 aC (.bRW aG (.bRW (.slice 5 (.int .u8)) aD)) (.Z 1))),(aK aC 1 (.p1 aC (.bRW aG (.bRW (.slice 5 (.int .u8)) aD)) (.Z 1))),(aK aC 2 (.p1 aC (.bRW aG (.bRW (.slice 5 (.int .u8)) aD)) (.Z 1))),(.Z 9),(aP aC 4 (.p1 aC (.bRW aG (.bRW (.slice 5 (.int .u8)) aD)) (.Z 1)))]),(aK (.bRW aC (.bRW aG (.bRW (.slice 5 (.int .u8)) aD))) 1 (.Z 1)),(aP (.bRW tI (.bRW (.slice 5 (.int .u8)) aD)) 1 (.Z 2))])) (
     .bRX (.cmp .eql .i64) (.bRY tI tI (.p1 tI (.bRW (.slice 5 (.int .u8)) aD) (.Z 2)) (.ci .i64 4)) <|
     .ite (.Z 7) (
      .bRX (.bS0 3 tI) (aK aC 4 (.p1 aC (.bRW aG (.bRW (.slice 5 (.int .u8)) aD)) (.Z 1))) <|
      .bRX (.cmp .gtr .i64) (.bRY tI tI (.Z 8) (.ci .i64 0)) <|
      .ite (.Z 9) (
       .bRX (.lit 3 tI 3) (bB (.bRW tI aD) [(.ci .i64 0),(.ci .i64 5),(.ci .i64 6)]) <|
       .call 3 (.bRY (.bRW (.slice 5 (.int .u8)) aD) aB (aP (.bRW tI (.bRW (.slice 5 (.int .u8)) aD)) 1 (.Z 2)) (.Z 10)) <|
       .bRX (.bS1 3 tI) (.bRY aB tI (aK aC 4 (.p1 aC (.bRW aG (.bRW (.slice 5 (.int .u8)) aD)) (.Z 1))) (.ci .i64 0)) <|
       .bRX (.bS4 3 tI) (bB (.bRW aB aD) [(aK aC 4 (.p1 aC (.bRW aG (.bRW (.slice 5 (.int .u8)) aD)) (.Z 1))),(.ci .i64 0),(.p1 tI (.bRW (.slice 5 (.int .u8)) aD) (.Z 11))]) <|
       .ret (bB (.bRW aC (.bRW aG (.bRW (.slice 5 (.int .u8)) aD))) [(bB aC [(.p1 aE (.bRW aB (.bRW tI (.bRW bV aO))) (.p1 aC (.bRW aG (.bRW (.slice 5 (.int .u8)) aD)) (.Z 1))),(aK aC 1 (.p1 aC (.bRW aG (.bRW (.slice 5 (.int .u8)) aD)) (.Z 1))),(aK aC 2 (.p1 aC (.bRW aG (.bRW (.slice 5 (.int .u8)) aD)) (.Z 1))),(aK aC 3 (.p1 aC (.bRW aG (.bRW (.slice 5 (.int .u8)) aD)) (.Z 1))),(.Z 13),(aP aC 5 (.p1 aC (.bRW aG (.bRW (.slice 5 (.int .u8)) aD)) (.Z 1)))]),(aK (.bRW aC (.bRW aG (.bRW (.slice 5 (.int .u8)) aD))) 1 (.Z 1)),(aP (.bRW tI (.bRW (.slice 5 (.int .u8)) aD)) 1 (.Z 11))])) (
       .ret (bB (.bRW aC (.bRW aG (.bRW (.slice 5 (.int .u8)) aD))) [(.p1 aC (.bRW aG (.bRW (.slice 5 (.int .u8)) aD)) (.Z 1)),(aK (.bRW aC (.bRW aG (.bRW (.slice 5 (.int .u8)) aD))) 1 (.Z 1)),(aP (.bRW tI (.bRW (.slice 5 (.int .u8)) aD)) 1 (.Z 2))]))) (
      .bRX (.cmp .eql .i64) (.bRY tI tI (.p1 tI (.bRW (.slice 5 (.int .u8)) aD) (.Z 2)) (.ci .i64 5)) <|
      .ite (.Z 8) (
       .bRX (.bS1 3 tI) (.bRY aB tI (aP aC 5 (.p1 aC (.bRW aG (.bRW (.slice 5 (.int .u8)) aD)) (.Z 1))) (.ci .i64 0)) <|
       .bRX (.bS1 3 tI) (.bRY aB tI (aP aC 5 (.p1 aC (.bRW aG (.bRW (.slice 5 (.int .u8)) aD)) (.Z 1))) (.ci .i64 0)) <|
       .bRX (.ar .sub .i64) (.bRY tI tI (.Z 10) (.ci .i64 1)) <|
       .bRX (.lit 3 tI 4) (bB (.bRW tI (.bRW tI aD)) [(.Z 11),(.ci .i64 100000),(.ci .i64 100001),(.ci .i64 0)]) <|
       .call 3 (.bRY (.bRW (.slice 5 (.int .u8)) aD) aB (aP (.bRW tI (.bRW (.slice 5 (.int .u8)) aD)) 1 (.Z 2)) (.Z 12)) <|
       .bRX (.bS1 3 tI) (.bRY aB tI (aP aC 5 (.p1 aC (.bRW aG (.bRW (.slice 5 (.int .u8)) aD)) (.Z 1))) (.ci .i64 0)) <|
       .bRX (.bS4 3 tI) (bB (.bRW aB aD) [(aP aC 5 (.p1 aC (.bRW aG (.bRW (.slice 5 (.int .u8)) aD)) (.Z 1))),(.ci .i64 0),(.p1 tI (.bRW (.slice 5 (.int .u8)) aD) (.Z 13))]) <|
       .ret (bB (.bRW aC (.bRW aG (.bRW (.slice 5 (.int .u8)) aD))) [(bB aC [(.p1 aE (.bRW aB (.bRW tI (.bRW bV aO))) (.p1 aC (.bRW aG (.bRW (.slice 5 (.int .u8)) aD)) (.Z 1))),(aK aC 1 (.p1 aC (.bRW aG (.bRW (.slice 5 (.int .u8)) aD)) (.Z 1))),(aK aC 2 (.p1 aC (.bRW aG (.bRW (.slice 5 (.int .u8)) aD)) (.Z 1))),(aK aC 3 (.p1 aC (.bRW aG (.bRW (.slice 5 (.int .u8)) aD)) (.Z 1))),(aK aC 4 (.p1 aC (.bRW aG (.bRW (.slice 5 (.int .u8)) aD)) (.Z 1))),(.Z 15)]),(aK (.bRW aC (.bRW aG (.bRW (.slice 5 (.int .u8)) aD))) 1 (.Z 1)),(aP (.bRW tI (.bRW (.slice 5 (.int .u8)) aD)) 1 (.Z 13))])) (
       .bRX (.cmp .eql .i64) (.bRY tI tI (.p1 tI (.bRW (.slice 5 (.int .u8)) aD) (.Z 2)) (.ci .i64 6)) <|
       .ite (.Z 9) (
        .call 4 (.bRY (.bRW (.slice 5 (.int .u8)) aD) aE (aP (.bRW tI (.bRW (.slice 5 (.int .u8)) aD)) 1 (.Z 2)) (.p1 aE (.bRW aB (.bRW tI (.bRW bV aO))) (.p1 aC (.bRW aG (.bRW (.slice 5 (.int .u8)) aD)) (.Z 1)))) <|
        .ret (.bRY aC (.bRW aG (.bRW (.slice 5 (.int .u8)) aD)) (.p1 aC (.bRW aG (.bRW (.slice 5 (.int .u8)) aD)) (.Z 1)) (.Z 10))) (
        .bRX (.cmp .eql .i64) (.bRY tI tI (.p1 tI (.bRW (.slice 5 (.int .u8)) aD) (.Z 2)) (.ci .i64 7)) <|
        .ite (.Z 10) (
         .bRX (.bS0 3 tI) (aP aC 5 (.p1 aC (.bRW aG (.bRW (.slice 5 (.int .u8)) aD)) (.Z 1))) <|
         .bRX (.bS2 3 tI) (bB (.bRW aB aD) [(aP aC 5 (.p1 aC (.bRW aG (.bRW (.slice 5 (.int .u8)) aD)) (.Z 1))),(.ci .i64 1),(.Z 11)]) <|
         .ret (bB (.bRW aC (.bRW aG (.bRW (.slice 5 (.int .u8)) aD))) [(bB aC [(.p1 aE (.bRW aB (.bRW tI (.bRW bV aO))) (.p1 aC (.bRW aG (.bRW (.slice 5 (.int .u8)) aD)) (.Z 1))),(aK aC 1 (.p1 aC (.bRW aG (.bRW (.slice 5 (.int .u8)) aD)) (.Z 1))),(aK aC 2 (.p1 aC (.bRW aG (.bRW (.slice 5 (.int .u8)) aD)) (.Z 1))),(aK aC 3 (.p1 aC (.bRW aG (.bRW (.slice 5 (.int .u8)) aD)) (.Z 1))),(aK aC 4 (.p1 aC (.bRW aG (.bRW (.slice 5 (.int .u8)) aD)) (.Z 1))),(.Z 12)]),(aK (.bRW aC (.bRW aG (.bRW (.slice 5 (.int .u8)) aD))) 1 (.Z 1)),(aP (.bRW tI (.bRW (.slice 5 (.int .u8)) aD)) 1 (.Z 2))])) (
         .ret (bB (.bRW aC (.bRW aG (.bRW (.slice 5 (.int .u8)) aD))) [(.p1 aC (.bRW aG (.bRW (.slice 5 (.int .u8)) aD)) (.Z 1)),(aK (.bRW aC (.bRW aG (.bRW (.slice 5 (.int .u8)) aD))) 1 (.Z 1)),(aP (.bRW tI (.bRW (.slice 5 (.int .u8)) aD)) 1 (.Z 2))])))))))))
theorem bEC (f:(aT)→(bG × (bO × aT))):bI Tryz.prog [qA,bP,aDB,cH,oN] { aFG with fn:=f } false 3000 ⟨[],[(2982,12006,[30],[]),(2979,24007,[],[10]),(2973,112010,[52],[]),(2973,96009,[65],[]),(2967,384011,[],[12])]⟩ = .ok aF6:=by kernel_rfl
theorem bB9 (x:aT) (hx:okD (.bRW (.slice 5 (.int .u8)) aD) x) (hp:(fun x=>0≤x.2.1) x):aF6.wp [qA,bP,aDB,cH,oN] [⟨(.bRW (.slice 5 (.int .u8)) aD),x⟩] [] (fun v=>(fun x r=>aBN 9 4 6 r.1 r.2.1:(aT)→(bG × (bO × aT))→Prop) x (v.as (.bRW aC (.bRW aG (.bRW (.slice 5 (.int .u8)) aD))))):=by
 have q1:=aQE x hx hp
 delta aF6 qA bP aDB cH oN;refine cW ?_
 refine dB ?_
 refine ⟨hp,fun _=>?_⟩
 generalize mY x=r at q1 ⊢;obtain ⟨c,b,c1⟩:=r;obtain ⟨k1,u1⟩:=q1;have kc:=k1.1;replace k1:okD nB c1:=k1.2.2;dsimp only at u1 ⊢
 obtain ⟨m,cuts,d,rd,cp,lm⟩:=c
 obtain ⟨⟨h1,h2,h3,h4,h5,h6,h7,h8⟩,w1,w2,w3,w4⟩:=u1
 change List dI at m
 change List Int at cuts
 change List Bool at rd
 change List Int at cp
 change List Int at lm
 change List bT at b
 dsimp only at *
 have q2:=cF (c1,16) ⟨k1,okI (by omega) (by omega)⟩ w4
 refine ⟨w4,fun _=>?_⟩
 generalize cA (c1,16)=r at q2 ⊢;obtain ⟨n2,c2⟩:=r;obtain ⟨k2,u2⟩:=q2;replace k2:okD nB c2:=k2.2;dsimp only at u2 ⊢
 have hc2:=u2.2.2.2
 have q3:=(bH8 c2 k2 hc2).2
 have q4:=(aOG (c2,m) ⟨k2,kc.1⟩ hc2).2
 generalize yN c2=r3 at q3 ⊢
 generalize lZ (c2,m)=r4 at q4 ⊢
 obtain ⟨m3,c3⟩:=r3
 obtain ⟨b4,c4⟩:=r4
 clear u2
 dsimp only at q3 q4
 have hl0:0≤lm.getD 0 (aW tI)∧lm.getD 0 (aW tI)≤400:=by
  cases lm with
  | nil=>exact absurd w2 (by simp)
  | cons v l=>exact w3 v (by simp)
 (repeat' first|intro _|(with_reducible apply And.intro))
 all_goals first|omega|(unfold maxLen;omega)|exact hc2|(rename_i hh;cases hh;done)|skip
 all_goals try (unfold aBN;refine ⟨?_,?_,?_,?_,?_,?_,?_,?_⟩ <;> (try dsimp only) <;> first|assumption|omega|exact q3.2.1|exact q4.2.1|(simp only[List.length_append,List.length_set,List.length_take,List.length_drop,List.length_cons,List.length_nil];omega))
theorem aEP:∃ f:(aT)→(bG × (bO × aT)),(∀ x,okD (.bRW (.slice 5 (.int .u8)) aD) x→(fun x=>0≤x.2.1) x→(fun x r=>aBN 9 4 6 r.1 r.2.1:(aT)→(bG × (bO × aT))→Prop) x (f x))∧Con.Holds Tryz.prog { aFG with fn:=f }:=kT (C:=aFG) aV (aI aEC (aI eN (aI aQW (aI jJ (aI aC0 aQ))))) bEC (fun x r=>aBN 9 4 6 r.1 r.2.1:(aT)→(bG × (bO × aT))→Prop) bB9
def yQ:(aT)→(bG × (bO × aT)):=Classical.choose aEP
def aA2:Con:=⟨9,(.bRW (.slice 5 (.int .u8)) aD),(.bRW aC (.bRW aG (.bRW (.slice 5 (.int .u8)) aD))),[.box 62 ⟨true,(.bRW (.slice 5 (.int .u8)) aD),[]⟩],[⟨true,aC,[0,0,0,0,0,0]⟩,⟨false,aG,[0]⟩],false,none,
 ((fun x=>0≤x.2.1):(aT)→Prop),
 ((yQ):(aT)→(bG × (bO × aT)))⟩
theorem bAC:∀ x,okD (.bRW (.slice 5 (.int .u8)) aD) x→(fun x=>0≤x.2.1) x→(fun x r=>aBN 9 4 6 r.1 r.2.1:(aT)→(bG × (bO × aT))→Prop) x (yQ x):=(Classical.choose_spec aEP).1
theorem aN7:Con.Holds Tryz.prog aA2:=(Classical.choose_spec aEP).2
theorem bAK (x:aT) (hx:okD (.bRW (.slice 5 (.int .u8)) aD) x) (hp:(fun x=>0≤x.2.1) x):okD (.bRW aC (.bRW aG (.bRW (.slice 5 (.int .u8)) aD))) (yQ x)∧(fun x r=>aBN 9 4 6 r.1 r.2.1:(aT)→(bG × (bO × aT))→Prop) x (yQ x):=⟨aN7.ok x hp hx,bAC x hx hp⟩
def oA:Con:=⟨5,(.slice 5 (.int .u8)),(.bRW aC aG),[.val ⟨false,(.slice 5 (.int .u8)),[]⟩],[⟨true,aC,[0,0,0,0,0,0]⟩,⟨false,aG,[0]⟩],false,none,
 ((fun x=>x.length≤1048576):(List Int)→Prop),
 ((fun _=>aW (.bRW aC aG)):(List Int)→(bG × bO))⟩
def oV:T:=.call 0 (.Z 0) <|.call 1 (.Z 1) <|.ret (.bRY aC aG (.p1 aC (.bRW aG (.bRW (.slice 5 (.int .u8)) aD)) (.Z 2)) (aK (.bRW aC (.bRW aG (.bRW (.slice 5 (.int .u8)) aD))) 1 (.Z 2)))
theorem aGU (f:(List Int)→(bG × bO)):bI Tryz.prog [iD,aA2] { oA with fn:=f } false 3000 ⟨[],[]⟩ = .ok oV:=by kernel_rfl
theorem aGX (x:List Int) (hx:okD (.slice 5 (.int .u8)) x) (hp:(fun x=>x.length≤1048576) x):oV.wp [iD,aA2] [⟨(.slice 5 (.int .u8)),x⟩] [] (fun v=>(fun x r=>aBN 9 4 6 r.1 r.2:(List Int)→(bG × bO)→Prop) x (v.as (.bRW aC aG))):=by
 have hp':List.length x≤1048576:=hp
 delta oV iD aA2;refine cW ?_
 refine dB ?_
 refine ⟨hp',fun hc=>⟨Int.le_refl _,fun _=>?_⟩⟩
 exact (bAK (aUQ x) hc (Int.le_refl _)).2
theorem nZ:∃ f:(List Int)→(bG × bO),(∀ x,okD (.slice 5 (.int .u8)) x→(fun x=>x.length≤1048576) x→(fun x r=>aBN 9 4 6 r.1 r.2:(List Int)→(bG × bO)→Prop) x (f x))∧Con.Holds Tryz.prog { oA with fn:=f }:=kT (C:=oA) aV (aI bHS (aI aN7 aQ)) aGU (fun x r=>aBN 9 4 6 r.1 r.2:(List Int)→(bG × bO)→Prop) aGX
def jB:(List Int)→(bG × bO):=Classical.choose nZ
def kY:Con:=⟨5,(.slice 5 (.int .u8)),(.bRW aC aG),[.val ⟨false,(.slice 5 (.int .u8)),[]⟩],[⟨true,aC,[0,0,0,0,0,0]⟩,⟨false,aG,[0]⟩],false,none,
 ((fun x=>x.length≤1048576):(List Int)→Prop),
 ((jB):(List Int)→(bG × bO))⟩
theorem aI3:∀ x,okD (.slice 5 (.int .u8)) x→(fun x=>x.length≤1048576) x→(fun x r=>aBN 9 4 6 r.1 r.2:(List Int)→(bG × bO)→Prop) x (jB x):=(Classical.choose_spec nZ).1
theorem uZ:Con.Holds Tryz.prog kY:=(Classical.choose_spec nZ).2
theorem aHB (x:List Int) (hx:okD (.slice 5 (.int .u8)) x) (hp:(fun x=>x.length≤1048576) x):okD (.bRW aC aG) (jB x)∧(fun x r=>aBN 9 4 6 r.1 r.2:(List Int)→(bG × bO)→Prop) x (jB x):=⟨uZ.ok x hp hx,aI3 x hx hp⟩
end
end Go.Proofs.YtabamggdmdednaaGreat
