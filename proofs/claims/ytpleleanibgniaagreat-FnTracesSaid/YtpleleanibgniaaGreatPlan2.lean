/- Plan2: lemmas. No conditions. -/
import Derived.Test.YtpleleanibgniaaGreatOps2
namespace Go.Proofs.YtpleleanibgniaaGreat
noncomputable section
set_option maxRecDepth 100000
open Go.ChangeShapes Go.WideShapes Go.ChangeAt Go.RowKit Go.Deep
set_option linter.unusedVariables false
set_option linter.unusedSimpArgs false
def xA (st s m:Int):List cQ:=(if 0<s then [((1:Int),m)] else [])++([((2:Int),m)]++(if s<st - 1 then [((3:Int),m)] else []))
def aF9 (st s m:Int) (redo:Bool):List cQ:=(if s<st - 1 then [((4:Int),m)] else [])++((if redo=true then [((5:Int),m)] else [])++([((6:Int),m)]++(if 0<s then [((7:Int),m)] else [])))
def gS (st s micro:Int):Bool:=decide (1≤st∧st≤4∧0≤s∧s<st∧1≤micro∧micro≤5)
theorem jX (st s micro:Int):gS st s micro=true↔1≤st∧st≤4∧0≤s∧s<st∧1≤micro∧micro≤5:=by unfold gS;rw[decide_eq_true_eq]
def pX (ds st s micro:Int):Int:=if gS st s micro=true then (if ds=2 then min micro (st - 1 - s) else micro) else 0
def aPM (st s:Int):Nat→List cQ
 | 0=>[]
 | k+1=>aPM st s k++xA st s k
def sY (st s micro w:Int) (redo:Bool):Nat→List cQ
 | 0=>aPM st s w.toNat
 | k+1=>sY st s micro w redo k++((if (k:Int)+w<micro then xA st s ((k:Int)+w) else [])++aF9 st s k redo)
def lJ (ds st s micro:Int) (redo:Bool):List cQ:=if (ds=1∨ds=2)∧gS st s micro=true then sY st s micro (pX ds st s micro) redo micro.toNat++[((8:Int),(0:Int))] else []
theorem uS (st s m:Int):(xA st s m).length≤3:=by unfold xA;split <;> split <;> simp
theorem aKV (st s m:Int) (r:Bool):(aF9 st s m r).length≤4:=by unfold aF9;split <;> split <;> split <;> simp
theorem aD6 (st s:Int):(k:Nat)→(aPM st s k).length≤3 * k
 | 0=>Nat.le_refl _
 | k+1=>by
  have h1:=aD6 st s k
  have h2:=uS st s k
  unfold aPM
  rw[List.length_append];omega
theorem aDN (st s micro w:Int) (r:Bool):(k:Nat)→(sY st s micro w r k).length≤3 * w.toNat+7 * k
 | 0=>by have:=aD6 st s w.toNat;unfold sY;omega
 | k+1=>by
  have h1:=aDN st s micro w r k
  have h2:=uS st s ((k:Int)+w)
  have h3:=aKV st s k r
  unfold sY
  rw[List.length_append,List.length_append]
  split
  ·omega
  ·simp only[List.length_nil];omega
theorem bHM {ds st s micro:Int} (h:gS st s micro=false):0=pX ds st s micro:=by unfold pX;rw[if_neg (by rw[h];simp)]
theorem bHB {ds st s micro:Int} (h:gS st s micro=true) (hd:ds=2):min micro (st - 1 - s)=pX ds st s micro:=by unfold pX;rw[if_pos h,if_pos hd]
theorem bGQ {ds st s micro:Int} (h:gS st s micro=true) (hd:¬ ds=2):micro=pX ds st s micro:=by unfold pX;rw[if_pos h,if_neg hd]
theorem aY7 {st s micro:Int} (h:¬ (1≤st∧st≤4∧0≤s∧s<st∧1≤micro∧micro≤5)):gS st s micro=false:=Bool.eq_false_iff.2 fun h'=>h ((jX _ _ _).1 h')
theorem zD {st s micro:Int} (h:1≤st∧st≤4∧0≤s∧s<st∧1≤micro∧micro≤5):gS st s micro=true:=(jX _ _ _).2 h
theorem bGB {ds st s micro:Int} {r:Bool} (h:¬ ((ds=1∨ds=2)∧gS st s micro=true)):[]=lJ ds st s micro r:=by unfold lJ;rw[if_neg h]
theorem bHL {ds st s micro:Int} {r:Bool} (h:(ds=1∨ds=2)∧gS st s micro=true):sY st s micro (pX ds st s micro) r micro.toNat++[((8:Int),(0:Int))]=lJ ds st s micro r:=by unfold lJ;rw[if_pos h]
theorem bBK {ds st s micro:Int} (h:gS st s micro=true):0≤pX ds st s micro∧pX ds st s micro≤5:=by
 rw[jX] at h
 unfold pX
 rw[if_pos (zD h)]
 split <;> omega
theorem bFG {st s micro w:Int} {r:Bool} {k:Nat} (h:((k:Int)+w<micro)):sY st s micro w r k++xA st s ((k:Int)+w)++aF9 st s k r=sY st s micro w r (k+1):=by
 conv=>rhs;unfold sY
 rw[if_pos h,List.append_assoc]
theorem bDU {st s micro w:Int} {r:Bool} {k:Nat} (h:¬ ((k:Int)+w<micro)):sY st s micro w r k++aF9 st s k r=sY st s micro w r (k+1):=by
 conv=>rhs;unfold sY
 rw[if_neg h,List.nil_append]
def pA:Con:=⟨50,(.bJ2 tI (.bJ2 tI aC)),tI,[.val ⟨false,tI,[]⟩,.val ⟨false,tI,[]⟩,.val ⟨false,tI,[]⟩,.val ⟨false,tI,[]⟩],[⟨false,tI,[0]⟩],false,none,
 ((fun _=>True):(Int × (Int × cQ))→Prop),
 ((fun x=>pX x.1 x.2.1 x.2.2.1 x.2.2.2):(Int × (Int × cQ))→(Int))⟩
def aAS:T:=.call 0 (bJ (.bJ2 tI aC) [(aJ (.bJ2 tI (.bJ2 tI aC)) 1 (.Z 0)),(.ci .i64 1),(.ci .i64 4)]) <|
 .bJ3 .not (.Z 1) <|
 .ite (.Z 2) (
  .ret (.ci .i64 0)) (
  .bJ3 (.ar .sub .i64) (.bJ4 tI tI (aJ (.bJ2 tI (.bJ2 tI aC)) 1 (.Z 0)) (.ci .i64 1)) <|
  .call 0 (bJ (.bJ2 tI aC) [(aJ (.bJ2 tI (.bJ2 tI aC)) 2 (.Z 0)),(.ci .i64 0),(.Z 3)]) <|
  .bJ3 .not (.Z 4) <|
  .ite (.Z 5) (
   .ret (.ci .i64 0)) (
   .call 0 (bJ (.bJ2 tI aC) [(aR (.bJ2 tI (.bJ2 tI aC)) 3 (.Z 0)),(.ci .i64 1),(.ci .i64 5)]) <|
   .bJ3 .not (.Z 6) <|
   .ite (.Z 7) (
    .ret (.ci .i64 0)) (
    .bJ3 (.cmp .eql .i64) (.bJ4 tI tI (.p1 tI (.bJ2 tI aC) (.Z 0)) (.ci .i64 2)) <|
    .ite (.Z 8) (
     .bJ3 (.ar .sub .i64) (.bJ4 tI tI (aJ (.bJ2 tI (.bJ2 tI aC)) 1 (.Z 0)) (.ci .i64 1)) <|
     .bJ3 (.ar .sub .i64) (.bJ4 tI tI (.Z 9) (aJ (.bJ2 tI (.bJ2 tI aC)) 2 (.Z 0))) <|
     .bJ3 (.mn .i64) (.bJ4 tI tI (aR (.bJ2 tI (.bJ2 tI aC)) 3 (.Z 0)) (.Z 10)) <|
     .ret (.Z 11)) (
     .ret (aR (.bJ2 tI (.bJ2 tI aC)) 3 (.Z 0))))))
theorem aTE:bV Tryz.prog [bY] pA false 3000 ⟨[],[]⟩ = .ok aAS:=by kernel_rfl
theorem aSC (x:Int × (Int × cQ)) (hx:okD (.bJ2 tI (.bJ2 tI aC)) x) (hp:(fun _=>True) x):aAS.wp [bY] [⟨(.bJ2 tI (.bJ2 tI aC)),x⟩] [] (fun v=>v.as tI=(fun x=>pX x.1 x.2.1 x.2.2.1 x.2.2.2) x):=by
 delta aAS bY;refine eE ?_;try with_reducible exact True.intro
 (repeat' first|intro _|(with_reducible apply And.intro))
 all_goals (try simp only[zO] at *)
 all_goals first|omega|exact bHM (aY7 (by omega))|exact bHB (zD (by omega)) (by omega)|exact bGQ (zD (by omega)) (by omega)
theorem aUV:Con.Holds Tryz.prog pA:=aV aX (aG iJ aT) aTE aSC
def nG:Con:=⟨51,(.bJ2 aY (.bJ2 tI aC)),aY,[.val ⟨false,aY,[2]⟩,.val ⟨false,tI,[]⟩,.val ⟨false,tI,[]⟩,.val ⟨false,tI,[]⟩],[⟨false,aY,[2]⟩],false,none,
 ((fun x=>List.length x.1≤1000000∧1≤x.2.1∧x.2.1≤4):((List cQ) × (Int × cQ))→Prop),
 ((fun x=>x.1++xA x.2.1 x.2.2.1 x.2.2.2):((List cQ) × (Int × cQ))→(List cQ))⟩
def xI:T :=
 .bJ3 (.cmp .gtr .i64) (.bJ4 tI tI (aJ (.bJ2 aY (.bJ2 tI aC)) 2 (.Z 0)) (.ci .i64 0)) <|
 .ite (.Z 1) (
  .bJ3 (.lit 52 aC 1) (.bJ4 tI tI (.ci .i64 1) (aR (.bJ2 aY (.bJ2 tI aC)) 3 (.Z 0))) <|
  .bJ3 (.bJ9 52 aC 16) (.bJ4 aY aY (.p1 aY (.bJ2 tI aC) (.Z 0)) (.Z 2)) <|
  .bJ3 (.lit 52 aC 1) (.bJ4 tI tI (.ci .i64 2) (aR (.bJ2 aY (.bJ2 tI aC)) 3 (.Z 0))) <|
  .bJ3 (.bJ9 52 aC 16) (.bJ4 aY aY (.Z 3) (.Z 4)) <|
  .bJ3 (.ar .sub .i64) (.bJ4 tI tI (aJ (.bJ2 aY (.bJ2 tI aC)) 1 (.Z 0)) (.ci .i64 1)) <|
  .bJ3 (.cmp .lss .i64) (.bJ4 tI tI (aJ (.bJ2 aY (.bJ2 tI aC)) 2 (.Z 0)) (.Z 6)) <|
  .ite (.Z 7) (
   .bJ3 (.lit 52 aC 1) (.bJ4 tI tI (.ci .i64 3) (aR (.bJ2 aY (.bJ2 tI aC)) 3 (.Z 0))) <|
   .bJ3 (.bJ9 52 aC 16) (.bJ4 aY aY (.Z 5) (.Z 8)) <|
   .ret (.Z 9)) (
   .ret (.Z 5))) (
  .bJ3 (.lit 52 aC 1) (.bJ4 tI tI (.ci .i64 2) (aR (.bJ2 aY (.bJ2 tI aC)) 3 (.Z 0))) <|
  .bJ3 (.bJ9 52 aC 16) (.bJ4 aY aY (.p1 aY (.bJ2 tI aC) (.Z 0)) (.Z 2)) <|
  .bJ3 (.ar .sub .i64) (.bJ4 tI tI (aJ (.bJ2 aY (.bJ2 tI aC)) 1 (.Z 0)) (.ci .i64 1)) <|
  .bJ3 (.cmp .lss .i64) (.bJ4 tI tI (aJ (.bJ2 aY (.bJ2 tI aC)) 2 (.Z 0)) (.Z 4)) <|
  .ite (.Z 5) (
   .bJ3 (.lit 52 aC 1) (.bJ4 tI tI (.ci .i64 3) (aR (.bJ2 aY (.bJ2 tI aC)) 3 (.Z 0))) <|
   .bJ3 (.bJ9 52 aC 16) (.bJ4 aY aY (.Z 3) (.Z 6)) <|
   .ret (.Z 7)) (
   .ret (.Z 3)))
theorem aR1:bV Tryz.prog [] nG false 3000 ⟨[],[]⟩ = .ok xI:=by kernel_rfl
theorem aP3 (x:(List cQ) × (Int × cQ)) (hx:okD (.bJ2 aY (.bJ2 tI aC)) x) (hp:(fun x=>List.length x.1≤1000000∧1≤x.2.1∧x.2.1≤4) x):xI.wp [] [⟨(.bJ2 aY (.bJ2 tI aC)),x⟩] [] (fun v=>v.as aY=(fun x=>x.1++xA x.2.1 x.2.2.1 x.2.2.2) x):=by
 have hp:List.length x.1≤1000000∧1≤x.2.1∧x.2.1≤4:=hp
 delta xI;refine eE ?_;try with_reducible exact True.intro
 (repeat' first|intro _|(with_reducible apply And.intro))
 all_goals (try simp only[zO] at *)
 all_goals first|omega|(unfold maxLen;omega)|skip
 all_goals (unfold xA;(repeat' split) <;> first|omega|(simp;done))
theorem aP4:Con.Holds Tryz.prog nG:=aV aX aT aR1 aP3
def pV:Con:=⟨52,(.bJ2 aY (.bJ2 tI (.bJ2 tI (.bJ2 tI .bool)))),aY,[.val ⟨false,aY,[2]⟩,.val ⟨false,tI,[]⟩,.val ⟨false,tI,[]⟩,.val ⟨false,tI,[]⟩,.val ⟨false,.bool,[]⟩],[⟨false,aY,[2]⟩],false,none,
 ((fun x=>List.length x.1≤1000000∧1≤x.2.1∧x.2.1≤4):((List cQ) × (Int × (Int × (Int × Bool))))→Prop),
 ((fun x=>x.1++aF9 x.2.1 x.2.2.1 x.2.2.2.1 x.2.2.2.2):((List cQ) × (Int × (Int × (Int × Bool))))→(List cQ))⟩
def aBK:T :=
 .bJ3 (.ar .sub .i64) (.bJ4 tI tI (aJ (.bJ2 aY (.bJ2 tI (.bJ2 tI (.bJ2 tI .bool)))) 1 (.Z 0)) (.ci .i64 1)) <|
 .bJ3 (.cmp .lss .i64) (.bJ4 tI tI (aJ (.bJ2 aY (.bJ2 tI (.bJ2 tI (.bJ2 tI .bool)))) 2 (.Z 0)) (.Z 1)) <|
 .ite (.Z 2) (
  .bJ3 (.lit 52 aC 1) (.bJ4 tI tI (.ci .i64 4) (aJ (.bJ2 aY (.bJ2 tI (.bJ2 tI (.bJ2 tI .bool)))) 3 (.Z 0))) <|
  .bJ3 (.bJ9 52 aC 16) (.bJ4 aY aY (.p1 aY (.bJ2 tI (.bJ2 tI (.bJ2 tI .bool))) (.Z 0)) (.Z 3)) <|
  .ite (aR (.bJ2 aY (.bJ2 tI (.bJ2 tI (.bJ2 tI .bool)))) 4 (.Z 0)) (
   .bJ3 (.lit 52 aC 1) (.bJ4 tI tI (.ci .i64 5) (aJ (.bJ2 aY (.bJ2 tI (.bJ2 tI (.bJ2 tI .bool)))) 3 (.Z 0))) <|
   .bJ3 (.bJ9 52 aC 16) (.bJ4 aY aY (.Z 4) (.Z 5)) <|
   .bJ3 (.lit 52 aC 1) (.bJ4 tI tI (.ci .i64 6) (aJ (.bJ2 aY (.bJ2 tI (.bJ2 tI (.bJ2 tI .bool)))) 3 (.Z 0))) <|
   .bJ3 (.bJ9 52 aC 16) (.bJ4 aY aY (.Z 6) (.Z 7)) <|
   .bJ3 (.cmp .gtr .i64) (.bJ4 tI tI (aJ (.bJ2 aY (.bJ2 tI (.bJ2 tI (.bJ2 tI .bool)))) 2 (.Z 0)) (.ci .i64 0)) <|
   .ite (.Z 9) (
    .bJ3 (.lit 52 aC 1) (.bJ4 tI tI (.ci .i64 7) (aJ (.bJ2 aY (.bJ2 tI (.bJ2 tI (.bJ2 tI .bool)))) 3 (.Z 0))) <|
    .bJ3 (.bJ9 52 aC 16) (.bJ4 aY aY (.Z 8) (.Z 10)) <|
    .ret (.Z 11)) (
    .ret (.Z 8))) (
   .bJ3 (.lit 52 aC 1) (.bJ4 tI tI (.ci .i64 6) (aJ (.bJ2 aY (.bJ2 tI (.bJ2 tI (.bJ2 tI .bool)))) 3 (.Z 0))) <|
   .bJ3 (.bJ9 52 aC 16) (.bJ4 aY aY (.Z 4) (.Z 5)) <|
   .bJ3 (.cmp .gtr .i64) (.bJ4 tI tI (aJ (.bJ2 aY (.bJ2 tI (.bJ2 tI (.bJ2 tI .bool)))) 2 (.Z 0)) (.ci .i64 0)) <|
   .ite (.Z 7) (
    .bJ3 (.lit 52 aC 1) (.bJ4 tI tI (.ci .i64 7) (aJ (.bJ2 aY (.bJ2 tI (.bJ2 tI (.bJ2 tI .bool)))) 3 (.Z 0))) <|
    .bJ3 (.bJ9 52 aC 16) (.bJ4 aY aY (.Z 6) (.Z 8)) <|
    .ret (.Z 9)) (
    .ret (.Z 6)))) (
  .ite (aR (.bJ2 aY (.bJ2 tI (.bJ2 tI (.bJ2 tI .bool)))) 4 (.Z 0)) (
   .bJ3 (.lit 52 aC 1) (.bJ4 tI tI (.ci .i64 5) (aJ (.bJ2 aY (.bJ2 tI (.bJ2 tI (.bJ2 tI .bool)))) 3 (.Z 0))) <|
   .bJ3 (.bJ9 52 aC 16) (.bJ4 aY aY (.p1 aY (.bJ2 tI (.bJ2 tI (.bJ2 tI .bool))) (.Z 0)) (.Z 3)) <|
   .bJ3 (.lit 52 aC 1) (.bJ4 tI tI (.ci .i64 6) (aJ (.bJ2 aY (.bJ2 tI (.bJ2 tI (.bJ2 tI .bool)))) 3 (.Z 0))) <|
   .bJ3 (.bJ9 52 aC 16) (.bJ4 aY aY (.Z 4) (.Z 5)) <|
   .bJ3 (.cmp .gtr .i64) (.bJ4 tI tI (aJ (.bJ2 aY (.bJ2 tI (.bJ2 tI (.bJ2 tI .bool)))) 2 (.Z 0)) (.ci .i64 0)) <|
   .ite (.Z 7) (
    .bJ3 (.lit 52 aC 1) (.bJ4 tI tI (.ci .i64 7) (aJ (.bJ2 aY (.bJ2 tI (.bJ2 tI (.bJ2 tI .bool)))) 3 (.Z 0))) <|
    .bJ3 (.bJ9 52 aC 16) (.bJ4 aY aY (.Z 6) (.Z 8)) <|
    .ret (.Z 9)) (
    .ret (.Z 6))) (
   .bJ3 (.lit 52 aC 1) (.bJ4 tI tI (.ci .i64 6) (aJ (.bJ2 aY (.bJ2 tI (.bJ2 tI (.bJ2 tI .bool)))) 3 (.Z 0))) <|
   .bJ3 (.bJ9 52 aC 16) (.bJ4 aY aY (.p1 aY (.bJ2 tI (.bJ2 tI (.bJ2 tI .bool))) (.Z 0)) (.Z 3)) <|
   .bJ3 (.cmp .gtr .i64) (.bJ4 tI tI (aJ (.bJ2 aY (.bJ2 tI (.bJ2 tI (.bJ2 tI .bool)))) 2 (.Z 0)) (.ci .i64 0)) <|
   .ite (.Z 5) (
    .bJ3 (.lit 52 aC 1) (.bJ4 tI tI (.ci .i64 7) (aJ (.bJ2 aY (.bJ2 tI (.bJ2 tI (.bJ2 tI .bool)))) 3 (.Z 0))) <|
    .bJ3 (.bJ9 52 aC 16) (.bJ4 aY aY (.Z 4) (.Z 6)) <|
    .ret (.Z 7)) (
    .ret (.Z 4))))
theorem aST:bV Tryz.prog [] pV false 3000 ⟨[],[]⟩ = .ok aBK:=by kernel_rfl
theorem aUN (x:(List cQ) × (Int × (Int × (Int × Bool)))) (hx:okD (.bJ2 aY (.bJ2 tI (.bJ2 tI (.bJ2 tI .bool)))) x) (hp:(fun x=>List.length x.1≤1000000∧1≤x.2.1∧x.2.1≤4) x):aBK.wp [] [⟨(.bJ2 aY (.bJ2 tI (.bJ2 tI (.bJ2 tI .bool)))),x⟩] [] (fun v=>v.as aY=(fun x=>x.1++aF9 x.2.1 x.2.2.1 x.2.2.2.1 x.2.2.2.2) x):=by
 have hp:List.length x.1≤1000000∧1≤x.2.1∧x.2.1≤4:=hp
 delta aBK;refine eE ?_;try with_reducible exact True.intro
 (repeat' first|intro _|(with_reducible apply And.intro))
 all_goals (try simp only[zO] at *)
 all_goals first|omega|(unfold maxLen;omega)|skip
 all_goals (unfold aF9;(repeat' split) <;> first|omega|contradiction|(simp;done)|(simp_all;done))
theorem aUP:Con.Holds Tryz.prog pV:=aV aX aT aST aUN
def wY:Con:=⟨27,(.bJ2 tI (.bJ2 tI (.bJ2 tI (.bJ2 tI .bool)))),aY,[.val ⟨false,tI,[]⟩,.val ⟨false,tI,[]⟩,.val ⟨false,tI,[]⟩,.val ⟨false,tI,[]⟩,.val ⟨false,.bool,[]⟩],[⟨false,aY,[2]⟩],false,none,
 ((fun _=>True):(Int × (Int × (Int × (Int × Bool))))→Prop),
 ((fun x=>lJ x.1 x.2.1 x.2.2.1 x.2.2.2.1 x.2.2.2.2):(Int × (Int × (Int × (Int × Bool))))→(List cQ))⟩
def aHG:T:=.call 0 (bJ (.bJ2 tI aC) [(.p1 tI (.bJ2 tI (.bJ2 tI (.bJ2 tI .bool))) (.Z 0)),(.ci .i64 1),(.ci .i64 2)]) <|
 .bJ3 .not (.Z 1) <|
 .ite (.Z 2) (
  .ret (.nl 52 aC)) (
  .call 0 (bJ (.bJ2 tI aC) [(aJ (.bJ2 tI (.bJ2 tI (.bJ2 tI (.bJ2 tI .bool)))) 1 (.Z 0)),(.ci .i64 1),(.ci .i64 4)]) <|
  .bJ3 .not (.Z 3) <|
  .ite (.Z 4) (
   .ret (.nl 52 aC)) (
   .bJ3 (.ar .sub .i64) (.bJ4 tI tI (aJ (.bJ2 tI (.bJ2 tI (.bJ2 tI (.bJ2 tI .bool)))) 1 (.Z 0)) (.ci .i64 1)) <|
   .call 0 (bJ (.bJ2 tI aC) [(aJ (.bJ2 tI (.bJ2 tI (.bJ2 tI (.bJ2 tI .bool)))) 2 (.Z 0)),(.ci .i64 0),(.Z 5)]) <|
   .bJ3 .not (.Z 6) <|
   .ite (.Z 7) (
    .ret (.nl 52 aC)) (
    .call 0 (bJ (.bJ2 tI aC) [(aJ (.bJ2 tI (.bJ2 tI (.bJ2 tI (.bJ2 tI .bool)))) 3 (.Z 0)),(.ci .i64 1),(.ci .i64 5)]) <|
    .bJ3 .not (.Z 8) <|
    .ite (.Z 9) (
     .ret (.nl 52 aC)) (
     .call 1 (bJ (.bJ2 tI (.bJ2 tI aC)) [(.p1 tI (.bJ2 tI (.bJ2 tI (.bJ2 tI .bool))) (.Z 0)),(aJ (.bJ2 tI (.bJ2 tI (.bJ2 tI (.bJ2 tI .bool)))) 1 (.Z 0)),(aJ (.bJ2 tI (.bJ2 tI (.bJ2 tI (.bJ2 tI .bool)))) 2 (.Z 0)),(aJ (.bJ2 tI (.bJ2 tI (.bJ2 tI (.bJ2 tI .bool)))) 3 (.Z 0))]) <|
     .loop (.bJ2 tI aY) (.bJ4 tI aY (.ci .i64 0) (.nl 52 aC)) <|
      .bJ3 (.cmp .lss .i64) (.bJ4 tI tI (.p1 tI aY (.Z 11)) (.Z 10)) <|
      .ite (.Z 12) (
       .call 2 (bJ (.bJ2 aY (.bJ2 tI aC)) [(aR (.bJ2 tI aY) 1 (.Z 11)),(aJ (.bJ2 tI (.bJ2 tI (.bJ2 tI (.bJ2 tI .bool)))) 1 (.Z 0)),(aJ (.bJ2 tI (.bJ2 tI (.bJ2 tI (.bJ2 tI .bool)))) 2 (.Z 0)),(.p1 tI aY (.Z 11))]) <|
       .bJ3 (.ar .add .i64) (.bJ4 tI tI (.p1 tI aY (.Z 11)) (.ci .i64 1)) <|
       .bJ5 0 (.bJ4 tI aY (.Z 14) (.Z 13))) (
       .loop (.bJ2 tI aY) (.bJ4 tI aY (.ci .i64 0) (aR (.bJ2 tI aY) 1 (.Z 11))) <|
        .bJ3 (.cmp .lss .i64) (.bJ4 tI tI (.p1 tI aY (.Z 13)) (aJ (.bJ2 tI (.bJ2 tI (.bJ2 tI (.bJ2 tI .bool)))) 3 (.Z 0))) <|
        .ite (.Z 14) (
         .bJ3 (.ar .add .i64) (.bJ4 tI tI (.Z 10) (.p1 tI aY (.Z 13))) <|
         .bJ3 (.cmp .lss .i64) (.bJ4 tI tI (.Z 15) (aJ (.bJ2 tI (.bJ2 tI (.bJ2 tI (.bJ2 tI .bool)))) 3 (.Z 0))) <|
         .ite (.Z 16) (
          .bJ3 (.ar .add .i64) (.bJ4 tI tI (.Z 10) (.p1 tI aY (.Z 13))) <|
          .call 2 (bJ (.bJ2 aY (.bJ2 tI aC)) [(aR (.bJ2 tI aY) 1 (.Z 13)),(aJ (.bJ2 tI (.bJ2 tI (.bJ2 tI (.bJ2 tI .bool)))) 1 (.Z 0)),(aJ (.bJ2 tI (.bJ2 tI (.bJ2 tI (.bJ2 tI .bool)))) 2 (.Z 0)),(.Z 17)]) <|
          .call 3 (bJ (.bJ2 aY (.bJ2 tI (.bJ2 tI (.bJ2 tI .bool)))) [(.Z 18),(aJ (.bJ2 tI (.bJ2 tI (.bJ2 tI (.bJ2 tI .bool)))) 1 (.Z 0)),(aJ (.bJ2 tI (.bJ2 tI (.bJ2 tI (.bJ2 tI .bool)))) 2 (.Z 0)),(.p1 tI aY (.Z 13)),(aR (.bJ2 tI (.bJ2 tI (.bJ2 tI (.bJ2 tI .bool)))) 4 (.Z 0))]) <|
          .bJ3 (.ar .add .i64) (.bJ4 tI tI (.p1 tI aY (.Z 13)) (.ci .i64 1)) <|
          .bJ5 0 (.bJ4 tI aY (.Z 20) (.Z 19))) (
          .call 3 (bJ (.bJ2 aY (.bJ2 tI (.bJ2 tI (.bJ2 tI .bool)))) [(aR (.bJ2 tI aY) 1 (.Z 13)),(aJ (.bJ2 tI (.bJ2 tI (.bJ2 tI (.bJ2 tI .bool)))) 1 (.Z 0)),(aJ (.bJ2 tI (.bJ2 tI (.bJ2 tI (.bJ2 tI .bool)))) 2 (.Z 0)),(.p1 tI aY (.Z 13)),(aR (.bJ2 tI (.bJ2 tI (.bJ2 tI (.bJ2 tI .bool)))) 4 (.Z 0))]) <|
          .bJ3 (.ar .add .i64) (.bJ4 tI tI (.p1 tI aY (.Z 13)) (.ci .i64 1)) <|
          .bJ5 0 (.bJ4 tI aY (.Z 18) (.Z 17)))) (
         .bJ3 (.lit 52 aC 1) (.bJ4 tI tI (.ci .i64 8) (.ci .i64 0)) <|
         .bJ3 (.bJ9 52 aC 16) (.bJ4 aY aY (aR (.bJ2 tI aY) 1 (.Z 13)) (.Z 15)) <|
         .ret (.Z 16)))))))
theorem bBN:bV Tryz.prog [bY,pA,nG,pV] wY false 3000 ⟨[(2984,16011,mW 41 37++mW 35 15++[.dr 0,.tm 13 0,.on 11,.sl 1]),(2974,32013,mW 44 42++[.dr 13,.tm 14 0,.sl 1])],[]⟩ = .ok aHG:=by kernel_rfl
theorem bAZ (x:Int × (Int × (Int × (Int × Bool)))) (hx:okD (.bJ2 tI (.bJ2 tI (.bJ2 tI (.bJ2 tI .bool)))) x) (hp:(fun _=>True) x):aHG.wp [bY,pA,nG,pV] [⟨(.bJ2 tI (.bJ2 tI (.bJ2 tI (.bJ2 tI .bool)))),x⟩] [] (fun v=>v.as aY=(fun x=>lJ x.1 x.2.1 x.2.2.1 x.2.2.2.1 x.2.2.2.2) x):=by
  obtain ⟨ds,st,s,micro,r⟩:=x
  delta aHG bY pA nG pV;refine eE ?_;try with_reducible exact True.intro
  (repeat' first|intro _|(with_reducible apply And.intro))
  all_goals (try simp only[zO] at *)
  all_goals first|omega|exact bGB (fun h=>by rw[jX] at h;omega)|skip
  all_goals have hP:gS st s micro=true:=by first|assumption|exact zD (by omega)
  all_goals have hd:ds=1∨ds=2:=by omega
  all_goals have hb:=(jX _ _ _).1 hP
  all_goals have hw:=bBK (ds:=ds) hP
  all_goals have hfin:=bHL (r:=r) ⟨hd,hP⟩
  all_goals generalize pX ds st s micro=W at *
  all_goals refine ⟨fun q=>∃ k:Nat,(k:Int)≤W∧q=((k:Int),aPM st s k),fun q=>W.toNat - (q.1:Int).toNat,⟨0,by omega,rfl⟩,fun q _ hI=>?_⟩
  all_goals obtain ⟨k,hk,rfl⟩:=hI
  all_goals dsimp only
  all_goals have l1:=aD6 st s k
  all_goals have l2:=uS st s k
  all_goals refine ⟨fun hlt=>?_,fun hge=>?_⟩
  all_goals first
    | (have h0:(k:Int)<W:=hlt
       (repeat' first|intro _|(with_reducible apply And.intro))
       all_goals first|omega|(unfold maxLen;omega)|exact ⟨k+1,by omega,rfl⟩)
    | skip
  all_goals have hkW:k=W.toNat:=by omega
  all_goals refine ⟨fun q=>∃ j:Nat,(j:Int)≤micro∧q=((j:Int),sY st s micro W r j),fun q=>micro.toNat - (q.1:Int).toNat,⟨0,by omega,by rw[hkW];rfl⟩,fun q _ hI=>?_⟩
  all_goals obtain ⟨j,hj,rfl⟩:=hI
  all_goals dsimp only
  all_goals try rw[show W+(j:Int)=(j:Int)+W from Int.add_comm _ _]
  all_goals have l3:=aDN st s micro W r j
  all_goals have l4:=uS st s ((j:Int)+W)
  all_goals have l5:=aKV st s j r
  all_goals (repeat' first|intro _|(with_reducible apply And.intro))
  all_goals first
    | omega
    | (unfold maxLen;omega)
    | exact ⟨j+1,by omega,by rw[← bFG (by omega)];rfl⟩
    | exact ⟨j+1,by omega,by rw[← bDU (by omega)];rfl⟩
    | (have hj2:j=micro.toNat:=by omega
       rw[hj2]
       exact hfin)
theorem bA8:Con.Holds Tryz.prog wY:=aV aX (aG iJ (aG aUV (aG aP4 (aG aUP aT)))) bBN bAZ
end
end Go.Proofs.YtpleleanibgniaaGreat
