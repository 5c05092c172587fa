/- Plan2: lemmas. No conditions. -/
import Derived.Test.YtdeobhdbmehpgaaGreatOps2
namespace Go.Proofs.YtdeobhdbmehpgaaGreat
noncomputable section
set_option maxRecDepth 100000
open Go.ChangeShapes Go.WideShapes Go.ChangeAt Go.RowKit Go.Deep
set_option linter.unusedVariables false
set_option linter.unusedSimpArgs false
def zW (st s m:Int):List kC:=(if 0<s then [((1:Int),m)] else [])++([((2:Int),m)]++(if s<st - 1 then [((3:Int),m)] else []))
def aHX (st s m:Int) (redo:Bool):List kC:=(if s<st - 1 then [((4:Int),m)] else [])++((if redo=true then [((5:Int),m)] else [])++([((6:Int),m)]++(if 0<s then [((7:Int),m)] else [])))
def jD (st s micro:Int):Bool:=decide (1≤st∧st≤4∧0≤s∧s<st∧1≤micro∧micro≤5)
theorem lG (st s micro:Int):jD st s micro=true↔1≤st∧st≤4∧0≤s∧s<st∧1≤micro∧micro≤5:=by unfold jD;rw[decide_eq_true_eq]
def sV (ds st s micro:Int):Int:=if jD st s micro=true then (if ds=2 then min micro (st - 1 - s) else micro) else 0
def aT6 (st s:Int):Nat→List kC
 | 0=>[]
 | k+1=>aT6 st s k++zW st s k
def vW (st s micro w:Int) (redo:Bool):Nat→List kC
 | 0=>aT6 st s w.toNat
 | k+1=>vW st s micro w redo k++((if (k:Int)+w<micro then zW st s ((k:Int)+w) else [])++aHX st s k redo)
def aCK (ds st s micro:Int) (redo:Bool):List kC:=if (ds=1∨ds=2)∧jD st s micro=true then vW st s micro (sV ds st s micro) redo micro.toNat++[((8:Int),(0:Int))] else []
theorem xN (st s m:Int):(zW st s m).length≤3:=by unfold zW;split <;> split <;> simp
theorem aO8 (st s m:Int) (r:Bool):(aHX st s m r).length≤4:=by unfold aHX;split <;> split <;> split <;> simp
theorem aGA (st s:Int):(k:Nat)→(aT6 st s k).length≤3 * k
 | 0=>Nat.le_refl _
 | k+1=>by
  have h1:=aGA st s k
  have h2:=xN st s k
  unfold aT6
  rw[List.length_append];omega
theorem aGZ (st s micro w:Int) (r:Bool):(k:Nat)→(vW st s micro w r k).length≤3 * w.toNat+7 * k
 | 0=>by have:=aGA st s w.toNat;unfold vW;omega
 | k+1=>by
  have h1:=aGZ st s micro w r k
  have h2:=xN st s ((k:Int)+w)
  have h3:=aO8 st s k r
  unfold vW
  rw[List.length_append,List.length_append]
  split
  ·omega
  ·simp only[List.length_nil];omega
theorem bMQ {ds st s micro:Int} (h:jD st s micro=false):0=sV ds st s micro:=by unfold sV;rw[if_neg (by rw[h];simp)]
theorem bME {ds st s micro:Int} (h:jD st s micro=true) (hd:ds=2):min micro (st - 1 - s)=sV ds st s micro:=by unfold sV;rw[if_pos h,if_pos hd]
theorem bM5 {ds st s micro:Int} (h:jD st s micro=true) (hd:¬ ds=2):micro=sV ds st s micro:=by unfold sV;rw[if_pos h,if_neg hd]
theorem bEQ {st s micro:Int} (h:¬ (1≤st∧st≤4∧0≤s∧s<st∧1≤micro∧micro≤5)):jD st s micro=false:=Bool.eq_false_iff.2 fun h'=>h ((lG _ _ _).1 h')
theorem aBX {st s micro:Int} (h:1≤st∧st≤4∧0≤s∧s<st∧1≤micro∧micro≤5):jD st s micro=true:=(lG _ _ _).2 h
theorem bMJ {ds st s micro:Int} {r:Bool} (h:¬ ((ds=1∨ds=2)∧jD st s micro=true)):[]=aCK ds st s micro r:=by unfold aCK;rw[if_neg h]
theorem bLV {ds st s micro:Int} {r:Bool} (h:(ds=1∨ds=2)∧jD st s micro=true):vW st s micro (sV ds st s micro) r micro.toNat++[((8:Int),(0:Int))]=aCK ds st s micro r:=by unfold aCK;rw[if_pos h]
theorem bGD {ds st s micro:Int} (h:jD st s micro=true):0≤sV ds st s micro∧sV ds st s micro≤5:=by
 rw[lG] at h
 unfold sV
 rw[if_pos (aBX h)]
 split <;> omega
theorem bJE {st s micro w:Int} {r:Bool} {k:Nat} (h:((k:Int)+w<micro)):vW st s micro w r k++zW st s ((k:Int)+w)++aHX st s k r=vW st s micro w r (k+1):=by
 conv=>rhs;unfold vW
 rw[if_pos h,List.append_assoc]
theorem bKB {st s micro w:Int} {r:Bool} {k:Nat} (h:¬ ((k:Int)+w<micro)):vW st s micro w r k++aHX st s k r=vW st s micro w r (k+1):=by
 conv=>rhs;unfold vW
 rw[if_neg h,List.nil_append]
def sY:Con:=⟨126,(.bNT tI (.bNT tI aE)),tI,[.val ⟨false,tI,[]⟩,.val ⟨false,tI,[]⟩,.val ⟨false,tI,[]⟩,.val ⟨false,tI,[]⟩],[⟨false,tI,[0]⟩],false,none,
 ((fun _=>True):(Int × (Int × kC))→Prop),
 ((fun x=>sV x.1 x.2.1 x.2.2.1 x.2.2.2):(Int × (Int × kC))→(Int))⟩
def aDY:T:=.call 0 (bB (.bNT tI aE) [(aJ (.bNT tI (.bNT tI aE)) 1 (.Z 0)),(.ci .i64 1),(.ci .i64 4)]) <|
 .bNU .not (.Z 1) <|
 .ite (.Z 2) (
  .ret (.ci .i64 0)) (
  .bNU (.ar .sub .i64) (.bNV tI tI (aJ (.bNT tI (.bNT tI aE)) 1 (.Z 0)) (.ci .i64 1)) <|
  .call 0 (bB (.bNT tI aE) [(aJ (.bNT tI (.bNT tI aE)) 2 (.Z 0)),(.ci .i64 0),(.Z 3)]) <|
  .bNU .not (.Z 4) <|
  .ite (.Z 5) (
   .ret (.ci .i64 0)) (
   .call 0 (bB (.bNT tI aE) [(aO (.bNT tI (.bNT tI aE)) 3 (.Z 0)),(.ci .i64 1),(.ci .i64 5)]) <|
   .bNU .not (.Z 6) <|
   .ite (.Z 7) (
    .ret (.ci .i64 0)) (
    .bNU (.cmp .eql .i64) (.bNV tI tI (.p1 tI (.bNT tI aE) (.Z 0)) (.ci .i64 2)) <|
    .ite (.Z 8) (
     .bNU (.ar .sub .i64) (.bNV tI tI (aJ (.bNT tI (.bNT tI aE)) 1 (.Z 0)) (.ci .i64 1)) <|
     .bNU (.ar .sub .i64) (.bNV tI tI (.Z 9) (aJ (.bNT tI (.bNT tI aE)) 2 (.Z 0))) <|
     .bNU (.mn .i64) (.bNV tI tI (aO (.bNT tI (.bNT tI aE)) 3 (.Z 0)) (.Z 10)) <|
     .ret (.Z 11)) (
     .ret (aO (.bNT tI (.bNT tI aE)) 3 (.Z 0))))))
theorem aZK:bM Tryz.prog [bI] sY false 3000 ⟨[],[]⟩ = .ok aDY:=by kernel_rfl
theorem aX6 (x:Int × (Int × kC)) (hx:okD (.bNT tI (.bNT tI aE)) x) (hp:(fun _=>True) x):aDY.wp [bI] [⟨(.bNT tI (.bNT tI aE)),x⟩] [] (fun v=>v.as tI=(fun x=>sV x.1 x.2.1 x.2.2.1 x.2.2.2) x):=by
 delta aDY bI;refine dB ?_;try with_reducible exact True.intro
 (repeat' first|intro _|(with_reducible apply And.intro))
 all_goals (try simp only[nS] at *)
 all_goals first|omega|exact bMQ (bEQ (by omega))|exact bME (aBX (by omega)) (by omega)|exact bM5 (aBX (by omega)) (by omega)
theorem aWN:Con.Holds Tryz.prog sY:=aS aW (aH eY aR) aZK aX6
def pZ:Con:=⟨127,(.bNT bC (.bNT tI aE)),bC,[.val ⟨false,bC,[2]⟩,.val ⟨false,tI,[]⟩,.val ⟨false,tI,[]⟩,.val ⟨false,tI,[]⟩],[⟨false,bC,[2]⟩],false,none,
 ((fun x=>List.length x.1≤1000000∧1≤x.2.1∧x.2.1≤4):((List kC) × (Int × kC))→Prop),
 ((fun x=>x.1++zW x.2.1 x.2.2.1 x.2.2.2):((List kC) × (Int × kC))→(List kC))⟩
def zS:T :=
 .bNU (.cmp .gtr .i64) (.bNV tI tI (aJ (.bNT bC (.bNT tI aE)) 2 (.Z 0)) (.ci .i64 0)) <|
 .ite (.Z 1) (
  .bNU (.lit 76 aE 1) (.bNV tI tI (.ci .i64 1) (aO (.bNT bC (.bNT tI aE)) 3 (.Z 0))) <|
  .bNU (.bO0 76 aE 16) (.bNV bC bC (.p1 bC (.bNT tI aE) (.Z 0)) (.Z 2)) <|
  .bNU (.lit 76 aE 1) (.bNV tI tI (.ci .i64 2) (aO (.bNT bC (.bNT tI aE)) 3 (.Z 0))) <|
  .bNU (.bO0 76 aE 16) (.bNV bC bC (.Z 3) (.Z 4)) <|
  .bNU (.ar .sub .i64) (.bNV tI tI (aJ (.bNT bC (.bNT tI aE)) 1 (.Z 0)) (.ci .i64 1)) <|
  .bNU (.cmp .lss .i64) (.bNV tI tI (aJ (.bNT bC (.bNT tI aE)) 2 (.Z 0)) (.Z 6)) <|
  .ite (.Z 7) (
   .bNU (.lit 76 aE 1) (.bNV tI tI (.ci .i64 3) (aO (.bNT bC (.bNT tI aE)) 3 (.Z 0))) <|
   .bNU (.bO0 76 aE 16) (.bNV bC bC (.Z 5) (.Z 8)) <|
   .ret (.Z 9)) (
   .ret (.Z 5))) (
  .bNU (.lit 76 aE 1) (.bNV tI tI (.ci .i64 2) (aO (.bNT bC (.bNT tI aE)) 3 (.Z 0))) <|
  .bNU (.bO0 76 aE 16) (.bNV bC bC (.p1 bC (.bNT tI aE) (.Z 0)) (.Z 2)) <|
  .bNU (.ar .sub .i64) (.bNV tI tI (aJ (.bNT bC (.bNT tI aE)) 1 (.Z 0)) (.ci .i64 1)) <|
  .bNU (.cmp .lss .i64) (.bNV tI tI (aJ (.bNT bC (.bNT tI aE)) 2 (.Z 0)) (.Z 4)) <|
  .ite (.Z 5) (
   .bNU (.lit 76 aE 1) (.bNV tI tI (.ci .i64 3) (aO (.bNT bC (.bNT tI aE)) 3 (.Z 0))) <|
   .bNU (.bO0 76 aE 16) (.bNV bC bC (.Z 3) (.Z 6)) <|
   .ret (.Z 7)) (
   .ret (.Z 3)))
theorem aVB:bM Tryz.prog [] pZ false 3000 ⟨[],[]⟩ = .ok zS:=by kernel_rfl
theorem aUE (x:(List kC) × (Int × kC)) (hx:okD (.bNT bC (.bNT tI aE)) x) (hp:(fun x=>List.length x.1≤1000000∧1≤x.2.1∧x.2.1≤4) x):zS.wp [] [⟨(.bNT bC (.bNT tI aE)),x⟩] [] (fun v=>v.as bC=(fun x=>x.1++zW x.2.1 x.2.2.1 x.2.2.2) x):=by
 have hp:List.length x.1≤1000000∧1≤x.2.1∧x.2.1≤4:=hp
 delta zS;refine dB ?_;try with_reducible exact True.intro
 (repeat' first|intro _|(with_reducible apply And.intro))
 all_goals (try simp only[nS] at *)
 all_goals first|omega|(unfold maxLen;omega)|skip
 all_goals (unfold zW;(repeat' split) <;> first|omega|(simp;done))
theorem aTT:Con.Holds Tryz.prog pZ:=aS aW aR aVB aUE
def rP:Con:=⟨128,(.bNT bC (.bNT tI (.bNT tI (.bNT tI .bool)))),bC,[.val ⟨false,bC,[2]⟩,.val ⟨false,tI,[]⟩,.val ⟨false,tI,[]⟩,.val ⟨false,tI,[]⟩,.val ⟨false,.bool,[]⟩],[⟨false,bC,[2]⟩],false,none,
 ((fun x=>List.length x.1≤1000000∧1≤x.2.1∧x.2.1≤4):((List kC) × (Int × (Int × (Int × Bool))))→Prop),
 ((fun x=>x.1++aHX x.2.1 x.2.2.1 x.2.2.2.1 x.2.2.2.2):((List kC) × (Int × (Int × (Int × Bool))))→(List kC))⟩
def aDX:T :=
 .bNU (.ar .sub .i64) (.bNV tI tI (aJ (.bNT bC (.bNT tI (.bNT tI (.bNT tI .bool)))) 1 (.Z 0)) (.ci .i64 1)) <|
 .bNU (.cmp .lss .i64) (.bNV tI tI (aJ (.bNT bC (.bNT tI (.bNT tI (.bNT tI .bool)))) 2 (.Z 0)) (.Z 1)) <|
 .ite (.Z 2) (
  .bNU (.lit 76 aE 1) (.bNV tI tI (.ci .i64 4) (aJ (.bNT bC (.bNT tI (.bNT tI (.bNT tI .bool)))) 3 (.Z 0))) <|
  .bNU (.bO0 76 aE 16) (.bNV bC bC (.p1 bC (.bNT tI (.bNT tI (.bNT tI .bool))) (.Z 0)) (.Z 3)) <|
  .ite (aO (.bNT bC (.bNT tI (.bNT tI (.bNT tI .bool)))) 4 (.Z 0)) (
   .bNU (.lit 76 aE 1) (.bNV tI tI (.ci .i64 5) (aJ (.bNT bC (.bNT tI (.bNT tI (.bNT tI .bool)))) 3 (.Z 0))) <|
   .bNU (.bO0 76 aE 16) (.bNV bC bC (.Z 4) (.Z 5)) <|
   .bNU (.lit 76 aE 1) (.bNV tI tI (.ci .i64 6) (aJ (.bNT bC (.bNT tI (.bNT tI (.bNT tI .bool)))) 3 (.Z 0))) <|
   .bNU (.bO0 76 aE 16) (.bNV bC bC (.Z 6) (.Z 7)) <|
   .bNU (.cmp .gtr .i64) (.bNV tI tI (aJ (.bNT bC (.bNT tI (.bNT tI (.bNT tI .bool)))) 2 (.Z 0)) (.ci .i64 0)) <|
   .ite (.Z 9) (
    .bNU (.lit 76 aE 1) (.bNV tI tI (.ci .i64 7) (aJ (.bNT bC (.bNT tI (.bNT tI (.bNT tI .bool)))) 3 (.Z 0))) <|
    .bNU (.bO0 76 aE 16) (.bNV bC bC (.Z 8) (.Z 10)) <|
    .ret (.Z 11)) (
    .ret (.Z 8))) (
   .bNU (.lit 76 aE 1) (.bNV tI tI (.ci .i64 6) (aJ (.bNT bC (.bNT tI (.bNT tI (.bNT tI .bool)))) 3 (.Z 0))) <|
   .bNU (.bO0 76 aE 16) (.bNV bC bC (.Z 4) (.Z 5)) <|
   .bNU (.cmp .gtr .i64) (.bNV tI tI (aJ (.bNT bC (.bNT tI (.bNT tI (.bNT tI .bool)))) 2 (.Z 0)) (.ci .i64 0)) <|
   .ite (.Z 7) (
    .bNU (.lit 76 aE 1) (.bNV tI tI (.ci .i64 7) (aJ (.bNT bC (.bNT tI (.bNT tI (.bNT tI .bool)))) 3 (.Z 0))) <|
    .bNU (.bO0 76 aE 16) (.bNV bC bC (.Z 6) (.Z 8)) <|
    .ret (.Z 9)) (
    .ret (.Z 6)))) (
  .ite (aO (.bNT bC (.bNT tI (.bNT tI (.bNT tI .bool)))) 4 (.Z 0)) (
   .bNU (.lit 76 aE 1) (.bNV tI tI (.ci .i64 5) (aJ (.bNT bC (.bNT tI (.bNT tI (.bNT tI .bool)))) 3 (.Z 0))) <|
   .bNU (.bO0 76 aE 16) (.bNV bC bC (.p1 bC (.bNT tI (.bNT tI (.bNT tI .bool))) (.Z 0)) (.Z 3)) <|
   .bNU (.lit 76 aE 1) (.bNV tI tI (.ci .i64 6) (aJ (.bNT bC (.bNT tI (.bNT tI (.bNT tI .bool)))) 3 (.Z 0))) <|
   .bNU (.bO0 76 aE 16) (.bNV bC bC (.Z 4) (.Z 5)) <|
   .bNU (.cmp .gtr .i64) (.bNV tI tI (aJ (.bNT bC (.bNT tI (.bNT tI (.bNT tI .bool)))) 2 (.Z 0)) (.ci .i64 0)) <|
   .ite (.Z 7) (
    .bNU (.lit 76 aE 1) (.bNV tI tI (.ci .i64 7) (aJ (.bNT bC (.bNT tI (.bNT tI (.bNT tI .bool)))) 3 (.Z 0))) <|
    .bNU (.bO0 76 aE 16) (.bNV bC bC (.Z 6) (.Z 8)) <|
    .ret (.Z 9)) (
    .ret (.Z 6))) (
   .bNU (.lit 76 aE 1) (.bNV tI tI (.ci .i64 6) (aJ (.bNT bC (.bNT tI (.bNT tI (.bNT tI .bool)))) 3 (.Z 0))) <|
   .bNU (.bO0 76 aE 16) (.bNV bC bC (.p1 bC (.bNT tI (.bNT tI (.bNT tI .bool))) (.Z 0)) (.Z 3)) <|
   .bNU (.cmp .gtr .i64) (.bNV tI tI (aJ (.bNT bC (.bNT tI (.bNT tI (.bNT tI .bool)))) 2 (.Z 0)) (.ci .i64 0)) <|
   .ite (.Z 5) (
    .bNU (.lit 76 aE 1) (.bNV tI tI (.ci .i64 7) (aJ (.bNT bC (.bNT tI (.bNT tI (.bNT tI .bool)))) 3 (.Z 0))) <|
    .bNU (.bO0 76 aE 16) (.bNV bC bC (.Z 4) (.Z 6)) <|
    .ret (.Z 7)) (
    .ret (.Z 4))))
theorem bA1:bM Tryz.prog [] rP false 3000 ⟨[],[]⟩ = .ok aDX:=by kernel_rfl
theorem aY0 (x:(List kC) × (Int × (Int × (Int × Bool)))) (hx:okD (.bNT bC (.bNT tI (.bNT tI (.bNT tI .bool)))) x) (hp:(fun x=>List.length x.1≤1000000∧1≤x.2.1∧x.2.1≤4) x):aDX.wp [] [⟨(.bNT bC (.bNT tI (.bNT tI (.bNT tI .bool)))),x⟩] [] (fun v=>v.as bC=(fun x=>x.1++aHX x.2.1 x.2.2.1 x.2.2.2.1 x.2.2.2.2) x):=by
 have hp:List.length x.1≤1000000∧1≤x.2.1∧x.2.1≤4:=hp
 delta aDX;refine dB ?_;try with_reducible exact True.intro
 (repeat' first|intro _|(with_reducible apply And.intro))
 all_goals (try simp only[nS] at *)
 all_goals first|omega|(unfold maxLen;omega)|skip
 all_goals (unfold aHX;(repeat' split) <;> first|omega|contradiction|(simp;done)|(simp_all;done))
theorem aY5:Con.Holds Tryz.prog rP:=aS aW aR bA1 aY0
def aAW:Con:=⟨94,(.bNT tI (.bNT tI (.bNT tI (.bNT tI .bool)))),bC,[.val ⟨false,tI,[]⟩,.val ⟨false,tI,[]⟩,.val ⟨false,tI,[]⟩,.val ⟨false,tI,[]⟩,.val ⟨false,.bool,[]⟩],[⟨false,bC,[2]⟩],false,none,
 ((fun _=>True):(Int × (Int × (Int × (Int × Bool))))→Prop),
 ((fun x=>aCK x.1 x.2.1 x.2.2.1 x.2.2.2.1 x.2.2.2.2):(Int × (Int × (Int × (Int × Bool))))→(List kC))⟩
def aJL:T:=.call 0 (bB (.bNT tI aE) [(.p1 tI (.bNT tI (.bNT tI (.bNT tI .bool))) (.Z 0)),(.ci .i64 1),(.ci .i64 2)]) <|
 .bNU .not (.Z 1) <|
 .ite (.Z 2) (
  .ret (.nl 76 aE)) (
  .call 0 (bB (.bNT tI aE) [(aJ (.bNT tI (.bNT tI (.bNT tI (.bNT tI .bool)))) 1 (.Z 0)),(.ci .i64 1),(.ci .i64 4)]) <|
  .bNU .not (.Z 3) <|
  .ite (.Z 4) (
   .ret (.nl 76 aE)) (
   .bNU (.ar .sub .i64) (.bNV tI tI (aJ (.bNT tI (.bNT tI (.bNT tI (.bNT tI .bool)))) 1 (.Z 0)) (.ci .i64 1)) <|
   .call 0 (bB (.bNT tI aE) [(aJ (.bNT tI (.bNT tI (.bNT tI (.bNT tI .bool)))) 2 (.Z 0)),(.ci .i64 0),(.Z 5)]) <|
   .bNU .not (.Z 6) <|
   .ite (.Z 7) (
    .ret (.nl 76 aE)) (
    .call 0 (bB (.bNT tI aE) [(aJ (.bNT tI (.bNT tI (.bNT tI (.bNT tI .bool)))) 3 (.Z 0)),(.ci .i64 1),(.ci .i64 5)]) <|
    .bNU .not (.Z 8) <|
    .ite (.Z 9) (
     .ret (.nl 76 aE)) (
     .call 1 (bB (.bNT tI (.bNT tI aE)) [(.p1 tI (.bNT tI (.bNT tI (.bNT tI .bool))) (.Z 0)),(aJ (.bNT tI (.bNT tI (.bNT tI (.bNT tI .bool)))) 1 (.Z 0)),(aJ (.bNT tI (.bNT tI (.bNT tI (.bNT tI .bool)))) 2 (.Z 0)),(aJ (.bNT tI (.bNT tI (.bNT tI (.bNT tI .bool)))) 3 (.Z 0))]) <|
     .loop (.bNT tI bC) (.bNV tI bC (.ci .i64 0) (.nl 76 aE)) <|
      .bNU (.cmp .lss .i64) (.bNV tI tI (.p1 tI bC (.Z 11)) (.Z 10)) <|
      .ite (.Z 12) (
       .call 2 (bB (.bNT bC (.bNT tI aE)) [(aO (.bNT tI bC) 1 (.Z 11)),(aJ (.bNT tI (.bNT tI (.bNT tI (.bNT tI .bool)))) 1 (.Z 0)),(aJ (.bNT tI (.bNT tI (.bNT tI (.bNT tI .bool)))) 2 (.Z 0)),(.p1 tI bC (.Z 11))]) <|
       .bNU (.ar .add .i64) (.bNV tI tI (.p1 tI bC (.Z 11)) (.ci .i64 1)) <|
       .bNW 0 (.bNV tI bC (.Z 14) (.Z 13))) (
       .loop (.bNT tI bC) (.bNV tI bC (.ci .i64 0) (aO (.bNT tI bC) 1 (.Z 11))) <|
        .bNU (.cmp .lss .i64) (.bNV tI tI (.p1 tI bC (.Z 13)) (aJ (.bNT tI (.bNT tI (.bNT tI (.bNT tI .bool)))) 3 (.Z 0))) <|
        .ite (.Z 14) (
         .bNU (.ar .add .i64) (.bNV tI tI (.Z 10) (.p1 tI bC (.Z 13))) <|
         .bNU (.cmp .lss .i64) (.bNV tI tI (.Z 15) (aJ (.bNT tI (.bNT tI (.bNT tI (.bNT tI .bool)))) 3 (.Z 0))) <|
         .ite (.Z 16) (
          .bNU (.ar .add .i64) (.bNV tI tI (.Z 10) (.p1 tI bC (.Z 13))) <|
          .call 2 (bB (.bNT bC (.bNT tI aE)) [(aO (.bNT tI bC) 1 (.Z 13)),(aJ (.bNT tI (.bNT tI (.bNT tI (.bNT tI .bool)))) 1 (.Z 0)),(aJ (.bNT tI (.bNT tI (.bNT tI (.bNT tI .bool)))) 2 (.Z 0)),(.Z 17)]) <|
          .call 3 (bB (.bNT bC (.bNT tI (.bNT tI (.bNT tI .bool)))) [(.Z 18),(aJ (.bNT tI (.bNT tI (.bNT tI (.bNT tI .bool)))) 1 (.Z 0)),(aJ (.bNT tI (.bNT tI (.bNT tI (.bNT tI .bool)))) 2 (.Z 0)),(.p1 tI bC (.Z 13)),(aO (.bNT tI (.bNT tI (.bNT tI (.bNT tI .bool)))) 4 (.Z 0))]) <|
          .bNU (.ar .add .i64) (.bNV tI tI (.p1 tI bC (.Z 13)) (.ci .i64 1)) <|
          .bNW 0 (.bNV tI bC (.Z 20) (.Z 19))) (
          .call 3 (bB (.bNT bC (.bNT tI (.bNT tI (.bNT tI .bool)))) [(aO (.bNT tI bC) 1 (.Z 13)),(aJ (.bNT tI (.bNT tI (.bNT tI (.bNT tI .bool)))) 1 (.Z 0)),(aJ (.bNT tI (.bNT tI (.bNT tI (.bNT tI .bool)))) 2 (.Z 0)),(.p1 tI bC (.Z 13)),(aO (.bNT tI (.bNT tI (.bNT tI (.bNT tI .bool)))) 4 (.Z 0))]) <|
          .bNU (.ar .add .i64) (.bNV tI tI (.p1 tI bC (.Z 13)) (.ci .i64 1)) <|
          .bNW 0 (.bNV tI bC (.Z 18) (.Z 17)))) (
         .bNU (.lit 76 aE 1) (.bNV tI tI (.ci .i64 8) (.ci .i64 0)) <|
         .bNU (.bO0 76 aE 16) (.bNV bC bC (aO (.bNT tI bC) 1 (.Z 13)) (.Z 15)) <|
         .ret (.Z 16)))))))
theorem bIV:bM Tryz.prog [bI,sY,pZ,rP] aAW false 3000 ⟨[(2984,16011,iT 41 37++iT 35 15++[.dr 0,.tm 13 0,.on 11,.sl 1]),(2974,32013,iT 44 42++[.dr 13,.tm 14 0,.sl 1])],[]⟩ = .ok aJL:=by kernel_rfl
theorem bG3 (x:Int × (Int × (Int × (Int × Bool)))) (hx:okD (.bNT tI (.bNT tI (.bNT tI (.bNT tI .bool)))) x) (hp:(fun _=>True) x):aJL.wp [bI,sY,pZ,rP] [⟨(.bNT tI (.bNT tI (.bNT tI (.bNT tI .bool)))),x⟩] [] (fun v=>v.as bC=(fun x=>aCK x.1 x.2.1 x.2.2.1 x.2.2.2.1 x.2.2.2.2) x):=by
  obtain ⟨ds,st,s,micro,r⟩:=x
  delta aJL bI sY pZ rP;refine dB ?_;try with_reducible exact True.intro
  (repeat' first|intro _|(with_reducible apply And.intro))
  all_goals (try simp only[nS] at *)
  all_goals first|omega|exact bMJ (fun h=>by rw[lG] at h;omega)|skip
  all_goals have hP:jD st s micro=true:=by first|assumption|exact aBX (by omega)
  all_goals have hd:ds=1∨ds=2:=by omega
  all_goals have hb:=(lG _ _ _).1 hP
  all_goals have hw:=bGD (ds:=ds) hP
  all_goals have hfin:=bLV (r:=r) ⟨hd,hP⟩
  all_goals generalize sV ds st s micro=W at *
  all_goals refine ⟨fun q=>∃ k:Nat,(k:Int)≤W∧q=((k:Int),aT6 st s k),fun q=>W.toNat - (q.1:Int).toNat,⟨0,by omega,rfl⟩,fun q _ hI=>?_⟩
  all_goals obtain ⟨k,hk,rfl⟩:=hI
  all_goals dsimp only
  all_goals have l1:=aGA st s k
  all_goals have l2:=xN st s k
  all_goals refine ⟨fun hlt=>?_,fun hge=>?_⟩
  all_goals first
    | (have h0:(k:Int)<W:=hlt
       (repeat' first|intro _|(with_reducible apply And.intro))
       all_goals first|omega|(unfold maxLen;omega)|exact ⟨k+1,by omega,rfl⟩)
    | skip
  all_goals have hkW:k=W.toNat:=by omega
  all_goals refine ⟨fun q=>∃ j:Nat,(j:Int)≤micro∧q=((j:Int),vW st s micro W r j),fun q=>micro.toNat - (q.1:Int).toNat,⟨0,by omega,by rw[hkW];rfl⟩,fun q _ hI=>?_⟩
  all_goals obtain ⟨j,hj,rfl⟩:=hI
  all_goals dsimp only
  all_goals try rw[show W+(j:Int)=(j:Int)+W from Int.add_comm _ _]
  all_goals have l3:=aGZ st s micro W r j
  all_goals have l4:=xN st s ((j:Int)+W)
  all_goals have l5:=aO8 st s j r
  all_goals (repeat' first|intro _|(with_reducible apply And.intro))
  all_goals first
    | omega
    | (unfold maxLen;omega)
    | exact ⟨j+1,by omega,by rw[← bJE (by omega)];rfl⟩
    | exact ⟨j+1,by omega,by rw[← bKB (by omega)];rfl⟩
    | (have hj2:j=micro.toNat:=by omega
       rw[hj2]
       exact hfin)
theorem bF6:Con.Holds Tryz.prog aAW:=aS aW (aH eY (aH aWN (aH aTT (aH aY5 aR)))) bIV bG3
end
end Go.Proofs.YtdeobhdbmehpgaaGreat
