/- Plan2: lemmas. No conditions. -/
import Derived.Test.YtdeobhdbmehpgaaGreatOps2
namespace Go.Proofs.YtdeobhdbmehpgaaGreat
noncomputable section
set_option maxRecDepth 100000
open Go.ChangeShapes Go.WideShapes Go.ChangeAt Go.RowKit Go.Deep
set_option linter.unusedVariables false
set_option linter.unusedSimpArgs false
def uO (st s m:Int):List eY:=(if 0<s then [((1:Int),m)] else [])++([((2:Int),m)]++(if s<st - 1 then [((3:Int),m)] else []))
def aDN (st s m:Int) (redo:Bool):List eY:=(if s<st - 1 then [((4:Int),m)] else [])++((if redo=true then [((5:Int),m)] else [])++([((6:Int),m)]++(if 0<s then [((7:Int),m)] else [])))
def gL (st s micro:Int):Bool:=decide (1≤st∧st≤4∧0≤s∧s<st∧1≤micro∧micro≤5)
theorem jD (st s micro:Int):gL st s micro=true↔1≤st∧st≤4∧0≤s∧s<st∧1≤micro∧micro≤5:=by unfold gL;rw[decide_eq_true_eq]
def pW (ds st s micro:Int):Int:=if gL st s micro=true then (if ds=2 then min micro (st - 1 - s) else micro) else 0
def aPI (st s:Int):Nat→List eY
 | 0=>[]
 | k+1=>aPI st s k++uO st s k
def sL (st s micro w:Int) (redo:Bool):Nat→List eY
 | 0=>aPI st s w.toNat
 | k+1=>sL st s micro w redo k++((if (k:Int)+w<micro then uO st s ((k:Int)+w) else [])++aDN st s k redo)
def wZ (ds st s micro:Int) (redo:Bool):List eY:=if (ds=1∨ds=2)∧gL st s micro=true then sL st s micro (pW ds st s micro) redo micro.toNat++[((8:Int),(0:Int))] else []
theorem tC (st s m:Int):(uO st s m).length≤3:=by unfold uO;split <;> split <;> simp
theorem aJZ (st s m:Int) (r:Bool):(aDN st s m r).length≤4:=by unfold aDN;split <;> split <;> split <;> simp
theorem aCR (st s:Int):(k:Nat)→(aPI st s k).length≤3 * k
 | 0=>Nat.le_refl _
 | k+1=>by
  have h1:=aCR st s k
  have h2:=tC st s k
  unfold aPI
  rw[List.length_append];omega
theorem aD0 (st s micro w:Int) (r:Bool):(k:Nat)→(sL st s micro w r k).length≤3 * w.toNat+7 * k
 | 0=>by have:=aCR st s w.toNat;unfold sL;omega
 | k+1=>by
  have h1:=aD0 st s micro w r k
  have h2:=tC st s ((k:Int)+w)
  have h3:=aJZ st s k r
  unfold sL
  rw[List.length_append,List.length_append]
  split
  ·omega
  ·simp only[List.length_nil];omega
theorem bDH {ds st s micro:Int} (h:gL st s micro=false):0=pW ds st s micro:=by unfold pW;rw[if_neg (by rw[h];simp)]
theorem bCZ {ds st s micro:Int} (h:gL st s micro=true) (hd:ds=2):min micro (st - 1 - s)=pW ds st s micro:=by unfold pW;rw[if_pos h,if_pos hd]
theorem bDI {ds st s micro:Int} (h:gL st s micro=true) (hd:¬ ds=2):micro=pW ds st s micro:=by unfold pW;rw[if_pos h,if_neg hd]
theorem aW0 {st s micro:Int} (h:¬ (1≤st∧st≤4∧0≤s∧s<st∧1≤micro∧micro≤5)):gL st s micro=false:=Bool.eq_false_iff.2 fun h'=>h ((jD _ _ _).1 h')
theorem xP {st s micro:Int} (h:1≤st∧st≤4∧0≤s∧s<st∧1≤micro∧micro≤5):gL st s micro=true:=(jD _ _ _).2 h
theorem bDP {ds st s micro:Int} {r:Bool} (h:¬ ((ds=1∨ds=2)∧gL st s micro=true)):[]=wZ ds st s micro r:=by unfold wZ;rw[if_neg h]
theorem bCW {ds st s micro:Int} {r:Bool} (h:(ds=1∨ds=2)∧gL st s micro=true):sL st s micro (pW ds st s micro) r micro.toNat++[((8:Int),(0:Int))]=wZ ds st s micro r:=by unfold wZ;rw[if_pos h]
theorem aY6 {ds st s micro:Int} (h:gL st s micro=true):0≤pW ds st s micro∧pW ds st s micro≤5:=by
 rw[jD] at h
 unfold pW
 rw[if_pos (xP h)]
 split <;> omega
theorem bAY {st s micro w:Int} {r:Bool} {k:Nat} (h:((k:Int)+w<micro)):sL st s micro w r k++uO st s ((k:Int)+w)++aDN st s k r=sL st s micro w r (k+1):=by
 conv=>rhs;unfold sL
 rw[if_pos h,List.append_assoc]
theorem bBP {st s micro w:Int} {r:Bool} {k:Nat} (h:¬ ((k:Int)+w<micro)):sL st s micro w r k++aDN st s k r=sL st s micro w r (k+1):=by
 conv=>rhs;unfold sL
 rw[if_neg h,List.nil_append]
def pC:Con:=⟨126,(.bEL tI (.bEL tI aD)),tI,[.val ⟨false,tI,[]⟩,.val ⟨false,tI,[]⟩,.val ⟨false,tI,[]⟩,.val ⟨false,tI,[]⟩],[⟨false,tI,[0]⟩],false,none,
 ((fun _=>True):(Int × (Int × eY))→Prop),
 ((fun x=>pW x.1 x.2.1 x.2.2.1 x.2.2.2):(Int × (Int × eY))→(Int))⟩
def aAE:T:=.call 0 (aY (.bEL tI aD) [(aI (.bEL tI (.bEL tI aD)) 1 (.Z 0)),(.ci .i64 1),(.ci .i64 4)]) <|
 .bEM .not (.Z 1) <|
 .ite (.Z 2) (
  .ret (.ci .i64 0)) (
  .bEM (.ar .sub .i64) (.bEN tI tI (aI (.bEL tI (.bEL tI aD)) 1 (.Z 0)) (.ci .i64 1)) <|
  .call 0 (aY (.bEL tI aD) [(aI (.bEL tI (.bEL tI aD)) 2 (.Z 0)),(.ci .i64 0),(.Z 3)]) <|
  .bEM .not (.Z 4) <|
  .ite (.Z 5) (
   .ret (.ci .i64 0)) (
   .call 0 (aY (.bEL tI aD) [(aN (.bEL tI (.bEL tI aD)) 3 (.Z 0)),(.ci .i64 1),(.ci .i64 5)]) <|
   .bEM .not (.Z 6) <|
   .ite (.Z 7) (
    .ret (.ci .i64 0)) (
    .bEM (.cmp .eql .i64) (.bEN tI tI (.p1 tI (.bEL tI aD) (.Z 0)) (.ci .i64 2)) <|
    .ite (.Z 8) (
     .bEM (.ar .sub .i64) (.bEN tI tI (aI (.bEL tI (.bEL tI aD)) 1 (.Z 0)) (.ci .i64 1)) <|
     .bEM (.ar .sub .i64) (.bEN tI tI (.Z 9) (aI (.bEL tI (.bEL tI aD)) 2 (.Z 0))) <|
     .bEM (.mn .i64) (.bEN tI tI (aN (.bEL tI (.bEL tI aD)) 3 (.Z 0)) (.Z 10)) <|
     .ret (.Z 11)) (
     .ret (aN (.bEL tI (.bEL tI aD)) 3 (.Z 0))))))
theorem aSX:bJ Tryz.prog [bM] pC false 3000 ⟨[],[]⟩ = .ok aAE:=by kernel_rfl
theorem aSW (x:Int × (Int × eY)) (hx:okD (.bEL tI (.bEL tI aD)) x) (hp:(fun _=>True) x):aAE.wp [bM] [⟨(.bEL tI (.bEL tI aD)),x⟩] [] (fun v=>v.as tI=(fun x=>pW x.1 x.2.1 x.2.2.1 x.2.2.2) x):=by
 delta aAE bM;refine eE ?_;try with_reducible exact True.intro
 (repeat' first|intro _|(with_reducible apply And.intro))
 all_goals (try simp only[sS] at *)
 all_goals first|omega|exact bDH (aW0 (by omega))|exact bCZ (xP (by omega)) (by omega)|exact bDI (xP (by omega)) (by omega)
theorem aST:Con.Holds Tryz.prog pC:=aQ aR (aG iV aO) aSX aSW
def mX:Con:=⟨127,(.bEL aL (.bEL tI aD)),aL,[.val ⟨false,aL,[2]⟩,.val ⟨false,tI,[]⟩,.val ⟨false,tI,[]⟩,.val ⟨false,tI,[]⟩],[⟨false,aL,[2]⟩],false,none,
 ((fun x=>List.length x.1≤1000000∧1≤x.2.1∧x.2.1≤4):((List eY) × (Int × eY))→Prop),
 ((fun x=>x.1++uO x.2.1 x.2.2.1 x.2.2.2):((List eY) × (Int × eY))→(List eY))⟩
def wK:T :=
 .bEM (.cmp .gtr .i64) (.bEN tI tI (aI (.bEL aL (.bEL tI aD)) 2 (.Z 0)) (.ci .i64 0)) <|
 .ite (.Z 1) (
  .bEM (.lit 76 aD 1) (.bEN tI tI (.ci .i64 1) (aN (.bEL aL (.bEL tI aD)) 3 (.Z 0))) <|
  .bEM (.bES 76 aD 16) (.bEN aL aL (.p1 aL (.bEL tI aD) (.Z 0)) (.Z 2)) <|
  .bEM (.lit 76 aD 1) (.bEN tI tI (.ci .i64 2) (aN (.bEL aL (.bEL tI aD)) 3 (.Z 0))) <|
  .bEM (.bES 76 aD 16) (.bEN aL aL (.Z 3) (.Z 4)) <|
  .bEM (.ar .sub .i64) (.bEN tI tI (aI (.bEL aL (.bEL tI aD)) 1 (.Z 0)) (.ci .i64 1)) <|
  .bEM (.cmp .lss .i64) (.bEN tI tI (aI (.bEL aL (.bEL tI aD)) 2 (.Z 0)) (.Z 6)) <|
  .ite (.Z 7) (
   .bEM (.lit 76 aD 1) (.bEN tI tI (.ci .i64 3) (aN (.bEL aL (.bEL tI aD)) 3 (.Z 0))) <|
   .bEM (.bES 76 aD 16) (.bEN aL aL (.Z 5) (.Z 8)) <|
   .ret (.Z 9)) (
   .ret (.Z 5))) (
  .bEM (.lit 76 aD 1) (.bEN tI tI (.ci .i64 2) (aN (.bEL aL (.bEL tI aD)) 3 (.Z 0))) <|
  .bEM (.bES 76 aD 16) (.bEN aL aL (.p1 aL (.bEL tI aD) (.Z 0)) (.Z 2)) <|
  .bEM (.ar .sub .i64) (.bEN tI tI (aI (.bEL aL (.bEL tI aD)) 1 (.Z 0)) (.ci .i64 1)) <|
  .bEM (.cmp .lss .i64) (.bEN tI tI (aI (.bEL aL (.bEL tI aD)) 2 (.Z 0)) (.Z 4)) <|
  .ite (.Z 5) (
   .bEM (.lit 76 aD 1) (.bEN tI tI (.ci .i64 3) (aN (.bEL aL (.bEL tI aD)) 3 (.Z 0))) <|
   .bEM (.bES 76 aD 16) (.bEN aL aL (.Z 3) (.Z 6)) <|
   .ret (.Z 7)) (
   .ret (.Z 3)))
theorem aO5:bJ Tryz.prog [] mX false 3000 ⟨[],[]⟩ = .ok wK:=by kernel_rfl
theorem aP0 (x:(List eY) × (Int × eY)) (hx:okD (.bEL aL (.bEL tI aD)) x) (hp:(fun x=>List.length x.1≤1000000∧1≤x.2.1∧x.2.1≤4) x):wK.wp [] [⟨(.bEL aL (.bEL tI aD)),x⟩] [] (fun v=>v.as aL=(fun x=>x.1++uO x.2.1 x.2.2.1 x.2.2.2) x):=by
 have hp:List.length x.1≤1000000∧1≤x.2.1∧x.2.1≤4:=hp
 delta wK;refine eE ?_;try with_reducible exact True.intro
 (repeat' first|intro _|(with_reducible apply And.intro))
 all_goals (try simp only[sS] at *)
 all_goals first|omega|(unfold maxLen;omega)|skip
 all_goals (unfold uO;(repeat' split) <;> first|omega|(simp;done))
theorem aN2:Con.Holds Tryz.prog mX:=aQ aR aO aO5 aP0
def qA:Con:=⟨128,(.bEL aL (.bEL tI (.bEL tI (.bEL tI .bool)))),aL,[.val ⟨false,aL,[2]⟩,.val ⟨false,tI,[]⟩,.val ⟨false,tI,[]⟩,.val ⟨false,tI,[]⟩,.val ⟨false,.bool,[]⟩],[⟨false,aL,[2]⟩],false,none,
 ((fun x=>List.length x.1≤1000000∧1≤x.2.1∧x.2.1≤4):((List eY) × (Int × (Int × (Int × Bool))))→Prop),
 ((fun x=>x.1++aDN x.2.1 x.2.2.1 x.2.2.2.1 x.2.2.2.2):((List eY) × (Int × (Int × (Int × Bool))))→(List eY))⟩
def aAF:T :=
 .bEM (.ar .sub .i64) (.bEN tI tI (aI (.bEL aL (.bEL tI (.bEL tI (.bEL tI .bool)))) 1 (.Z 0)) (.ci .i64 1)) <|
 .bEM (.cmp .lss .i64) (.bEN tI tI (aI (.bEL aL (.bEL tI (.bEL tI (.bEL tI .bool)))) 2 (.Z 0)) (.Z 1)) <|
 .ite (.Z 2) (
  .bEM (.lit 76 aD 1) (.bEN tI tI (.ci .i64 4) (aI (.bEL aL (.bEL tI (.bEL tI (.bEL tI .bool)))) 3 (.Z 0))) <|
  .bEM (.bES 76 aD 16) (.bEN aL aL (.p1 aL (.bEL tI (.bEL tI (.bEL tI .bool))) (.Z 0)) (.Z 3)) <|
  .ite (aN (.bEL aL (.bEL tI (.bEL tI (.bEL tI .bool)))) 4 (.Z 0)) (
   .bEM (.lit 76 aD 1) (.bEN tI tI (.ci .i64 5) (aI (.bEL aL (.bEL tI (.bEL tI (.bEL tI .bool)))) 3 (.Z 0))) <|
   .bEM (.bES 76 aD 16) (.bEN aL aL (.Z 4) (.Z 5)) <|
   .bEM (.lit 76 aD 1) (.bEN tI tI (.ci .i64 6) (aI (.bEL aL (.bEL tI (.bEL tI (.bEL tI .bool)))) 3 (.Z 0))) <|
   .bEM (.bES 76 aD 16) (.bEN aL aL (.Z 6) (.Z 7)) <|
   .bEM (.cmp .gtr .i64) (.bEN tI tI (aI (.bEL aL (.bEL tI (.bEL tI (.bEL tI .bool)))) 2 (.Z 0)) (.ci .i64 0)) <|
   .ite (.Z 9) (
    .bEM (.lit 76 aD 1) (.bEN tI tI (.ci .i64 7) (aI (.bEL aL (.bEL tI (.bEL tI (.bEL tI .bool)))) 3 (.Z 0))) <|
    .bEM (.bES 76 aD 16) (.bEN aL aL (.Z 8) (.Z 10)) <|
    .ret (.Z 11)) (
    .ret (.Z 8))) (
   .bEM (.lit 76 aD 1) (.bEN tI tI (.ci .i64 6) (aI (.bEL aL (.bEL tI (.bEL tI (.bEL tI .bool)))) 3 (.Z 0))) <|
   .bEM (.bES 76 aD 16) (.bEN aL aL (.Z 4) (.Z 5)) <|
   .bEM (.cmp .gtr .i64) (.bEN tI tI (aI (.bEL aL (.bEL tI (.bEL tI (.bEL tI .bool)))) 2 (.Z 0)) (.ci .i64 0)) <|
   .ite (.Z 7) (
    .bEM (.lit 76 aD 1) (.bEN tI tI (.ci .i64 7) (aI (.bEL aL (.bEL tI (.bEL tI (.bEL tI .bool)))) 3 (.Z 0))) <|
    .bEM (.bES 76 aD 16) (.bEN aL aL (.Z 6) (.Z 8)) <|
    .ret (.Z 9)) (
    .ret (.Z 6)))) (
  .ite (aN (.bEL aL (.bEL tI (.bEL tI (.bEL tI .bool)))) 4 (.Z 0)) (
   .bEM (.lit 76 aD 1) (.bEN tI tI (.ci .i64 5) (aI (.bEL aL (.bEL tI (.bEL tI (.bEL tI .bool)))) 3 (.Z 0))) <|
   .bEM (.bES 76 aD 16) (.bEN aL aL (.p1 aL (.bEL tI (.bEL tI (.bEL tI .bool))) (.Z 0)) (.Z 3)) <|
   .bEM (.lit 76 aD 1) (.bEN tI tI (.ci .i64 6) (aI (.bEL aL (.bEL tI (.bEL tI (.bEL tI .bool)))) 3 (.Z 0))) <|
   .bEM (.bES 76 aD 16) (.bEN aL aL (.Z 4) (.Z 5)) <|
   .bEM (.cmp .gtr .i64) (.bEN tI tI (aI (.bEL aL (.bEL tI (.bEL tI (.bEL tI .bool)))) 2 (.Z 0)) (.ci .i64 0)) <|
   .ite (.Z 7) (
    .bEM (.lit 76 aD 1) (.bEN tI tI (.ci .i64 7) (aI (.bEL aL (.bEL tI (.bEL tI (.bEL tI .bool)))) 3 (.Z 0))) <|
    .bEM (.bES 76 aD 16) (.bEN aL aL (.Z 6) (.Z 8)) <|
    .ret (.Z 9)) (
    .ret (.Z 6))) (
   .bEM (.lit 76 aD 1) (.bEN tI tI (.ci .i64 6) (aI (.bEL aL (.bEL tI (.bEL tI (.bEL tI .bool)))) 3 (.Z 0))) <|
   .bEM (.bES 76 aD 16) (.bEN aL aL (.p1 aL (.bEL tI (.bEL tI (.bEL tI .bool))) (.Z 0)) (.Z 3)) <|
   .bEM (.cmp .gtr .i64) (.bEN tI tI (aI (.bEL aL (.bEL tI (.bEL tI (.bEL tI .bool)))) 2 (.Z 0)) (.ci .i64 0)) <|
   .ite (.Z 5) (
    .bEM (.lit 76 aD 1) (.bEN tI tI (.ci .i64 7) (aI (.bEL aL (.bEL tI (.bEL tI (.bEL tI .bool)))) 3 (.Z 0))) <|
    .bEM (.bES 76 aD 16) (.bEN aL aL (.Z 4) (.Z 6)) <|
    .ret (.Z 7)) (
    .ret (.Z 4))))
theorem aQM:bJ Tryz.prog [] qA false 3000 ⟨[],[]⟩ = .ok aAF:=by kernel_rfl
theorem aSZ (x:(List eY) × (Int × (Int × (Int × Bool)))) (hx:okD (.bEL aL (.bEL tI (.bEL tI (.bEL tI .bool)))) x) (hp:(fun x=>List.length x.1≤1000000∧1≤x.2.1∧x.2.1≤4) x):aAF.wp [] [⟨(.bEL aL (.bEL tI (.bEL tI (.bEL tI .bool)))),x⟩] [] (fun v=>v.as aL=(fun x=>x.1++aDN x.2.1 x.2.2.1 x.2.2.2.1 x.2.2.2.2) x):=by
 have hp:List.length x.1≤1000000∧1≤x.2.1∧x.2.1≤4:=hp
 delta aAF;refine eE ?_;try with_reducible exact True.intro
 (repeat' first|intro _|(with_reducible apply And.intro))
 all_goals (try simp only[sS] at *)
 all_goals first|omega|(unfold maxLen;omega)|skip
 all_goals (unfold aDN;(repeat' split) <;> first|omega|contradiction|(simp;done)|(simp_all;done))
theorem aQ5:Con.Holds Tryz.prog qA:=aQ aR aO aQM aSZ
def vC:Con:=⟨94,(.bEL tI (.bEL tI (.bEL tI (.bEL tI .bool)))),aL,[.val ⟨false,tI,[]⟩,.val ⟨false,tI,[]⟩,.val ⟨false,tI,[]⟩,.val ⟨false,tI,[]⟩,.val ⟨false,.bool,[]⟩],[⟨false,aL,[2]⟩],false,none,
 ((fun _=>True):(Int × (Int × (Int × (Int × Bool))))→Prop),
 ((fun x=>wZ x.1 x.2.1 x.2.2.1 x.2.2.2.1 x.2.2.2.2):(Int × (Int × (Int × (Int × Bool))))→(List eY))⟩
def aGF:T:=.call 0 (aY (.bEL tI aD) [(.p1 tI (.bEL tI (.bEL tI (.bEL tI .bool))) (.Z 0)),(.ci .i64 1),(.ci .i64 2)]) <|
 .bEM .not (.Z 1) <|
 .ite (.Z 2) (
  .ret (.nl 76 aD)) (
  .call 0 (aY (.bEL tI aD) [(aI (.bEL tI (.bEL tI (.bEL tI (.bEL tI .bool)))) 1 (.Z 0)),(.ci .i64 1),(.ci .i64 4)]) <|
  .bEM .not (.Z 3) <|
  .ite (.Z 4) (
   .ret (.nl 76 aD)) (
   .bEM (.ar .sub .i64) (.bEN tI tI (aI (.bEL tI (.bEL tI (.bEL tI (.bEL tI .bool)))) 1 (.Z 0)) (.ci .i64 1)) <|
   .call 0 (aY (.bEL tI aD) [(aI (.bEL tI (.bEL tI (.bEL tI (.bEL tI .bool)))) 2 (.Z 0)),(.ci .i64 0),(.Z 5)]) <|
   .bEM .not (.Z 6) <|
   .ite (.Z 7) (
    .ret (.nl 76 aD)) (
    .call 0 (aY (.bEL tI aD) [(aI (.bEL tI (.bEL tI (.bEL tI (.bEL tI .bool)))) 3 (.Z 0)),(.ci .i64 1),(.ci .i64 5)]) <|
    .bEM .not (.Z 8) <|
    .ite (.Z 9) (
     .ret (.nl 76 aD)) (
     .call 1 (aY (.bEL tI (.bEL tI aD)) [(.p1 tI (.bEL tI (.bEL tI (.bEL tI .bool))) (.Z 0)),(aI (.bEL tI (.bEL tI (.bEL tI (.bEL tI .bool)))) 1 (.Z 0)),(aI (.bEL tI (.bEL tI (.bEL tI (.bEL tI .bool)))) 2 (.Z 0)),(aI (.bEL tI (.bEL tI (.bEL tI (.bEL tI .bool)))) 3 (.Z 0))]) <|
     .loop (.bEL tI aL) (.bEN tI aL (.ci .i64 0) (.nl 76 aD)) <|
      .bEM (.cmp .lss .i64) (.bEN tI tI (.p1 tI aL (.Z 11)) (.Z 10)) <|
      .ite (.Z 12) (
       .call 2 (aY (.bEL aL (.bEL tI aD)) [(aN (.bEL tI aL) 1 (.Z 11)),(aI (.bEL tI (.bEL tI (.bEL tI (.bEL tI .bool)))) 1 (.Z 0)),(aI (.bEL tI (.bEL tI (.bEL tI (.bEL tI .bool)))) 2 (.Z 0)),(.p1 tI aL (.Z 11))]) <|
       .bEM (.ar .add .i64) (.bEN tI tI (.p1 tI aL (.Z 11)) (.ci .i64 1)) <|
       .bEO 0 (.bEN tI aL (.Z 14) (.Z 13))) (
       .loop (.bEL tI aL) (.bEN tI aL (.ci .i64 0) (aN (.bEL tI aL) 1 (.Z 11))) <|
        .bEM (.cmp .lss .i64) (.bEN tI tI (.p1 tI aL (.Z 13)) (aI (.bEL tI (.bEL tI (.bEL tI (.bEL tI .bool)))) 3 (.Z 0))) <|
        .ite (.Z 14) (
         .bEM (.ar .add .i64) (.bEN tI tI (.Z 10) (.p1 tI aL (.Z 13))) <|
         .bEM (.cmp .lss .i64) (.bEN tI tI (.Z 15) (aI (.bEL tI (.bEL tI (.bEL tI (.bEL tI .bool)))) 3 (.Z 0))) <|
         .ite (.Z 16) (
          .bEM (.ar .add .i64) (.bEN tI tI (.Z 10) (.p1 tI aL (.Z 13))) <|
          .call 2 (aY (.bEL aL (.bEL tI aD)) [(aN (.bEL tI aL) 1 (.Z 13)),(aI (.bEL tI (.bEL tI (.bEL tI (.bEL tI .bool)))) 1 (.Z 0)),(aI (.bEL tI (.bEL tI (.bEL tI (.bEL tI .bool)))) 2 (.Z 0)),(.Z 17)]) <|
          .call 3 (aY (.bEL aL (.bEL tI (.bEL tI (.bEL tI .bool)))) [(.Z 18),(aI (.bEL tI (.bEL tI (.bEL tI (.bEL tI .bool)))) 1 (.Z 0)),(aI (.bEL tI (.bEL tI (.bEL tI (.bEL tI .bool)))) 2 (.Z 0)),(.p1 tI aL (.Z 13)),(aN (.bEL tI (.bEL tI (.bEL tI (.bEL tI .bool)))) 4 (.Z 0))]) <|
          .bEM (.ar .add .i64) (.bEN tI tI (.p1 tI aL (.Z 13)) (.ci .i64 1)) <|
          .bEO 0 (.bEN tI aL (.Z 20) (.Z 19))) (
          .call 3 (aY (.bEL aL (.bEL tI (.bEL tI (.bEL tI .bool)))) [(aN (.bEL tI aL) 1 (.Z 13)),(aI (.bEL tI (.bEL tI (.bEL tI (.bEL tI .bool)))) 1 (.Z 0)),(aI (.bEL tI (.bEL tI (.bEL tI (.bEL tI .bool)))) 2 (.Z 0)),(.p1 tI aL (.Z 13)),(aN (.bEL tI (.bEL tI (.bEL tI (.bEL tI .bool)))) 4 (.Z 0))]) <|
          .bEM (.ar .add .i64) (.bEN tI tI (.p1 tI aL (.Z 13)) (.ci .i64 1)) <|
          .bEO 0 (.bEN tI aL (.Z 18) (.Z 17)))) (
         .bEM (.lit 76 aD 1) (.bEN tI tI (.ci .i64 8) (.ci .i64 0)) <|
         .bEM (.bES 76 aD 16) (.bEN aL aL (aN (.bEL tI aL) 1 (.Z 13)) (.Z 15)) <|
         .ret (.Z 16)))))))
theorem bA4:bJ Tryz.prog [bM,pC,mX,qA] vC false 3000 ⟨[(2984,16011,jT 41 37++jT 35 15++[.dr 0,.tm 13 0,.on 11,.sl 1]),(2974,32013,jT 44 42++[.dr 13,.tm 14 0,.sl 1])],[]⟩ = .ok aGF:=by kernel_rfl
theorem bA3 (x:Int × (Int × (Int × (Int × Bool)))) (hx:okD (.bEL tI (.bEL tI (.bEL tI (.bEL tI .bool)))) x) (hp:(fun _=>True) x):aGF.wp [bM,pC,mX,qA] [⟨(.bEL tI (.bEL tI (.bEL tI (.bEL tI .bool)))),x⟩] [] (fun v=>v.as aL=(fun x=>wZ x.1 x.2.1 x.2.2.1 x.2.2.2.1 x.2.2.2.2) x):=by
  obtain ⟨ds,st,s,micro,r⟩:=x
  delta aGF bM pC mX qA;refine eE ?_;try with_reducible exact True.intro
  (repeat' first|intro _|(with_reducible apply And.intro))
  all_goals (try simp only[sS] at *)
  all_goals first|omega|exact bDP (fun h=>by rw[jD] at h;omega)|skip
  all_goals have hP:gL st s micro=true:=by first|assumption|exact xP (by omega)
  all_goals have hd:ds=1∨ds=2:=by omega
  all_goals have hb:=(jD _ _ _).1 hP
  all_goals have hw:=aY6 (ds:=ds) hP
  all_goals have hfin:=bCW (r:=r) ⟨hd,hP⟩
  all_goals generalize pW ds st s micro=W at *
  all_goals refine ⟨fun q=>∃ k:Nat,(k:Int)≤W∧q=((k:Int),aPI st s k),fun q=>W.toNat - (q.1:Int).toNat,⟨0,by omega,rfl⟩,fun q _ hI=>?_⟩
  all_goals obtain ⟨k,hk,rfl⟩:=hI
  all_goals dsimp only
  all_goals have l1:=aCR st s k
  all_goals have l2:=tC st s k
  all_goals refine ⟨fun hlt=>?_,fun hge=>?_⟩
  all_goals first
    | (have h0:(k:Int)<W:=hlt
       (repeat' first|intro _|(with_reducible apply And.intro))
       all_goals first|omega|(unfold maxLen;omega)|exact ⟨k+1,by omega,rfl⟩)
    | skip
  all_goals have hkW:k=W.toNat:=by omega
  all_goals refine ⟨fun q=>∃ j:Nat,(j:Int)≤micro∧q=((j:Int),sL st s micro W r j),fun q=>micro.toNat - (q.1:Int).toNat,⟨0,by omega,by rw[hkW];rfl⟩,fun q _ hI=>?_⟩
  all_goals obtain ⟨j,hj,rfl⟩:=hI
  all_goals dsimp only
  all_goals try rw[show W+(j:Int)=(j:Int)+W from Int.add_comm _ _]
  all_goals have l3:=aD0 st s micro W r j
  all_goals have l4:=tC st s ((j:Int)+W)
  all_goals have l5:=aJZ st s j r
  all_goals (repeat' first|intro _|(with_reducible apply And.intro))
  all_goals first
    | omega
    | (unfold maxLen;omega)
    | exact ⟨j+1,by omega,by rw[← bAY (by omega)];rfl⟩
    | exact ⟨j+1,by omega,by rw[← bBP (by omega)];rfl⟩
    | (have hj2:j=micro.toNat:=by omega
       rw[hj2]
       exact hfin)
theorem bAL:Con.Holds Tryz.prog vC:=aQ aR (aG iV (aG aST (aG aN2 (aG aQ5 aO)))) bA4 bA3
end
end Go.Proofs.YtdeobhdbmehpgaaGreat
