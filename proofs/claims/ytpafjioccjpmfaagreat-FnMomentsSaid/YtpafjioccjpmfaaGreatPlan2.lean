/- Plan2: lemmas. No conditions. -/
import Derived.Test.YtpafjioccjpmfaaGreatOps2
namespace Go.Proofs.YtpafjioccjpmfaaGreat
noncomputable section
set_option maxRecDepth 100000
open Go.ChangeShapes Go.WideShapes Go.ChangeAt Go.RowKit Go.Deep
set_option linter.unusedVariables false
set_option linter.unusedSimpArgs false
def sF (st s m:Int):List cP:=(if 0<s then [((1:Int),m)] else [])++([((2:Int),m)]++(if s<st - 1 then [((3:Int),m)] else []))
def aAL (st s m:Int) (redo:Bool):List cP:=(if s<st - 1 then [((4:Int),m)] else [])++((if redo=true then [((5:Int),m)] else [])++([((6:Int),m)]++(if 0<s then [((7:Int),m)] else [])))
def gL (st s micro:Int):Bool:=decide (1≤st∧st≤4∧0≤s∧s<st∧1≤micro∧micro≤5)
theorem gR (st s micro:Int):gL st s micro=true↔1≤st∧st≤4∧0≤s∧s<st∧1≤micro∧micro≤5:=by unfold gL;rw[decide_eq_true_eq]
def oL (ds st s micro:Int):Int:=if gL st s micro=true then (if ds=2 then min micro (st - 1 - s) else micro) else 0
def aOK (st s:Int):Nat→List cP
 | 0=>[]
 | k+1=>aOK st s k++sF st s k
def vB (st s micro w:Int) (redo:Bool):Nat→List cP
 | 0=>aOK st s w.toNat
 | k+1=>vB st s micro w redo k++((if (k:Int)+w<micro then sF st s ((k:Int)+w) else [])++aAL st s k redo)
def fU (ds st s micro:Int) (redo:Bool):List cP:=if (ds=1∨ds=2)∧gL st s micro=true then vB st s micro (oL ds st s micro) redo micro.toNat++[((8:Int),(0:Int))] else []
theorem oZ (st s m:Int):(sF st s m).length≤3:=by unfold sF;split <;> split <;> simp
theorem aGU (st s m:Int) (r:Bool):(aAL st s m r).length≤4:=by unfold aAL;split <;> split <;> split <;> simp
theorem aCH (st s:Int):(k:Nat)→(aOK st s k).length≤3 * k
 | 0=>Nat.le_refl _
 | k+1=>by
  have h1:=aCH st s k
  have h2:=oZ st s k
  unfold aOK
  rw[List.length_append];omega
theorem aCM (st s micro w:Int) (r:Bool):(k:Nat)→(vB st s micro w r k).length≤3 * w.toNat+7 * k
 | 0=>by have:=aCH st s w.toNat;unfold vB;omega
 | k+1=>by
  have h1:=aCM st s micro w r k
  have h2:=oZ st s ((k:Int)+w)
  have h3:=aGU st s k r
  unfold vB
  rw[List.length_append,List.length_append]
  split
  ·omega
  ·simp only[List.length_nil];omega
theorem bGR {ds st s micro:Int} (h:gL st s micro=false):0=oL ds st s micro:=by unfold oL;rw[if_neg (by rw[h];simp)]
theorem bJ2 {ds st s micro:Int} (h:gL st s micro=true) (hd:ds=2):min micro (st - 1 - s)=oL ds st s micro:=by unfold oL;rw[if_pos h,if_pos hd]
theorem bG6 {ds st s micro:Int} (h:gL st s micro=true) (hd:¬ ds=2):micro=oL ds st s micro:=by unfold oL;rw[if_pos h,if_neg hd]
theorem aPS {st s micro:Int} (h:¬ (1≤st∧st≤4∧0≤s∧s<st∧1≤micro∧micro≤5)):gL st s micro=false:=Bool.eq_false_iff.2 fun h'=>h ((gR _ _ _).1 h')
theorem wQ {st s micro:Int} (h:1≤st∧st≤4∧0≤s∧s<st∧1≤micro∧micro≤5):gL st s micro=true:=(gR _ _ _).2 h
theorem bIH {ds st s micro:Int} {r:Bool} (h:¬ ((ds=1∨ds=2)∧gL st s micro=true)):[]=fU ds st s micro r:=by unfold fU;rw[if_neg h]
theorem bK0 {ds st s micro:Int} {r:Bool} (h:(ds=1∨ds=2)∧gL st s micro=true):vB st s micro (oL ds st s micro) r micro.toNat++[((8:Int),(0:Int))]=fU ds st s micro r:=by unfold fU;rw[if_pos h]
theorem bA0 {ds st s micro:Int} (h:gL st s micro=true):0≤oL ds st s micro∧oL ds st s micro≤5:=by
 rw[gR] at h
 unfold oL
 rw[if_pos (wQ h)]
 split <;> omega
theorem bBP {st s micro w:Int} {r:Bool} {k:Nat} (h:((k:Int)+w<micro)):vB st s micro w r k++sF st s ((k:Int)+w)++aAL st s k r=vB st s micro w r (k+1):=by
 conv=>rhs;unfold vB
 rw[if_pos h,List.append_assoc]
theorem bBM {st s micro w:Int} {r:Bool} {k:Nat} (h:¬ ((k:Int)+w<micro)):vB st s micro w r k++aAL st s k r=vB st s micro w r (k+1):=by
 conv=>rhs;unfold vB
 rw[if_neg h,List.nil_append]
def jY:Con:=⟨66,(.bPW tI aD),.bool,[.val ⟨false,tI,[]⟩,.val ⟨false,tI,[]⟩,.val ⟨false,tI,[]⟩],[⟨false,.bool,[0]⟩],false,none,
 ((fun _=>True):(Int × cP)→Prop),
 ((fun x=>gL x.1 x.2.1 x.2.2):(Int × cP)→(Bool))⟩
def aAK:T :=
 .bPX (.cmp .geq .i64) (.bPY tI tI (.p1 tI aD (.Z 0)) (.ci .i64 1)) <|
 .ite (.Z 1) (
  .bPX (.cmp .leq .i64) (.bPY tI tI (.p1 tI aD (.Z 0)) (.ci .i64 4)) <|
  .ite (.Z 2) (
   .bPX (.cmp .geq .i64) (.bPY tI tI (aH (.bPW tI aD) 1 (.Z 0)) (.ci .i64 0)) <|
   .ite (.Z 3) (
    .bPX (.cmp .lss .i64) (.bPY tI tI (aH (.bPW tI aD) 1 (.Z 0)) (.p1 tI aD (.Z 0))) <|
    .ite (.Z 4) (
     .bPX (.cmp .geq .i64) (.bPY tI tI (aS (.bPW tI aD) 2 (.Z 0)) (.ci .i64 1)) <|
     .ite (.Z 5) (
      .bPX (.cmp .leq .i64) (.bPY tI tI (aS (.bPW tI aD) 2 (.Z 0)) (.ci .i64 5)) <|
      .ret (.Z 6)) (
      .ret (.cb false))) (
     .ret (.cb false))) (
    .ret (.cb false))) (
   .ret (.cb false))) (
  .ret (.cb false))
theorem aVA:bW Tryz.prog [] jY false 3000 ⟨[],[]⟩ = .ok aAK:=by kernel_rfl
theorem aUK (x:Int × cP) (hx:okD (.bPW tI aD) x) (hp:(fun _=>True) x):aAK.wp [] [⟨(.bPW tI aD),x⟩] [] (fun v=>v.as .bool=(fun x=>gL x.1 x.2.1 x.2.2) x):=by
 delta aAK;refine dY ?_;try with_reducible exact True.intro
 (repeat' first|intro _|(with_reducible apply And.intro))
 all_goals (try simp only[uP] at *)
 all_goals first|exact (aPS (by omega)).symm|skip
 rw[Bool.eq_iff_iff,gR]
 (refine eD ?_;try with_reducible exact True.intro)
 omega
theorem aI5:Con.Holds Tryz.prog jY:=aX aZ aT aVA aUK
def sN:Con:=⟨67,(.bPW tI (.bPW tI aD)),tI,[.val ⟨false,tI,[]⟩,.val ⟨false,tI,[]⟩,.val ⟨false,tI,[]⟩,.val ⟨false,tI,[]⟩],[⟨false,tI,[0]⟩],false,none,
 ((fun _=>True):(Int × (Int × cP))→Prop),
 ((fun x=>oL x.1 x.2.1 x.2.2.1 x.2.2.2):(Int × (Int × cP))→(Int))⟩
def aE7:T:=.call 0 (aS (.bPW tI (.bPW tI aD)) 1 (.Z 0)) <|
 .bPX .not (.Z 1) <|
 .ite (.Z 2) (
  .ret (.ci .i64 0)) (
  .bPX (.cmp .eql .i64) (.bPY tI tI (.p1 tI (.bPW tI aD) (.Z 0)) (.ci .i64 2)) <|
  .ite (.Z 3) (
   .bPX (.ar .sub .i64) (.bPY tI tI (aH (.bPW tI (.bPW tI aD)) 1 (.Z 0)) (.ci .i64 1)) <|
   .bPX (.ar .sub .i64) (.bPY tI tI (.Z 4) (aH (.bPW tI (.bPW tI aD)) 2 (.Z 0))) <|
   .bPX (.mn .i64) (.bPY tI tI (aS (.bPW tI (.bPW tI aD)) 3 (.Z 0)) (.Z 5)) <|
   .ret (.Z 6)) (
   .ret (aS (.bPW tI (.bPW tI aD)) 3 (.Z 0))))
theorem aZ8:bW Tryz.prog [jY] sN false 3000 ⟨[],[]⟩ = .ok aE7:=by kernel_rfl
theorem aZL (x:Int × (Int × cP)) (hx:okD (.bPW tI (.bPW tI aD)) x) (hp:(fun _=>True) x):aE7.wp [jY] [⟨(.bPW tI (.bPW tI aD)),x⟩] [] (fun v=>v.as tI=(fun x=>oL x.1 x.2.1 x.2.2.1 x.2.2.2) x):=by
 delta aE7 jY;refine dY ?_
 refine ⟨fun h=>?_,fun h=>?_⟩
 ·simp only[uP] at h;exact bGR h
 simp only[uP] at h
 have hb:=(gR _ _ _).1 h
 (repeat' first|intro _|(with_reducible apply And.intro))
 all_goals first|omega|skip
 ·exact bJ2 h (by simp only[uP] at *;omega)
 ·exact bG6 h (by simp only[uP] at *;omega)
theorem aY5:Con.Holds Tryz.prog sN:=aX aZ (aG aI5 aT) aZ8 aZL
def wS:Con:=⟨68,(.bPW tI aD),aR,[.val ⟨false,tI,[]⟩,.val ⟨false,tI,[]⟩,.val ⟨false,tI,[]⟩],[⟨false,aR,[2]⟩],false,none,
 ((fun x=>1≤x.1∧x.1≤4):(Int × cP)→Prop),
 ((fun x=>sF x.1 x.2.1 x.2.2):(Int × cP)→(List cP))⟩
def aH0:T :=
 .bPX (.cmp .gtr .i64) (.bPY tI tI (aH (.bPW tI aD) 1 (.Z 0)) (.ci .i64 0)) <|
 .ite (.Z 1) (
  .bPX (.lit 76 aD 1) (.bPY tI tI (.ci .i64 1) (aS (.bPW tI aD) 2 (.Z 0))) <|
  .bPX (.bQ3 76 aD 16) (.bPY aR aR (.nl 76 aD) (.Z 2)) <|
  .bPX (.lit 76 aD 1) (.bPY tI tI (.ci .i64 2) (aS (.bPW tI aD) 2 (.Z 0))) <|
  .bPX (.bQ3 76 aD 16) (.bPY aR aR (.Z 3) (.Z 4)) <|
  .bPX (.ar .sub .i64) (.bPY tI tI (.p1 tI aD (.Z 0)) (.ci .i64 1)) <|
  .bPX (.cmp .lss .i64) (.bPY tI tI (aH (.bPW tI aD) 1 (.Z 0)) (.Z 6)) <|
  .ite (.Z 7) (
   .bPX (.lit 76 aD 1) (.bPY tI tI (.ci .i64 3) (aS (.bPW tI aD) 2 (.Z 0))) <|
   .bPX (.bQ3 76 aD 16) (.bPY aR aR (.Z 5) (.Z 8)) <|
   .ret (.Z 9)) (
   .ret (.Z 5))) (
  .bPX (.lit 76 aD 1) (.bPY tI tI (.ci .i64 2) (aS (.bPW tI aD) 2 (.Z 0))) <|
  .bPX (.bQ3 76 aD 16) (.bPY aR aR (.nl 76 aD) (.Z 2)) <|
  .bPX (.ar .sub .i64) (.bPY tI tI (.p1 tI aD (.Z 0)) (.ci .i64 1)) <|
  .bPX (.cmp .lss .i64) (.bPY tI tI (aH (.bPW tI aD) 1 (.Z 0)) (.Z 4)) <|
  .ite (.Z 5) (
   .bPX (.lit 76 aD 1) (.bPY tI tI (.ci .i64 3) (aS (.bPW tI aD) 2 (.Z 0))) <|
   .bPX (.bQ3 76 aD 16) (.bPY aR aR (.Z 3) (.Z 6)) <|
   .ret (.Z 7)) (
   .ret (.Z 3)))
theorem bDJ:bW Tryz.prog [] wS false 3000 ⟨[],[]⟩ = .ok aH0:=by kernel_rfl
theorem bEG (x:Int × cP) (hx:okD (.bPW tI aD) x) (hp:(fun x=>1≤x.1∧x.1≤4) x):aH0.wp [] [⟨(.bPW tI aD),x⟩] [] (fun v=>v.as aR=(fun x=>sF x.1 x.2.1 x.2.2) x):=by
 have hp:1≤x.1∧x.1≤4:=hp
 delta aH0;refine dY ?_;try with_reducible exact True.intro
 (repeat' first|intro _|(with_reducible apply And.intro))
 all_goals (try simp only[uP] at *)
 all_goals first|omega|(unfold maxLen;omega)|skip
 all_goals (unfold sF;(repeat' split) <;> first|omega|(simp;done))
theorem bDL:Con.Holds Tryz.prog wS:=aX aZ aT bDJ bEG
def sV:Con:=⟨69,(.bPW tI (.bPW tI (.bPW tI .bool))),aR,[.val ⟨false,tI,[]⟩,.val ⟨false,tI,[]⟩,.val ⟨false,tI,[]⟩,.val ⟨false,.bool,[]⟩],[⟨false,aR,[2]⟩],false,none,
 ((fun x=>1≤x.1∧x.1≤4):(Int × (Int × (Int × Bool)))→Prop),
 ((fun x=>aAL x.1 x.2.1 x.2.2.1 x.2.2.2):(Int × (Int × (Int × Bool)))→(List cP))⟩
def aD7:T :=
 .bPX (.ar .sub .i64) (.bPY tI tI (.p1 tI (.bPW tI (.bPW tI .bool)) (.Z 0)) (.ci .i64 1)) <|
 .bPX (.cmp .lss .i64) (.bPY tI tI (aH (.bPW tI (.bPW tI (.bPW tI .bool))) 1 (.Z 0)) (.Z 1)) <|
 .ite (.Z 2) (
  .bPX (.lit 76 aD 1) (.bPY tI tI (.ci .i64 4) (aH (.bPW tI (.bPW tI (.bPW tI .bool))) 2 (.Z 0))) <|
  .bPX (.bQ3 76 aD 16) (.bPY aR aR (.nl 76 aD) (.Z 3)) <|
  .ite (aS (.bPW tI (.bPW tI (.bPW tI .bool))) 3 (.Z 0)) (
   .bPX (.lit 76 aD 1) (.bPY tI tI (.ci .i64 5) (aH (.bPW tI (.bPW tI (.bPW tI .bool))) 2 (.Z 0))) <|
   .bPX (.bQ3 76 aD 16) (.bPY aR aR (.Z 4) (.Z 5)) <|
   .bPX (.lit 76 aD 1) (.bPY tI tI (.ci .i64 6) (aH (.bPW tI (.bPW tI (.bPW tI .bool))) 2 (.Z 0))) <|
   .bPX (.bQ3 76 aD 16) (.bPY aR aR (.Z 6) (.Z 7)) <|
   .bPX (.cmp .gtr .i64) (.bPY tI tI (aH (.bPW tI (.bPW tI (.bPW tI .bool))) 1 (.Z 0)) (.ci .i64 0)) <|
   .ite (.Z 9) (
    .bPX (.lit 76 aD 1) (.bPY tI tI (.ci .i64 7) (aH (.bPW tI (.bPW tI (.bPW tI .bool))) 2 (.Z 0))) <|
    .bPX (.bQ3 76 aD 16) (.bPY aR aR (.Z 8) (.Z 10)) <|
    .ret (.Z 11)) (
    .ret (.Z 8))) (
   .bPX (.lit 76 aD 1) (.bPY tI tI (.ci .i64 6) (aH (.bPW tI (.bPW tI (.bPW tI .bool))) 2 (.Z 0))) <|
   .bPX (.bQ3 76 aD 16) (.bPY aR aR (.Z 4) (.Z 5)) <|
   .bPX (.cmp .gtr .i64) (.bPY tI tI (aH (.bPW tI (.bPW tI (.bPW tI .bool))) 1 (.Z 0)) (.ci .i64 0)) <|
   .ite (.Z 7) (
    .bPX (.lit 76 aD 1) (.bPY tI tI (.ci .i64 7) (aH (.bPW tI (.bPW tI (.bPW tI .bool))) 2 (.Z 0))) <|
    .bPX (.bQ3 76 aD 16) (.bPY aR aR (.Z 6) (.Z 8)) <|
    .ret (.Z 9)) (
    .ret (.Z 6)))) (
  .ite (aS (.bPW tI (.bPW tI (.bPW tI .bool))) 3 (.Z 0)) (
   .bPX (.lit 76 aD 1) (.bPY tI tI (.ci .i64 5) (aH (.bPW tI (.bPW tI (.bPW tI .bool))) 2 (.Z 0))) <|
   .bPX (.bQ3 76 aD 16) (.bPY aR aR (.nl 76 aD) (.Z 3)) <|
   .bPX (.lit 76 aD 1) (.bPY tI tI (.ci .i64 6) (aH (.bPW tI (.bPW tI (.bPW tI .bool))) 2 (.Z 0))) <|
   .bPX (.bQ3 76 aD 16) (.bPY aR aR (.Z 4) (.Z 5)) <|
   .bPX (.cmp .gtr .i64) (.bPY tI tI (aH (.bPW tI (.bPW tI (.bPW tI .bool))) 1 (.Z 0)) (.ci .i64 0)) <|
   .ite (.Z 7) (
    .bPX (.lit 76 aD 1) (.bPY tI tI (.ci .i64 7) (aH (.bPW tI (.bPW tI (.bPW tI .bool))) 2 (.Z 0))) <|
    .bPX (.bQ3 76 aD 16) (.bPY aR aR (.Z 6) (.Z 8)) <|
    .ret (.Z 9)) (
    .ret (.Z 6))) (
   .bPX (.lit 76 aD 1) (.bPY tI tI (.ci .i64 6) (aH (.bPW tI (.bPW tI (.bPW tI .bool))) 2 (.Z 0))) <|
   .bPX (.bQ3 76 aD 16) (.bPY aR aR (.nl 76 aD) (.Z 3)) <|
   .bPX (.cmp .gtr .i64) (.bPY tI tI (aH (.bPW tI (.bPW tI (.bPW tI .bool))) 1 (.Z 0)) (.ci .i64 0)) <|
   .ite (.Z 5) (
    .bPX (.lit 76 aD 1) (.bPY tI tI (.ci .i64 7) (aH (.bPW tI (.bPW tI (.bPW tI .bool))) 2 (.Z 0))) <|
    .bPX (.bQ3 76 aD 16) (.bPY aR aR (.Z 4) (.Z 6)) <|
    .ret (.Z 7)) (
    .ret (.Z 4))))
theorem aYY:bW Tryz.prog [] sV false 3000 ⟨[],[]⟩ = .ok aD7:=by kernel_rfl
theorem bAF (x:Int × (Int × (Int × Bool))) (hx:okD (.bPW tI (.bPW tI (.bPW tI .bool))) x) (hp:(fun x=>1≤x.1∧x.1≤4) x):aD7.wp [] [⟨(.bPW tI (.bPW tI (.bPW tI .bool))),x⟩] [] (fun v=>v.as aR=(fun x=>aAL x.1 x.2.1 x.2.2.1 x.2.2.2) x):=by
 have hp:1≤x.1∧x.1≤4:=hp
 delta aD7;refine dY ?_;try with_reducible exact True.intro
 (repeat' first|intro _|(with_reducible apply And.intro))
 all_goals (try simp only[uP] at *)
 all_goals first|omega|(unfold maxLen;omega)|skip
 all_goals (unfold aAL;(repeat' split) <;> first|omega|contradiction|(simp;done)|(simp_all;done))
theorem aZQ:Con.Holds Tryz.prog sV:=aX aZ aT aYY bAF
def kR:Con:=⟨39,(.bPW tI (.bPW tI (.bPW tI (.bPW tI .bool)))),aR,[.val ⟨false,tI,[]⟩,.val ⟨false,tI,[]⟩,.val ⟨false,tI,[]⟩,.val ⟨false,tI,[]⟩,.val ⟨false,.bool,[]⟩],[⟨false,aR,[2]⟩],false,none,
 ((fun _=>True):(Int × (Int × (Int × (Int × Bool))))→Prop),
 ((fun x=>fU x.1 x.2.1 x.2.2.1 x.2.2.2.1 x.2.2.2.2):(Int × (Int × (Int × (Int × Bool))))→(List cP))⟩
def aL0:T :=
 .bPX (.cmp .neq .i64) (.bPY tI tI (.p1 tI (.bPW tI (.bPW tI (.bPW tI .bool))) (.Z 0)) (.ci .i64 1)) <|
 .ite (.Z 1) (
  .bPX (.cmp .neq .i64) (.bPY tI tI (.p1 tI (.bPW tI (.bPW tI (.bPW tI .bool))) (.Z 0)) (.ci .i64 2)) <|
  .ite (.Z 2) (
   .ret (.nl 76 aD)) (
   .call 0 (bP (.bPW tI aD) [(aH (.bPW tI (.bPW tI (.bPW tI (.bPW tI .bool)))) 1 (.Z 0)),(aH (.bPW tI (.bPW tI (.bPW tI (.bPW tI .bool)))) 2 (.Z 0)),(aH (.bPW tI (.bPW tI (.bPW tI (.bPW tI .bool)))) 3 (.Z 0))]) <|
   .bPX .not (.Z 3) <|
   .ite (.Z 4) (
    .ret (.nl 76 aD)) (
    .call 1 (bP (.bPW tI (.bPW tI aD)) [(.p1 tI (.bPW tI (.bPW tI (.bPW tI .bool))) (.Z 0)),(aH (.bPW tI (.bPW tI (.bPW tI (.bPW tI .bool)))) 1 (.Z 0)),(aH (.bPW tI (.bPW tI (.bPW tI (.bPW tI .bool)))) 2 (.Z 0)),(aH (.bPW tI (.bPW tI (.bPW tI (.bPW tI .bool)))) 3 (.Z 0))]) <|
    .loop (.bPW tI aR) (.bPY tI aR (.ci .i64 0) (.nl 76 aD)) <|
     .bPX (.cmp .lss .i64) (.bPY tI tI (.p1 tI aR (.Z 6)) (.Z 5)) <|
     .ite (.Z 7) (
      .call 2 (bP (.bPW tI aD) [(aH (.bPW tI (.bPW tI (.bPW tI (.bPW tI .bool)))) 1 (.Z 0)),(aH (.bPW tI (.bPW tI (.bPW tI (.bPW tI .bool)))) 2 (.Z 0)),(.p1 tI aR (.Z 6))]) <|
      .bPX (.bQ3 76 aD 16) (.bPY aR aR (aS (.bPW tI aR) 1 (.Z 6)) (.Z 8)) <|
      .bPX (.ar .add .i64) (.bPY tI tI (.p1 tI aR (.Z 6)) (.ci .i64 1)) <|
      .bPZ 0 (.bPY tI aR (.Z 10) (.Z 9))) (
      .loop (.bPW tI aR) (.bPY tI aR (.ci .i64 0) (aS (.bPW tI aR) 1 (.Z 6))) <|
       .bPX (.cmp .lss .i64) (.bPY tI tI (.p1 tI aR (.Z 8)) (aH (.bPW tI (.bPW tI (.bPW tI (.bPW tI .bool)))) 3 (.Z 0))) <|
       .ite (.Z 9) (
        .bPX (.ar .add .i64) (.bPY tI tI (.p1 tI aR (.Z 8)) (.Z 5)) <|
        .bPX (.cmp .lss .i64) (.bPY tI tI (.Z 10) (aH (.bPW tI (.bPW tI (.bPW tI (.bPW tI .bool)))) 3 (.Z 0))) <|
        .ite (.Z 11) (
         .bPX (.ar .add .i64) (.bPY tI tI (.p1 tI aR (.Z 8)) (.Z 5)) <|
         .call 2 (bP (.bPW tI aD) [(aH (.bPW tI (.bPW tI (.bPW tI (.bPW tI .bool)))) 1 (.Z 0)),(aH (.bPW tI (.bPW tI (.bPW tI (.bPW tI .bool)))) 2 (.Z 0)),(.Z 12)]) <|
         .bPX (.bQ3 76 aD 16) (.bPY aR aR (aS (.bPW tI aR) 1 (.Z 8)) (.Z 13)) <|
         .call 3 (bP (.bPW tI (.bPW tI (.bPW tI .bool))) [(aH (.bPW tI (.bPW tI (.bPW tI (.bPW tI .bool)))) 1 (.Z 0)),(aH (.bPW tI (.bPW tI (.bPW tI (.bPW tI .bool)))) 2 (.Z 0)),(.p1 tI aR (.Z 8)),(aS (.bPW tI (.bPW tI (.bPW tI (.bPW tI .bool)))) 4 (.Z 0))]) <|
         .bPX (.bQ3 76 aD 16) (.bPY aR aR (.Z 14) (.Z 15)) <|
         .bPX (.ar .add .i64) (.bPY tI tI (.p1 tI aR (.Z 8)) (.ci .i64 1)) <|
         .bPZ 0 (.bPY tI aR (.Z 17) (.Z 16))) (
         .call 3 (bP (.bPW tI (.bPW tI (.bPW tI .bool))) [(aH (.bPW tI (.bPW tI (.bPW tI (.bPW tI .bool)))) 1 (.Z 0)),(aH (.bPW tI (.bPW tI (.bPW tI (.bPW tI .bool)))) 2 (.Z 0)),(.p1 tI aR (.Z 8)),(aS (.bPW tI (.bPW tI (.bPW tI (.bPW tI .bool)))) 4 (.Z 0))]) <|
         .bPX (.bQ3 76 aD 16) (.bPY aR aR (aS (.bPW tI aR) 1 (.Z 8)) (.Z 12)) <|
         .bPX (.ar .add .i64) (.bPY tI tI (.p1 tI aR (.Z 8)) (.ci .i64 1)) <|
         .bPZ 0 (.bPY tI aR (.Z 14) (.Z 13)))) (
        .bPX (.lit 76 aD 1) (.bPY tI tI (.ci .i64 8) (.ci .i64 0)) <|
        .bPX (.bQ3 76 aD 16) (.bPY aR aR (aS (.bPW tI aR) 1 (.Z 8)) (.Z 10)) <|
        .ret (.Z 11)))))) (
  .call 0 (bP (.bPW tI aD) [(aH (.bPW tI (.bPW tI (.bPW tI (.bPW tI .bool)))) 1 (.Z 0)),(aH (.bPW tI (.bPW tI (.bPW tI (.bPW tI .bool)))) 2 (.Z 0)),(aH (.bPW tI (.bPW tI (.bPW tI (.bPW tI .bool)))) 3 (.Z 0))]) <|
  .bPX .not (.Z 2) <|
  .ite (.Z 3) (
   .ret (.nl 76 aD)) (
   .call 1 (bP (.bPW tI (.bPW tI aD)) [(.p1 tI (.bPW tI (.bPW tI (.bPW tI .bool))) (.Z 0)),(aH (.bPW tI (.bPW tI (.bPW tI (.bPW tI .bool)))) 1 (.Z 0)),(aH (.bPW tI (.bPW tI (.bPW tI (.bPW tI .bool)))) 2 (.Z 0)),(aH (.bPW tI (.bPW tI (.bPW tI (.bPW tI .bool)))) 3 (.Z 0))]) <|
   .loop (.bPW tI aR) (.bPY tI aR (.ci .i64 0) (.nl 76 aD)) <|
    .bPX (.cmp .lss .i64) (.bPY tI tI (.p1 tI aR (.Z 5)) (.Z 4)) <|
    .ite (.Z 6) (
     .call 2 (bP (.bPW tI aD) [(aH (.bPW tI (.bPW tI (.bPW tI (.bPW tI .bool)))) 1 (.Z 0)),(aH (.bPW tI (.bPW tI (.bPW tI (.bPW tI .bool)))) 2 (.Z 0)),(.p1 tI aR (.Z 5))]) <|
     .bPX (.bQ3 76 aD 16) (.bPY aR aR (aS (.bPW tI aR) 1 (.Z 5)) (.Z 7)) <|
     .bPX (.ar .add .i64) (.bPY tI tI (.p1 tI aR (.Z 5)) (.ci .i64 1)) <|
     .bPZ 0 (.bPY tI aR (.Z 9) (.Z 8))) (
     .loop (.bPW tI aR) (.bPY tI aR (.ci .i64 0) (aS (.bPW tI aR) 1 (.Z 5))) <|
      .bPX (.cmp .lss .i64) (.bPY tI tI (.p1 tI aR (.Z 7)) (aH (.bPW tI (.bPW tI (.bPW tI (.bPW tI .bool)))) 3 (.Z 0))) <|
      .ite (.Z 8) (
       .bPX (.ar .add .i64) (.bPY tI tI (.p1 tI aR (.Z 7)) (.Z 4)) <|
       .bPX (.cmp .lss .i64) (.bPY tI tI (.Z 9) (aH (.bPW tI (.bPW tI (.bPW tI (.bPW tI .bool)))) 3 (.Z 0))) <|
       .ite (.Z 10) (
        .bPX (.ar .add .i64) (.bPY tI tI (.p1 tI aR (.Z 7)) (.Z 4)) <|
        .call 2 (bP (.bPW tI aD) [(aH (.bPW tI (.bPW tI (.bPW tI (.bPW tI .bool)))) 1 (.Z 0)),(aH (.bPW tI (.bPW tI (.bPW tI (.bPW tI .bool)))) 2 (.Z 0)),(.Z 11)]) <|
        .bPX (.bQ3 76 aD 16) (.bPY aR aR (aS (.bPW tI aR) 1 (.Z 7)) (.Z 12)) <|
        .call 3 (bP (.bPW tI (.bPW tI (.bPW tI .bool))) [(aH (.bPW tI (.bPW tI (.bPW tI (.bPW tI .bool)))) 1 (.Z 0)),(aH (.bPW tI (.bPW tI (.bPW tI (.bPW tI .bool)))) 2 (.Z 0)),(.p1 tI aR (.Z 7)),(aS (.bPW tI (.bPW tI (.bPW tI (.bPW tI .bool)))) 4 (.Z 0))]) <|
        .bPX (.bQ3 76 aD 16) (.bPY aR aR (.Z 13) (.Z 14)) <|
        .bPX (.ar .add .i64) (.bPY tI tI (.p1 tI aR (.Z 7)) (.ci .i64 1)) <|
        .bPZ 0 (.bPY tI aR (.Z 16) (.Z 15))) (
        .call 3 (bP (.bPW tI (.bPW tI (.bPW tI .bool))) [(aH (.bPW tI (.bPW tI (.bPW tI (.bPW tI .bool)))) 1 (.Z 0)),(aH (.bPW tI (.bPW tI (.bPW tI (.bPW tI .bool)))) 2 (.Z 0)),(.p1 tI aR (.Z 7)),(aS (.bPW tI (.bPW tI (.bPW tI (.bPW tI .bool)))) 4 (.Z 0))]) <|
        .bPX (.bQ3 76 aD 16) (.bPY aR aR (aS (.bPW tI aR) 1 (.Z 7)) (.Z 11)) <|
        .bPX (.ar .add .i64) (.bPY tI tI (.p1 tI aR (.Z 7)) (.ci .i64 1)) <|
        .bPZ 0 (.bPY tI aR (.Z 13) (.Z 12)))) (
       .bPX (.lit 76 aD 1) (.bPY tI tI (.ci .i64 8) (.ci .i64 0)) <|
       .bPX (.bQ3 76 aD 16) (.bPY aR aR (aS (.bPW tI aR) 1 (.Z 7)) (.Z 9)) <|
       .ret (.Z 10)))))
theorem bH9:bW Tryz.prog [jY,sN,wS,sV] kR false 3000 ⟨[(2984,9006,jV 33 15++[.dr 0,.tm 13 0,.on 12,.sl 1]),(2974,17008,jV 36 34++[.dr 13,.tm 14 0,.sl 1]),(2984,4005,jV 33 15++[.dr 0,.tm 13 0,.on 12,.sl 1]),(2974,8007,jV 36 34++[.dr 13,.tm 14 0,.sl 1])],[]⟩ = .ok aL0:=by kernel_rfl
theorem bHI (x:Int × (Int × (Int × (Int × Bool)))) (hx:okD (.bPW tI (.bPW tI (.bPW tI (.bPW tI .bool)))) x) (hp:(fun _=>True) x):aL0.wp [jY,sN,wS,sV] [⟨(.bPW tI (.bPW tI (.bPW tI (.bPW tI .bool)))),x⟩] [] (fun v=>v.as aR=(fun x=>fU x.1 x.2.1 x.2.2.1 x.2.2.2.1 x.2.2.2.2) x):=by
  obtain ⟨ds,st,s,micro,r⟩:=x
  delta aL0 jY sN wS sV;refine dY ?_;try with_reducible exact True.intro
  (repeat' first|intro _|(with_reducible apply And.intro))
  all_goals (try simp only[uP] at *)
  all_goals first|exact bIH (fun h=>by rcases h with ⟨h1|h1,h2⟩ <;> first|omega|(simp_all;done))|skip
  all_goals have hP:gL st s micro=true:=by first|assumption|exact wQ (by omega)
  all_goals have hd:ds=1∨ds=2:=by omega
  all_goals have hb:=(gR _ _ _).1 hP
  all_goals have hw:=bA0 (ds:=ds) hP
  all_goals have hfin:=bK0 (r:=r) ⟨hd,hP⟩
  all_goals generalize oL ds st s micro=W at *
  all_goals refine ⟨fun q=>∃ k:Nat,(k:Int)≤W∧q=((k:Int),aOK st s k),fun q=>W.toNat - (q.1:Int).toNat,⟨0,by omega,rfl⟩,fun q _ hI=>?_⟩
  all_goals obtain ⟨k,hk,rfl⟩:=hI
  all_goals dsimp only
  all_goals have l1:=aCH st s k
  all_goals have l2:=oZ st s k
  all_goals refine ⟨fun hlt=>?_,fun hge=>?_⟩
  all_goals first
    | (have h0:(k:Int)<W:=hlt
       (repeat' first|intro _|(with_reducible apply And.intro))
       all_goals first|omega|(unfold maxLen;omega)|exact ⟨k+1,by omega,rfl⟩)
    | skip
  all_goals have hkW:k=W.toNat:=by omega
  all_goals refine ⟨fun q=>∃ j:Nat,(j:Int)≤micro∧q=((j:Int),vB st s micro W r j),fun q=>micro.toNat - (q.1:Int).toNat,⟨0,by omega,by rw[hkW];rfl⟩,fun q _ hI=>?_⟩
  all_goals obtain ⟨j,hj,rfl⟩:=hI
  all_goals dsimp only
  all_goals try rw[show W+(j:Int)=(j:Int)+W from Int.add_comm _ _]
  all_goals have l3:=aCM st s micro W r j
  all_goals have l4:=oZ st s ((j:Int)+W)
  all_goals have l5:=aGU st s j r
  all_goals (repeat' first|intro _|(with_reducible apply And.intro))
  all_goals first
    | omega
    | (unfold maxLen;omega)
    | exact ⟨j+1,by omega,by rw[← bBP (by omega)];rfl⟩
    | exact ⟨j+1,by omega,by rw[← bBM (by omega)];rfl⟩
    | (have hj2:j=micro.toNat:=by omega
       rw[hj2]
       exact hfin)
theorem aL1:Con.Holds Tryz.prog kR:=aX aZ (aG aI5 (aG aY5 (aG bDL (aG aZQ aT)))) bH9 bHI
def sT:Con:=⟨33,(.bPW tI (.bPW tI aD)),tI,[.val ⟨false,tI,[]⟩,.val ⟨false,tI,[]⟩,.val ⟨false,tI,[]⟩,.val ⟨false,tI,[]⟩],[⟨false,tI,[0]⟩],false,none,
 ((fun _=>True):(Int × (Int × cP))→Prop),
 ((fun x=>oL x.1 x.2.1 x.2.2.1 x.2.2.2):(Int × (Int × cP))→(Int))⟩
def aDC:T:=.call 0 (bP (.bPW tI aD) [(aH (.bPW tI (.bPW tI aD)) 1 (.Z 0)),(.ci .i64 1),(.ci .i64 4)]) <|
 .bPX .not (.Z 1) <|
 .ite (.Z 2) (
  .ret (.ci .i64 0)) (
  .bPX (.ar .sub .i64) (.bPY tI tI (aH (.bPW tI (.bPW tI aD)) 1 (.Z 0)) (.ci .i64 1)) <|
  .call 0 (bP (.bPW tI aD) [(aH (.bPW tI (.bPW tI aD)) 2 (.Z 0)),(.ci .i64 0),(.Z 3)]) <|
  .bPX .not (.Z 4) <|
  .ite (.Z 5) (
   .ret (.ci .i64 0)) (
   .call 0 (bP (.bPW tI aD) [(aS (.bPW tI (.bPW tI aD)) 3 (.Z 0)),(.ci .i64 1),(.ci .i64 5)]) <|
   .bPX .not (.Z 6) <|
   .ite (.Z 7) (
    .ret (.ci .i64 0)) (
    .bPX (.cmp .eql .i64) (.bPY tI tI (.p1 tI (.bPW tI aD) (.Z 0)) (.ci .i64 2)) <|
    .ite (.Z 8) (
     .bPX (.ar .sub .i64) (.bPY tI tI (aH (.bPW tI (.bPW tI aD)) 1 (.Z 0)) (.ci .i64 1)) <|
     .bPX (.ar .sub .i64) (.bPY tI tI (.Z 9) (aH (.bPW tI (.bPW tI aD)) 2 (.Z 0))) <|
     .bPX (.mn .i64) (.bPY tI tI (aS (.bPW tI (.bPW tI aD)) 3 (.Z 0)) (.Z 10)) <|
     .ret (.Z 11)) (
     .ret (aS (.bPW tI (.bPW tI aD)) 3 (.Z 0))))))
theorem bAC:bW Tryz.prog [cJ] sT false 3000 ⟨[],[]⟩ = .ok aDC:=by kernel_rfl
theorem aZX (x:Int × (Int × cP)) (hx:okD (.bPW tI (.bPW tI aD)) x) (hp:(fun _=>True) x):aDC.wp [cJ] [⟨(.bPW tI (.bPW tI aD)),x⟩] [] (fun v=>v.as tI=(fun x=>oL x.1 x.2.1 x.2.2.1 x.2.2.2) x):=by
 delta aDC cJ;refine dY ?_;try with_reducible exact True.intro
 (repeat' first|intro _|(with_reducible apply And.intro))
 all_goals (try simp only[uP] at *)
 all_goals first|omega|exact bGR (aPS (by omega))|exact bJ2 (wQ (by omega)) (by omega)|exact bG6 (wQ (by omega)) (by omega)
theorem aYS:Con.Holds Tryz.prog sT:=aX aZ (aG kF aT) bAC aZX
def qT:Con:=⟨34,(.bPW aR (.bPW tI aD)),aR,[.val ⟨false,aR,[2]⟩,.val ⟨false,tI,[]⟩,.val ⟨false,tI,[]⟩,.val ⟨false,tI,[]⟩],[⟨false,aR,[2]⟩],false,none,
 ((fun x=>List.length x.1≤1000000∧1≤x.2.1∧x.2.1≤4):((List cP) × (Int × cP))→Prop),
 ((fun x=>x.1++sF x.2.1 x.2.2.1 x.2.2.2):((List cP) × (Int × cP))→(List cP))⟩
def aBK:T :=
 .bPX (.cmp .gtr .i64) (.bPY tI tI (aH (.bPW aR (.bPW tI aD)) 2 (.Z 0)) (.ci .i64 0)) <|
 .ite (.Z 1) (
  .bPX (.lit 76 aD 1) (.bPY tI tI (.ci .i64 1) (aS (.bPW aR (.bPW tI aD)) 3 (.Z 0))) <|
  .bPX (.bQ3 76 aD 16) (.bPY aR aR (.p1 aR (.bPW tI aD) (.Z 0)) (.Z 2)) <|
  .bPX (.lit 76 aD 1) (.bPY tI tI (.ci .i64 2) (aS (.bPW aR (.bPW tI aD)) 3 (.Z 0))) <|
  .bPX (.bQ3 76 aD 16) (.bPY aR aR (.Z 3) (.Z 4)) <|
  .bPX (.ar .sub .i64) (.bPY tI tI (aH (.bPW aR (.bPW tI aD)) 1 (.Z 0)) (.ci .i64 1)) <|
  .bPX (.cmp .lss .i64) (.bPY tI tI (aH (.bPW aR (.bPW tI aD)) 2 (.Z 0)) (.Z 6)) <|
  .ite (.Z 7) (
   .bPX (.lit 76 aD 1) (.bPY tI tI (.ci .i64 3) (aS (.bPW aR (.bPW tI aD)) 3 (.Z 0))) <|
   .bPX (.bQ3 76 aD 16) (.bPY aR aR (.Z 5) (.Z 8)) <|
   .ret (.Z 9)) (
   .ret (.Z 5))) (
  .bPX (.lit 76 aD 1) (.bPY tI tI (.ci .i64 2) (aS (.bPW aR (.bPW tI aD)) 3 (.Z 0))) <|
  .bPX (.bQ3 76 aD 16) (.bPY aR aR (.p1 aR (.bPW tI aD) (.Z 0)) (.Z 2)) <|
  .bPX (.ar .sub .i64) (.bPY tI tI (aH (.bPW aR (.bPW tI aD)) 1 (.Z 0)) (.ci .i64 1)) <|
  .bPX (.cmp .lss .i64) (.bPY tI tI (aH (.bPW aR (.bPW tI aD)) 2 (.Z 0)) (.Z 4)) <|
  .ite (.Z 5) (
   .bPX (.lit 76 aD 1) (.bPY tI tI (.ci .i64 3) (aS (.bPW aR (.bPW tI aD)) 3 (.Z 0))) <|
   .bPX (.bQ3 76 aD 16) (.bPY aR aR (.Z 3) (.Z 6)) <|
   .ret (.Z 7)) (
   .ret (.Z 3)))
theorem aTP:bW Tryz.prog [] qT false 3000 ⟨[],[]⟩ = .ok aBK:=by kernel_rfl
theorem aW3 (x:(List cP) × (Int × cP)) (hx:okD (.bPW aR (.bPW tI aD)) x) (hp:(fun x=>List.length x.1≤1000000∧1≤x.2.1∧x.2.1≤4) x):aBK.wp [] [⟨(.bPW aR (.bPW tI aD)),x⟩] [] (fun v=>v.as aR=(fun x=>x.1++sF x.2.1 x.2.2.1 x.2.2.2) x):=by
 have hp:List.length x.1≤1000000∧1≤x.2.1∧x.2.1≤4:=hp
 delta aBK;refine dY ?_;try with_reducible exact True.intro
 (repeat' first|intro _|(with_reducible apply And.intro))
 all_goals (try simp only[uP] at *)
 all_goals first|omega|(unfold maxLen;omega)|skip
 all_goals (unfold sF;(repeat' split) <;> first|omega|(simp;done))
theorem aW8:Con.Holds Tryz.prog qT:=aX aZ aT aTP aW3
def rW:Con:=⟨35,(.bPW aR (.bPW tI (.bPW tI (.bPW tI .bool)))),aR,[.val ⟨false,aR,[2]⟩,.val ⟨false,tI,[]⟩,.val ⟨false,tI,[]⟩,.val ⟨false,tI,[]⟩,.val ⟨false,.bool,[]⟩],[⟨false,aR,[2]⟩],false,none,
 ((fun x=>List.length x.1≤1000000∧1≤x.2.1∧x.2.1≤4):((List cP) × (Int × (Int × (Int × Bool))))→Prop),
 ((fun x=>x.1++aAL x.2.1 x.2.2.1 x.2.2.2.1 x.2.2.2.2):((List cP) × (Int × (Int × (Int × Bool))))→(List cP))⟩
def aDZ:T :=
 .bPX (.ar .sub .i64) (.bPY tI tI (aH (.bPW aR (.bPW tI (.bPW tI (.bPW tI .bool)))) 1 (.Z 0)) (.ci .i64 1)) <|
 .bPX (.cmp .lss .i64) (.bPY tI tI (aH (.bPW aR (.bPW tI (.bPW tI (.bPW tI .bool)))) 2 (.Z 0)) (.Z 1)) <|
 .ite (.Z 2) (
  .bPX (.lit 76 aD 1) (.bPY tI tI (.ci .i64 4) (aH (.bPW aR (.bPW tI (.bPW tI (.bPW tI .bool)))) 3 (.Z 0))) <|
  .bPX (.bQ3 76 aD 16) (.bPY aR aR (.p1 aR (.bPW tI (.bPW tI (.bPW tI .bool))) (.Z 0)) (.Z 3)) <|
  .ite (aS (.bPW aR (.bPW tI (.bPW tI (.bPW tI .bool)))) 4 (.Z 0)) (
   .bPX (.lit 76 aD 1) (.bPY tI tI (.ci .i64 5) (aH (.bPW aR (.bPW tI (.bPW tI (.bPW tI .bool)))) 3 (.Z 0))) <|
   .bPX (.bQ3 76 aD 16) (.bPY aR aR (.Z 4) (.Z 5)) <|
   .bPX (.lit 76 aD 1) (.bPY tI tI (.ci .i64 6) (aH (.bPW aR (.bPW tI (.bPW tI (.bPW tI .bool)))) 3 (.Z 0))) <|
   .bPX (.bQ3 76 aD 16) (.bPY aR aR (.Z 6) (.Z 7)) <|
   .bPX (.cmp .gtr .i64) (.bPY tI tI (aH (.bPW aR (.bPW tI (.bPW tI (.bPW tI .bool)))) 2 (.Z 0)) (.ci .i64 0)) <|
   .ite (.Z 9) (
    .bPX (.lit 76 aD 1) (.bPY tI tI (.ci .i64 7) (aH (.bPW aR (.bPW tI (.bPW tI (.bPW tI .bool)))) 3 (.Z 0))) <|
    .bPX (.bQ3 76 aD 16) (.bPY aR aR (.Z 8) (.Z 10)) <|
    .ret (.Z 11)) (
    .ret (.Z 8))) (
   .bPX (.lit 76 aD 1) (.bPY tI tI (.ci .i64 6) (aH (.bPW aR (.bPW tI (.bPW tI (.bPW tI .bool)))) 3 (.Z 0))) <|
   .bPX (.bQ3 76 aD 16) (.bPY aR aR (.Z 4) (.Z 5)) <|
   .bPX (.cmp .gtr .i64) (.bPY tI tI (aH (.bPW aR (.bPW tI (.bPW tI (.bPW tI .bool)))) 2 (.Z 0)) (.ci .i64 0)) <|
   .ite (.Z 7) (
    .bPX (.lit 76 aD 1) (.bPY tI tI (.ci .i64 7) (aH (.bPW aR (.bPW tI (.bPW tI (.bPW tI .bool)))) 3 (.Z 0))) <|
    .bPX (.bQ3 76 aD 16) (.bPY aR aR (.Z 6) (.Z 8)) <|
    .ret (.Z 9)) (
    .ret (.Z 6)))) (
  .ite (aS (.bPW aR (.bPW tI (.bPW tI (.bPW tI .bool)))) 4 (.Z 0)) (
   .bPX (.lit 76 aD 1) (.bPY tI tI (.ci .i64 5) (aH (.bPW aR (.bPW tI (.bPW tI (.bPW tI .bool)))) 3 (.Z 0))) <|
   .bPX (.bQ3 76 aD 16) (.bPY aR aR (.p1 aR (.bPW tI (.bPW tI (.bPW tI .bool))) (.Z 0)) (.Z 3)) <|
   .bPX (.lit 76 aD 1) (.bPY tI tI (.ci .i64 6) (aH (.bPW aR (.bPW tI (.bPW tI (.bPW tI .bool)))) 3 (.Z 0))) <|
   .bPX (.bQ3 76 aD 16) (.bPY aR aR (.Z 4) (.Z 5)) <|
   .bPX (.cmp .gtr .i64) (.bPY tI tI (aH (.bPW aR (.bPW tI (.bPW tI (.bPW tI .bool)))) 2 (.Z 0)) (.ci .i64 0)) <|
   .ite (.Z 7) (
    .bPX (.lit 76 aD 1) (.bPY tI tI (.ci .i64 7) (aH (.bPW aR (.bPW tI (.bPW tI (.bPW tI .bool)))) 3 (.Z 0))) <|
    .bPX (.bQ3 76 aD 16) (.bPY aR aR (.Z 6) (.Z 8)) <|
    .ret (.Z 9)) (
    .ret (.Z 6))) (
   .bPX (.lit 76 aD 1) (.bPY tI tI (.ci .i64 6) (aH (.bPW aR (.bPW tI (.bPW tI (.bPW tI .bool)))) 3 (.Z 0))) <|
   .bPX (.bQ3 76 aD 16) (.bPY aR aR (.p1 aR (.bPW tI (.bPW tI (.bPW tI .bool))) (.Z 0)) (.Z 3)) <|
   .bPX (.cmp .gtr .i64) (.bPY tI tI (aH (.bPW aR (.bPW tI (.bPW tI (.bPW tI .bool)))) 2 (.Z 0)) (.ci .i64 0)) <|
   .ite (.Z 5) (
    .bPX (.lit 76 aD 1) (.bPY tI tI (.ci .i64 7) (aH (.bPW aR (.bPW tI (.bPW tI (.bPW tI .bool)))) 3 (.Z 0))) <|
    .bPX (.bQ3 76 aD 16) (.bPY aR aR (.Z 4) (.Z 6)) <|
    .ret (.Z 7)) (
    .ret (.Z 4))))
theorem aY6:bW Tryz.prog [] rW false 3000 ⟨[],[]⟩ = .ok aDZ:=by kernel_rfl
theorem aYN (x:(List cP) × (Int × (Int × (Int × Bool)))) (hx:okD (.bPW aR (.bPW tI (.bPW tI (.bPW tI .bool)))) x) (hp:(fun x=>List.length x.1≤1000000∧1≤x.2.1∧x.2.1≤4) x):aDZ.wp [] [⟨(.bPW aR (.bPW tI (.bPW tI (.bPW tI .bool)))),x⟩] [] (fun v=>v.as aR=(fun x=>x.1++aAL x.2.1 x.2.2.1 x.2.2.2.1 x.2.2.2.2) x):=by
 have hp:List.length x.1≤1000000∧1≤x.2.1∧x.2.1≤4:=hp
 delta aDZ;refine dY ?_;try with_reducible exact True.intro
 (repeat' first|intro _|(with_reducible apply And.intro))
 all_goals (try simp only[uP] at *)
 all_goals first|omega|(unfold maxLen;omega)|skip
 all_goals (unfold aAL;(repeat' split) <;> first|omega|contradiction|(simp;done)|(simp_all;done))
theorem bA4:Con.Holds Tryz.prog rW:=aX aZ aT aY6 aYN
def qE:Con:=⟨9,(.bPW tI (.bPW tI (.bPW tI (.bPW tI .bool)))),aR,[.val ⟨false,tI,[]⟩,.val ⟨false,tI,[]⟩,.val ⟨false,tI,[]⟩,.val ⟨false,tI,[]⟩,.val ⟨false,.bool,[]⟩],[⟨false,aR,[2]⟩],false,none,
 ((fun _=>True):(Int × (Int × (Int × (Int × Bool))))→Prop),
 ((fun x=>fU x.1 x.2.1 x.2.2.1 x.2.2.2.1 x.2.2.2.2):(Int × (Int × (Int × (Int × Bool))))→(List cP))⟩
def aL4:T:=.call 0 (bP (.bPW tI aD) [(.p1 tI (.bPW tI (.bPW tI (.bPW tI .bool))) (.Z 0)),(.ci .i64 1),(.ci .i64 2)]) <|
 .bPX .not (.Z 1) <|
 .ite (.Z 2) (
  .ret (.nl 76 aD)) (
  .call 0 (bP (.bPW tI aD) [(aH (.bPW tI (.bPW tI (.bPW tI (.bPW tI .bool)))) 1 (.Z 0)),(.ci .i64 1),(.ci .i64 4)]) <|
  .bPX .not (.Z 3) <|
  .ite (.Z 4) (
   .ret (.nl 76 aD)) (
   .bPX (.ar .sub .i64) (.bPY tI tI (aH (.bPW tI (.bPW tI (.bPW tI (.bPW tI .bool)))) 1 (.Z 0)) (.ci .i64 1)) <|
   .call 0 (bP (.bPW tI aD) [(aH (.bPW tI (.bPW tI (.bPW tI (.bPW tI .bool)))) 2 (.Z 0)),(.ci .i64 0),(.Z 5)]) <|
   .bPX .not (.Z 6) <|
   .ite (.Z 7) (
    .ret (.nl 76 aD)) (
    .call 0 (bP (.bPW tI aD) [(aH (.bPW tI (.bPW tI (.bPW tI (.bPW tI .bool)))) 3 (.Z 0)),(.ci .i64 1),(.ci .i64 5)]) <|
    .bPX .not (.Z 8) <|
    .ite (.Z 9) (
     .ret (.nl 76 aD)) (
     .call 1 (bP (.bPW tI (.bPW tI aD)) [(.p1 tI (.bPW tI (.bPW tI (.bPW tI .bool))) (.Z 0)),(aH (.bPW tI (.bPW tI (.bPW tI (.bPW tI .bool)))) 1 (.Z 0)),(aH (.bPW tI (.bPW tI (.bPW tI (.bPW tI .bool)))) 2 (.Z 0)),(aH (.bPW tI (.bPW tI (.bPW tI (.bPW tI .bool)))) 3 (.Z 0))]) <|
     .loop (.bPW tI aR) (.bPY tI aR (.ci .i64 0) (.nl 76 aD)) <|
      .bPX (.cmp .lss .i64) (.bPY tI tI (.p1 tI aR (.Z 11)) (.Z 10)) <|
      .ite (.Z 12) (
       .call 2 (bP (.bPW aR (.bPW tI aD)) [(aS (.bPW tI aR) 1 (.Z 11)),(aH (.bPW tI (.bPW tI (.bPW tI (.bPW tI .bool)))) 1 (.Z 0)),(aH (.bPW tI (.bPW tI (.bPW tI (.bPW tI .bool)))) 2 (.Z 0)),(.p1 tI aR (.Z 11))]) <|
       .bPX (.ar .add .i64) (.bPY tI tI (.p1 tI aR (.Z 11)) (.ci .i64 1)) <|
       .bPZ 0 (.bPY tI aR (.Z 14) (.Z 13))) (
       .loop (.bPW tI aR) (.bPY tI aR (.ci .i64 0) (aS (.bPW tI aR) 1 (.Z 11))) <|
        .bPX (.cmp .lss .i64) (.bPY tI tI (.p1 tI aR (.Z 13)) (aH (.bPW tI (.bPW tI (.bPW tI (.bPW tI .bool)))) 3 (.Z 0))) <|
        .ite (.Z 14) (
         .bPX (.ar .add .i64) (.bPY tI tI (.Z 10) (.p1 tI aR (.Z 13))) <|
         .bPX (.cmp .lss .i64) (.bPY tI tI (.Z 15) (aH (.bPW tI (.bPW tI (.bPW tI (.bPW tI .bool)))) 3 (.Z 0))) <|
         .ite (.Z 16) (
          .bPX (.ar .add .i64) (.bPY tI tI (.Z 10) (.p1 tI aR (.Z 13))) <|
          .call 2 (bP (.bPW aR (.bPW tI aD)) [(aS (.bPW tI aR) 1 (.Z 13)),(aH (.bPW tI (.bPW tI (.bPW tI (.bPW tI .bool)))) 1 (.Z 0)),(aH (.bPW tI (.bPW tI (.bPW tI (.bPW tI .bool)))) 2 (.Z 0)),(.Z 17)]) <|
          .call 3 (bP (.bPW aR (.bPW tI (.bPW tI (.bPW tI .bool)))) [(.Z 18),(aH (.bPW tI (.bPW tI (.bPW tI (.bPW tI .bool)))) 1 (.Z 0)),(aH (.bPW tI (.bPW tI (.bPW tI (.bPW tI .bool)))) 2 (.Z 0)),(.p1 tI aR (.Z 13)),(aS (.bPW tI (.bPW tI (.bPW tI (.bPW tI .bool)))) 4 (.Z 0))]) <|
          .bPX (.ar .add .i64) (.bPY tI tI (.p1 tI aR (.Z 13)) (.ci .i64 1)) <|
          .bPZ 0 (.bPY tI aR (.Z 20) (.Z 19))) (
          .call 3 (bP (.bPW aR (.bPW tI (.bPW tI (.bPW tI .bool)))) [(aS (.bPW tI aR) 1 (.Z 13)),(aH (.bPW tI (.bPW tI (.bPW tI (.bPW tI .bool)))) 1 (.Z 0)),(aH (.bPW tI (.bPW tI (.bPW tI (.bPW tI .bool)))) 2 (.Z 0)),(.p1 tI aR (.Z 13)),(aS (.bPW tI (.bPW tI (.bPW tI (.bPW tI .bool)))) 4 (.Z 0))]) <|
          .bPX (.ar .add .i64) (.bPY tI tI (.p1 tI aR (.Z 13)) (.ci .i64 1)) <|
          .bPZ 0 (.bPY tI aR (.Z 18) (.Z 17)))) (
         .bPX (.lit 76 aD 1) (.bPY tI tI (.ci .i64 8) (.ci .i64 0)) <|
         .bPX (.bQ3 76 aD 16) (.bPY aR aR (aS (.bPW tI aR) 1 (.Z 13)) (.Z 15)) <|
         .ret (.Z 16)))))))
theorem bJM:bW Tryz.prog [cJ,sT,qT,rW] qE false 3000 ⟨[(2984,16011,jV 41 37++jV 35 15++[.dr 0,.tm 13 0,.on 11,.sl 1]),(2974,32013,jV 44 42++[.dr 13,.tm 14 0,.sl 1])],[]⟩ = .ok aL4:=by kernel_rfl
theorem bGT (x:Int × (Int × (Int × (Int × Bool)))) (hx:okD (.bPW tI (.bPW tI (.bPW tI (.bPW tI .bool)))) x) (hp:(fun _=>True) x):aL4.wp [cJ,sT,qT,rW] [⟨(.bPW tI (.bPW tI (.bPW tI (.bPW tI .bool)))),x⟩] [] (fun v=>v.as aR=(fun x=>fU x.1 x.2.1 x.2.2.1 x.2.2.2.1 x.2.2.2.2) x):=by
  obtain ⟨ds,st,s,micro,r⟩:=x
  delta aL4 cJ sT qT rW;refine dY ?_;try with_reducible exact True.intro
  (repeat' first|intro _|(with_reducible apply And.intro))
  all_goals (try simp only[uP] at *)
  all_goals first|omega|exact bIH (fun h=>by rw[gR] at h;omega)|skip
  all_goals have hP:gL st s micro=true:=by first|assumption|exact wQ (by omega)
  all_goals have hd:ds=1∨ds=2:=by omega
  all_goals have hb:=(gR _ _ _).1 hP
  all_goals have hw:=bA0 (ds:=ds) hP
  all_goals have hfin:=bK0 (r:=r) ⟨hd,hP⟩
  all_goals generalize oL ds st s micro=W at *
  all_goals refine ⟨fun q=>∃ k:Nat,(k:Int)≤W∧q=((k:Int),aOK st s k),fun q=>W.toNat - (q.1:Int).toNat,⟨0,by omega,rfl⟩,fun q _ hI=>?_⟩
  all_goals obtain ⟨k,hk,rfl⟩:=hI
  all_goals dsimp only
  all_goals have l1:=aCH st s k
  all_goals have l2:=oZ st s k
  all_goals refine ⟨fun hlt=>?_,fun hge=>?_⟩
  all_goals first
    | (have h0:(k:Int)<W:=hlt
       (repeat' first|intro _|(with_reducible apply And.intro))
       all_goals first|omega|(unfold maxLen;omega)|exact ⟨k+1,by omega,rfl⟩)
    | skip
  all_goals have hkW:k=W.toNat:=by omega
  all_goals refine ⟨fun q=>∃ j:Nat,(j:Int)≤micro∧q=((j:Int),vB st s micro W r j),fun q=>micro.toNat - (q.1:Int).toNat,⟨0,by omega,by rw[hkW];rfl⟩,fun q _ hI=>?_⟩
  all_goals obtain ⟨j,hj,rfl⟩:=hI
  all_goals dsimp only
  all_goals try rw[show W+(j:Int)=(j:Int)+W from Int.add_comm _ _]
  all_goals have l3:=aCM st s micro W r j
  all_goals have l4:=oZ st s ((j:Int)+W)
  all_goals have l5:=aGU st s j r
  all_goals (repeat' first|intro _|(with_reducible apply And.intro))
  all_goals first
    | omega
    | (unfold maxLen;omega)
    | exact ⟨j+1,by omega,by rw[← bBP (by omega)];rfl⟩
    | exact ⟨j+1,by omega,by rw[← bBM (by omega)];rfl⟩
    | (have hj2:j=micro.toNat:=by omega
       rw[hj2]
       exact hfin)
theorem aVS:Con.Holds Tryz.prog qE:=aX aZ (aG kF (aG aYS (aG aW8 (aG bA4 aT)))) bJM bGT
end
end Go.Proofs.YtpafjioccjpmfaaGreat
