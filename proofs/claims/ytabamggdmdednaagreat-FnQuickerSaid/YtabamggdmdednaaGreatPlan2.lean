/- Plan2: lemmas. No conditions. -/
import Derived.Test.YtabamggdmdednaaGreatOps2
namespace Go.Proofs.YtabamggdmdednaaGreat
noncomputable section
set_option maxRecDepth 100000
open Go.ChangeShapes Go.WideShapes Go.ChangeAt Go.RowKit Go.Deep
set_option linter.unusedVariables false
set_option linter.unusedSimpArgs false
def uO (st s m:Int):List fX:=(if 0<s then [((1:Int),m)] else [])++([((2:Int),m)]++(if s<st - 1 then [((3:Int),m)] else []))
def aB0 (st s m:Int) (redo:Bool):List fX:=(if s<st - 1 then [((4:Int),m)] else [])++((if redo=true then [((5:Int),m)] else [])++([((6:Int),m)]++(if 0<s then [((7:Int),m)] else [])))
def gP (st s micro:Int):Bool:=decide (1≤st∧st≤4∧0≤s∧s<st∧1≤micro∧micro≤5)
theorem gV (st s micro:Int):gP st s micro=true↔1≤st∧st≤4∧0≤s∧s<st∧1≤micro∧micro≤5:=by unfold gP;rw[decide_eq_true_eq]
def pD (ds st s micro:Int):Int:=if gP st s micro=true then (if ds=2 then min micro (st - 1 - s) else micro) else 0
def aRV (st s:Int):Nat→List fX
 | 0=>[]
 | k+1=>aRV st s k++uO st s k
def vG (st s micro w:Int) (redo:Bool):Nat→List fX
 | 0=>aRV st s w.toNat
 | k+1=>vG st s micro w redo k++((if (k:Int)+w<micro then uO st s ((k:Int)+w) else [])++aB0 st s k redo)
def aAG (ds st s micro:Int) (redo:Bool):List fX:=if (ds=1∨ds=2)∧gP st s micro=true then vG st s micro (pD ds st s micro) redo micro.toNat++[((8:Int),(0:Int))] else []
theorem pN (st s m:Int):(uO st s m).length≤3:=by unfold uO;split <;> split <;> simp
theorem aI8 (st s m:Int) (r:Bool):(aB0 st s m r).length≤4:=by unfold aB0;split <;> split <;> split <;> simp
theorem aDC (st s:Int):(k:Nat)→(aRV st s k).length≤3 * k
 | 0=>Nat.le_refl _
 | k+1=>by
  have h1:=aDC st s k
  have h2:=pN st s k
  unfold aRV
  rw[List.length_append];omega
theorem aDW (st s micro w:Int) (r:Bool):(k:Nat)→(vG st s micro w r k).length≤3 * w.toNat+7 * k
 | 0=>by have:=aDC st s w.toNat;unfold vG;omega
 | k+1=>by
  have h1:=aDW st s micro w r k
  have h2:=pN st s ((k:Int)+w)
  have h3:=aI8 st s k r
  unfold vG
  rw[List.length_append,List.length_append]
  split
  ·omega
  ·simp only[List.length_nil];omega
theorem bMP {ds st s micro:Int} (h:gP st s micro=false):0=pD ds st s micro:=by unfold pD;rw[if_neg (by rw[h];simp)]
theorem bMK {ds st s micro:Int} (h:gP st s micro=true) (hd:ds=2):min micro (st - 1 - s)=pD ds st s micro:=by unfold pD;rw[if_pos h,if_pos hd]
theorem bL9 {ds st s micro:Int} (h:gP st s micro=true) (hd:¬ ds=2):micro=pD ds st s micro:=by unfold pD;rw[if_pos h,if_neg hd]
theorem aQQ {st s micro:Int} (h:¬ (1≤st∧st≤4∧0≤s∧s<st∧1≤micro∧micro≤5)):gP st s micro=false:=Bool.eq_false_iff.2 fun h'=>h ((gV _ _ _).1 h')
theorem xX {st s micro:Int} (h:1≤st∧st≤4∧0≤s∧s<st∧1≤micro∧micro≤5):gP st s micro=true:=(gV _ _ _).2 h
theorem bLH {ds st s micro:Int} {r:Bool} (h:¬ ((ds=1∨ds=2)∧gP st s micro=true)):[]=aAG ds st s micro r:=by unfold aAG;rw[if_neg h]
theorem bLF {ds st s micro:Int} {r:Bool} (h:(ds=1∨ds=2)∧gP st s micro=true):vG st s micro (pD ds st s micro) r micro.toNat++[((8:Int),(0:Int))]=aAG ds st s micro r:=by unfold aAG;rw[if_pos h]
theorem bD3 {ds st s micro:Int} (h:gP st s micro=true):0≤pD ds st s micro∧pD ds st s micro≤5:=by
 rw[gV] at h
 unfold pD
 rw[if_pos (xX h)]
 split <;> omega
theorem bFL {st s micro w:Int} {r:Bool} {k:Nat} (h:((k:Int)+w<micro)):vG st s micro w r k++uO st s ((k:Int)+w)++aB0 st s k r=vG st s micro w r (k+1):=by
 conv=>rhs;unfold vG
 rw[if_pos h,List.append_assoc]
theorem bG3 {st s micro w:Int} {r:Bool} {k:Nat} (h:¬ ((k:Int)+w<micro)):vG st s micro w r k++aB0 st s k r=vG st s micro w r (k+1):=by
 conv=>rhs;unfold vG
 rw[if_neg h,List.nil_append]
def kB:Con:=⟨54,(.bRW tI aD),.bool,[.val ⟨false,tI,[]⟩,.val ⟨false,tI,[]⟩,.val ⟨false,tI,[]⟩],[⟨false,.bool,[0]⟩],false,none,
 ((fun _=>True):(Int × fX)→Prop),
 ((fun x=>gP x.1 x.2.1 x.2.2):(Int × fX)→(Bool))⟩
def aAH:T :=
 .bRX (.cmp .geq .i64) (.bRY tI tI (.p1 tI aD (.Z 0)) (.ci .i64 1)) <|
 .ite (.Z 1) (
  .bRX (.cmp .leq .i64) (.bRY tI tI (.p1 tI aD (.Z 0)) (.ci .i64 4)) <|
  .ite (.Z 2) (
   .bRX (.cmp .geq .i64) (.bRY tI tI (aK (.bRW tI aD) 1 (.Z 0)) (.ci .i64 0)) <|
   .ite (.Z 3) (
    .bRX (.cmp .lss .i64) (.bRY tI tI (aK (.bRW tI aD) 1 (.Z 0)) (.p1 tI aD (.Z 0))) <|
    .ite (.Z 4) (
     .bRX (.cmp .geq .i64) (.bRY tI tI (aP (.bRW tI aD) 2 (.Z 0)) (.ci .i64 1)) <|
     .ite (.Z 5) (
      .bRX (.cmp .leq .i64) (.bRY tI tI (aP (.bRW tI aD) 2 (.Z 0)) (.ci .i64 5)) <|
      .ret (.Z 6)) (
      .ret (.cb false))) (
     .ret (.cb false))) (
    .ret (.cb false))) (
   .ret (.cb false))) (
  .ret (.cb false))
theorem aWI:bI Tryz.prog [] kB false 3000 ⟨[],[]⟩ = .ok aAH:=by kernel_rfl
theorem aXM (x:Int × fX) (hx:okD (.bRW tI aD) x) (hp:(fun _=>True) x):aAH.wp [] [⟨(.bRW tI aD),x⟩] [] (fun v=>v.as .bool=(fun x=>gP x.1 x.2.1 x.2.2) x):=by
 delta aAH;refine cW ?_;try with_reducible exact True.intro
 (repeat' first|intro _|(with_reducible apply And.intro))
 all_goals (try simp only[mG] at *)
 all_goals first|exact (aQQ (by omega)).symm|skip
 rw[Bool.eq_iff_iff,gV]
 (refine dB ?_;try with_reducible exact True.intro)
 omega
theorem aKG:Con.Holds Tryz.prog kB:=aS aV aQ aWI aXM
def tX:Con:=⟨55,(.bRW tI (.bRW tI aD)),tI,[.val ⟨false,tI,[]⟩,.val ⟨false,tI,[]⟩,.val ⟨false,tI,[]⟩,.val ⟨false,tI,[]⟩],[⟨false,tI,[0]⟩],false,none,
 ((fun _=>True):(Int × (Int × fX))→Prop),
 ((fun x=>pD x.1 x.2.1 x.2.2.1 x.2.2.2):(Int × (Int × fX))→(Int))⟩
def aGH:T:=.call 0 (aP (.bRW tI (.bRW tI aD)) 1 (.Z 0)) <|
 .bRX .not (.Z 1) <|
 .ite (.Z 2) (
  .ret (.ci .i64 0)) (
  .bRX (.cmp .eql .i64) (.bRY tI tI (.p1 tI (.bRW tI aD) (.Z 0)) (.ci .i64 2)) <|
  .ite (.Z 3) (
   .bRX (.ar .sub .i64) (.bRY tI tI (aK (.bRW tI (.bRW tI aD)) 1 (.Z 0)) (.ci .i64 1)) <|
   .bRX (.ar .sub .i64) (.bRY tI tI (.Z 4) (aK (.bRW tI (.bRW tI aD)) 2 (.Z 0))) <|
   .bRX (.mn .i64) (.bRY tI tI (aP (.bRW tI (.bRW tI aD)) 3 (.Z 0)) (.Z 5)) <|
   .ret (.Z 6)) (
   .ret (aP (.bRW tI (.bRW tI aD)) 3 (.Z 0))))
theorem bE0:bI Tryz.prog [kB] tX false 3000 ⟨[],[]⟩ = .ok aGH:=by kernel_rfl
theorem bBZ (x:Int × (Int × fX)) (hx:okD (.bRW tI (.bRW tI aD)) x) (hp:(fun _=>True) x):aGH.wp [kB] [⟨(.bRW tI (.bRW tI aD)),x⟩] [] (fun v=>v.as tI=(fun x=>pD x.1 x.2.1 x.2.2.1 x.2.2.2) x):=by
 delta aGH kB;refine cW ?_
 refine ⟨fun h=>?_,fun h=>?_⟩
 ·simp only[mG] at h;exact bMP h
 simp only[mG] at h
 have hb:=(gV _ _ _).1 h
 (repeat' first|intro _|(with_reducible apply And.intro))
 all_goals first|omega|skip
 ·exact bMK h (by simp only[mG] at *;omega)
 ·exact bL9 h (by simp only[mG] at *;omega)
theorem bCX:Con.Holds Tryz.prog tX:=aS aV (aI aKG aQ) bE0 bBZ
def xR:Con:=⟨56,(.bRW tI aD),aU,[.val ⟨false,tI,[]⟩,.val ⟨false,tI,[]⟩,.val ⟨false,tI,[]⟩],[⟨false,aU,[2]⟩],false,none,
 ((fun x=>1≤x.1∧x.1≤4):(Int × fX)→Prop),
 ((fun x=>uO x.1 x.2.1 x.2.2):(Int × fX)→(List fX))⟩
def aJ9:T :=
 .bRX (.cmp .gtr .i64) (.bRY tI tI (aK (.bRW tI aD) 1 (.Z 0)) (.ci .i64 0)) <|
 .ite (.Z 1) (
  .bRX (.lit 102 aD 1) (.bRY tI tI (.ci .i64 1) (aP (.bRW tI aD) 2 (.Z 0))) <|
  .bRX (.bS3 102 aD 16) (.bRY aU aU (.nl 102 aD) (.Z 2)) <|
  .bRX (.lit 102 aD 1) (.bRY tI tI (.ci .i64 2) (aP (.bRW tI aD) 2 (.Z 0))) <|
  .bRX (.bS3 102 aD 16) (.bRY aU aU (.Z 3) (.Z 4)) <|
  .bRX (.ar .sub .i64) (.bRY tI tI (.p1 tI aD (.Z 0)) (.ci .i64 1)) <|
  .bRX (.cmp .lss .i64) (.bRY tI tI (aK (.bRW tI aD) 1 (.Z 0)) (.Z 6)) <|
  .ite (.Z 7) (
   .bRX (.lit 102 aD 1) (.bRY tI tI (.ci .i64 3) (aP (.bRW tI aD) 2 (.Z 0))) <|
   .bRX (.bS3 102 aD 16) (.bRY aU aU (.Z 5) (.Z 8)) <|
   .ret (.Z 9)) (
   .ret (.Z 5))) (
  .bRX (.lit 102 aD 1) (.bRY tI tI (.ci .i64 2) (aP (.bRW tI aD) 2 (.Z 0))) <|
  .bRX (.bS3 102 aD 16) (.bRY aU aU (.nl 102 aD) (.Z 2)) <|
  .bRX (.ar .sub .i64) (.bRY tI tI (.p1 tI aD (.Z 0)) (.ci .i64 1)) <|
  .bRX (.cmp .lss .i64) (.bRY tI tI (aK (.bRW tI aD) 1 (.Z 0)) (.Z 4)) <|
  .ite (.Z 5) (
   .bRX (.lit 102 aD 1) (.bRY tI tI (.ci .i64 3) (aP (.bRW tI aD) 2 (.Z 0))) <|
   .bRX (.bS3 102 aD 16) (.bRY aU aU (.Z 3) (.Z 6)) <|
   .ret (.Z 7)) (
   .ret (.Z 3)))
theorem bHY:bI Tryz.prog [] xR false 3000 ⟨[],[]⟩ = .ok aJ9:=by kernel_rfl
theorem bI2 (x:Int × fX) (hx:okD (.bRW tI aD) x) (hp:(fun x=>1≤x.1∧x.1≤4) x):aJ9.wp [] [⟨(.bRW tI aD),x⟩] [] (fun v=>v.as aU=(fun x=>uO x.1 x.2.1 x.2.2) x):=by
 have hp:1≤x.1∧x.1≤4:=hp
 delta aJ9;refine cW ?_;try with_reducible exact True.intro
 (repeat' first|intro _|(with_reducible apply And.intro))
 all_goals (try simp only[mG] at *)
 all_goals first|omega|(unfold maxLen;omega)|skip
 all_goals (unfold uO;(repeat' split) <;> first|omega|(simp;done))
theorem bHI:Con.Holds Tryz.prog xR:=aS aV aQ bHY bI2
def tG:Con:=⟨57,(.bRW tI (.bRW tI (.bRW tI .bool))),aU,[.val ⟨false,tI,[]⟩,.val ⟨false,tI,[]⟩,.val ⟨false,tI,[]⟩,.val ⟨false,.bool,[]⟩],[⟨false,aU,[2]⟩],false,none,
 ((fun x=>1≤x.1∧x.1≤4):(Int × (Int × (Int × Bool)))→Prop),
 ((fun x=>aB0 x.1 x.2.1 x.2.2.1 x.2.2.2):(Int × (Int × (Int × Bool)))→(List fX))⟩
def aEM:T :=
 .bRX (.ar .sub .i64) (.bRY tI tI (.p1 tI (.bRW tI (.bRW tI .bool)) (.Z 0)) (.ci .i64 1)) <|
 .bRX (.cmp .lss .i64) (.bRY tI tI (aK (.bRW tI (.bRW tI (.bRW tI .bool))) 1 (.Z 0)) (.Z 1)) <|
 .ite (.Z 2) (
  .bRX (.lit 102 aD 1) (.bRY tI tI (.ci .i64 4) (aK (.bRW tI (.bRW tI (.bRW tI .bool))) 2 (.Z 0))) <|
  .bRX (.bS3 102 aD 16) (.bRY aU aU (.nl 102 aD) (.Z 3)) <|
  .ite (aP (.bRW tI (.bRW tI (.bRW tI .bool))) 3 (.Z 0)) (
   .bRX (.lit 102 aD 1) (.bRY tI tI (.ci .i64 5) (aK (.bRW tI (.bRW tI (.bRW tI .bool))) 2 (.Z 0))) <|
   .bRX (.bS3 102 aD 16) (.bRY aU aU (.Z 4) (.Z 5)) <|
   .bRX (.lit 102 aD 1) (.bRY tI tI (.ci .i64 6) (aK (.bRW tI (.bRW tI (.bRW tI .bool))) 2 (.Z 0))) <|
   .bRX (.bS3 102 aD 16) (.bRY aU aU (.Z 6) (.Z 7)) <|
   .bRX (.cmp .gtr .i64) (.bRY tI tI (aK (.bRW tI (.bRW tI (.bRW tI .bool))) 1 (.Z 0)) (.ci .i64 0)) <|
   .ite (.Z 9) (
    .bRX (.lit 102 aD 1) (.bRY tI tI (.ci .i64 7) (aK (.bRW tI (.bRW tI (.bRW tI .bool))) 2 (.Z 0))) <|
    .bRX (.bS3 102 aD 16) (.bRY aU aU (.Z 8) (.Z 10)) <|
    .ret (.Z 11)) (
    .ret (.Z 8))) (
   .bRX (.lit 102 aD 1) (.bRY tI tI (.ci .i64 6) (aK (.bRW tI (.bRW tI (.bRW tI .bool))) 2 (.Z 0))) <|
   .bRX (.bS3 102 aD 16) (.bRY aU aU (.Z 4) (.Z 5)) <|
   .bRX (.cmp .gtr .i64) (.bRY tI tI (aK (.bRW tI (.bRW tI (.bRW tI .bool))) 1 (.Z 0)) (.ci .i64 0)) <|
   .ite (.Z 7) (
    .bRX (.lit 102 aD 1) (.bRY tI tI (.ci .i64 7) (aK (.bRW tI (.bRW tI (.bRW tI .bool))) 2 (.Z 0))) <|
    .bRX (.bS3 102 aD 16) (.bRY aU aU (.Z 6) (.Z 8)) <|
    .ret (.Z 9)) (
    .ret (.Z 6)))) (
  .ite (aP (.bRW tI (.bRW tI (.bRW tI .bool))) 3 (.Z 0)) (
   .bRX (.lit 102 aD 1) (.bRY tI tI (.ci .i64 5) (aK (.bRW tI (.bRW tI (.bRW tI .bool))) 2 (.Z 0))) <|
   .bRX (.bS3 102 aD 16) (.bRY aU aU (.nl 102 aD) (.Z 3)) <|
   .bRX (.lit 102 aD 1) (.bRY tI tI (.ci .i64 6) (aK (.bRW tI (.bRW tI (.bRW tI .bool))) 2 (.Z 0))) <|
   .bRX (.bS3 102 aD 16) (.bRY aU aU (.Z 4) (.Z 5)) <|
   .bRX (.cmp .gtr .i64) (.bRY tI tI (aK (.bRW tI (.bRW tI (.bRW tI .bool))) 1 (.Z 0)) (.ci .i64 0)) <|
   .ite (.Z 7) (
    .bRX (.lit 102 aD 1) (.bRY tI tI (.ci .i64 7) (aK (.bRW tI (.bRW tI (.bRW tI .bool))) 2 (.Z 0))) <|
    .bRX (.bS3 102 aD 16) (.bRY aU aU (.Z 6) (.Z 8)) <|
    .ret (.Z 9)) (
    .ret (.Z 6))) (
   .bRX (.lit 102 aD 1) (.bRY tI tI (.ci .i64 6) (aK (.bRW tI (.bRW tI (.bRW tI .bool))) 2 (.Z 0))) <|
   .bRX (.bS3 102 aD 16) (.bRY aU aU (.nl 102 aD) (.Z 3)) <|
   .bRX (.cmp .gtr .i64) (.bRY tI tI (aK (.bRW tI (.bRW tI (.bRW tI .bool))) 1 (.Z 0)) (.ci .i64 0)) <|
   .ite (.Z 5) (
    .bRX (.lit 102 aD 1) (.bRY tI tI (.ci .i64 7) (aK (.bRW tI (.bRW tI (.bRW tI .bool))) 2 (.Z 0))) <|
    .bRX (.bS3 102 aD 16) (.bRY aU aU (.Z 4) (.Z 6)) <|
    .ret (.Z 7)) (
    .ret (.Z 4))))
theorem bE5:bI Tryz.prog [] tG false 3000 ⟨[],[]⟩ = .ok aEM:=by kernel_rfl
theorem bB6 (x:Int × (Int × (Int × Bool))) (hx:okD (.bRW tI (.bRW tI (.bRW tI .bool))) x) (hp:(fun x=>1≤x.1∧x.1≤4) x):aEM.wp [] [⟨(.bRW tI (.bRW tI (.bRW tI .bool))),x⟩] [] (fun v=>v.as aU=(fun x=>aB0 x.1 x.2.1 x.2.2.1 x.2.2.2) x):=by
 have hp:1≤x.1∧x.1≤4:=hp
 delta aEM;refine cW ?_;try with_reducible exact True.intro
 (repeat' first|intro _|(with_reducible apply And.intro))
 all_goals (try simp only[mG] at *)
 all_goals first|omega|(unfold maxLen;omega)|skip
 all_goals (unfold aB0;(repeat' split) <;> first|omega|contradiction|(simp;done)|(simp_all;done))
theorem bEE:Con.Holds Tryz.prog tG:=aS aV aQ bE5 bB6
def aAU:Con:=⟨29,(.bRW tI (.bRW tI (.bRW tI (.bRW tI .bool)))),aU,[.val ⟨false,tI,[]⟩,.val ⟨false,tI,[]⟩,.val ⟨false,tI,[]⟩,.val ⟨false,tI,[]⟩,.val ⟨false,.bool,[]⟩],[⟨false,aU,[2]⟩],false,none,
 ((fun _=>True):(Int × (Int × (Int × (Int × Bool))))→Prop),
 ((fun x=>aAG x.1 x.2.1 x.2.2.1 x.2.2.2.1 x.2.2.2.2):(Int × (Int × (Int × (Int × Bool))))→(List fX))⟩
def aM9:T :=
 .bRX (.cmp .neq .i64) (.bRY tI tI (.p1 tI (.bRW tI (.bRW tI (.bRW tI .bool))) (.Z 0)) (.ci .i64 1)) <|
 .ite (.Z 1) (
  .bRX (.cmp .neq .i64) (.bRY tI tI (.p1 tI (.bRW tI (.bRW tI (.bRW tI .bool))) (.Z 0)) (.ci .i64 2)) <|
  .ite (.Z 2) (
   .ret (.nl 102 aD)) (
   .call 0 (bB (.bRW tI aD) [(aK (.bRW tI (.bRW tI (.bRW tI (.bRW tI .bool)))) 1 (.Z 0)),(aK (.bRW tI (.bRW tI (.bRW tI (.bRW tI .bool)))) 2 (.Z 0)),(aK (.bRW tI (.bRW tI (.bRW tI (.bRW tI .bool)))) 3 (.Z 0))]) <|
   .bRX .not (.Z 3) <|
   .ite (.Z 4) (
    .ret (.nl 102 aD)) (
    .call 1 (bB (.bRW tI (.bRW tI aD)) [(.p1 tI (.bRW tI (.bRW tI (.bRW tI .bool))) (.Z 0)),(aK (.bRW tI (.bRW tI (.bRW tI (.bRW tI .bool)))) 1 (.Z 0)),(aK (.bRW tI (.bRW tI (.bRW tI (.bRW tI .bool)))) 2 (.Z 0)),(aK (.bRW tI (.bRW tI (.bRW tI (.bRW tI .bool)))) 3 (.Z 0))]) <|
    .loop (.bRW tI aU) (.bRY tI aU (.ci .i64 0) (.nl 102 aD)) <|
     .bRX (.cmp .lss .i64) (.bRY tI tI (.p1 tI aU (.Z 6)) (.Z 5)) <|
     .ite (.Z 7) (
      .call 2 (bB (.bRW tI aD) [(aK (.bRW tI (.bRW tI (.bRW tI (.bRW tI .bool)))) 1 (.Z 0)),(aK (.bRW tI (.bRW tI (.bRW tI (.bRW tI .bool)))) 2 (.Z 0)),(.p1 tI aU (.Z 6))]) <|
      .bRX (.bS3 102 aD 16) (.bRY aU aU (aP (.bRW tI aU) 1 (.Z 6)) (.Z 8)) <|
      .bRX (.ar .add .i64) (.bRY tI tI (.p1 tI aU (.Z 6)) (.ci .i64 1)) <|
      .bRZ 0 (.bRY tI aU (.Z 10) (.Z 9))) (
      .loop (.bRW tI aU) (.bRY tI aU (.ci .i64 0) (aP (.bRW tI aU) 1 (.Z 6))) <|
       .bRX (.cmp .lss .i64) (.bRY tI tI (.p1 tI aU (.Z 8)) (aK (.bRW tI (.bRW tI (.bRW tI (.bRW tI .bool)))) 3 (.Z 0))) <|
       .ite (.Z 9) (
        .bRX (.ar .add .i64) (.bRY tI tI (.p1 tI aU (.Z 8)) (.Z 5)) <|
        .bRX (.cmp .lss .i64) (.bRY tI tI (.Z 10) (aK (.bRW tI (.bRW tI (.bRW tI (.bRW tI .bool)))) 3 (.Z 0))) <|
        .ite (.Z 11) (
         .bRX (.ar .add .i64) (.bRY tI tI (.p1 tI aU (.Z 8)) (.Z 5)) <|
         .call 2 (bB (.bRW tI aD) [(aK (.bRW tI (.bRW tI (.bRW tI (.bRW tI .bool)))) 1 (.Z 0)),(aK (.bRW tI (.bRW tI (.bRW tI (.bRW tI .bool)))) 2 (.Z 0)),(.Z 12)]) <|
         .bRX (.bS3 102 aD 16) (.bRY aU aU (aP (.bRW tI aU) 1 (.Z 8)) (.Z 13)) <|
         .call 3 (bB (.bRW tI (.bRW tI (.bRW tI .bool))) [(aK (.bRW tI (.bRW tI (.bRW tI (.bRW tI .bool)))) 1 (.Z 0)),(aK (.bRW tI (.bRW tI (.bRW tI (.bRW tI .bool)))) 2 (.Z 0)),(.p1 tI aU (.Z 8)),(aP (.bRW tI (.bRW tI (.bRW tI (.bRW tI .bool)))) 4 (.Z 0))]) <|
         .bRX (.bS3 102 aD 16) (.bRY aU aU (.Z 14) (.Z 15)) <|
         .bRX (.ar .add .i64) (.bRY tI tI (.p1 tI aU (.Z 8)) (.ci .i64 1)) <|
         .bRZ 0 (.bRY tI aU (.Z 17) (.Z 16))) (
         .call 3 (bB (.bRW tI (.bRW tI (.bRW tI .bool))) [(aK (.bRW tI (.bRW tI (.bRW tI (.bRW tI .bool)))) 1 (.Z 0)),(aK (.bRW tI (.bRW tI (.bRW tI (.bRW tI .bool)))) 2 (.Z 0)),(.p1 tI aU (.Z 8)),(aP (.bRW tI (.bRW tI (.bRW tI (.bRW tI .bool)))) 4 (.Z 0))]) <|
         .bRX (.bS3 102 aD 16) (.bRY aU aU (aP (.bRW tI aU) 1 (.Z 8)) (.Z 12)) <|
         .bRX (.ar .add .i64) (.bRY tI tI (.p1 tI aU (.Z 8)) (.ci .i64 1)) <|
         .bRZ 0 (.bRY tI aU (.Z 14) (.Z 13)))) (
        .bRX (.lit 102 aD 1) (.bRY tI tI (.ci .i64 8) (.ci .i64 0)) <|
        .bRX (.bS3 102 aD 16) (.bRY aU aU (aP (.bRW tI aU) 1 (.Z 8)) (.Z 10)) <|
        .ret (.Z 11)))))) (
  .call 0 (bB (.bRW tI aD) [(aK (.bRW tI (.bRW tI (.bRW tI (.bRW tI .bool)))) 1 (.Z 0)),(aK (.bRW tI (.bRW tI (.bRW tI (.bRW tI .bool)))) 2 (.Z 0)),(aK (.bRW tI (.bRW tI (.bRW tI (.bRW tI .bool)))) 3 (.Z 0))]) <|
  .bRX .not (.Z 2) <|
  .ite (.Z 3) (
   .ret (.nl 102 aD)) (
   .call 1 (bB (.bRW tI (.bRW tI aD)) [(.p1 tI (.bRW tI (.bRW tI (.bRW tI .bool))) (.Z 0)),(aK (.bRW tI (.bRW tI (.bRW tI (.bRW tI .bool)))) 1 (.Z 0)),(aK (.bRW tI (.bRW tI (.bRW tI (.bRW tI .bool)))) 2 (.Z 0)),(aK (.bRW tI (.bRW tI (.bRW tI (.bRW tI .bool)))) 3 (.Z 0))]) <|
   .loop (.bRW tI aU) (.bRY tI aU (.ci .i64 0) (.nl 102 aD)) <|
    .bRX (.cmp .lss .i64) (.bRY tI tI (.p1 tI aU (.Z 5)) (.Z 4)) <|
    .ite (.Z 6) (
     .call 2 (bB (.bRW tI aD) [(aK (.bRW tI (.bRW tI (.bRW tI (.bRW tI .bool)))) 1 (.Z 0)),(aK (.bRW tI (.bRW tI (.bRW tI (.bRW tI .bool)))) 2 (.Z 0)),(.p1 tI aU (.Z 5))]) <|
     .bRX (.bS3 102 aD 16) (.bRY aU aU (aP (.bRW tI aU) 1 (.Z 5)) (.Z 7)) <|
     .bRX (.ar .add .i64) (.bRY tI tI (.p1 tI aU (.Z 5)) (.ci .i64 1)) <|
     .bRZ 0 (.bRY tI aU (.Z 9) (.Z 8))) (
     .loop (.bRW tI aU) (.bRY tI aU (.ci .i64 0) (aP (.bRW tI aU) 1 (.Z 5))) <|
      .bRX (.cmp .lss .i64) (.bRY tI tI (.p1 tI aU (.Z 7)) (aK (.bRW tI (.bRW tI (.bRW tI (.bRW tI .bool)))) 3 (.Z 0))) <|
      .ite (.Z 8) (
       .bRX (.ar .add .i64) (.bRY tI tI (.p1 tI aU (.Z 7)) (.Z 4)) <|
       .bRX (.cmp .lss .i64) (.bRY tI tI (.Z 9) (aK (.bRW tI (.bRW tI (.bRW tI (.bRW tI .bool)))) 3 (.Z 0))) <|
       .ite (.Z 10) (
        .bRX (.ar .add .i64) (.bRY tI tI (.p1 tI aU (.Z 7)) (.Z 4)) <|
        .call 2 (bB (.bRW tI aD) [(aK (.bRW tI (.bRW tI (.bRW tI (.bRW tI .bool)))) 1 (.Z 0)),(aK (.bRW tI (.bRW tI (.bRW tI (.bRW tI .bool)))) 2 (.Z 0)),(.Z 11)]) <|
        .bRX (.bS3 102 aD 16) (.bRY aU aU (aP (.bRW tI aU) 1 (.Z 7)) (.Z 12)) <|
        .call 3 (bB (.bRW tI (.bRW tI (.bRW tI .bool))) [(aK (.bRW tI (.bRW tI (.bRW tI (.bRW tI .bool)))) 1 (.Z 0)),(aK (.bRW tI (.bRW tI (.bRW tI (.bRW tI .bool)))) 2 (.Z 0)),(.p1 tI aU (.Z 7)),(aP (.bRW tI (.bRW tI (.bRW tI (.bRW tI .bool)))) 4 (.Z 0))]) <|
        .bRX (.bS3 102 aD 16) (.bRY aU aU (.Z 13) (.Z 14)) <|
        .bRX (.ar .add .i64) (.bRY tI tI (.p1 tI aU (.Z 7)) (.ci .i64 1)) <|
        .bRZ 0 (.bRY tI aU (.Z 16) (.Z 15))) (
        .call 3 (bB (.bRW tI (.bRW tI (.bRW tI .bool))) [(aK (.bRW tI (.bRW tI (.bRW tI (.bRW tI .bool)))) 1 (.Z 0)),(aK (.bRW tI (.bRW tI (.bRW tI (.bRW tI .bool)))) 2 (.Z 0)),(.p1 tI aU (.Z 7)),(aP (.bRW tI (.bRW tI (.bRW tI (.bRW tI .bool)))) 4 (.Z 0))]) <|
        .bRX (.bS3 102 aD 16) (.bRY aU aU (aP (.bRW tI aU) 1 (.Z 7)) (.Z 11)) <|
        .bRX (.ar .add .i64) (.bRY tI tI (.p1 tI aU (.Z 7)) (.ci .i64 1)) <|
        .bRZ 0 (.bRY tI aU (.Z 13) (.Z 12)))) (
       .bRX (.lit 102 aD 1) (.bRY tI tI (.ci .i64 8) (.ci .i64 0)) <|
       .bRX (.bS3 102 aD 16) (.bRY aU aU (aP (.bRW tI aU) 1 (.Z 7)) (.Z 9)) <|
       .ret (.Z 10)))))
theorem bM9:bI Tryz.prog [kB,tX,xR,tG] aAU false 3000 ⟨[(2984,9006,gQ 33 15++[.dr 0,.tm 13 0,.on 12,.sl 1]),(2974,17008,gQ 36 34++[.dr 13,.tm 14 0,.sl 1]),(2984,4005,gQ 33 15++[.dr 0,.tm 13 0,.on 12,.sl 1]),(2974,8007,gQ 36 34++[.dr 13,.tm 14 0,.sl 1])],[]⟩ = .ok aM9:=by kernel_rfl
theorem bM7 (x:Int × (Int × (Int × (Int × Bool)))) (hx:okD (.bRW tI (.bRW tI (.bRW tI (.bRW tI .bool)))) x) (hp:(fun _=>True) x):aM9.wp [kB,tX,xR,tG] [⟨(.bRW tI (.bRW tI (.bRW tI (.bRW tI .bool)))),x⟩] [] (fun v=>v.as aU=(fun x=>aAG x.1 x.2.1 x.2.2.1 x.2.2.2.1 x.2.2.2.2) x):=by
  obtain ⟨ds,st,s,micro,r⟩:=x
  delta aM9 kB tX xR tG;refine cW ?_;try with_reducible exact True.intro
  (repeat' first|intro _|(with_reducible apply And.intro))
  all_goals (try simp only[mG] at *)
  all_goals first|exact bLH (fun h=>by rcases h with ⟨h1|h1,h2⟩ <;> first|omega|(simp_all;done))|skip
  all_goals have hP:gP st s micro=true:=by first|assumption|exact xX (by omega)
  all_goals have hd:ds=1∨ds=2:=by omega
  all_goals have hb:=(gV _ _ _).1 hP
  all_goals have hw:=bD3 (ds:=ds) hP
  all_goals have hfin:=bLF (r:=r) ⟨hd,hP⟩
  all_goals generalize pD ds st s micro=W at *
  all_goals refine ⟨fun q=>∃ k:Nat,(k:Int)≤W∧q=((k:Int),aRV st s k),fun q=>W.toNat - (q.1:Int).toNat,⟨0,by omega,rfl⟩,fun q _ hI=>?_⟩
  all_goals obtain ⟨k,hk,rfl⟩:=hI
  all_goals dsimp only
  all_goals have l1:=aDC st s k
  all_goals have l2:=pN st s k
  all_goals refine ⟨fun hlt=>?_,fun hge=>?_⟩
  all_goals first
    | (have h0:(k:Int)<W:=hlt
       (repeat' first|intro _|(with_reducible apply And.intro))
       all_goals first|omega|(unfold maxLen;omega)|exact ⟨k+1,by omega,rfl⟩)
    | skip
  all_goals have hkW:k=W.toNat:=by omega
  all_goals refine ⟨fun q=>∃ j:Nat,(j:Int)≤micro∧q=((j:Int),vG st s micro W r j),fun q=>micro.toNat - (q.1:Int).toNat,⟨0,by omega,by rw[hkW];rfl⟩,fun q _ hI=>?_⟩
  all_goals obtain ⟨j,hj,rfl⟩:=hI
  all_goals dsimp only
  all_goals try rw[show W+(j:Int)=(j:Int)+W from Int.add_comm _ _]
  all_goals have l3:=aDW st s micro W r j
  all_goals have l4:=pN st s ((j:Int)+W)
  all_goals have l5:=aI8 st s j r
  all_goals (repeat' first|intro _|(with_reducible apply And.intro))
  all_goals first
    | omega
    | (unfold maxLen;omega)
    | exact ⟨j+1,by omega,by rw[← bFL (by omega)];rfl⟩
    | exact ⟨j+1,by omega,by rw[← bG3 (by omega)];rfl⟩
    | (have hj2:j=micro.toNat:=by omega
       rw[hj2]
       exact hfin)
theorem bL2:Con.Holds Tryz.prog aAU:=aS aV (aI aKG (aI bCX (aI bHI (aI bEE aQ)))) bM9 bM7
def tM:Con:=⟨116,(.bRW tI (.bRW tI aD)),tI,[.val ⟨false,tI,[]⟩,.val ⟨false,tI,[]⟩,.val ⟨false,tI,[]⟩,.val ⟨false,tI,[]⟩],[⟨false,tI,[0]⟩],false,none,
 ((fun _=>True):(Int × (Int × fX))→Prop),
 ((fun x=>pD x.1 x.2.1 x.2.2.1 x.2.2.2):(Int × (Int × fX))→(Int))⟩
def aF5:T:=.call 0 (bB (.bRW tI aD) [(aK (.bRW tI (.bRW tI aD)) 1 (.Z 0)),(.ci .i64 1),(.ci .i64 4)]) <|
 .bRX .not (.Z 1) <|
 .ite (.Z 2) (
  .ret (.ci .i64 0)) (
  .bRX (.ar .sub .i64) (.bRY tI tI (aK (.bRW tI (.bRW tI aD)) 1 (.Z 0)) (.ci .i64 1)) <|
  .call 0 (bB (.bRW tI aD) [(aK (.bRW tI (.bRW tI aD)) 2 (.Z 0)),(.ci .i64 0),(.Z 3)]) <|
  .bRX .not (.Z 4) <|
  .ite (.Z 5) (
   .ret (.ci .i64 0)) (
   .call 0 (bB (.bRW tI aD) [(aP (.bRW tI (.bRW tI aD)) 3 (.Z 0)),(.ci .i64 1),(.ci .i64 5)]) <|
   .bRX .not (.Z 6) <|
   .ite (.Z 7) (
    .ret (.ci .i64 0)) (
    .bRX (.cmp .eql .i64) (.bRY tI tI (.p1 tI (.bRW tI aD) (.Z 0)) (.ci .i64 2)) <|
    .ite (.Z 8) (
     .bRX (.ar .sub .i64) (.bRY tI tI (aK (.bRW tI (.bRW tI aD)) 1 (.Z 0)) (.ci .i64 1)) <|
     .bRX (.ar .sub .i64) (.bRY tI tI (.Z 9) (aK (.bRW tI (.bRW tI aD)) 2 (.Z 0))) <|
     .bRX (.mn .i64) (.bRY tI tI (aP (.bRW tI (.bRW tI aD)) 3 (.Z 0)) (.Z 10)) <|
     .ret (.Z 11)) (
     .ret (aP (.bRW tI (.bRW tI aD)) 3 (.Z 0))))))
theorem bDZ:bI Tryz.prog [bL] tM false 3000 ⟨[],[]⟩ = .ok aF5:=by kernel_rfl
theorem bA1 (x:Int × (Int × fX)) (hx:okD (.bRW tI (.bRW tI aD)) x) (hp:(fun _=>True) x):aF5.wp [bL] [⟨(.bRW tI (.bRW tI aD)),x⟩] [] (fun v=>v.as tI=(fun x=>pD x.1 x.2.1 x.2.2.1 x.2.2.2) x):=by
 delta aF5 bL;refine cW ?_;try with_reducible exact True.intro
 (repeat' first|intro _|(with_reducible apply And.intro))
 all_goals (try simp only[mG] at *)
 all_goals first|omega|exact bMP (aQQ (by omega))|exact bMK (xX (by omega)) (by omega)|exact bL9 (xX (by omega)) (by omega)
theorem bDS:Con.Holds Tryz.prog tM:=aS aV (aI eV aQ) bDZ bA1
def rG:Con:=⟨117,(.bRW aU (.bRW tI aD)),aU,[.val ⟨false,aU,[2]⟩,.val ⟨false,tI,[]⟩,.val ⟨false,tI,[]⟩,.val ⟨false,tI,[]⟩],[⟨false,aU,[2]⟩],false,none,
 ((fun x=>List.length x.1≤1000000∧1≤x.2.1∧x.2.1≤4):((List fX) × (Int × fX))→Prop),
 ((fun x=>x.1++uO x.2.1 x.2.2.1 x.2.2.2):((List fX) × (Int × fX))→(List fX))⟩
def aCX:T :=
 .bRX (.cmp .gtr .i64) (.bRY tI tI (aK (.bRW aU (.bRW tI aD)) 2 (.Z 0)) (.ci .i64 0)) <|
 .ite (.Z 1) (
  .bRX (.lit 102 aD 1) (.bRY tI tI (.ci .i64 1) (aP (.bRW aU (.bRW tI aD)) 3 (.Z 0))) <|
  .bRX (.bS3 102 aD 16) (.bRY aU aU (.p1 aU (.bRW tI aD) (.Z 0)) (.Z 2)) <|
  .bRX (.lit 102 aD 1) (.bRY tI tI (.ci .i64 2) (aP (.bRW aU (.bRW tI aD)) 3 (.Z 0))) <|
  .bRX (.bS3 102 aD 16) (.bRY aU aU (.Z 3) (.Z 4)) <|
  .bRX (.ar .sub .i64) (.bRY tI tI (aK (.bRW aU (.bRW tI aD)) 1 (.Z 0)) (.ci .i64 1)) <|
  .bRX (.cmp .lss .i64) (.bRY tI tI (aK (.bRW aU (.bRW tI aD)) 2 (.Z 0)) (.Z 6)) <|
  .ite (.Z 7) (
   .bRX (.lit 102 aD 1) (.bRY tI tI (.ci .i64 3) (aP (.bRW aU (.bRW tI aD)) 3 (.Z 0))) <|
   .bRX (.bS3 102 aD 16) (.bRY aU aU (.Z 5) (.Z 8)) <|
   .ret (.Z 9)) (
   .ret (.Z 5))) (
  .bRX (.lit 102 aD 1) (.bRY tI tI (.ci .i64 2) (aP (.bRW aU (.bRW tI aD)) 3 (.Z 0))) <|
  .bRX (.bS3 102 aD 16) (.bRY aU aU (.p1 aU (.bRW tI aD) (.Z 0)) (.Z 2)) <|
  .bRX (.ar .sub .i64) (.bRY tI tI (aK (.bRW aU (.bRW tI aD)) 1 (.Z 0)) (.ci .i64 1)) <|
  .bRX (.cmp .lss .i64) (.bRY tI tI (aK (.bRW aU (.bRW tI aD)) 2 (.Z 0)) (.Z 4)) <|
  .ite (.Z 5) (
   .bRX (.lit 102 aD 1) (.bRY tI tI (.ci .i64 3) (aP (.bRW aU (.bRW tI aD)) 3 (.Z 0))) <|
   .bRX (.bS3 102 aD 16) (.bRY aU aU (.Z 3) (.Z 6)) <|
   .ret (.Z 7)) (
   .ret (.Z 3)))
theorem aVB:bI Tryz.prog [] rG false 3000 ⟨[],[]⟩ = .ok aCX:=by kernel_rfl
theorem aVR (x:(List fX) × (Int × fX)) (hx:okD (.bRW aU (.bRW tI aD)) x) (hp:(fun x=>List.length x.1≤1000000∧1≤x.2.1∧x.2.1≤4) x):aCX.wp [] [⟨(.bRW aU (.bRW tI aD)),x⟩] [] (fun v=>v.as aU=(fun x=>x.1++uO x.2.1 x.2.2.1 x.2.2.2) x):=by
 have hp:List.length x.1≤1000000∧1≤x.2.1∧x.2.1≤4:=hp
 delta aCX;refine cW ?_;try with_reducible exact True.intro
 (repeat' first|intro _|(with_reducible apply And.intro))
 all_goals (try simp only[mG] at *)
 all_goals first|omega|(unfold maxLen;omega)|skip
 all_goals (unfold uO;(repeat' split) <;> first|omega|(simp;done))
theorem aWG:Con.Holds Tryz.prog rG:=aS aV aQ aVB aVR
def uE:Con:=⟨118,(.bRW aU (.bRW tI (.bRW tI (.bRW tI .bool)))),aU,[.val ⟨false,aU,[2]⟩,.val ⟨false,tI,[]⟩,.val ⟨false,tI,[]⟩,.val ⟨false,tI,[]⟩,.val ⟨false,.bool,[]⟩],[⟨false,aU,[2]⟩],false,none,
 ((fun x=>List.length x.1≤1000000∧1≤x.2.1∧x.2.1≤4):((List fX) × (Int × (Int × (Int × Bool))))→Prop),
 ((fun x=>x.1++aB0 x.2.1 x.2.2.1 x.2.2.2.1 x.2.2.2.2):((List fX) × (Int × (Int × (Int × Bool))))→(List fX))⟩
def aGP:T :=
 .bRX (.ar .sub .i64) (.bRY tI tI (aK (.bRW aU (.bRW tI (.bRW tI (.bRW tI .bool)))) 1 (.Z 0)) (.ci .i64 1)) <|
 .bRX (.cmp .lss .i64) (.bRY tI tI (aK (.bRW aU (.bRW tI (.bRW tI (.bRW tI .bool)))) 2 (.Z 0)) (.Z 1)) <|
 .ite (.Z 2) (
  .bRX (.lit 102 aD 1) (.bRY tI tI (.ci .i64 4) (aK (.bRW aU (.bRW tI (.bRW tI (.bRW tI .bool)))) 3 (.Z 0))) <|
  .bRX (.bS3 102 aD 16) (.bRY aU aU (.p1 aU (.bRW tI (.bRW tI (.bRW tI .bool))) (.Z 0)) (.Z 3)) <|
  .ite (aP (.bRW aU (.bRW tI (.bRW tI (.bRW tI .bool)))) 4 (.Z 0)) (
   .bRX (.lit 102 aD 1) (.bRY tI tI (.ci .i64 5) (aK (.bRW aU (.bRW tI (.bRW tI (.bRW tI .bool)))) 3 (.Z 0))) <|
   .bRX (.bS3 102 aD 16) (.bRY aU aU (.Z 4) (.Z 5)) <|
   .bRX (.lit 102 aD 1) (.bRY tI tI (.ci .i64 6) (aK (.bRW aU (.bRW tI (.bRW tI (.bRW tI .bool)))) 3 (.Z 0))) <|
   .bRX (.bS3 102 aD 16) (.bRY aU aU (.Z 6) (.Z 7)) <|
   .bRX (.cmp .gtr .i64) (.bRY tI tI (aK (.bRW aU (.bRW tI (.bRW tI (.bRW tI .bool)))) 2 (.Z 0)) (.ci .i64 0)) <|
   .ite (.Z 9) (
    .bRX (.lit 102 aD 1) (.bRY tI tI (.ci .i64 7) (aK (.bRW aU (.bRW tI (.bRW tI (.bRW tI .bool)))) 3 (.Z 0))) <|
    .bRX (.bS3 102 aD 16) (.bRY aU aU (.Z 8) (.Z 10)) <|
    .ret (.Z 11)) (
    .ret (.Z 8))) (
   .bRX (.lit 102 aD 1) (.bRY tI tI (.ci .i64 6) (aK (.bRW aU (.bRW tI (.bRW tI (.bRW tI .bool)))) 3 (.Z 0))) <|
   .bRX (.bS3 102 aD 16) (.bRY aU aU (.Z 4) (.Z 5)) <|
   .bRX (.cmp .gtr .i64) (.bRY tI tI (aK (.bRW aU (.bRW tI (.bRW tI (.bRW tI .bool)))) 2 (.Z 0)) (.ci .i64 0)) <|
   .ite (.Z 7) (
    .bRX (.lit 102 aD 1) (.bRY tI tI (.ci .i64 7) (aK (.bRW aU (.bRW tI (.bRW tI (.bRW tI .bool)))) 3 (.Z 0))) <|
    .bRX (.bS3 102 aD 16) (.bRY aU aU (.Z 6) (.Z 8)) <|
    .ret (.Z 9)) (
    .ret (.Z 6)))) (
  .ite (aP (.bRW aU (.bRW tI (.bRW tI (.bRW tI .bool)))) 4 (.Z 0)) (
   .bRX (.lit 102 aD 1) (.bRY tI tI (.ci .i64 5) (aK (.bRW aU (.bRW tI (.bRW tI (.bRW tI .bool)))) 3 (.Z 0))) <|
   .bRX (.bS3 102 aD 16) (.bRY aU aU (.p1 aU (.bRW tI (.bRW tI (.bRW tI .bool))) (.Z 0)) (.Z 3)) <|
   .bRX (.lit 102 aD 1) (.bRY tI tI (.ci .i64 6) (aK (.bRW aU (.bRW tI (.bRW tI (.bRW tI .bool)))) 3 (.Z 0))) <|
   .bRX (.bS3 102 aD 16) (.bRY aU aU (.Z 4) (.Z 5)) <|
   .bRX (.cmp .gtr .i64) (.bRY tI tI (aK (.bRW aU (.bRW tI (.bRW tI (.bRW tI .bool)))) 2 (.Z 0)) (.ci .i64 0)) <|
   .ite (.Z 7) (
    .bRX (.lit 102 aD 1) (.bRY tI tI (.ci .i64 7) (aK (.bRW aU (.bRW tI (.bRW tI (.bRW tI .bool)))) 3 (.Z 0))) <|
    .bRX (.bS3 102 aD 16) (.bRY aU aU (.Z 6) (.Z 8)) <|
    .ret (.Z 9)) (
    .ret (.Z 6))) (
   .bRX (.lit 102 aD 1) (.bRY tI tI (.ci .i64 6) (aK (.bRW aU (.bRW tI (.bRW tI (.bRW tI .bool)))) 3 (.Z 0))) <|
   .bRX (.bS3 102 aD 16) (.bRY aU aU (.p1 aU (.bRW tI (.bRW tI (.bRW tI .bool))) (.Z 0)) (.Z 3)) <|
   .bRX (.cmp .gtr .i64) (.bRY tI tI (aK (.bRW aU (.bRW tI (.bRW tI (.bRW tI .bool)))) 2 (.Z 0)) (.ci .i64 0)) <|
   .ite (.Z 5) (
    .bRX (.lit 102 aD 1) (.bRY tI tI (.ci .i64 7) (aK (.bRW aU (.bRW tI (.bRW tI (.bRW tI .bool)))) 3 (.Z 0))) <|
    .bRX (.bS3 102 aD 16) (.bRY aU aU (.Z 4) (.Z 6)) <|
    .ret (.Z 7)) (
    .ret (.Z 4))))
theorem bDL:bI Tryz.prog [] uE false 3000 ⟨[],[]⟩ = .ok aGP:=by kernel_rfl
theorem bAX (x:(List fX) × (Int × (Int × (Int × Bool)))) (hx:okD (.bRW aU (.bRW tI (.bRW tI (.bRW tI .bool)))) x) (hp:(fun x=>List.length x.1≤1000000∧1≤x.2.1∧x.2.1≤4) x):aGP.wp [] [⟨(.bRW aU (.bRW tI (.bRW tI (.bRW tI .bool)))),x⟩] [] (fun v=>v.as aU=(fun x=>x.1++aB0 x.2.1 x.2.2.1 x.2.2.2.1 x.2.2.2.2) x):=by
 have hp:List.length x.1≤1000000∧1≤x.2.1∧x.2.1≤4:=hp
 delta aGP;refine cW ?_;try with_reducible exact True.intro
 (repeat' first|intro _|(with_reducible apply And.intro))
 all_goals (try simp only[mG] at *)
 all_goals first|omega|(unfold maxLen;omega)|skip
 all_goals (unfold aB0;(repeat' split) <;> first|omega|contradiction|(simp;done)|(simp_all;done))
theorem bBH:Con.Holds Tryz.prog uE:=aS aV aQ bDL bAX
def aCS:Con:=⟨76,(.bRW tI (.bRW tI (.bRW tI (.bRW tI .bool)))),aU,[.val ⟨false,tI,[]⟩,.val ⟨false,tI,[]⟩,.val ⟨false,tI,[]⟩,.val ⟨false,tI,[]⟩,.val ⟨false,.bool,[]⟩],[⟨false,aU,[2]⟩],false,none,
 ((fun _=>True):(Int × (Int × (Int × (Int × Bool))))→Prop),
 ((fun x=>aAG x.1 x.2.1 x.2.2.1 x.2.2.2.1 x.2.2.2.2):(Int × (Int × (Int × (Int × Bool))))→(List fX))⟩
def aMT:T:=.call 0 (bB (.bRW tI aD) [(.p1 tI (.bRW tI (.bRW tI (.bRW tI .bool))) (.Z 0)),(.ci .i64 1),(.ci .i64 2)]) <|
 .bRX .not (.Z 1) <|
 .ite (.Z 2) (
  .ret (.nl 102 aD)) (
  .call 0 (bB (.bRW tI aD) [(aK (.bRW tI (.bRW tI (.bRW tI (.bRW tI .bool)))) 1 (.Z 0)),(.ci .i64 1),(.ci .i64 4)]) <|
  .bRX .not (.Z 3) <|
  .ite (.Z 4) (
   .ret (.nl 102 aD)) (
   .bRX (.ar .sub .i64) (.bRY tI tI (aK (.bRW tI (.bRW tI (.bRW tI (.bRW tI .bool)))) 1 (.Z 0)) (.ci .i64 1)) <|
   .call 0 (bB (.bRW tI aD) [(aK (.bRW tI (.bRW tI (.bRW tI (.bRW tI .bool)))) 2 (.Z 0)),(.ci .i64 0),(.Z 5)]) <|
   .bRX .not (.Z 6) <|
   .ite (.Z 7) (
    .ret (.nl 102 aD)) (
    .call 0 (bB (.bRW tI aD) [(aK (.bRW tI (.bRW tI (.bRW tI (.bRW tI .bool)))) 3 (.Z 0)),(.ci .i64 1),(.ci .i64 5)]) <|
    .bRX .not (.Z 8) <|
    .ite (.Z 9) (
     .ret (.nl 102 aD)) (
     .call 1 (bB (.bRW tI (.bRW tI aD)) [(.p1 tI (.bRW tI (.bRW tI (.bRW tI .bool))) (.Z 0)),(aK (.bRW tI (.bRW tI (.bRW tI (.bRW tI .bool)))) 1 (.Z 0)),(aK (.bRW tI (.bRW tI (.bRW tI (.bRW tI .bool)))) 2 (.Z 0)),(aK (.bRW tI (.bRW tI (.bRW tI (.bRW tI .bool)))) 3 (.Z 0))]) <|
     .loop (.bRW tI aU) (.bRY tI aU (.ci .i64 0) (.nl 102 aD)) <|
      .bRX (.cmp .lss .i64) (.bRY tI tI (.p1 tI aU (.Z 11)) (.Z 10)) <|
      .ite (.Z 12) (
       .call 2 (bB (.bRW aU (.bRW tI aD)) [(aP (.bRW tI aU) 1 (.Z 11)),(aK (.bRW tI (.bRW tI (.bRW tI (.bRW tI .bool)))) 1 (.Z 0)),(aK (.bRW tI (.bRW tI (.bRW tI (.bRW tI .bool)))) 2 (.Z 0)),(.p1 tI aU (.Z 11))]) <|
       .bRX (.ar .add .i64) (.bRY tI tI (.p1 tI aU (.Z 11)) (.ci .i64 1)) <|
       .bRZ 0 (.bRY tI aU (.Z 14) (.Z 13))) (
       .loop (.bRW tI aU) (.bRY tI aU (.ci .i64 0) (aP (.bRW tI aU) 1 (.Z 11))) <|
        .bRX (.cmp .lss .i64) (.bRY tI tI (.p1 tI aU (.Z 13)) (aK (.bRW tI (.bRW tI (.bRW tI (.bRW tI .bool)))) 3 (.Z 0))) <|
        .ite (.Z 14) (
         .bRX (.ar .add .i64) (.bRY tI tI (.Z 10) (.p1 tI aU (.Z 13))) <|
         .bRX (.cmp .lss .i64) (.bRY tI tI (.Z 15) (aK (.bRW tI (.bRW tI (.bRW tI (.bRW tI .bool)))) 3 (.Z 0))) <|
         .ite (.Z 16) (
          .bRX (.ar .add .i64) (.bRY tI tI (.Z 10) (.p1 tI aU (.Z 13))) <|
          .call 2 (bB (.bRW aU (.bRW tI aD)) [(aP (.bRW tI aU) 1 (.Z 13)),(aK (.bRW tI (.bRW tI (.bRW tI (.bRW tI .bool)))) 1 (.Z 0)),(aK (.bRW tI (.bRW tI (.bRW tI (.bRW tI .bool)))) 2 (.Z 0)),(.Z 17)]) <|
          .call 3 (bB (.bRW aU (.bRW tI (.bRW tI (.bRW tI .bool)))) [(.Z 18),(aK (.bRW tI (.bRW tI (.bRW tI (.bRW tI .bool)))) 1 (.Z 0)),(aK (.bRW tI (.bRW tI (.bRW tI (.bRW tI .bool)))) 2 (.Z 0)),(.p1 tI aU (.Z 13)),(aP (.bRW tI (.bRW tI (.bRW tI (.bRW tI .bool)))) 4 (.Z 0))]) <|
          .bRX (.ar .add .i64) (.bRY tI tI (.p1 tI aU (.Z 13)) (.ci .i64 1)) <|
          .bRZ 0 (.bRY tI aU (.Z 20) (.Z 19))) (
          .call 3 (bB (.bRW aU (.bRW tI (.bRW tI (.bRW tI .bool)))) [(aP (.bRW tI aU) 1 (.Z 13)),(aK (.bRW tI (.bRW tI (.bRW tI (.bRW tI .bool)))) 1 (.Z 0)),(aK (.bRW tI (.bRW tI (.bRW tI (.bRW tI .bool)))) 2 (.Z 0)),(.p1 tI aU (.Z 13)),(aP (.bRW tI (.bRW tI (.bRW tI (.bRW tI .bool)))) 4 (.Z 0))]) <|
          .bRX (.ar .add .i64) (.bRY tI tI (.p1 tI aU (.Z 13)) (.ci .i64 1)) <|
          .bRZ 0 (.bRY tI aU (.Z 18) (.Z 17)))) (
         .bRX (.lit 102 aD 1) (.bRY tI tI (.ci .i64 8) (.ci .i64 0)) <|
         .bRX (.bS3 102 aD 16) (.bRY aU aU (aP (.bRW tI aU) 1 (.Z 13)) (.Z 15)) <|
         .ret (.Z 16)))))))
theorem bNI:bI Tryz.prog [bL,tM,rG,uE] aCS false 3000 ⟨[(2984,16011,gQ 41 37++gQ 35 15++[.dr 0,.tm 13 0,.on 11,.sl 1]),(2974,32013,gQ 44 42++[.dr 13,.tm 14 0,.sl 1])],[]⟩ = .ok aMT:=by kernel_rfl
theorem bMO (x:Int × (Int × (Int × (Int × Bool)))) (hx:okD (.bRW tI (.bRW tI (.bRW tI (.bRW tI .bool)))) x) (hp:(fun _=>True) x):aMT.wp [bL,tM,rG,uE] [⟨(.bRW tI (.bRW tI (.bRW tI (.bRW tI .bool)))),x⟩] [] (fun v=>v.as aU=(fun x=>aAG x.1 x.2.1 x.2.2.1 x.2.2.2.1 x.2.2.2.2) x):=by
  obtain ⟨ds,st,s,micro,r⟩:=x
  delta aMT bL tM rG uE;refine cW ?_;try with_reducible exact True.intro
  (repeat' first|intro _|(with_reducible apply And.intro))
  all_goals (try simp only[mG] at *)
  all_goals first|omega|exact bLH (fun h=>by rw[gV] at h;omega)|skip
  all_goals have hP:gP st s micro=true:=by first|assumption|exact xX (by omega)
  all_goals have hd:ds=1∨ds=2:=by omega
  all_goals have hb:=(gV _ _ _).1 hP
  all_goals have hw:=bD3 (ds:=ds) hP
  all_goals have hfin:=bLF (r:=r) ⟨hd,hP⟩
  all_goals generalize pD ds st s micro=W at *
  all_goals refine ⟨fun q=>∃ k:Nat,(k:Int)≤W∧q=((k:Int),aRV st s k),fun q=>W.toNat - (q.1:Int).toNat,⟨0,by omega,rfl⟩,fun q _ hI=>?_⟩
  all_goals obtain ⟨k,hk,rfl⟩:=hI
  all_goals dsimp only
  all_goals have l1:=aDC st s k
  all_goals have l2:=pN st s k
  all_goals refine ⟨fun hlt=>?_,fun hge=>?_⟩
  all_goals first
    | (have h0:(k:Int)<W:=hlt
       (repeat' first|intro _|(with_reducible apply And.intro))
       all_goals first|omega|(unfold maxLen;omega)|exact ⟨k+1,by omega,rfl⟩)
    | skip
  all_goals have hkW:k=W.toNat:=by omega
  all_goals refine ⟨fun q=>∃ j:Nat,(j:Int)≤micro∧q=((j:Int),vG st s micro W r j),fun q=>micro.toNat - (q.1:Int).toNat,⟨0,by omega,by rw[hkW];rfl⟩,fun q _ hI=>?_⟩
  all_goals obtain ⟨j,hj,rfl⟩:=hI
  all_goals dsimp only
  all_goals try rw[show W+(j:Int)=(j:Int)+W from Int.add_comm _ _]
  all_goals have l3:=aDW st s micro W r j
  all_goals have l4:=pN st s ((j:Int)+W)
  all_goals have l5:=aI8 st s j r
  all_goals (repeat' first|intro _|(with_reducible apply And.intro))
  all_goals first
    | omega
    | (unfold maxLen;omega)
    | exact ⟨j+1,by omega,by rw[← bFL (by omega)];rfl⟩
    | exact ⟨j+1,by omega,by rw[← bG3 (by omega)];rfl⟩
    | (have hj2:j=micro.toNat:=by omega
       rw[hj2]
       exact hfin)
theorem bNM:Con.Holds Tryz.prog aCS:=aS aV (aI eV (aI bDS (aI aWG (aI bBH aQ)))) bNI bMO
end
end Go.Proofs.YtabamggdmdednaaGreat
