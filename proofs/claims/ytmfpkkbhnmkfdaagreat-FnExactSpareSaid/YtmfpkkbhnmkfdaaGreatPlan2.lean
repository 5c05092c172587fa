/- Plan2: lemmas. No conditions. -/
import Derived.Test.YtmfpkkbhnmkfdaaGreatOps2
namespace Go.Proofs.YtmfpkkbhnmkfdaaGreat
noncomputable section
set_option maxRecDepth 100000
open Go.ChangeShapes Go.WideShapes Go.ChangeAt Go.RowKit Go.Deep
set_option linter.unusedVariables false
set_option linter.unusedSimpArgs false
def tG (st s m:Int):List gI:=(if 0<s then [((1:Int),m)] else [])++([((2:Int),m)]++(if s<st - 1 then [((3:Int),m)] else []))
def aBN (st s m:Int) (redo:Bool):List gI:=(if s<st - 1 then [((4:Int),m)] else [])++((if redo=true then [((5:Int),m)] else [])++([((6:Int),m)]++(if 0<s then [((7:Int),m)] else [])))
def hK (st s micro:Int):Bool:=decide (1≤st∧st≤4∧0≤s∧s<st∧1≤micro∧micro≤5)
theorem hZ (st s micro:Int):hK st s micro=true↔1≤st∧st≤4∧0≤s∧s<st∧1≤micro∧micro≤5:=by unfold hK;rw[decide_eq_true_eq]
def oT (ds st s micro:Int):Int:=if hK st s micro=true then (if ds=2 then min micro (st - 1 - s) else micro) else 0
def aQ9 (st s:Int):Nat→List gI
 | 0=>[]
 | k+1=>aQ9 st s k++tG st s k
def uV (st s micro w:Int) (redo:Bool):Nat→List gI
 | 0=>aQ9 st s w.toNat
 | k+1=>uV st s micro w redo k++((if (k:Int)+w<micro then tG st s ((k:Int)+w) else [])++aBN st s k redo)
def zZ (ds st s micro:Int) (redo:Bool):List gI:=if (ds=1∨ds=2)∧hK st s micro=true then uV st s micro (oT ds st s micro) redo micro.toNat++[((8:Int),(0:Int))] else []
theorem oZ (st s m:Int):(tG st s m).length≤3:=by unfold tG;split <;> split <;> simp
theorem aH7 (st s m:Int) (r:Bool):(aBN st s m r).length≤4:=by unfold aBN;split <;> split <;> split <;> simp
theorem aD0 (st s:Int):(k:Nat)→(aQ9 st s k).length≤3 * k
 | 0=>Nat.le_refl _
 | k+1=>by
  have h1:=aD0 st s k
  have h2:=oZ st s k
  unfold aQ9
  rw[List.length_append];omega
theorem aCT (st s micro w:Int) (r:Bool):(k:Nat)→(uV st s micro w r k).length≤3 * w.toNat+7 * k
 | 0=>by have:=aD0 st s w.toNat;unfold uV;omega
 | k+1=>by
  have h1:=aCT st s micro w r k
  have h2:=oZ st s ((k:Int)+w)
  have h3:=aH7 st s k r
  unfold uV
  rw[List.length_append,List.length_append]
  split
  ·omega
  ·simp only[List.length_nil];omega
theorem bKC {ds st s micro:Int} (h:hK st s micro=false):0=oT ds st s micro:=by unfold oT;rw[if_neg (by rw[h];simp)]
theorem bK6 {ds st s micro:Int} (h:hK st s micro=true) (hd:ds=2):min micro (st - 1 - s)=oT ds st s micro:=by unfold oT;rw[if_pos h,if_pos hd]
theorem bHN {ds st s micro:Int} (h:hK st s micro=true) (hd:¬ ds=2):micro=oT ds st s micro:=by unfold oT;rw[if_pos h,if_neg hd]
theorem aPY {st s micro:Int} (h:¬ (1≤st∧st≤4∧0≤s∧s<st∧1≤micro∧micro≤5)):hK st s micro=false:=Bool.eq_false_iff.2 fun h'=>h ((hZ _ _ _).1 h')
theorem xB {st s micro:Int} (h:1≤st∧st≤4∧0≤s∧s<st∧1≤micro∧micro≤5):hK st s micro=true:=(hZ _ _ _).2 h
theorem bK4 {ds st s micro:Int} {r:Bool} (h:¬ ((ds=1∨ds=2)∧hK st s micro=true)):[]=zZ ds st s micro r:=by unfold zZ;rw[if_neg h]
theorem bKO {ds st s micro:Int} {r:Bool} (h:(ds=1∨ds=2)∧hK st s micro=true):uV st s micro (oT ds st s micro) r micro.toNat++[((8:Int),(0:Int))]=zZ ds st s micro r:=by unfold zZ;rw[if_pos h]
theorem bAQ {ds st s micro:Int} (h:hK st s micro=true):0≤oT ds st s micro∧oT ds st s micro≤5:=by
 rw[hZ] at h
 unfold oT
 rw[if_pos (xB h)]
 split <;> omega
theorem bCW {st s micro w:Int} {r:Bool} {k:Nat} (h:((k:Int)+w<micro)):uV st s micro w r k++tG st s ((k:Int)+w)++aBN st s k r=uV st s micro w r (k+1):=by
 conv=>rhs;unfold uV
 rw[if_pos h,List.append_assoc]
theorem bC5 {st s micro w:Int} {r:Bool} {k:Nat} (h:¬ ((k:Int)+w<micro)):uV st s micro w r k++aBN st s k r=uV st s micro w r (k+1):=by
 conv=>rhs;unfold uV
 rw[if_neg h,List.nil_append]
def kI:Con:=⟨232,(.bP9 tI aP),.bool,[.val ⟨false,tI,[]⟩,.val ⟨false,tI,[]⟩,.val ⟨false,tI,[]⟩],[⟨false,.bool,[0]⟩],false,none,
 ((fun _=>True):(Int × gI)→Prop),
 ((fun x=>hK x.1 x.2.1 x.2.2):(Int × gI)→(Bool))⟩
def aCB:T :=
 .bPA (.cmp .geq .i64) (.bPB tI tI (.p1 tI aP (.Z 0)) (.ci .i64 1)) <|
 .ite (.Z 1) (
  .bPA (.cmp .leq .i64) (.bPB tI tI (.p1 tI aP (.Z 0)) (.ci .i64 4)) <|
  .ite (.Z 2) (
   .bPA (.cmp .geq .i64) (.bPB tI tI (aK (.bP9 tI aP) 1 (.Z 0)) (.ci .i64 0)) <|
   .ite (.Z 3) (
    .bPA (.cmp .lss .i64) (.bPB tI tI (aK (.bP9 tI aP) 1 (.Z 0)) (.p1 tI aP (.Z 0))) <|
    .ite (.Z 4) (
     .bPA (.cmp .geq .i64) (.bPB tI tI (aQ (.bP9 tI aP) 2 (.Z 0)) (.ci .i64 1)) <|
     .ite (.Z 5) (
      .bPA (.cmp .leq .i64) (.bPB tI tI (aQ (.bP9 tI aP) 2 (.Z 0)) (.ci .i64 5)) <|
      .ret (.Z 6)) (
      .ret (.cb false))) (
     .ret (.cb false))) (
    .ret (.cb false))) (
   .ret (.cb false))) (
  .ret (.cb false))
theorem aVC:bN Tryz.prog [] kI false 3000 ⟨[],[]⟩ = .ok aCB:=by kernel_rfl
theorem aWD (x:Int × gI) (hx:okD (.bP9 tI aP) x) (hp:(fun _=>True) x):aCB.wp [] [⟨(.bP9 tI aP),x⟩] [] (fun v=>v.as .bool=(fun x=>hK x.1 x.2.1 x.2.2) x):=by
 delta aCB;refine dD ?_;try with_reducible exact True.intro
 (repeat' first|intro _|(with_reducible apply And.intro))
 all_goals (try simp only[mP] at *)
 all_goals first|exact (aPY (by omega)).symm|skip
 rw[Bool.eq_iff_iff,hZ]
 (refine dM ?_;try with_reducible exact True.intro)
 omega
theorem aIT:Con.Holds Tryz.prog kI:=aS aV aT aVC aWD
def tZ:Con:=⟨233,(.bP9 tI (.bP9 tI aP)),tI,[.val ⟨false,tI,[]⟩,.val ⟨false,tI,[]⟩,.val ⟨false,tI,[]⟩,.val ⟨false,tI,[]⟩],[⟨false,tI,[0]⟩],false,none,
 ((fun _=>True):(Int × (Int × gI))→Prop),
 ((fun x=>oT x.1 x.2.1 x.2.2.1 x.2.2.2):(Int × (Int × gI))→(Int))⟩
def aEC:T:=.call 0 (aQ (.bP9 tI (.bP9 tI aP)) 1 (.Z 0)) <|
 .bPA .not (.Z 1) <|
 .ite (.Z 2) (
  .ret (.ci .i64 0)) (
  .bPA (.cmp .eql .i64) (.bPB tI tI (.p1 tI (.bP9 tI aP) (.Z 0)) (.ci .i64 2)) <|
  .ite (.Z 3) (
   .bPA (.ar .sub .i64) (.bPB tI tI (aK (.bP9 tI (.bP9 tI aP)) 1 (.Z 0)) (.ci .i64 1)) <|
   .bPA (.ar .sub .i64) (.bPB tI tI (.Z 4) (aK (.bP9 tI (.bP9 tI aP)) 2 (.Z 0))) <|
   .bPA (.mn .i64) (.bPB tI tI (aQ (.bP9 tI (.bP9 tI aP)) 3 (.Z 0)) (.Z 5)) <|
   .ret (.Z 6)) (
   .ret (aQ (.bP9 tI (.bP9 tI aP)) 3 (.Z 0))))
theorem aYF:bN Tryz.prog [kI] tZ false 3000 ⟨[],[]⟩ = .ok aEC:=by kernel_rfl
theorem bAP (x:Int × (Int × gI)) (hx:okD (.bP9 tI (.bP9 tI aP)) x) (hp:(fun _=>True) x):aEC.wp [kI] [⟨(.bP9 tI (.bP9 tI aP)),x⟩] [] (fun v=>v.as tI=(fun x=>oT x.1 x.2.1 x.2.2.1 x.2.2.2) x):=by
 delta aEC kI;refine dD ?_
 refine ⟨fun h=>?_,fun h=>?_⟩
 ·simp only[mP] at h;exact bKC h
 simp only[mP] at h
 have hb:=(hZ _ _ _).1 h
 (repeat' first|intro _|(with_reducible apply And.intro))
 all_goals first|omega|skip
 ·exact bK6 h (by simp only[mP] at *;omega)
 ·exact bHN h (by simp only[mP] at *;omega)
theorem bAF:Con.Holds Tryz.prog tZ:=aS aV (aH aIT aT) aYF bAP
def xV:Con:=⟨234,(.bP9 tI aP),aU,[.val ⟨false,tI,[]⟩,.val ⟨false,tI,[]⟩,.val ⟨false,tI,[]⟩],[⟨false,aU,[2]⟩],false,none,
 ((fun x=>1≤x.1∧x.1≤4):(Int × gI)→Prop),
 ((fun x=>tG x.1 x.2.1 x.2.2):(Int × gI)→(List gI))⟩
def aI8:T :=
 .bPA (.cmp .gtr .i64) (.bPB tI tI (aK (.bP9 tI aP) 1 (.Z 0)) (.ci .i64 0)) <|
 .ite (.Z 1) (
  .bPA (.lit 95 aP 1) (.bPB tI tI (.ci .i64 1) (aQ (.bP9 tI aP) 2 (.Z 0))) <|
  .bPA (.bPG 95 aP 16) (.bPB aU aU (.nl 95 aP) (.Z 2)) <|
  .bPA (.lit 95 aP 1) (.bPB tI tI (.ci .i64 2) (aQ (.bP9 tI aP) 2 (.Z 0))) <|
  .bPA (.bPG 95 aP 16) (.bPB aU aU (.Z 3) (.Z 4)) <|
  .bPA (.ar .sub .i64) (.bPB tI tI (.p1 tI aP (.Z 0)) (.ci .i64 1)) <|
  .bPA (.cmp .lss .i64) (.bPB tI tI (aK (.bP9 tI aP) 1 (.Z 0)) (.Z 6)) <|
  .ite (.Z 7) (
   .bPA (.lit 95 aP 1) (.bPB tI tI (.ci .i64 3) (aQ (.bP9 tI aP) 2 (.Z 0))) <|
   .bPA (.bPG 95 aP 16) (.bPB aU aU (.Z 5) (.Z 8)) <|
   .ret (.Z 9)) (
   .ret (.Z 5))) (
  .bPA (.lit 95 aP 1) (.bPB tI tI (.ci .i64 2) (aQ (.bP9 tI aP) 2 (.Z 0))) <|
  .bPA (.bPG 95 aP 16) (.bPB aU aU (.nl 95 aP) (.Z 2)) <|
  .bPA (.ar .sub .i64) (.bPB tI tI (.p1 tI aP (.Z 0)) (.ci .i64 1)) <|
  .bPA (.cmp .lss .i64) (.bPB tI tI (aK (.bP9 tI aP) 1 (.Z 0)) (.Z 4)) <|
  .ite (.Z 5) (
   .bPA (.lit 95 aP 1) (.bPB tI tI (.ci .i64 3) (aQ (.bP9 tI aP) 2 (.Z 0))) <|
   .bPA (.bPG 95 aP 16) (.bPB aU aU (.Z 3) (.Z 6)) <|
   .ret (.Z 7)) (
   .ret (.Z 3)))
theorem bFA:bN Tryz.prog [] xV false 3000 ⟨[],[]⟩ = .ok aI8:=by kernel_rfl
theorem bER (x:Int × gI) (hx:okD (.bP9 tI aP) x) (hp:(fun x=>1≤x.1∧x.1≤4) x):aI8.wp [] [⟨(.bP9 tI aP),x⟩] [] (fun v=>v.as aU=(fun x=>tG x.1 x.2.1 x.2.2) x):=by
 have hp:1≤x.1∧x.1≤4:=hp
 delta aI8;refine dD ?_;try with_reducible exact True.intro
 (repeat' first|intro _|(with_reducible apply And.intro))
 all_goals (try simp only[mP] at *)
 all_goals first|omega|(unfold maxLen;omega)|skip
 all_goals (unfold tG;(repeat' split) <;> first|omega|(simp;done))
theorem bGE:Con.Holds Tryz.prog xV:=aS aV aT bFA bER
def sM:Con:=⟨235,(.bP9 tI (.bP9 tI (.bP9 tI .bool))),aU,[.val ⟨false,tI,[]⟩,.val ⟨false,tI,[]⟩,.val ⟨false,tI,[]⟩,.val ⟨false,.bool,[]⟩],[⟨false,aU,[2]⟩],false,none,
 ((fun x=>1≤x.1∧x.1≤4):(Int × (Int × (Int × Bool)))→Prop),
 ((fun x=>aBN x.1 x.2.1 x.2.2.1 x.2.2.2):(Int × (Int × (Int × Bool)))→(List gI))⟩
def aE9:T :=
 .bPA (.ar .sub .i64) (.bPB tI tI (.p1 tI (.bP9 tI (.bP9 tI .bool)) (.Z 0)) (.ci .i64 1)) <|
 .bPA (.cmp .lss .i64) (.bPB tI tI (aK (.bP9 tI (.bP9 tI (.bP9 tI .bool))) 1 (.Z 0)) (.Z 1)) <|
 .ite (.Z 2) (
  .bPA (.lit 95 aP 1) (.bPB tI tI (.ci .i64 4) (aK (.bP9 tI (.bP9 tI (.bP9 tI .bool))) 2 (.Z 0))) <|
  .bPA (.bPG 95 aP 16) (.bPB aU aU (.nl 95 aP) (.Z 3)) <|
  .ite (aQ (.bP9 tI (.bP9 tI (.bP9 tI .bool))) 3 (.Z 0)) (
   .bPA (.lit 95 aP 1) (.bPB tI tI (.ci .i64 5) (aK (.bP9 tI (.bP9 tI (.bP9 tI .bool))) 2 (.Z 0))) <|
   .bPA (.bPG 95 aP 16) (.bPB aU aU (.Z 4) (.Z 5)) <|
   .bPA (.lit 95 aP 1) (.bPB tI tI (.ci .i64 6) (aK (.bP9 tI (.bP9 tI (.bP9 tI .bool))) 2 (.Z 0))) <|
   .bPA (.bPG 95 aP 16) (.bPB aU aU (.Z 6) (.Z 7)) <|
   .bPA (.cmp .gtr .i64) (.bPB tI tI (aK (.bP9 tI (.bP9 tI (.bP9 tI .bool))) 1 (.Z 0)) (.ci .i64 0)) <|
   .ite (.Z 9) (
    .bPA (.lit 95 aP 1) (.bPB tI tI (.ci .i64 7) (aK (.bP9 tI (.bP9 tI (.bP9 tI .bool))) 2 (.Z 0))) <|
    .bPA (.bPG 95 aP 16) (.bPB aU aU (.Z 8) (.Z 10)) <|
    .ret (.Z 11)) (
    .ret (.Z 8))) (
   .bPA (.lit 95 aP 1) (.bPB tI tI (.ci .i64 6) (aK (.bP9 tI (.bP9 tI (.bP9 tI .bool))) 2 (.Z 0))) <|
   .bPA (.bPG 95 aP 16) (.bPB aU aU (.Z 4) (.Z 5)) <|
   .bPA (.cmp .gtr .i64) (.bPB tI tI (aK (.bP9 tI (.bP9 tI (.bP9 tI .bool))) 1 (.Z 0)) (.ci .i64 0)) <|
   .ite (.Z 7) (
    .bPA (.lit 95 aP 1) (.bPB tI tI (.ci .i64 7) (aK (.bP9 tI (.bP9 tI (.bP9 tI .bool))) 2 (.Z 0))) <|
    .bPA (.bPG 95 aP 16) (.bPB aU aU (.Z 6) (.Z 8)) <|
    .ret (.Z 9)) (
    .ret (.Z 6)))) (
  .ite (aQ (.bP9 tI (.bP9 tI (.bP9 tI .bool))) 3 (.Z 0)) (
   .bPA (.lit 95 aP 1) (.bPB tI tI (.ci .i64 5) (aK (.bP9 tI (.bP9 tI (.bP9 tI .bool))) 2 (.Z 0))) <|
   .bPA (.bPG 95 aP 16) (.bPB aU aU (.nl 95 aP) (.Z 3)) <|
   .bPA (.lit 95 aP 1) (.bPB tI tI (.ci .i64 6) (aK (.bP9 tI (.bP9 tI (.bP9 tI .bool))) 2 (.Z 0))) <|
   .bPA (.bPG 95 aP 16) (.bPB aU aU (.Z 4) (.Z 5)) <|
   .bPA (.cmp .gtr .i64) (.bPB tI tI (aK (.bP9 tI (.bP9 tI (.bP9 tI .bool))) 1 (.Z 0)) (.ci .i64 0)) <|
   .ite (.Z 7) (
    .bPA (.lit 95 aP 1) (.bPB tI tI (.ci .i64 7) (aK (.bP9 tI (.bP9 tI (.bP9 tI .bool))) 2 (.Z 0))) <|
    .bPA (.bPG 95 aP 16) (.bPB aU aU (.Z 6) (.Z 8)) <|
    .ret (.Z 9)) (
    .ret (.Z 6))) (
   .bPA (.lit 95 aP 1) (.bPB tI tI (.ci .i64 6) (aK (.bP9 tI (.bP9 tI (.bP9 tI .bool))) 2 (.Z 0))) <|
   .bPA (.bPG 95 aP 16) (.bPB aU aU (.nl 95 aP) (.Z 3)) <|
   .bPA (.cmp .gtr .i64) (.bPB tI tI (aK (.bP9 tI (.bP9 tI (.bP9 tI .bool))) 1 (.Z 0)) (.ci .i64 0)) <|
   .ite (.Z 5) (
    .bPA (.lit 95 aP 1) (.bPB tI tI (.ci .i64 7) (aK (.bP9 tI (.bP9 tI (.bP9 tI .bool))) 2 (.Z 0))) <|
    .bPA (.bPG 95 aP 16) (.bPB aU aU (.Z 4) (.Z 6)) <|
    .ret (.Z 7)) (
    .ret (.Z 4))))
theorem aZ0:bN Tryz.prog [] sM false 3000 ⟨[],[]⟩ = .ok aE9:=by kernel_rfl
theorem bA8 (x:Int × (Int × (Int × Bool))) (hx:okD (.bP9 tI (.bP9 tI (.bP9 tI .bool))) x) (hp:(fun x=>1≤x.1∧x.1≤4) x):aE9.wp [] [⟨(.bP9 tI (.bP9 tI (.bP9 tI .bool))),x⟩] [] (fun v=>v.as aU=(fun x=>aBN x.1 x.2.1 x.2.2.1 x.2.2.2) x):=by
 have hp:1≤x.1∧x.1≤4:=hp
 delta aE9;refine dD ?_;try with_reducible exact True.intro
 (repeat' first|intro _|(with_reducible apply And.intro))
 all_goals (try simp only[mP] at *)
 all_goals first|omega|(unfold maxLen;omega)|skip
 all_goals (unfold aBN;(repeat' split) <;> first|omega|contradiction|(simp;done)|(simp_all;done))
theorem bAZ:Con.Holds Tryz.prog sM:=aS aV aT aZ0 bA8
def aAL:Con:=⟨147,(.bP9 tI (.bP9 tI (.bP9 tI (.bP9 tI .bool)))),aU,[.val ⟨false,tI,[]⟩,.val ⟨false,tI,[]⟩,.val ⟨false,tI,[]⟩,.val ⟨false,tI,[]⟩,.val ⟨false,.bool,[]⟩],[⟨false,aU,[2]⟩],false,none,
 ((fun _=>True):(Int × (Int × (Int × (Int × Bool))))→Prop),
 ((fun x=>zZ x.1 x.2.1 x.2.2.1 x.2.2.2.1 x.2.2.2.2):(Int × (Int × (Int × (Int × Bool))))→(List gI))⟩
def aKZ:T :=
 .bPA (.cmp .neq .i64) (.bPB tI tI (.p1 tI (.bP9 tI (.bP9 tI (.bP9 tI .bool))) (.Z 0)) (.ci .i64 1)) <|
 .ite (.Z 1) (
  .bPA (.cmp .neq .i64) (.bPB tI tI (.p1 tI (.bP9 tI (.bP9 tI (.bP9 tI .bool))) (.Z 0)) (.ci .i64 2)) <|
  .ite (.Z 2) (
   .ret (.nl 95 aP)) (
   .call 0 (bG (.bP9 tI aP) [(aK (.bP9 tI (.bP9 tI (.bP9 tI (.bP9 tI .bool)))) 1 (.Z 0)),(aK (.bP9 tI (.bP9 tI (.bP9 tI (.bP9 tI .bool)))) 2 (.Z 0)),(aK (.bP9 tI (.bP9 tI (.bP9 tI (.bP9 tI .bool)))) 3 (.Z 0))]) <|
   .bPA .not (.Z 3) <|
   .ite (.Z 4) (
    .ret (.nl 95 aP)) (
    .call 1 (bG (.bP9 tI (.bP9 tI aP)) [(.p1 tI (.bP9 tI (.bP9 tI (.bP9 tI .bool))) (.Z 0)),(aK (.bP9 tI (.bP9 tI (.bP9 tI (.bP9 tI .bool)))) 1 (.Z 0)),(aK (.bP9 tI (.bP9 tI (.bP9 tI (.bP9 tI .bool)))) 2 (.Z 0)),(aK (.bP9 tI (.bP9 tI (.bP9 tI (.bP9 tI .bool)))) 3 (.Z 0))]) <|
    .loop (.bP9 tI aU) (.bPB tI aU (.ci .i64 0) (.nl 95 aP)) <|
     .bPA (.cmp .lss .i64) (.bPB tI tI (.p1 tI aU (.Z 6)) (.Z 5)) <|
     .ite (.Z 7) (
      .call 2 (bG (.bP9 tI aP) [(aK (.bP9 tI (.bP9 tI (.bP9 tI (.bP9 tI .bool)))) 1 (.Z 0)),(aK (.bP9 tI (.bP9 tI (.bP9 tI (.bP9 tI .bool)))) 2 (.Z 0)),(.p1 tI aU (.Z 6))]) <|
      .bPA (.bPG 95 aP 16) (.bPB aU aU (aQ (.bP9 tI aU) 1 (.Z 6)) (.Z 8)) <|
      .bPA (.ar .add .i64) (.bPB tI tI (.p1 tI aU (.Z 6)) (.ci .i64 1)) <|
      .bPC 0 (.bPB tI aU (.Z 10) (.Z 9))) (
      .loop (.bP9 tI aU) (.bPB tI aU (.ci .i64 0) (aQ (.bP9 tI aU) 1 (.Z 6))) <|
       .bPA (.cmp .lss .i64) (.bPB tI tI (.p1 tI aU (.Z 8)) (aK (.bP9 tI (.bP9 tI (.bP9 tI (.bP9 tI .bool)))) 3 (.Z 0))) <|
       .ite (.Z 9) (
        .bPA (.ar .add .i64) (.bPB tI tI (.p1 tI aU (.Z 8)) (.Z 5)) <|
        .bPA (.cmp .lss .i64) (.bPB tI tI (.Z 10) (aK (.bP9 tI (.bP9 tI (.bP9 tI (.bP9 tI .bool)))) 3 (.Z 0))) <|
        .ite (.Z 11) (
         .bPA (.ar .add .i64) (.bPB tI tI (.p1 tI aU (.Z 8)) (.Z 5)) <|
         .call 2 (bG (.bP9 tI aP) [(aK (.bP9 tI (.bP9 tI (.bP9 tI (.bP9 tI .bool)))) 1 (.Z 0)),(aK (.bP9 tI (.bP9 tI (.bP9 tI (.bP9 tI .bool)))) 2 (.Z 0)),(.Z 12)]) <|
         .bPA (.bPG 95 aP 16) (.bPB aU aU (aQ (.bP9 tI aU) 1 (.Z 8)) (.Z 13)) <|
         .call 3 (bG (.bP9 tI (.bP9 tI (.bP9 tI .bool))) [(aK (.bP9 tI (.bP9 tI (.bP9 tI (.bP9 tI .bool)))) 1 (.Z 0)),(aK (.bP9 tI (.bP9 tI (.bP9 tI (.bP9 tI .bool)))) 2 (.Z 0)),(.p1 tI aU (.Z 8)),(aQ (.bP9 tI (.bP9 tI (.bP9 tI (.bP9 tI .bool)))) 4 (.Z 0))]) <|
         .bPA (.bPG 95 aP 16) (.bPB aU aU (.Z 14) (.Z 15)) <|
         .bPA (.ar .add .i64) (.bPB tI tI (.p1 tI aU (.Z 8)) (.ci .i64 1)) <|
         .bPC 0 (.bPB tI aU (.Z 17) (.Z 16))) (
         .call 3 (bG (.bP9 tI (.bP9 tI (.bP9 tI .bool))) [(aK (.bP9 tI (.bP9 tI (.bP9 tI (.bP9 tI .bool)))) 1 (.Z 0)),(aK (.bP9 tI (.bP9 tI (.bP9 tI (.bP9 tI .bool)))) 2 (.Z 0)),(.p1 tI aU (.Z 8)),(aQ (.bP9 tI (.bP9 tI (.bP9 tI (.bP9 tI .bool)))) 4 (.Z 0))]) <|
         .bPA (.bPG 95 aP 16) (.bPB aU aU (aQ (.bP9 tI aU) 1 (.Z 8)) (.Z 12)) <|
         .bPA (.ar .add .i64) (.bPB tI tI (.p1 tI aU (.Z 8)) (.ci .i64 1)) <|
         .bPC 0 (.bPB tI aU (.Z 14) (.Z 13)))) (
        .bPA (.lit 95 aP 1) (.bPB tI tI (.ci .i64 8) (.ci .i64 0)) <|
        .bPA (.bPG 95 aP 16) (.bPB aU aU (aQ (.bP9 tI aU) 1 (.Z 8)) (.Z 10)) <|
        .ret (.Z 11)))))) (
  .call 0 (bG (.bP9 tI aP) [(aK (.bP9 tI (.bP9 tI (.bP9 tI (.bP9 tI .bool)))) 1 (.Z 0)),(aK (.bP9 tI (.bP9 tI (.bP9 tI (.bP9 tI .bool)))) 2 (.Z 0)),(aK (.bP9 tI (.bP9 tI (.bP9 tI (.bP9 tI .bool)))) 3 (.Z 0))]) <|
  .bPA .not (.Z 2) <|
  .ite (.Z 3) (
   .ret (.nl 95 aP)) (
   .call 1 (bG (.bP9 tI (.bP9 tI aP)) [(.p1 tI (.bP9 tI (.bP9 tI (.bP9 tI .bool))) (.Z 0)),(aK (.bP9 tI (.bP9 tI (.bP9 tI (.bP9 tI .bool)))) 1 (.Z 0)),(aK (.bP9 tI (.bP9 tI (.bP9 tI (.bP9 tI .bool)))) 2 (.Z 0)),(aK (.bP9 tI (.bP9 tI (.bP9 tI (.bP9 tI .bool)))) 3 (.Z 0))]) <|
   .loop (.bP9 tI aU) (.bPB tI aU (.ci .i64 0) (.nl 95 aP)) <|
    .bPA (.cmp .lss .i64) (.bPB tI tI (.p1 tI aU (.Z 5)) (.Z 4)) <|
    .ite (.Z 6) (
     .call 2 (bG (.bP9 tI aP) [(aK (.bP9 tI (.bP9 tI (.bP9 tI (.bP9 tI .bool)))) 1 (.Z 0)),(aK (.bP9 tI (.bP9 tI (.bP9 tI (.bP9 tI .bool)))) 2 (.Z 0)),(.p1 tI aU (.Z 5))]) <|
     .bPA (.bPG 95 aP 16) (.bPB aU aU (aQ (.bP9 tI aU) 1 (.Z 5)) (.Z 7)) <|
     .bPA (.ar .add .i64) (.bPB tI tI (.p1 tI aU (.Z 5)) (.ci .i64 1)) <|
     .bPC 0 (.bPB tI aU (.Z 9) (.Z 8))) (
     .loop (.bP9 tI aU) (.bPB tI aU (.ci .i64 0) (aQ (.bP9 tI aU) 1 (.Z 5))) <|
      .bPA (.cmp .lss .i64) (.bPB tI tI (.p1 tI aU (.Z 7)) (aK (.bP9 tI (.bP9 tI (.bP9 tI (.bP9 tI .bool)))) 3 (.Z 0))) <|
      .ite (.Z 8) (
       .bPA (.ar .add .i64) (.bPB tI tI (.p1 tI aU (.Z 7)) (.Z 4)) <|
       .bPA (.cmp .lss .i64) (.bPB tI tI (.Z 9) (aK (.bP9 tI (.bP9 tI (.bP9 tI (.bP9 tI .bool)))) 3 (.Z 0))) <|
       .ite (.Z 10) (
        .bPA (.ar .add .i64) (.bPB tI tI (.p1 tI aU (.Z 7)) (.Z 4)) <|
        .call 2 (bG (.bP9 tI aP) [(aK (.bP9 tI (.bP9 tI (.bP9 tI (.bP9 tI .bool)))) 1 (.Z 0)),(aK (.bP9 tI (.bP9 tI (.bP9 tI (.bP9 tI .bool)))) 2 (.Z 0)),(.Z 11)]) <|
        .bPA (.bPG 95 aP 16) (.bPB aU aU (aQ (.bP9 tI aU) 1 (.Z 7)) (.Z 12)) <|
        .call 3 (bG (.bP9 tI (.bP9 tI (.bP9 tI .bool))) [(aK (.bP9 tI (.bP9 tI (.bP9 tI (.bP9 tI .bool)))) 1 (.Z 0)),(aK (.bP9 tI (.bP9 tI (.bP9 tI (.bP9 tI .bool)))) 2 (.Z 0)),(.p1 tI aU (.Z 7)),(aQ (.bP9 tI (.bP9 tI (.bP9 tI (.bP9 tI .bool)))) 4 (.Z 0))]) <|
        .bPA (.bPG 95 aP 16) (.bPB aU aU (.Z 13) (.Z 14)) <|
        .bPA (.ar .add .i64) (.bPB tI tI (.p1 tI aU (.Z 7)) (.ci .i64 1)) <|
        .bPC 0 (.bPB tI aU (.Z 16) (.Z 15))) (
        .call 3 (bG (.bP9 tI (.bP9 tI (.bP9 tI .bool))) [(aK (.bP9 tI (.bP9 tI (.bP9 tI (.bP9 tI .bool)))) 1 (.Z 0)),(aK (.bP9 tI (.bP9 tI (.bP9 tI (.bP9 tI .bool)))) 2 (.Z 0)),(.p1 tI aU (.Z 7)),(aQ (.bP9 tI (.bP9 tI (.bP9 tI (.bP9 tI .bool)))) 4 (.Z 0))]) <|
        .bPA (.bPG 95 aP 16) (.bPB aU aU (aQ (.bP9 tI aU) 1 (.Z 7)) (.Z 11)) <|
        .bPA (.ar .add .i64) (.bPB tI tI (.p1 tI aU (.Z 7)) (.ci .i64 1)) <|
        .bPC 0 (.bPB tI aU (.Z 13) (.Z 12)))) (
       .bPA (.lit 95 aP 1) (.bPB tI tI (.ci .i64 8) (.ci .i64 0)) <|
       .bPA (.bPG 95 aP 16) (.bPB aU aU (aQ (.bP9 tI aU) 1 (.Z 7)) (.Z 9)) <|
       .ret (.Z 10)))))
theorem bHX:bN Tryz.prog [kI,tZ,xV,sM] aAL false 3000 ⟨[(2984,9006,iL 33 15++[.dr 0,.tm 13 0,.on 12,.sl 1]),(2974,17008,iL 36 34++[.dr 13,.tm 14 0,.sl 1]),(2984,4005,iL 33 15++[.dr 0,.tm 13 0,.on 12,.sl 1]),(2974,8007,iL 36 34++[.dr 13,.tm 14 0,.sl 1])],[]⟩ = .ok aKZ:=by kernel_rfl
theorem bKQ (x:Int × (Int × (Int × (Int × Bool)))) (hx:okD (.bP9 tI (.bP9 tI (.bP9 tI (.bP9 tI .bool)))) x) (hp:(fun _=>True) x):aKZ.wp [kI,tZ,xV,sM] [⟨(.bP9 tI (.bP9 tI (.bP9 tI (.bP9 tI .bool)))),x⟩] [] (fun v=>v.as aU=(fun x=>zZ x.1 x.2.1 x.2.2.1 x.2.2.2.1 x.2.2.2.2) x):=by
  obtain ⟨ds,st,s,micro,r⟩:=x
  delta aKZ kI tZ xV sM;refine dD ?_;try with_reducible exact True.intro
  (repeat' first|intro _|(with_reducible apply And.intro))
  all_goals (try simp only[mP] at *)
  all_goals first|exact bK4 (fun h=>by rcases h with ⟨h1|h1,h2⟩ <;> first|omega|(simp_all;done))|skip
  all_goals have hP:hK st s micro=true:=by first|assumption|exact xB (by omega)
  all_goals have hd:ds=1∨ds=2:=by omega
  all_goals have hb:=(hZ _ _ _).1 hP
  all_goals have hw:=bAQ (ds:=ds) hP
  all_goals have hfin:=bKO (r:=r) ⟨hd,hP⟩
  all_goals generalize oT ds st s micro=W at *
  all_goals refine ⟨fun q=>∃ k:Nat,(k:Int)≤W∧q=((k:Int),aQ9 st s k),fun q=>W.toNat - (q.1:Int).toNat,⟨0,by omega,rfl⟩,fun q _ hI=>?_⟩
  all_goals obtain ⟨k,hk,rfl⟩:=hI
  all_goals dsimp only
  all_goals have l1:=aD0 st s k
  all_goals have l2:=oZ st s k
  all_goals refine ⟨fun hlt=>?_,fun hge=>?_⟩
  all_goals first
    | (have h0:(k:Int)<W:=hlt
       (repeat' first|intro _|(with_reducible apply And.intro))
       all_goals first|omega|(unfold maxLen;omega)|exact ⟨k+1,by omega,rfl⟩)
    | skip
  all_goals have hkW:k=W.toNat:=by omega
  all_goals refine ⟨fun q=>∃ j:Nat,(j:Int)≤micro∧q=((j:Int),uV st s micro W r j),fun q=>micro.toNat - (q.1:Int).toNat,⟨0,by omega,by rw[hkW];rfl⟩,fun q _ hI=>?_⟩
  all_goals obtain ⟨j,hj,rfl⟩:=hI
  all_goals dsimp only
  all_goals try rw[show W+(j:Int)=(j:Int)+W from Int.add_comm _ _]
  all_goals have l3:=aCT st s micro W r j
  all_goals have l4:=oZ st s ((j:Int)+W)
  all_goals have l5:=aH7 st s j r
  all_goals (repeat' first|intro _|(with_reducible apply And.intro))
  all_goals first
    | omega
    | (unfold maxLen;omega)
    | exact ⟨j+1,by omega,by rw[← bCW (by omega)];rfl⟩
    | exact ⟨j+1,by omega,by rw[← bC5 (by omega)];rfl⟩
    | (have hj2:j=micro.toNat:=by omega
       rw[hj2]
       exact hfin)
theorem bI1:Con.Holds Tryz.prog aAL:=aS aV (aH aIT (aH bAF (aH bGE (aH bAZ aT)))) bHX bKQ
def tS:Con:=⟨227,(.bP9 tI (.bP9 tI aP)),tI,[.val ⟨false,tI,[]⟩,.val ⟨false,tI,[]⟩,.val ⟨false,tI,[]⟩,.val ⟨false,tI,[]⟩],[⟨false,tI,[0]⟩],false,none,
 ((fun _=>True):(Int × (Int × gI))→Prop),
 ((fun x=>oT x.1 x.2.1 x.2.2.1 x.2.2.2):(Int × (Int × gI))→(Int))⟩
def aFP:T:=.call 0 (bG (.bP9 tI aP) [(aK (.bP9 tI (.bP9 tI aP)) 1 (.Z 0)),(.ci .i64 1),(.ci .i64 4)]) <|
 .bPA .not (.Z 1) <|
 .ite (.Z 2) (
  .ret (.ci .i64 0)) (
  .bPA (.ar .sub .i64) (.bPB tI tI (aK (.bP9 tI (.bP9 tI aP)) 1 (.Z 0)) (.ci .i64 1)) <|
  .call 0 (bG (.bP9 tI aP) [(aK (.bP9 tI (.bP9 tI aP)) 2 (.Z 0)),(.ci .i64 0),(.Z 3)]) <|
  .bPA .not (.Z 4) <|
  .ite (.Z 5) (
   .ret (.ci .i64 0)) (
   .call 0 (bG (.bP9 tI aP) [(aQ (.bP9 tI (.bP9 tI aP)) 3 (.Z 0)),(.ci .i64 1),(.ci .i64 5)]) <|
   .bPA .not (.Z 6) <|
   .ite (.Z 7) (
    .ret (.ci .i64 0)) (
    .bPA (.cmp .eql .i64) (.bPB tI tI (.p1 tI (.bP9 tI aP) (.Z 0)) (.ci .i64 2)) <|
    .ite (.Z 8) (
     .bPA (.ar .sub .i64) (.bPB tI tI (aK (.bP9 tI (.bP9 tI aP)) 1 (.Z 0)) (.ci .i64 1)) <|
     .bPA (.ar .sub .i64) (.bPB tI tI (.Z 9) (aK (.bP9 tI (.bP9 tI aP)) 2 (.Z 0))) <|
     .bPA (.mn .i64) (.bPB tI tI (aQ (.bP9 tI (.bP9 tI aP)) 3 (.Z 0)) (.Z 10)) <|
     .ret (.Z 11)) (
     .ret (aQ (.bP9 tI (.bP9 tI aP)) 3 (.Z 0))))))
theorem aZI:bN Tryz.prog [bK] tS false 3000 ⟨[],[]⟩ = .ok aFP:=by kernel_rfl
theorem aYY (x:Int × (Int × gI)) (hx:okD (.bP9 tI (.bP9 tI aP)) x) (hp:(fun _=>True) x):aFP.wp [bK] [⟨(.bP9 tI (.bP9 tI aP)),x⟩] [] (fun v=>v.as tI=(fun x=>oT x.1 x.2.1 x.2.2.1 x.2.2.2) x):=by
 delta aFP bK;refine dD ?_;try with_reducible exact True.intro
 (repeat' first|intro _|(with_reducible apply And.intro))
 all_goals (try simp only[mP] at *)
 all_goals first|omega|exact bKC (aPY (by omega))|exact bK6 (xB (by omega)) (by omega)|exact bHN (xB (by omega)) (by omega)
theorem aYB:Con.Holds Tryz.prog tS:=aS aV (aH fM aT) aZI aYY
def pZ:Con:=⟨228,(.bP9 aU (.bP9 tI aP)),aU,[.val ⟨false,aU,[2]⟩,.val ⟨false,tI,[]⟩,.val ⟨false,tI,[]⟩,.val ⟨false,tI,[]⟩],[⟨false,aU,[2]⟩],false,none,
 ((fun x=>List.length x.1≤1000000∧1≤x.2.1∧x.2.1≤4):((List gI) × (Int × gI))→Prop),
 ((fun x=>x.1++tG x.2.1 x.2.2.1 x.2.2.2):((List gI) × (Int × gI))→(List gI))⟩
def aAG:T :=
 .bPA (.cmp .gtr .i64) (.bPB tI tI (aK (.bP9 aU (.bP9 tI aP)) 2 (.Z 0)) (.ci .i64 0)) <|
 .ite (.Z 1) (
  .bPA (.lit 95 aP 1) (.bPB tI tI (.ci .i64 1) (aQ (.bP9 aU (.bP9 tI aP)) 3 (.Z 0))) <|
  .bPA (.bPG 95 aP 16) (.bPB aU aU (.p1 aU (.bP9 tI aP) (.Z 0)) (.Z 2)) <|
  .bPA (.lit 95 aP 1) (.bPB tI tI (.ci .i64 2) (aQ (.bP9 aU (.bP9 tI aP)) 3 (.Z 0))) <|
  .bPA (.bPG 95 aP 16) (.bPB aU aU (.Z 3) (.Z 4)) <|
  .bPA (.ar .sub .i64) (.bPB tI tI (aK (.bP9 aU (.bP9 tI aP)) 1 (.Z 0)) (.ci .i64 1)) <|
  .bPA (.cmp .lss .i64) (.bPB tI tI (aK (.bP9 aU (.bP9 tI aP)) 2 (.Z 0)) (.Z 6)) <|
  .ite (.Z 7) (
   .bPA (.lit 95 aP 1) (.bPB tI tI (.ci .i64 3) (aQ (.bP9 aU (.bP9 tI aP)) 3 (.Z 0))) <|
   .bPA (.bPG 95 aP 16) (.bPB aU aU (.Z 5) (.Z 8)) <|
   .ret (.Z 9)) (
   .ret (.Z 5))) (
  .bPA (.lit 95 aP 1) (.bPB tI tI (.ci .i64 2) (aQ (.bP9 aU (.bP9 tI aP)) 3 (.Z 0))) <|
  .bPA (.bPG 95 aP 16) (.bPB aU aU (.p1 aU (.bP9 tI aP) (.Z 0)) (.Z 2)) <|
  .bPA (.ar .sub .i64) (.bPB tI tI (aK (.bP9 aU (.bP9 tI aP)) 1 (.Z 0)) (.ci .i64 1)) <|
  .bPA (.cmp .lss .i64) (.bPB tI tI (aK (.bP9 aU (.bP9 tI aP)) 2 (.Z 0)) (.Z 4)) <|
  .ite (.Z 5) (
   .bPA (.lit 95 aP 1) (.bPB tI tI (.ci .i64 3) (aQ (.bP9 aU (.bP9 tI aP)) 3 (.Z 0))) <|
   .bPA (.bPG 95 aP 16) (.bPB aU aU (.Z 3) (.Z 6)) <|
   .ret (.Z 7)) (
   .ret (.Z 3)))
theorem aX5:bN Tryz.prog [] pZ false 3000 ⟨[],[]⟩ = .ok aAG:=by kernel_rfl
theorem aXO (x:(List gI) × (Int × gI)) (hx:okD (.bP9 aU (.bP9 tI aP)) x) (hp:(fun x=>List.length x.1≤1000000∧1≤x.2.1∧x.2.1≤4) x):aAG.wp [] [⟨(.bP9 aU (.bP9 tI aP)),x⟩] [] (fun v=>v.as aU=(fun x=>x.1++tG x.2.1 x.2.2.1 x.2.2.2) x):=by
 have hp:List.length x.1≤1000000∧1≤x.2.1∧x.2.1≤4:=hp
 delta aAG;refine dD ?_;try with_reducible exact True.intro
 (repeat' first|intro _|(with_reducible apply And.intro))
 all_goals (try simp only[mP] at *)
 all_goals first|omega|(unfold maxLen;omega)|skip
 all_goals (unfold tG;(repeat' split) <;> first|omega|(simp;done))
theorem aW0:Con.Holds Tryz.prog pZ:=aS aV aT aX5 aXO
def uG:Con:=⟨229,(.bP9 aU (.bP9 tI (.bP9 tI (.bP9 tI .bool)))),aU,[.val ⟨false,aU,[2]⟩,.val ⟨false,tI,[]⟩,.val ⟨false,tI,[]⟩,.val ⟨false,tI,[]⟩,.val ⟨false,.bool,[]⟩],[⟨false,aU,[2]⟩],false,none,
 ((fun x=>List.length x.1≤1000000∧1≤x.2.1∧x.2.1≤4):((List gI) × (Int × (Int × (Int × Bool))))→Prop),
 ((fun x=>x.1++aBN x.2.1 x.2.2.1 x.2.2.2.1 x.2.2.2.2):((List gI) × (Int × (Int × (Int × Bool))))→(List gI))⟩
def aF6:T :=
 .bPA (.ar .sub .i64) (.bPB tI tI (aK (.bP9 aU (.bP9 tI (.bP9 tI (.bP9 tI .bool)))) 1 (.Z 0)) (.ci .i64 1)) <|
 .bPA (.cmp .lss .i64) (.bPB tI tI (aK (.bP9 aU (.bP9 tI (.bP9 tI (.bP9 tI .bool)))) 2 (.Z 0)) (.Z 1)) <|
 .ite (.Z 2) (
  .bPA (.lit 95 aP 1) (.bPB tI tI (.ci .i64 4) (aK (.bP9 aU (.bP9 tI (.bP9 tI (.bP9 tI .bool)))) 3 (.Z 0))) <|
  .bPA (.bPG 95 aP 16) (.bPB aU aU (.p1 aU (.bP9 tI (.bP9 tI (.bP9 tI .bool))) (.Z 0)) (.Z 3)) <|
  .ite (aQ (.bP9 aU (.bP9 tI (.bP9 tI (.bP9 tI .bool)))) 4 (.Z 0)) (
   .bPA (.lit 95 aP 1) (.bPB tI tI (.ci .i64 5) (aK (.bP9 aU (.bP9 tI (.bP9 tI (.bP9 tI .bool)))) 3 (.Z 0))) <|
   .bPA (.bPG 95 aP 16) (.bPB aU aU (.Z 4) (.Z 5)) <|
   .bPA (.lit 95 aP 1) (.bPB tI tI (.ci .i64 6) (aK (.bP9 aU (.bP9 tI (.bP9 tI (.bP9 tI .bool)))) 3 (.Z 0))) <|
   .bPA (.bPG 95 aP 16) (.bPB aU aU (.Z 6) (.Z 7)) <|
   .bPA (.cmp .gtr .i64) (.bPB tI tI (aK (.bP9 aU (.bP9 tI (.bP9 tI (.bP9 tI .bool)))) 2 (.Z 0)) (.ci .i64 0)) <|
   .ite (.Z 9) (
    .bPA (.lit 95 aP 1) (.bPB tI tI (.ci .i64 7) (aK (.bP9 aU (.bP9 tI (.bP9 tI (.bP9 tI .bool)))) 3 (.Z 0))) <|
    .bPA (.bPG 95 aP 16) (.bPB aU aU (.Z 8) (.Z 10)) <|
    .ret (.Z 11)) (
    .ret (.Z 8))) (
   .bPA (.lit 95 aP 1) (.bPB tI tI (.ci .i64 6) (aK (.bP9 aU (.bP9 tI (.bP9 tI (.bP9 tI .bool)))) 3 (.Z 0))) <|
   .bPA (.bPG 95 aP 16) (.bPB aU aU (.Z 4) (.Z 5)) <|
   .bPA (.cmp .gtr .i64) (.bPB tI tI (aK (.bP9 aU (.bP9 tI (.bP9 tI (.bP9 tI .bool)))) 2 (.Z 0)) (.ci .i64 0)) <|
   .ite (.Z 7) (
    .bPA (.lit 95 aP 1) (.bPB tI tI (.ci .i64 7) (aK (.bP9 aU (.bP9 tI (.bP9 tI (.bP9 tI .bool)))) 3 (.Z 0))) <|
    .bPA (.bPG 95 aP 16) (.bPB aU aU (.Z 6) (.Z 8)) <|
    .ret (.Z 9)) (
    .ret (.Z 6)))) (
  .ite (aQ (.bP9 aU (.bP9 tI (.bP9 tI (.bP9 tI .bool)))) 4 (.Z 0)) (
   .bPA (.lit 95 aP 1) (.bPB tI tI (.ci .i64 5) (aK (.bP9 aU (.bP9 tI (.bP9 tI (.bP9 tI .bool)))) 3 (.Z 0))) <|
   .bPA (.bPG 95 aP 16) (.bPB aU aU (.p1 aU (.bP9 tI (.bP9 tI (.bP9 tI .bool))) (.Z 0)) (.Z 3)) <|
   .bPA (.lit 95 aP 1) (.bPB tI tI (.ci .i64 6) (aK (.bP9 aU (.bP9 tI (.bP9 tI (.bP9 tI .bool)))) 3 (.Z 0))) <|
   .bPA (.bPG 95 aP 16) (.bPB aU aU (.Z 4) (.Z 5)) <|
   .bPA (.cmp .gtr .i64) (.bPB tI tI (aK (.bP9 aU (.bP9 tI (.bP9 tI (.bP9 tI .bool)))) 2 (.Z 0)) (.ci .i64 0)) <|
   .ite (.Z 7) (
    .bPA (.lit 95 aP 1) (.bPB tI tI (.ci .i64 7) (aK (.bP9 aU (.bP9 tI (.bP9 tI (.bP9 tI .bool)))) 3 (.Z 0))) <|
    .bPA (.bPG 95 aP 16) (.bPB aU aU (.Z 6) (.Z 8)) <|
    .ret (.Z 9)) (
    .ret (.Z 6))) (
   .bPA (.lit 95 aP 1) (.bPB tI tI (.ci .i64 6) (aK (.bP9 aU (.bP9 tI (.bP9 tI (.bP9 tI .bool)))) 3 (.Z 0))) <|
   .bPA (.bPG 95 aP 16) (.bPB aU aU (.p1 aU (.bP9 tI (.bP9 tI (.bP9 tI .bool))) (.Z 0)) (.Z 3)) <|
   .bPA (.cmp .gtr .i64) (.bPB tI tI (aK (.bP9 aU (.bP9 tI (.bP9 tI (.bP9 tI .bool)))) 2 (.Z 0)) (.ci .i64 0)) <|
   .ite (.Z 5) (
    .bPA (.lit 95 aP 1) (.bPB tI tI (.ci .i64 7) (aK (.bP9 aU (.bP9 tI (.bP9 tI (.bP9 tI .bool)))) 3 (.Z 0))) <|
    .bPA (.bPG 95 aP 16) (.bPB aU aU (.Z 4) (.Z 6)) <|
    .ret (.Z 7)) (
    .ret (.Z 4))))
theorem bAL:bN Tryz.prog [] uG false 3000 ⟨[],[]⟩ = .ok aF6:=by kernel_rfl
theorem aYJ (x:(List gI) × (Int × (Int × (Int × Bool)))) (hx:okD (.bP9 aU (.bP9 tI (.bP9 tI (.bP9 tI .bool)))) x) (hp:(fun x=>List.length x.1≤1000000∧1≤x.2.1∧x.2.1≤4) x):aF6.wp [] [⟨(.bP9 aU (.bP9 tI (.bP9 tI (.bP9 tI .bool)))),x⟩] [] (fun v=>v.as aU=(fun x=>x.1++aBN x.2.1 x.2.2.1 x.2.2.2.1 x.2.2.2.2) x):=by
 have hp:List.length x.1≤1000000∧1≤x.2.1∧x.2.1≤4:=hp
 delta aF6;refine dD ?_;try with_reducible exact True.intro
 (repeat' first|intro _|(with_reducible apply And.intro))
 all_goals (try simp only[mP] at *)
 all_goals first|omega|(unfold maxLen;omega)|skip
 all_goals (unfold aBN;(repeat' split) <;> first|omega|contradiction|(simp;done)|(simp_all;done))
theorem bBG:Con.Holds Tryz.prog uG:=aS aV aT bAL aYJ
def aC6:Con:=⟨142,(.bP9 tI (.bP9 tI (.bP9 tI (.bP9 tI .bool)))),aU,[.val ⟨false,tI,[]⟩,.val ⟨false,tI,[]⟩,.val ⟨false,tI,[]⟩,.val ⟨false,tI,[]⟩,.val ⟨false,.bool,[]⟩],[⟨false,aU,[2]⟩],false,none,
 ((fun _=>True):(Int × (Int × (Int × (Int × Bool))))→Prop),
 ((fun x=>zZ x.1 x.2.1 x.2.2.1 x.2.2.2.1 x.2.2.2.2):(Int × (Int × (Int × (Int × Bool))))→(List gI))⟩
def aLG:T:=.call 0 (bG (.bP9 tI aP) [(.p1 tI (.bP9 tI (.bP9 tI (.bP9 tI .bool))) (.Z 0)),(.ci .i64 1),(.ci .i64 2)]) <|
 .bPA .not (.Z 1) <|
 .ite (.Z 2) (
  .ret (.nl 95 aP)) (
  .call 0 (bG (.bP9 tI aP) [(aK (.bP9 tI (.bP9 tI (.bP9 tI (.bP9 tI .bool)))) 1 (.Z 0)),(.ci .i64 1),(.ci .i64 4)]) <|
  .bPA .not (.Z 3) <|
  .ite (.Z 4) (
   .ret (.nl 95 aP)) (
   .bPA (.ar .sub .i64) (.bPB tI tI (aK (.bP9 tI (.bP9 tI (.bP9 tI (.bP9 tI .bool)))) 1 (.Z 0)) (.ci .i64 1)) <|
   .call 0 (bG (.bP9 tI aP) [(aK (.bP9 tI (.bP9 tI (.bP9 tI (.bP9 tI .bool)))) 2 (.Z 0)),(.ci .i64 0),(.Z 5)]) <|
   .bPA .not (.Z 6) <|
   .ite (.Z 7) (
    .ret (.nl 95 aP)) (
    .call 0 (bG (.bP9 tI aP) [(aK (.bP9 tI (.bP9 tI (.bP9 tI (.bP9 tI .bool)))) 3 (.Z 0)),(.ci .i64 1),(.ci .i64 5)]) <|
    .bPA .not (.Z 8) <|
    .ite (.Z 9) (
     .ret (.nl 95 aP)) (
     .call 1 (bG (.bP9 tI (.bP9 tI aP)) [(.p1 tI (.bP9 tI (.bP9 tI (.bP9 tI .bool))) (.Z 0)),(aK (.bP9 tI (.bP9 tI (.bP9 tI (.bP9 tI .bool)))) 1 (.Z 0)),(aK (.bP9 tI (.bP9 tI (.bP9 tI (.bP9 tI .bool)))) 2 (.Z 0)),(aK (.bP9 tI (.bP9 tI (.bP9 tI (.bP9 tI .bool)))) 3 (.Z 0))]) <|
     .loop (.bP9 tI aU) (.bPB tI aU (.ci .i64 0) (.nl 95 aP)) <|
      .bPA (.cmp .lss .i64) (.bPB tI tI (.p1 tI aU (.Z 11)) (.Z 10)) <|
      .ite (.Z 12) (
       .call 2 (bG (.bP9 aU (.bP9 tI aP)) [(aQ (.bP9 tI aU) 1 (.Z 11)),(aK (.bP9 tI (.bP9 tI (.bP9 tI (.bP9 tI .bool)))) 1 (.Z 0)),(aK (.bP9 tI (.bP9 tI (.bP9 tI (.bP9 tI .bool)))) 2 (.Z 0)),(.p1 tI aU (.Z 11))]) <|
       .bPA (.ar .add .i64) (.bPB tI tI (.p1 tI aU (.Z 11)) (.ci .i64 1)) <|
       .bPC 0 (.bPB tI aU (.Z 14) (.Z 13))) (
       .loop (.bP9 tI aU) (.bPB tI aU (.ci .i64 0) (aQ (.bP9 tI aU) 1 (.Z 11))) <|
        .bPA (.cmp .lss .i64) (.bPB tI tI (.p1 tI aU (.Z 13)) (aK (.bP9 tI (.bP9 tI (.bP9 tI (.bP9 tI .bool)))) 3 (.Z 0))) <|
        .ite (.Z 14) (
         .bPA (.ar .add .i64) (.bPB tI tI (.Z 10) (.p1 tI aU (.Z 13))) <|
         .bPA (.cmp .lss .i64) (.bPB tI tI (.Z 15) (aK (.bP9 tI (.bP9 tI (.bP9 tI (.bP9 tI .bool)))) 3 (.Z 0))) <|
         .ite (.Z 16) (
          .bPA (.ar .add .i64) (.bPB tI tI (.Z 10) (.p1 tI aU (.Z 13))) <|
          .call 2 (bG (.bP9 aU (.bP9 tI aP)) [(aQ (.bP9 tI aU) 1 (.Z 13)),(aK (.bP9 tI (.bP9 tI (.bP9 tI (.bP9 tI .bool)))) 1 (.Z 0)),(aK (.bP9 tI (.bP9 tI (.bP9 tI (.bP9 tI .bool)))) 2 (.Z 0)),(.Z 17)]) <|
          .call 3 (bG (.bP9 aU (.bP9 tI (.bP9 tI (.bP9 tI .bool)))) [(.Z 18),(aK (.bP9 tI (.bP9 tI (.bP9 tI (.bP9 tI .bool)))) 1 (.Z 0)),(aK (.bP9 tI (.bP9 tI (.bP9 tI (.bP9 tI .bool)))) 2 (.Z 0)),(.p1 tI aU (.Z 13)),(aQ (.bP9 tI (.bP9 tI (.bP9 tI (.bP9 tI .bool)))) 4 (.Z 0))]) <|
          .bPA (.ar .add .i64) (.bPB tI tI (.p1 tI aU (.Z 13)) (.ci .i64 1)) <|
          .bPC 0 (.bPB tI aU (.Z 20) (.Z 19))) (
          .call 3 (bG (.bP9 aU (.bP9 tI (.bP9 tI (.bP9 tI .bool)))) [(aQ (.bP9 tI aU) 1 (.Z 13)),(aK (.bP9 tI (.bP9 tI (.bP9 tI (.bP9 tI .bool)))) 1 (.Z 0)),(aK (.bP9 tI (.bP9 tI (.bP9 tI (.bP9 tI .bool)))) 2 (.Z 0)),(.p1 tI aU (.Z 13)),(aQ (.bP9 tI (.bP9 tI (.bP9 tI (.bP9 tI .bool)))) 4 (.Z 0))]) <|
          .bPA (.ar .add .i64) (.bPB tI tI (.p1 tI aU (.Z 13)) (.ci .i64 1)) <|
          .bPC 0 (.bPB tI aU (.Z 18) (.Z 17)))) (
         .bPA (.lit 95 aP 1) (.bPB tI tI (.ci .i64 8) (.ci .i64 0)) <|
         .bPA (.bPG 95 aP 16) (.bPB aU aU (aQ (.bP9 tI aU) 1 (.Z 13)) (.Z 15)) <|
         .ret (.Z 16)))))))
theorem bJ4:bN Tryz.prog [bK,tS,pZ,uG] aC6 false 3000 ⟨[(2984,16011,iL 41 37++iL 35 15++[.dr 0,.tm 13 0,.on 11,.sl 1]),(2974,32013,iL 44 42++[.dr 13,.tm 14 0,.sl 1])],[]⟩ = .ok aLG:=by kernel_rfl
theorem bKM (x:Int × (Int × (Int × (Int × Bool)))) (hx:okD (.bP9 tI (.bP9 tI (.bP9 tI (.bP9 tI .bool)))) x) (hp:(fun _=>True) x):aLG.wp [bK,tS,pZ,uG] [⟨(.bP9 tI (.bP9 tI (.bP9 tI (.bP9 tI .bool)))),x⟩] [] (fun v=>v.as aU=(fun x=>zZ x.1 x.2.1 x.2.2.1 x.2.2.2.1 x.2.2.2.2) x):=by
  obtain ⟨ds,st,s,micro,r⟩:=x
  delta aLG bK tS pZ uG;refine dD ?_;try with_reducible exact True.intro
  (repeat' first|intro _|(with_reducible apply And.intro))
  all_goals (try simp only[mP] at *)
  all_goals first|omega|exact bK4 (fun h=>by rw[hZ] at h;omega)|skip
  all_goals have hP:hK st s micro=true:=by first|assumption|exact xB (by omega)
  all_goals have hd:ds=1∨ds=2:=by omega
  all_goals have hb:=(hZ _ _ _).1 hP
  all_goals have hw:=bAQ (ds:=ds) hP
  all_goals have hfin:=bKO (r:=r) ⟨hd,hP⟩
  all_goals generalize oT ds st s micro=W at *
  all_goals refine ⟨fun q=>∃ k:Nat,(k:Int)≤W∧q=((k:Int),aQ9 st s k),fun q=>W.toNat - (q.1:Int).toNat,⟨0,by omega,rfl⟩,fun q _ hI=>?_⟩
  all_goals obtain ⟨k,hk,rfl⟩:=hI
  all_goals dsimp only
  all_goals have l1:=aD0 st s k
  all_goals have l2:=oZ st s k
  all_goals refine ⟨fun hlt=>?_,fun hge=>?_⟩
  all_goals first
    | (have h0:(k:Int)<W:=hlt
       (repeat' first|intro _|(with_reducible apply And.intro))
       all_goals first|omega|(unfold maxLen;omega)|exact ⟨k+1,by omega,rfl⟩)
    | skip
  all_goals have hkW:k=W.toNat:=by omega
  all_goals refine ⟨fun q=>∃ j:Nat,(j:Int)≤micro∧q=((j:Int),uV st s micro W r j),fun q=>micro.toNat - (q.1:Int).toNat,⟨0,by omega,by rw[hkW];rfl⟩,fun q _ hI=>?_⟩
  all_goals obtain ⟨j,hj,rfl⟩:=hI
  all_goals dsimp only
  all_goals try rw[show W+(j:Int)=(j:Int)+W from Int.add_comm _ _]
  all_goals have l3:=aCT st s micro W r j
  all_goals have l4:=oZ st s ((j:Int)+W)
  all_goals have l5:=aH7 st s j r
  all_goals (repeat' first|intro _|(with_reducible apply And.intro))
  all_goals first
    | omega
    | (unfold maxLen;omega)
    | exact ⟨j+1,by omega,by rw[← bCW (by omega)];rfl⟩
    | exact ⟨j+1,by omega,by rw[← bC5 (by omega)];rfl⟩
    | (have hj2:j=micro.toNat:=by omega
       rw[hj2]
       exact hfin)
theorem bKL:Con.Holds Tryz.prog aC6:=aS aV (aH fM (aH aYB (aH aW0 (aH bBG aT)))) bJ4 bKM
end
end Go.Proofs.YtmfpkkbhnmkfdaaGreat
