/- Plan2: lemmas. No conditions. -/
import Derived.Test.YtiihghfoeinbbaaGreatOps2
namespace Go.Proofs.YtiihghfoeinbbaaGreat
noncomputable section
set_option maxRecDepth 100000
open Go.ChangeShapes Go.WideShapes Go.ChangeAt Go.RowKit Go.Deep
set_option linter.unusedVariables false
set_option linter.unusedSimpArgs false
def sN (st s m:Int):List fI:=(if 0<s then [((1:Int),m)] else [])++([((2:Int),m)]++(if s<st - 1 then [((3:Int),m)] else []))
def aAE (st s m:Int) (redo:Bool):List fI:=(if s<st - 1 then [((4:Int),m)] else [])++((if redo=true then [((5:Int),m)] else [])++([((6:Int),m)]++(if 0<s then [((7:Int),m)] else [])))
def gM (st s micro:Int):Bool:=decide (1≤st∧st≤4∧0≤s∧s<st∧1≤micro∧micro≤5)
theorem gR (st s micro:Int):gM st s micro=true↔1≤st∧st≤4∧0≤s∧s<st∧1≤micro∧micro≤5:=by unfold gM;rw[decide_eq_true_eq]
def nY (ds st s micro:Int):Int:=if gM st s micro=true then (if ds=2 then min micro (st - 1 - s) else micro) else 0
def aNE (st s:Int):Nat→List fI
 | 0=>[]
 | k+1=>aNE st s k++sN st s k
def uI (st s micro w:Int) (redo:Bool):Nat→List fI
 | 0=>aNE st s w.toNat
 | k+1=>uI st s micro w redo k++((if (k:Int)+w<micro then sN st s ((k:Int)+w) else [])++aAE st s k redo)
def zA (ds st s micro:Int) (redo:Bool):List fI:=if (ds=1∨ds=2)∧gM st s micro=true then uI st s micro (nY ds st s micro) redo micro.toNat++[((8:Int),(0:Int))] else []
theorem oI (st s m:Int):(sN st s m).length≤3:=by unfold sN;split <;> split <;> simp
theorem aG8 (st s m:Int) (r:Bool):(aAE st s m r).length≤4:=by unfold aAE;split <;> split <;> split <;> simp
theorem aBZ (st s:Int):(k:Nat)→(aNE st s k).length≤3 * k
 | 0=>Nat.le_refl _
 | k+1=>by
  have h1:=aBZ st s k
  have h2:=oI st s k
  unfold aNE
  rw[List.length_append];omega
theorem aC1 (st s micro w:Int) (r:Bool):(k:Nat)→(uI st s micro w r k).length≤3 * w.toNat+7 * k
 | 0=>by have:=aBZ st s w.toNat;unfold uI;omega
 | k+1=>by
  have h1:=aC1 st s micro w r k
  have h2:=oI st s ((k:Int)+w)
  have h3:=aG8 st s k r
  unfold uI
  rw[List.length_append,List.length_append]
  split
  ·omega
  ·simp only[List.length_nil];omega
theorem bHA {ds st s micro:Int} (h:gM st s micro=false):0=nY ds st s micro:=by unfold nY;rw[if_neg (by rw[h];simp)]
theorem bGS {ds st s micro:Int} (h:gM st s micro=true) (hd:ds=2):min micro (st - 1 - s)=nY ds st s micro:=by unfold nY;rw[if_pos h,if_pos hd]
theorem bI5 {ds st s micro:Int} (h:gM st s micro=true) (hd:¬ ds=2):micro=nY ds st s micro:=by unfold nY;rw[if_pos h,if_neg hd]
theorem aNM {st s micro:Int} (h:¬ (1≤st∧st≤4∧0≤s∧s<st∧1≤micro∧micro≤5)):gM st s micro=false:=Bool.eq_false_iff.2 fun h'=>h ((gR _ _ _).1 h')
theorem wC {st s micro:Int} (h:1≤st∧st≤4∧0≤s∧s<st∧1≤micro∧micro≤5):gM st s micro=true:=(gR _ _ _).2 h
theorem bHN {ds st s micro:Int} {r:Bool} (h:¬ ((ds=1∨ds=2)∧gM st s micro=true)):[]=zA ds st s micro r:=by unfold zA;rw[if_neg h]
theorem bER {ds st s micro:Int} {r:Bool} (h:(ds=1∨ds=2)∧gM st s micro=true):uI st s micro (nY ds st s micro) r micro.toNat++[((8:Int),(0:Int))]=zA ds st s micro r:=by unfold zA;rw[if_pos h]
theorem aZG {ds st s micro:Int} (h:gM st s micro=true):0≤nY ds st s micro∧nY ds st s micro≤5:=by
 rw[gR] at h
 unfold nY
 rw[if_pos (wC h)]
 split <;> omega
theorem bBA {st s micro w:Int} {r:Bool} {k:Nat} (h:((k:Int)+w<micro)):uI st s micro w r k++sN st s ((k:Int)+w)++aAE st s k r=uI st s micro w r (k+1):=by
 conv=>rhs;unfold uI
 rw[if_pos h,List.append_assoc]
theorem bA9 {st s micro w:Int} {r:Bool} {k:Nat} (h:¬ ((k:Int)+w<micro)):uI st s micro w r k++aAE st s k r=uI st s micro w r (k+1):=by
 conv=>rhs;unfold uI
 rw[if_neg h,List.nil_append]
def jT:Con:=⟨238,(.bMC tI aO),.bool,[.val ⟨false,tI,[]⟩,.val ⟨false,tI,[]⟩,.val ⟨false,tI,[]⟩],[⟨false,.bool,[0]⟩],false,none,
 ((fun _=>True):(Int × fI)→Prop),
 ((fun x=>gM x.1 x.2.1 x.2.2):(Int × fI)→(Bool))⟩
def aA0:T :=
 .bMD (.cmp .geq .i64) (.bME tI tI (.p1 tI aO (.Z 0)) (.ci .i64 1)) <|
 .ite (.Z 1) (
  .bMD (.cmp .leq .i64) (.bME tI tI (.p1 tI aO (.Z 0)) (.ci .i64 4)) <|
  .ite (.Z 2) (
   .bMD (.cmp .geq .i64) (.bME tI tI (aJ (.bMC tI aO) 1 (.Z 0)) (.ci .i64 0)) <|
   .ite (.Z 3) (
    .bMD (.cmp .lss .i64) (.bME tI tI (aJ (.bMC tI aO) 1 (.Z 0)) (.p1 tI aO (.Z 0))) <|
    .ite (.Z 4) (
     .bMD (.cmp .geq .i64) (.bME tI tI (aQ (.bMC tI aO) 2 (.Z 0)) (.ci .i64 1)) <|
     .ite (.Z 5) (
      .bMD (.cmp .leq .i64) (.bME tI tI (aQ (.bMC tI aO) 2 (.Z 0)) (.ci .i64 5)) <|
      .ret (.Z 6)) (
      .ret (.cb false))) (
     .ret (.cb false))) (
    .ret (.cb false))) (
   .ret (.cb false))) (
  .ret (.cb false))
theorem aSF:bL Tryz.prog [] jT false 3000 ⟨[],[]⟩ = .ok aA0:=by kernel_rfl
theorem aRO (x:Int × fI) (hx:okD (.bMC tI aO) x) (hp:(fun _=>True) x):aA0.wp [] [⟨(.bMC tI aO),x⟩] [] (fun v=>v.as .bool=(fun x=>gM x.1 x.2.1 x.2.2) x):=by
 delta aA0;refine dD ?_;try with_reducible exact True.intro
 (repeat' first|intro _|(with_reducible apply And.intro))
 all_goals (try simp only[lU] at *)
 all_goals first|exact (aNM (by omega)).symm|skip
 rw[Bool.eq_iff_iff,gR]
 (refine eE ?_;try with_reducible exact True.intro)
 omega
theorem aHN:Con.Holds Tryz.prog jT:=aR aW aS aSF aRO
def sZ:Con:=⟨239,(.bMC tI (.bMC tI aO)),tI,[.val ⟨false,tI,[]⟩,.val ⟨false,tI,[]⟩,.val ⟨false,tI,[]⟩,.val ⟨false,tI,[]⟩],[⟨false,tI,[0]⟩],false,none,
 ((fun _=>True):(Int × (Int × fI))→Prop),
 ((fun x=>nY x.1 x.2.1 x.2.2.1 x.2.2.2):(Int × (Int × fI))→(Int))⟩
def aDY:T:=.call 0 (aQ (.bMC tI (.bMC tI aO)) 1 (.Z 0)) <|
 .bMD .not (.Z 1) <|
 .ite (.Z 2) (
  .ret (.ci .i64 0)) (
  .bMD (.cmp .eql .i64) (.bME tI tI (.p1 tI (.bMC tI aO) (.Z 0)) (.ci .i64 2)) <|
  .ite (.Z 3) (
   .bMD (.ar .sub .i64) (.bME tI tI (aJ (.bMC tI (.bMC tI aO)) 1 (.Z 0)) (.ci .i64 1)) <|
   .bMD (.ar .sub .i64) (.bME tI tI (.Z 4) (aJ (.bMC tI (.bMC tI aO)) 2 (.Z 0))) <|
   .bMD (.mn .i64) (.bME tI tI (aQ (.bMC tI (.bMC tI aO)) 3 (.Z 0)) (.Z 5)) <|
   .ret (.Z 6)) (
   .ret (aQ (.bMC tI (.bMC tI aO)) 3 (.Z 0))))
theorem aX0:bL Tryz.prog [jT] sZ false 3000 ⟨[],[]⟩ = .ok aDY:=by kernel_rfl
theorem aYC (x:Int × (Int × fI)) (hx:okD (.bMC tI (.bMC tI aO)) x) (hp:(fun _=>True) x):aDY.wp [jT] [⟨(.bMC tI (.bMC tI aO)),x⟩] [] (fun v=>v.as tI=(fun x=>nY x.1 x.2.1 x.2.2.1 x.2.2.2) x):=by
 delta aDY jT;refine dD ?_
 refine ⟨fun h=>?_,fun h=>?_⟩
 ·simp only[lU] at h;exact bHA h
 simp only[lU] at h
 have hb:=(gR _ _ _).1 h
 (repeat' first|intro _|(with_reducible apply And.intro))
 all_goals first|omega|skip
 ·exact bGS h (by simp only[lU] at *;omega)
 ·exact bI5 h (by simp only[lU] at *;omega)
theorem aXK:Con.Holds Tryz.prog sZ:=aR aW (aG aHN aS) aX0 aYC
def vZ:Con:=⟨240,(.bMC tI aO),aT,[.val ⟨false,tI,[]⟩,.val ⟨false,tI,[]⟩,.val ⟨false,tI,[]⟩],[⟨false,aT,[2]⟩],false,none,
 ((fun x=>1≤x.1∧x.1≤4):(Int × fI)→Prop),
 ((fun x=>sN x.1 x.2.1 x.2.2):(Int × fI)→(List fI))⟩
def aGG:T :=
 .bMD (.cmp .gtr .i64) (.bME tI tI (aJ (.bMC tI aO) 1 (.Z 0)) (.ci .i64 0)) <|
 .ite (.Z 1) (
  .bMD (.lit 194 aO 1) (.bME tI tI (.ci .i64 1) (aQ (.bMC tI aO) 2 (.Z 0))) <|
  .bMD (.bMJ 194 aO 16) (.bME aT aT (.nl 194 aO) (.Z 2)) <|
  .bMD (.lit 194 aO 1) (.bME tI tI (.ci .i64 2) (aQ (.bMC tI aO) 2 (.Z 0))) <|
  .bMD (.bMJ 194 aO 16) (.bME aT aT (.Z 3) (.Z 4)) <|
  .bMD (.ar .sub .i64) (.bME tI tI (.p1 tI aO (.Z 0)) (.ci .i64 1)) <|
  .bMD (.cmp .lss .i64) (.bME tI tI (aJ (.bMC tI aO) 1 (.Z 0)) (.Z 6)) <|
  .ite (.Z 7) (
   .bMD (.lit 194 aO 1) (.bME tI tI (.ci .i64 3) (aQ (.bMC tI aO) 2 (.Z 0))) <|
   .bMD (.bMJ 194 aO 16) (.bME aT aT (.Z 5) (.Z 8)) <|
   .ret (.Z 9)) (
   .ret (.Z 5))) (
  .bMD (.lit 194 aO 1) (.bME tI tI (.ci .i64 2) (aQ (.bMC tI aO) 2 (.Z 0))) <|
  .bMD (.bMJ 194 aO 16) (.bME aT aT (.nl 194 aO) (.Z 2)) <|
  .bMD (.ar .sub .i64) (.bME tI tI (.p1 tI aO (.Z 0)) (.ci .i64 1)) <|
  .bMD (.cmp .lss .i64) (.bME tI tI (aJ (.bMC tI aO) 1 (.Z 0)) (.Z 4)) <|
  .ite (.Z 5) (
   .bMD (.lit 194 aO 1) (.bME tI tI (.ci .i64 3) (aQ (.bMC tI aO) 2 (.Z 0))) <|
   .bMD (.bMJ 194 aO 16) (.bME aT aT (.Z 3) (.Z 6)) <|
   .ret (.Z 7)) (
   .ret (.Z 3)))
theorem bCZ:bL Tryz.prog [] vZ false 3000 ⟨[],[]⟩ = .ok aGG:=by kernel_rfl
theorem bDO (x:Int × fI) (hx:okD (.bMC tI aO) x) (hp:(fun x=>1≤x.1∧x.1≤4) x):aGG.wp [] [⟨(.bMC tI aO),x⟩] [] (fun v=>v.as aT=(fun x=>sN x.1 x.2.1 x.2.2) x):=by
 have hp:1≤x.1∧x.1≤4:=hp
 delta aGG;refine dD ?_;try with_reducible exact True.intro
 (repeat' first|intro _|(with_reducible apply And.intro))
 all_goals (try simp only[lU] at *)
 all_goals first|omega|(unfold maxLen;omega)|skip
 all_goals (unfold sN;(repeat' split) <;> first|omega|(simp;done))
theorem bD1:Con.Holds Tryz.prog vZ:=aR aW aS bCZ bDO
def rI:Con:=⟨241,(.bMC tI (.bMC tI (.bMC tI .bool))),aT,[.val ⟨false,tI,[]⟩,.val ⟨false,tI,[]⟩,.val ⟨false,tI,[]⟩,.val ⟨false,.bool,[]⟩],[⟨false,aT,[2]⟩],false,none,
 ((fun x=>1≤x.1∧x.1≤4):(Int × (Int × (Int × Bool)))→Prop),
 ((fun x=>aAE x.1 x.2.1 x.2.2.1 x.2.2.2):(Int × (Int × (Int × Bool)))→(List fI))⟩
def aD9:T :=
 .bMD (.ar .sub .i64) (.bME tI tI (.p1 tI (.bMC tI (.bMC tI .bool)) (.Z 0)) (.ci .i64 1)) <|
 .bMD (.cmp .lss .i64) (.bME tI tI (aJ (.bMC tI (.bMC tI (.bMC tI .bool))) 1 (.Z 0)) (.Z 1)) <|
 .ite (.Z 2) (
  .bMD (.lit 194 aO 1) (.bME tI tI (.ci .i64 4) (aJ (.bMC tI (.bMC tI (.bMC tI .bool))) 2 (.Z 0))) <|
  .bMD (.bMJ 194 aO 16) (.bME aT aT (.nl 194 aO) (.Z 3)) <|
  .ite (aQ (.bMC tI (.bMC tI (.bMC tI .bool))) 3 (.Z 0)) (
   .bMD (.lit 194 aO 1) (.bME tI tI (.ci .i64 5) (aJ (.bMC tI (.bMC tI (.bMC tI .bool))) 2 (.Z 0))) <|
   .bMD (.bMJ 194 aO 16) (.bME aT aT (.Z 4) (.Z 5)) <|
   .bMD (.lit 194 aO 1) (.bME tI tI (.ci .i64 6) (aJ (.bMC tI (.bMC tI (.bMC tI .bool))) 2 (.Z 0))) <|
   .bMD (.bMJ 194 aO 16) (.bME aT aT (.Z 6) (.Z 7)) <|
   .bMD (.cmp .gtr .i64) (.bME tI tI (aJ (.bMC tI (.bMC tI (.bMC tI .bool))) 1 (.Z 0)) (.ci .i64 0)) <|
   .ite (.Z 9) (
    .bMD (.lit 194 aO 1) (.bME tI tI (.ci .i64 7) (aJ (.bMC tI (.bMC tI (.bMC tI .bool))) 2 (.Z 0))) <|
    .bMD (.bMJ 194 aO 16) (.bME aT aT (.Z 8) (.Z 10)) <|
    .ret (.Z 11)) (
    .ret (.Z 8))) (
   .bMD (.lit 194 aO 1) (.bME tI tI (.ci .i64 6) (aJ (.bMC tI (.bMC tI (.bMC tI .bool))) 2 (.Z 0))) <|
   .bMD (.bMJ 194 aO 16) (.bME aT aT (.Z 4) (.Z 5)) <|
   .bMD (.cmp .gtr .i64) (.bME tI tI (aJ (.bMC tI (.bMC tI (.bMC tI .bool))) 1 (.Z 0)) (.ci .i64 0)) <|
   .ite (.Z 7) (
    .bMD (.lit 194 aO 1) (.bME tI tI (.ci .i64 7) (aJ (.bMC tI (.bMC tI (.bMC tI .bool))) 2 (.Z 0))) <|
    .bMD (.bMJ 194 aO 16) (.bME aT aT (.Z 6) (.Z 8)) <|
    .ret (.Z 9)) (
    .ret (.Z 6)))) (
  .ite (aQ (.bMC tI (.bMC tI (.bMC tI .bool))) 3 (.Z 0)) (
   .bMD (.lit 194 aO 1) (.bME tI tI (.ci .i64 5) (aJ (.bMC tI (.bMC tI (.bMC tI .bool))) 2 (.Z 0))) <|
   .bMD (.bMJ 194 aO 16) (.bME aT aT (.nl 194 aO) (.Z 3)) <|
   .bMD (.lit 194 aO 1) (.bME tI tI (.ci .i64 6) (aJ (.bMC tI (.bMC tI (.bMC tI .bool))) 2 (.Z 0))) <|
   .bMD (.bMJ 194 aO 16) (.bME aT aT (.Z 4) (.Z 5)) <|
   .bMD (.cmp .gtr .i64) (.bME tI tI (aJ (.bMC tI (.bMC tI (.bMC tI .bool))) 1 (.Z 0)) (.ci .i64 0)) <|
   .ite (.Z 7) (
    .bMD (.lit 194 aO 1) (.bME tI tI (.ci .i64 7) (aJ (.bMC tI (.bMC tI (.bMC tI .bool))) 2 (.Z 0))) <|
    .bMD (.bMJ 194 aO 16) (.bME aT aT (.Z 6) (.Z 8)) <|
    .ret (.Z 9)) (
    .ret (.Z 6))) (
   .bMD (.lit 194 aO 1) (.bME tI tI (.ci .i64 6) (aJ (.bMC tI (.bMC tI (.bMC tI .bool))) 2 (.Z 0))) <|
   .bMD (.bMJ 194 aO 16) (.bME aT aT (.nl 194 aO) (.Z 3)) <|
   .bMD (.cmp .gtr .i64) (.bME tI tI (aJ (.bMC tI (.bMC tI (.bMC tI .bool))) 1 (.Z 0)) (.ci .i64 0)) <|
   .ite (.Z 5) (
    .bMD (.lit 194 aO 1) (.bME tI tI (.ci .i64 7) (aJ (.bMC tI (.bMC tI (.bMC tI .bool))) 2 (.Z 0))) <|
    .bMD (.bMJ 194 aO 16) (.bME aT aT (.Z 4) (.Z 6)) <|
    .ret (.Z 7)) (
    .ret (.Z 4))))
theorem aW8:bL Tryz.prog [] rI false 3000 ⟨[],[]⟩ = .ok aD9:=by kernel_rfl
theorem aZD (x:Int × (Int × (Int × Bool))) (hx:okD (.bMC tI (.bMC tI (.bMC tI .bool))) x) (hp:(fun x=>1≤x.1∧x.1≤4) x):aD9.wp [] [⟨(.bMC tI (.bMC tI (.bMC tI .bool))),x⟩] [] (fun v=>v.as aT=(fun x=>aAE x.1 x.2.1 x.2.2.1 x.2.2.2) x):=by
 have hp:1≤x.1∧x.1≤4:=hp
 delta aD9;refine dD ?_;try with_reducible exact True.intro
 (repeat' first|intro _|(with_reducible apply And.intro))
 all_goals (try simp only[lU] at *)
 all_goals first|omega|(unfold maxLen;omega)|skip
 all_goals (unfold aAE;(repeat' split) <;> first|omega|contradiction|(simp;done)|(simp_all;done))
theorem aXJ:Con.Holds Tryz.prog rI:=aR aW aS aW8 aZD
def zG:Con:=⟨166,(.bMC tI (.bMC tI (.bMC tI (.bMC tI .bool)))),aT,[.val ⟨false,tI,[]⟩,.val ⟨false,tI,[]⟩,.val ⟨false,tI,[]⟩,.val ⟨false,tI,[]⟩,.val ⟨false,.bool,[]⟩],[⟨false,aT,[2]⟩],false,none,
 ((fun _=>True):(Int × (Int × (Int × (Int × Bool))))→Prop),
 ((fun x=>zA x.1 x.2.1 x.2.2.1 x.2.2.2.1 x.2.2.2.2):(Int × (Int × (Int × (Int × Bool))))→(List fI))⟩
def aKX:T :=
 .bMD (.cmp .neq .i64) (.bME tI tI (.p1 tI (.bMC tI (.bMC tI (.bMC tI .bool))) (.Z 0)) (.ci .i64 1)) <|
 .ite (.Z 1) (
  .bMD (.cmp .neq .i64) (.bME tI tI (.p1 tI (.bMC tI (.bMC tI (.bMC tI .bool))) (.Z 0)) (.ci .i64 2)) <|
  .ite (.Z 2) (
   .ret (.nl 194 aO)) (
   .call 0 (bE (.bMC tI aO) [(aJ (.bMC tI (.bMC tI (.bMC tI (.bMC tI .bool)))) 1 (.Z 0)),(aJ (.bMC tI (.bMC tI (.bMC tI (.bMC tI .bool)))) 2 (.Z 0)),(aJ (.bMC tI (.bMC tI (.bMC tI (.bMC tI .bool)))) 3 (.Z 0))]) <|
   .bMD .not (.Z 3) <|
   .ite (.Z 4) (
    .ret (.nl 194 aO)) (
    .call 1 (bE (.bMC tI (.bMC tI aO)) [(.p1 tI (.bMC tI (.bMC tI (.bMC tI .bool))) (.Z 0)),(aJ (.bMC tI (.bMC tI (.bMC tI (.bMC tI .bool)))) 1 (.Z 0)),(aJ (.bMC tI (.bMC tI (.bMC tI (.bMC tI .bool)))) 2 (.Z 0)),(aJ (.bMC tI (.bMC tI (.bMC tI (.bMC tI .bool)))) 3 (.Z 0))]) <|
    .loop (.bMC tI aT) (.bME tI aT (.ci .i64 0) (.nl 194 aO)) <|
     .bMD (.cmp .lss .i64) (.bME tI tI (.p1 tI aT (.Z 6)) (.Z 5)) <|
     .ite (.Z 7) (
      .call 2 (bE (.bMC tI aO) [(aJ (.bMC tI (.bMC tI (.bMC tI (.bMC tI .bool)))) 1 (.Z 0)),(aJ (.bMC tI (.bMC tI (.bMC tI (.bMC tI .bool)))) 2 (.Z 0)),(.p1 tI aT (.Z 6))]) <|
      .bMD (.bMJ 194 aO 16) (.bME aT aT (aQ (.bMC tI aT) 1 (.Z 6)) (.Z 8)) <|
      .bMD (.ar .add .i64) (.bME tI tI (.p1 tI aT (.Z 6)) (.ci .i64 1)) <|
      .bMF 0 (.bME tI aT (.Z 10) (.Z 9))) (
      .loop (.bMC tI aT) (.bME tI aT (.ci .i64 0) (aQ (.bMC tI aT) 1 (.Z 6))) <|
       .bMD (.cmp .lss .i64) (.bME tI tI (.p1 tI aT (.Z 8)) (aJ (.bMC tI (.bMC tI (.bMC tI (.bMC tI .bool)))) 3 (.Z 0))) <|
       .ite (.Z 9) (
        .bMD (.ar .add .i64) (.bME tI tI (.p1 tI aT (.Z 8)) (.Z 5)) <|
        .bMD (.cmp .lss .i64) (.bME tI tI (.Z 10) (aJ (.bMC tI (.bMC tI (.bMC tI (.bMC tI .bool)))) 3 (.Z 0))) <|
        .ite (.Z 11) (
         .bMD (.ar .add .i64) (.bME tI tI (.p1 tI aT (.Z 8)) (.Z 5)) <|
         .call 2 (bE (.bMC tI aO) [(aJ (.bMC tI (.bMC tI (.bMC tI (.bMC tI .bool)))) 1 (.Z 0)),(aJ (.bMC tI (.bMC tI (.bMC tI (.bMC tI .bool)))) 2 (.Z 0)),(.Z 12)]) <|
         .bMD (.bMJ 194 aO 16) (.bME aT aT (aQ (.bMC tI aT) 1 (.Z 8)) (.Z 13)) <|
         .call 3 (bE (.bMC tI (.bMC tI (.bMC tI .bool))) [(aJ (.bMC tI (.bMC tI (.bMC tI (.bMC tI .bool)))) 1 (.Z 0)),(aJ (.bMC tI (.bMC tI (.bMC tI (.bMC tI .bool)))) 2 (.Z 0)),(.p1 tI aT (.Z 8)),(aQ (.bMC tI (.bMC tI (.bMC tI (.bMC tI .bool)))) 4 (.Z 0))]) <|
         .bMD (.bMJ 194 aO 16) (.bME aT aT (.Z 14) (.Z 15)) <|
         .bMD (.ar .add .i64) (.bME tI tI (.p1 tI aT (.Z 8)) (.ci .i64 1)) <|
         .bMF 0 (.bME tI aT (.Z 17) (.Z 16))) (
         .call 3 (bE (.bMC tI (.bMC tI (.bMC tI .bool))) [(aJ (.bMC tI (.bMC tI (.bMC tI (.bMC tI .bool)))) 1 (.Z 0)),(aJ (.bMC tI (.bMC tI (.bMC tI (.bMC tI .bool)))) 2 (.Z 0)),(.p1 tI aT (.Z 8)),(aQ (.bMC tI (.bMC tI (.bMC tI (.bMC tI .bool)))) 4 (.Z 0))]) <|
         .bMD (.bMJ 194 aO 16) (.bME aT aT (aQ (.bMC tI aT) 1 (.Z 8)) (.Z 12)) <|
         .bMD (.ar .add .i64) (.bME tI tI (.p1 tI aT (.Z 8)) (.ci .i64 1)) <|
         .bMF 0 (.bME tI aT (.Z 14) (.Z 13)))) (
        .bMD (.lit 194 aO 1) (.bME tI tI (.ci .i64 8) (.ci .i64 0)) <|
        .bMD (.bMJ 194 aO 16) (.bME aT aT (aQ (.bMC tI aT) 1 (.Z 8)) (.Z 10)) <|
        .ret (.Z 11)))))) (
  .call 0 (bE (.bMC tI aO) [(aJ (.bMC tI (.bMC tI (.bMC tI (.bMC tI .bool)))) 1 (.Z 0)),(aJ (.bMC tI (.bMC tI (.bMC tI (.bMC tI .bool)))) 2 (.Z 0)),(aJ (.bMC tI (.bMC tI (.bMC tI (.bMC tI .bool)))) 3 (.Z 0))]) <|
  .bMD .not (.Z 2) <|
  .ite (.Z 3) (
   .ret (.nl 194 aO)) (
   .call 1 (bE (.bMC tI (.bMC tI aO)) [(.p1 tI (.bMC tI (.bMC tI (.bMC tI .bool))) (.Z 0)),(aJ (.bMC tI (.bMC tI (.bMC tI (.bMC tI .bool)))) 1 (.Z 0)),(aJ (.bMC tI (.bMC tI (.bMC tI (.bMC tI .bool)))) 2 (.Z 0)),(aJ (.bMC tI (.bMC tI (.bMC tI (.bMC tI .bool)))) 3 (.Z 0))]) <|
   .loop (.bMC tI aT) (.bME tI aT (.ci .i64 0) (.nl 194 aO)) <|
    .bMD (.cmp .lss .i64) (.bME tI tI (.p1 tI aT (.Z 5)) (.Z 4)) <|
    .ite (.Z 6) (
     .call 2 (bE (.bMC tI aO) [(aJ (.bMC tI (.bMC tI (.bMC tI (.bMC tI .bool)))) 1 (.Z 0)),(aJ (.bMC tI (.bMC tI (.bMC tI (.bMC tI .bool)))) 2 (.Z 0)),(.p1 tI aT (.Z 5))]) <|
     .bMD (.bMJ 194 aO 16) (.bME aT aT (aQ (.bMC tI aT) 1 (.Z 5)) (.Z 7)) <|
     .bMD (.ar .add .i64) (.bME tI tI (.p1 tI aT (.Z 5)) (.ci .i64 1)) <|
     .bMF 0 (.bME tI aT (.Z 9) (.Z 8))) (
     .loop (.bMC tI aT) (.bME tI aT (.ci .i64 0) (aQ (.bMC tI aT) 1 (.Z 5))) <|
      .bMD (.cmp .lss .i64) (.bME tI tI (.p1 tI aT (.Z 7)) (aJ (.bMC tI (.bMC tI (.bMC tI (.bMC tI .bool)))) 3 (.Z 0))) <|
      .ite (.Z 8) (
       .bMD (.ar .add .i64) (.bME tI tI (.p1 tI aT (.Z 7)) (.Z 4)) <|
       .bMD (.cmp .lss .i64) (.bME tI tI (.Z 9) (aJ (.bMC tI (.bMC tI (.bMC tI (.bMC tI .bool)))) 3 (.Z 0))) <|
       .ite (.Z 10) (
        .bMD (.ar .add .i64) (.bME tI tI (.p1 tI aT (.Z 7)) (.Z 4)) <|
        .call 2 (bE (.bMC tI aO) [(aJ (.bMC tI (.bMC tI (.bMC tI (.bMC tI .bool)))) 1 (.Z 0)),(aJ (.bMC tI (.bMC tI (.bMC tI (.bMC tI .bool)))) 2 (.Z 0)),(.Z 11)]) <|
        .bMD (.bMJ 194 aO 16) (.bME aT aT (aQ (.bMC tI aT) 1 (.Z 7)) (.Z 12)) <|
        .call 3 (bE (.bMC tI (.bMC tI (.bMC tI .bool))) [(aJ (.bMC tI (.bMC tI (.bMC tI (.bMC tI .bool)))) 1 (.Z 0)),(aJ (.bMC tI (.bMC tI (.bMC tI (.bMC tI .bool)))) 2 (.Z 0)),(.p1 tI aT (.Z 7)),(aQ (.bMC tI (.bMC tI (.bMC tI (.bMC tI .bool)))) 4 (.Z 0))]) <|
        .bMD (.bMJ 194 aO 16) (.bME aT aT (.Z 13) (.Z 14)) <|
        .bMD (.ar .add .i64) (.bME tI tI (.p1 tI aT (.Z 7)) (.ci .i64 1)) <|
        .bMF 0 (.bME tI aT (.Z 16) (.Z 15))) (
        .call 3 (bE (.bMC tI (.bMC tI (.bMC tI .bool))) [(aJ (.bMC tI (.bMC tI (.bMC tI (.bMC tI .bool)))) 1 (.Z 0)),(aJ (.bMC tI (.bMC tI (.bMC tI (.bMC tI .bool)))) 2 (.Z 0)),(.p1 tI aT (.Z 7)),(aQ (.bMC tI (.bMC tI (.bMC tI (.bMC tI .bool)))) 4 (.Z 0))]) <|
        .bMD (.bMJ 194 aO 16) (.bME aT aT (aQ (.bMC tI aT) 1 (.Z 7)) (.Z 11)) <|
        .bMD (.ar .add .i64) (.bME tI tI (.p1 tI aT (.Z 7)) (.ci .i64 1)) <|
        .bMF 0 (.bME tI aT (.Z 13) (.Z 12)))) (
       .bMD (.lit 194 aO 1) (.bME tI tI (.ci .i64 8) (.ci .i64 0)) <|
       .bMD (.bMJ 194 aO 16) (.bME aT aT (aQ (.bMC tI aT) 1 (.Z 7)) (.Z 9)) <|
       .ret (.Z 10)))))
theorem bG5:bL Tryz.prog [jT,sZ,vZ,rI] zG false 3000 ⟨[(2984,9006,iQ 33 15++[.dr 0,.tm 13 0,.on 12,.sl 1]),(2974,17008,iQ 36 34++[.dr 13,.tm 14 0,.sl 1]),(2984,4005,iQ 33 15++[.dr 0,.tm 13 0,.on 12,.sl 1]),(2974,8007,iQ 36 34++[.dr 13,.tm 14 0,.sl 1])],[]⟩ = .ok aKX:=by kernel_rfl
theorem bHR (x:Int × (Int × (Int × (Int × Bool)))) (hx:okD (.bMC tI (.bMC tI (.bMC tI (.bMC tI .bool)))) x) (hp:(fun _=>True) x):aKX.wp [jT,sZ,vZ,rI] [⟨(.bMC tI (.bMC tI (.bMC tI (.bMC tI .bool)))),x⟩] [] (fun v=>v.as aT=(fun x=>zA x.1 x.2.1 x.2.2.1 x.2.2.2.1 x.2.2.2.2) x):=by
  obtain ⟨ds,st,s,micro,r⟩:=x
  delta aKX jT sZ vZ rI;refine dD ?_;try with_reducible exact True.intro
  (repeat' first|intro _|(with_reducible apply And.intro))
  all_goals (try simp only[lU] at *)
  all_goals first|exact bHN (fun h=>by rcases h with ⟨h1|h1,h2⟩ <;> first|omega|(simp_all;done))|skip
  all_goals have hP:gM st s micro=true:=by first|assumption|exact wC (by omega)
  all_goals have hd:ds=1∨ds=2:=by omega
  all_goals have hb:=(gR _ _ _).1 hP
  all_goals have hw:=aZG (ds:=ds) hP
  all_goals have hfin:=bER (r:=r) ⟨hd,hP⟩
  all_goals generalize nY ds st s micro=W at *
  all_goals refine ⟨fun q=>∃ k:Nat,(k:Int)≤W∧q=((k:Int),aNE st s k),fun q=>W.toNat - (q.1:Int).toNat,⟨0,by omega,rfl⟩,fun q _ hI=>?_⟩
  all_goals obtain ⟨k,hk,rfl⟩:=hI
  all_goals dsimp only
  all_goals have l1:=aBZ st s k
  all_goals have l2:=oI st s k
  all_goals refine ⟨fun hlt=>?_,fun hge=>?_⟩
  all_goals first
    | (have h0:(k:Int)<W:=hlt
       (repeat' first|intro _|(with_reducible apply And.intro))
       all_goals first|omega|(unfold maxLen;omega)|exact ⟨k+1,by omega,rfl⟩)
    | skip
  all_goals have hkW:k=W.toNat:=by omega
  all_goals refine ⟨fun q=>∃ j:Nat,(j:Int)≤micro∧q=((j:Int),uI st s micro W r j),fun q=>micro.toNat - (q.1:Int).toNat,⟨0,by omega,by rw[hkW];rfl⟩,fun q _ hI=>?_⟩
  all_goals obtain ⟨j,hj,rfl⟩:=hI
  all_goals dsimp only
  all_goals try rw[show W+(j:Int)=(j:Int)+W from Int.add_comm _ _]
  all_goals have l3:=aC1 st s micro W r j
  all_goals have l4:=oI st s ((j:Int)+W)
  all_goals have l5:=aG8 st s j r
  all_goals (repeat' first|intro _|(with_reducible apply And.intro))
  all_goals first
    | omega
    | (unfold maxLen;omega)
    | exact ⟨j+1,by omega,by rw[← bBA (by omega)];rfl⟩
    | exact ⟨j+1,by omega,by rw[← bA9 (by omega)];rfl⟩
    | (have hj2:j=micro.toNat:=by omega
       rw[hj2]
       exact hfin)
theorem bGX:Con.Holds Tryz.prog zG:=aR aW (aG aHN (aG aXK (aG bD1 (aG aXJ aS)))) bG5 bHR
def rS:Con:=⟨231,(.bMC tI (.bMC tI aO)),tI,[.val ⟨false,tI,[]⟩,.val ⟨false,tI,[]⟩,.val ⟨false,tI,[]⟩,.val ⟨false,tI,[]⟩],[⟨false,tI,[0]⟩],false,none,
 ((fun _=>True):(Int × (Int × fI))→Prop),
 ((fun x=>nY x.1 x.2.1 x.2.2.1 x.2.2.2):(Int × (Int × fI))→(Int))⟩
def aDU:T:=.call 0 (bE (.bMC tI aO) [(aJ (.bMC tI (.bMC tI aO)) 1 (.Z 0)),(.ci .i64 1),(.ci .i64 4)]) <|
 .bMD .not (.Z 1) <|
 .ite (.Z 2) (
  .ret (.ci .i64 0)) (
  .bMD (.ar .sub .i64) (.bME tI tI (aJ (.bMC tI (.bMC tI aO)) 1 (.Z 0)) (.ci .i64 1)) <|
  .call 0 (bE (.bMC tI aO) [(aJ (.bMC tI (.bMC tI aO)) 2 (.Z 0)),(.ci .i64 0),(.Z 3)]) <|
  .bMD .not (.Z 4) <|
  .ite (.Z 5) (
   .ret (.ci .i64 0)) (
   .call 0 (bE (.bMC tI aO) [(aQ (.bMC tI (.bMC tI aO)) 3 (.Z 0)),(.ci .i64 1),(.ci .i64 5)]) <|
   .bMD .not (.Z 6) <|
   .ite (.Z 7) (
    .ret (.ci .i64 0)) (
    .bMD (.cmp .eql .i64) (.bME tI tI (.p1 tI (.bMC tI aO) (.Z 0)) (.ci .i64 2)) <|
    .ite (.Z 8) (
     .bMD (.ar .sub .i64) (.bME tI tI (aJ (.bMC tI (.bMC tI aO)) 1 (.Z 0)) (.ci .i64 1)) <|
     .bMD (.ar .sub .i64) (.bME tI tI (.Z 9) (aJ (.bMC tI (.bMC tI aO)) 2 (.Z 0))) <|
     .bMD (.mn .i64) (.bME tI tI (aQ (.bMC tI (.bMC tI aO)) 3 (.Z 0)) (.Z 10)) <|
     .ret (.Z 11)) (
     .ret (aQ (.bMC tI (.bMC tI aO)) 3 (.Z 0))))))
theorem aZ4:bL Tryz.prog [bH] rS false 3000 ⟨[],[]⟩ = .ok aDU:=by kernel_rfl
theorem aZS (x:Int × (Int × fI)) (hx:okD (.bMC tI (.bMC tI aO)) x) (hp:(fun _=>True) x):aDU.wp [bH] [⟨(.bMC tI (.bMC tI aO)),x⟩] [] (fun v=>v.as tI=(fun x=>nY x.1 x.2.1 x.2.2.1 x.2.2.2) x):=by
 delta aDU bH;refine dD ?_;try with_reducible exact True.intro
 (repeat' first|intro _|(with_reducible apply And.intro))
 all_goals (try simp only[lU] at *)
 all_goals first|omega|exact bHA (aNM (by omega))|exact bGS (wC (by omega)) (by omega)|exact bI5 (wC (by omega)) (by omega)
theorem aWF:Con.Holds Tryz.prog rS:=aR aW (aG eS aS) aZ4 aZS
def oT:Con:=⟨232,(.bMC aT (.bMC tI aO)),aT,[.val ⟨false,aT,[2]⟩,.val ⟨false,tI,[]⟩,.val ⟨false,tI,[]⟩,.val ⟨false,tI,[]⟩],[⟨false,aT,[2]⟩],false,none,
 ((fun x=>List.length x.1≤1000000∧1≤x.2.1∧x.2.1≤4):((List fI) × (Int × fI))→Prop),
 ((fun x=>x.1++sN x.2.1 x.2.2.1 x.2.2.2):((List fI) × (Int × fI))→(List fI))⟩
def zJ:T :=
 .bMD (.cmp .gtr .i64) (.bME tI tI (aJ (.bMC aT (.bMC tI aO)) 2 (.Z 0)) (.ci .i64 0)) <|
 .ite (.Z 1) (
  .bMD (.lit 194 aO 1) (.bME tI tI (.ci .i64 1) (aQ (.bMC aT (.bMC tI aO)) 3 (.Z 0))) <|
  .bMD (.bMJ 194 aO 16) (.bME aT aT (.p1 aT (.bMC tI aO) (.Z 0)) (.Z 2)) <|
  .bMD (.lit 194 aO 1) (.bME tI tI (.ci .i64 2) (aQ (.bMC aT (.bMC tI aO)) 3 (.Z 0))) <|
  .bMD (.bMJ 194 aO 16) (.bME aT aT (.Z 3) (.Z 4)) <|
  .bMD (.ar .sub .i64) (.bME tI tI (aJ (.bMC aT (.bMC tI aO)) 1 (.Z 0)) (.ci .i64 1)) <|
  .bMD (.cmp .lss .i64) (.bME tI tI (aJ (.bMC aT (.bMC tI aO)) 2 (.Z 0)) (.Z 6)) <|
  .ite (.Z 7) (
   .bMD (.lit 194 aO 1) (.bME tI tI (.ci .i64 3) (aQ (.bMC aT (.bMC tI aO)) 3 (.Z 0))) <|
   .bMD (.bMJ 194 aO 16) (.bME aT aT (.Z 5) (.Z 8)) <|
   .ret (.Z 9)) (
   .ret (.Z 5))) (
  .bMD (.lit 194 aO 1) (.bME tI tI (.ci .i64 2) (aQ (.bMC aT (.bMC tI aO)) 3 (.Z 0))) <|
  .bMD (.bMJ 194 aO 16) (.bME aT aT (.p1 aT (.bMC tI aO) (.Z 0)) (.Z 2)) <|
  .bMD (.ar .sub .i64) (.bME tI tI (aJ (.bMC aT (.bMC tI aO)) 1 (.Z 0)) (.ci .i64 1)) <|
  .bMD (.cmp .lss .i64) (.bME tI tI (aJ (.bMC aT (.bMC tI aO)) 2 (.Z 0)) (.Z 4)) <|
  .ite (.Z 5) (
   .bMD (.lit 194 aO 1) (.bME tI tI (.ci .i64 3) (aQ (.bMC aT (.bMC tI aO)) 3 (.Z 0))) <|
   .bMD (.bMJ 194 aO 16) (.bME aT aT (.Z 3) (.Z 6)) <|
   .ret (.Z 7)) (
   .ret (.Z 3)))
theorem aRG:bL Tryz.prog [] oT false 3000 ⟨[],[]⟩ = .ok zJ:=by kernel_rfl
theorem aTK (x:(List fI) × (Int × fI)) (hx:okD (.bMC aT (.bMC tI aO)) x) (hp:(fun x=>List.length x.1≤1000000∧1≤x.2.1∧x.2.1≤4) x):zJ.wp [] [⟨(.bMC aT (.bMC tI aO)),x⟩] [] (fun v=>v.as aT=(fun x=>x.1++sN x.2.1 x.2.2.1 x.2.2.2) x):=by
 have hp:List.length x.1≤1000000∧1≤x.2.1∧x.2.1≤4:=hp
 delta zJ;refine dD ?_;try with_reducible exact True.intro
 (repeat' first|intro _|(with_reducible apply And.intro))
 all_goals (try simp only[lU] at *)
 all_goals first|omega|(unfold maxLen;omega)|skip
 all_goals (unfold sN;(repeat' split) <;> first|omega|(simp;done))
theorem aV0:Con.Holds Tryz.prog oT:=aR aW aS aRG aTK
def sW:Con:=⟨233,(.bMC aT (.bMC tI (.bMC tI (.bMC tI .bool)))),aT,[.val ⟨false,aT,[2]⟩,.val ⟨false,tI,[]⟩,.val ⟨false,tI,[]⟩,.val ⟨false,tI,[]⟩,.val ⟨false,.bool,[]⟩],[⟨false,aT,[2]⟩],false,none,
 ((fun x=>List.length x.1≤1000000∧1≤x.2.1∧x.2.1≤4):((List fI) × (Int × (Int × (Int × Bool))))→Prop),
 ((fun x=>x.1++aAE x.2.1 x.2.2.1 x.2.2.2.1 x.2.2.2.2):((List fI) × (Int × (Int × (Int × Bool))))→(List fI))⟩
def aEH:T :=
 .bMD (.ar .sub .i64) (.bME tI tI (aJ (.bMC aT (.bMC tI (.bMC tI (.bMC tI .bool)))) 1 (.Z 0)) (.ci .i64 1)) <|
 .bMD (.cmp .lss .i64) (.bME tI tI (aJ (.bMC aT (.bMC tI (.bMC tI (.bMC tI .bool)))) 2 (.Z 0)) (.Z 1)) <|
 .ite (.Z 2) (
  .bMD (.lit 194 aO 1) (.bME tI tI (.ci .i64 4) (aJ (.bMC aT (.bMC tI (.bMC tI (.bMC tI .bool)))) 3 (.Z 0))) <|
  .bMD (.bMJ 194 aO 16) (.bME aT aT (.p1 aT (.bMC tI (.bMC tI (.bMC tI .bool))) (.Z 0)) (.Z 3)) <|
  .ite (aQ (.bMC aT (.bMC tI (.bMC tI (.bMC tI .bool)))) 4 (.Z 0)) (
   .bMD (.lit 194 aO 1) (.bME tI tI (.ci .i64 5) (aJ (.bMC aT (.bMC tI (.bMC tI (.bMC tI .bool)))) 3 (.Z 0))) <|
   .bMD (.bMJ 194 aO 16) (.bME aT aT (.Z 4) (.Z 5)) <|
   .bMD (.lit 194 aO 1) (.bME tI tI (.ci .i64 6) (aJ (.bMC aT (.bMC tI (.bMC tI (.bMC tI .bool)))) 3 (.Z 0))) <|
   .bMD (.bMJ 194 aO 16) (.bME aT aT (.Z 6) (.Z 7)) <|
   .bMD (.cmp .gtr .i64) (.bME tI tI (aJ (.bMC aT (.bMC tI (.bMC tI (.bMC tI .bool)))) 2 (.Z 0)) (.ci .i64 0)) <|
   .ite (.Z 9) (
    .bMD (.lit 194 aO 1) (.bME tI tI (.ci .i64 7) (aJ (.bMC aT (.bMC tI (.bMC tI (.bMC tI .bool)))) 3 (.Z 0))) <|
    .bMD (.bMJ 194 aO 16) (.bME aT aT (.Z 8) (.Z 10)) <|
    .ret (.Z 11)) (
    .ret (.Z 8))) (
   .bMD (.lit 194 aO 1) (.bME tI tI (.ci .i64 6) (aJ (.bMC aT (.bMC tI (.bMC tI (.bMC tI .bool)))) 3 (.Z 0))) <|
   .bMD (.bMJ 194 aO 16) (.bME aT aT (.Z 4) (.Z 5)) <|
   .bMD (.cmp .gtr .i64) (.bME tI tI (aJ (.bMC aT (.bMC tI (.bMC tI (.bMC tI .bool)))) 2 (.Z 0)) (.ci .i64 0)) <|
   .ite (.Z 7) (
    .bMD (.lit 194 aO 1) (.bME tI tI (.ci .i64 7) (aJ (.bMC aT (.bMC tI (.bMC tI (.bMC tI .bool)))) 3 (.Z 0))) <|
    .bMD (.bMJ 194 aO 16) (.bME aT aT (.Z 6) (.Z 8)) <|
    .ret (.Z 9)) (
    .ret (.Z 6)))) (
  .ite (aQ (.bMC aT (.bMC tI (.bMC tI (.bMC tI .bool)))) 4 (.Z 0)) (
   .bMD (.lit 194 aO 1) (.bME tI tI (.ci .i64 5) (aJ (.bMC aT (.bMC tI (.bMC tI (.bMC tI .bool)))) 3 (.Z 0))) <|
   .bMD (.bMJ 194 aO 16) (.bME aT aT (.p1 aT (.bMC tI (.bMC tI (.bMC tI .bool))) (.Z 0)) (.Z 3)) <|
   .bMD (.lit 194 aO 1) (.bME tI tI (.ci .i64 6) (aJ (.bMC aT (.bMC tI (.bMC tI (.bMC tI .bool)))) 3 (.Z 0))) <|
   .bMD (.bMJ 194 aO 16) (.bME aT aT (.Z 4) (.Z 5)) <|
   .bMD (.cmp .gtr .i64) (.bME tI tI (aJ (.bMC aT (.bMC tI (.bMC tI (.bMC tI .bool)))) 2 (.Z 0)) (.ci .i64 0)) <|
   .ite (.Z 7) (
    .bMD (.lit 194 aO 1) (.bME tI tI (.ci .i64 7) (aJ (.bMC aT (.bMC tI (.bMC tI (.bMC tI .bool)))) 3 (.Z 0))) <|
    .bMD (.bMJ 194 aO 16) (.bME aT aT (.Z 6) (.Z 8)) <|
    .ret (.Z 9)) (
    .ret (.Z 6))) (
   .bMD (.lit 194 aO 1) (.bME tI tI (.ci .i64 6) (aJ (.bMC aT (.bMC tI (.bMC tI (.bMC tI .bool)))) 3 (.Z 0))) <|
   .bMD (.bMJ 194 aO 16) (.bME aT aT (.p1 aT (.bMC tI (.bMC tI (.bMC tI .bool))) (.Z 0)) (.Z 3)) <|
   .bMD (.cmp .gtr .i64) (.bME tI tI (aJ (.bMC aT (.bMC tI (.bMC tI (.bMC tI .bool)))) 2 (.Z 0)) (.ci .i64 0)) <|
   .ite (.Z 5) (
    .bMD (.lit 194 aO 1) (.bME tI tI (.ci .i64 7) (aJ (.bMC aT (.bMC tI (.bMC tI (.bMC tI .bool)))) 3 (.Z 0))) <|
    .bMD (.bMJ 194 aO 16) (.bME aT aT (.Z 4) (.Z 6)) <|
    .ret (.Z 7)) (
    .ret (.Z 4))))
theorem aYU:bL Tryz.prog [] sW false 3000 ⟨[],[]⟩ = .ok aEH:=by kernel_rfl
theorem aXF (x:(List fI) × (Int × (Int × (Int × Bool)))) (hx:okD (.bMC aT (.bMC tI (.bMC tI (.bMC tI .bool)))) x) (hp:(fun x=>List.length x.1≤1000000∧1≤x.2.1∧x.2.1≤4) x):aEH.wp [] [⟨(.bMC aT (.bMC tI (.bMC tI (.bMC tI .bool)))),x⟩] [] (fun v=>v.as aT=(fun x=>x.1++aAE x.2.1 x.2.2.1 x.2.2.2.1 x.2.2.2.2) x):=by
 have hp:List.length x.1≤1000000∧1≤x.2.1∧x.2.1≤4:=hp
 delta aEH;refine dD ?_;try with_reducible exact True.intro
 (repeat' first|intro _|(with_reducible apply And.intro))
 all_goals (try simp only[lU] at *)
 all_goals first|omega|(unfold maxLen;omega)|skip
 all_goals (unfold aAE;(repeat' split) <;> first|omega|contradiction|(simp;done)|(simp_all;done))
theorem aYD:Con.Holds Tryz.prog sW:=aR aW aS aYU aXF
def aAK:Con:=⟨154,(.bMC tI (.bMC tI (.bMC tI (.bMC tI .bool)))),aT,[.val ⟨false,tI,[]⟩,.val ⟨false,tI,[]⟩,.val ⟨false,tI,[]⟩,.val ⟨false,tI,[]⟩,.val ⟨false,.bool,[]⟩],[⟨false,aT,[2]⟩],false,none,
 ((fun _=>True):(Int × (Int × (Int × (Int × Bool))))→Prop),
 ((fun x=>zA x.1 x.2.1 x.2.2.1 x.2.2.2.1 x.2.2.2.2):(Int × (Int × (Int × (Int × Bool))))→(List fI))⟩
def aJG:T:=.call 0 (bE (.bMC tI aO) [(.p1 tI (.bMC tI (.bMC tI (.bMC tI .bool))) (.Z 0)),(.ci .i64 1),(.ci .i64 2)]) <|
 .bMD .not (.Z 1) <|
 .ite (.Z 2) (
  .ret (.nl 194 aO)) (
  .call 0 (bE (.bMC tI aO) [(aJ (.bMC tI (.bMC tI (.bMC tI (.bMC tI .bool)))) 1 (.Z 0)),(.ci .i64 1),(.ci .i64 4)]) <|
  .bMD .not (.Z 3) <|
  .ite (.Z 4) (
   .ret (.nl 194 aO)) (
   .bMD (.ar .sub .i64) (.bME tI tI (aJ (.bMC tI (.bMC tI (.bMC tI (.bMC tI .bool)))) 1 (.Z 0)) (.ci .i64 1)) <|
   .call 0 (bE (.bMC tI aO) [(aJ (.bMC tI (.bMC tI (.bMC tI (.bMC tI .bool)))) 2 (.Z 0)),(.ci .i64 0),(.Z 5)]) <|
   .bMD .not (.Z 6) <|
   .ite (.Z 7) (
    .ret (.nl 194 aO)) (
    .call 0 (bE (.bMC tI aO) [(aJ (.bMC tI (.bMC tI (.bMC tI (.bMC tI .bool)))) 3 (.Z 0)),(.ci .i64 1),(.ci .i64 5)]) <|
    .bMD .not (.Z 8) <|
    .ite (.Z 9) (
     .ret (.nl 194 aO)) (
     .call 1 (bE (.bMC tI (.bMC tI aO)) [(.p1 tI (.bMC tI (.bMC tI (.bMC tI .bool))) (.Z 0)),(aJ (.bMC tI (.bMC tI (.bMC tI (.bMC tI .bool)))) 1 (.Z 0)),(aJ (.bMC tI (.bMC tI (.bMC tI (.bMC tI .bool)))) 2 (.Z 0)),(aJ (.bMC tI (.bMC tI (.bMC tI (.bMC tI .bool)))) 3 (.Z 0))]) <|
     .loop (.bMC tI aT) (.bME tI aT (.ci .i64 0) (.nl 194 aO)) <|
      .bMD (.cmp .lss .i64) (.bME tI tI (.p1 tI aT (.Z 11)) (.Z 10)) <|
      .ite (.Z 12) (
       .call 2 (bE (.bMC aT (.bMC tI aO)) [(aQ (.bMC tI aT) 1 (.Z 11)),(aJ (.bMC tI (.bMC tI (.bMC tI (.bMC tI .bool)))) 1 (.Z 0)),(aJ (.bMC tI (.bMC tI (.bMC tI (.bMC tI .bool)))) 2 (.Z 0)),(.p1 tI aT (.Z 11))]) <|
       .bMD (.ar .add .i64) (.bME tI tI (.p1 tI aT (.Z 11)) (.ci .i64 1)) <|
       .bMF 0 (.bME tI aT (.Z 14) (.Z 13))) (
       .loop (.bMC tI aT) (.bME tI aT (.ci .i64 0) (aQ (.bMC tI aT) 1 (.Z 11))) <|
        .bMD (.cmp .lss .i64) (.bME tI tI (.p1 tI aT (.Z 13)) (aJ (.bMC tI (.bMC tI (.bMC tI (.bMC tI .bool)))) 3 (.Z 0))) <|
        .ite (.Z 14) (
         .bMD (.ar .add .i64) (.bME tI tI (.Z 10) (.p1 tI aT (.Z 13))) <|
         .bMD (.cmp .lss .i64) (.bME tI tI (.Z 15) (aJ (.bMC tI (.bMC tI (.bMC tI (.bMC tI .bool)))) 3 (.Z 0))) <|
         .ite (.Z 16) (
          .bMD (.ar .add .i64) (.bME tI tI (.Z 10) (.p1 tI aT (.Z 13))) <|
          .call 2 (bE (.bMC aT (.bMC tI aO)) [(aQ (.bMC tI aT) 1 (.Z 13)),(aJ (.bMC tI (.bMC tI (.bMC tI (.bMC tI .bool)))) 1 (.Z 0)),(aJ (.bMC tI (.bMC tI (.bMC tI (.bMC tI .bool)))) 2 (.Z 0)),(.Z 17)]) <|
          .call 3 (bE (.bMC aT (.bMC tI (.bMC tI (.bMC tI .bool)))) [(.Z 18),(aJ (.bMC tI (.bMC tI (.bMC tI (.bMC tI .bool)))) 1 (.Z 0)),(aJ (.bMC tI (.bMC tI (.bMC tI (.bMC tI .bool)))) 2 (.Z 0)),(.p1 tI aT (.Z 13)),(aQ (.bMC tI (.bMC tI (.bMC tI (.bMC tI .bool)))) 4 (.Z 0))]) <|
          .bMD (.ar .add .i64) (.bME tI tI (.p1 tI aT (.Z 13)) (.ci .i64 1)) <|
          .bMF 0 (.bME tI aT (.Z 20) (.Z 19))) (
          .call 3 (bE (.bMC aT (.bMC tI (.bMC tI (.bMC tI .bool)))) [(aQ (.bMC tI aT) 1 (.Z 13)),(aJ (.bMC tI (.bMC tI (.bMC tI (.bMC tI .bool)))) 1 (.Z 0)),(aJ (.bMC tI (.bMC tI (.bMC tI (.bMC tI .bool)))) 2 (.Z 0)),(.p1 tI aT (.Z 13)),(aQ (.bMC tI (.bMC tI (.bMC tI (.bMC tI .bool)))) 4 (.Z 0))]) <|
          .bMD (.ar .add .i64) (.bME tI tI (.p1 tI aT (.Z 13)) (.ci .i64 1)) <|
          .bMF 0 (.bME tI aT (.Z 18) (.Z 17)))) (
         .bMD (.lit 194 aO 1) (.bME tI tI (.ci .i64 8) (.ci .i64 0)) <|
         .bMD (.bMJ 194 aO 16) (.bME aT aT (aQ (.bMC tI aT) 1 (.Z 13)) (.Z 15)) <|
         .ret (.Z 16)))))))
theorem bIG:bL Tryz.prog [bH,rS,oT,sW] aAK false 3000 ⟨[(2984,16011,iQ 41 37++iQ 35 15++[.dr 0,.tm 13 0,.on 11,.sl 1]),(2974,32013,iQ 44 42++[.dr 13,.tm 14 0,.sl 1])],[]⟩ = .ok aJG:=by kernel_rfl
theorem bGK (x:Int × (Int × (Int × (Int × Bool)))) (hx:okD (.bMC tI (.bMC tI (.bMC tI (.bMC tI .bool)))) x) (hp:(fun _=>True) x):aJG.wp [bH,rS,oT,sW] [⟨(.bMC tI (.bMC tI (.bMC tI (.bMC tI .bool)))),x⟩] [] (fun v=>v.as aT=(fun x=>zA x.1 x.2.1 x.2.2.1 x.2.2.2.1 x.2.2.2.2) x):=by
  obtain ⟨ds,st,s,micro,r⟩:=x
  delta aJG bH rS oT sW;refine dD ?_;try with_reducible exact True.intro
  (repeat' first|intro _|(with_reducible apply And.intro))
  all_goals (try simp only[lU] at *)
  all_goals first|omega|exact bHN (fun h=>by rw[gR] at h;omega)|skip
  all_goals have hP:gM st s micro=true:=by first|assumption|exact wC (by omega)
  all_goals have hd:ds=1∨ds=2:=by omega
  all_goals have hb:=(gR _ _ _).1 hP
  all_goals have hw:=aZG (ds:=ds) hP
  all_goals have hfin:=bER (r:=r) ⟨hd,hP⟩
  all_goals generalize nY ds st s micro=W at *
  all_goals refine ⟨fun q=>∃ k:Nat,(k:Int)≤W∧q=((k:Int),aNE st s k),fun q=>W.toNat - (q.1:Int).toNat,⟨0,by omega,rfl⟩,fun q _ hI=>?_⟩
  all_goals obtain ⟨k,hk,rfl⟩:=hI
  all_goals dsimp only
  all_goals have l1:=aBZ st s k
  all_goals have l2:=oI st s k
  all_goals refine ⟨fun hlt=>?_,fun hge=>?_⟩
  all_goals first
    | (have h0:(k:Int)<W:=hlt
       (repeat' first|intro _|(with_reducible apply And.intro))
       all_goals first|omega|(unfold maxLen;omega)|exact ⟨k+1,by omega,rfl⟩)
    | skip
  all_goals have hkW:k=W.toNat:=by omega
  all_goals refine ⟨fun q=>∃ j:Nat,(j:Int)≤micro∧q=((j:Int),uI st s micro W r j),fun q=>micro.toNat - (q.1:Int).toNat,⟨0,by omega,by rw[hkW];rfl⟩,fun q _ hI=>?_⟩
  all_goals obtain ⟨j,hj,rfl⟩:=hI
  all_goals dsimp only
  all_goals try rw[show W+(j:Int)=(j:Int)+W from Int.add_comm _ _]
  all_goals have l3:=aC1 st s micro W r j
  all_goals have l4:=oI st s ((j:Int)+W)
  all_goals have l5:=aG8 st s j r
  all_goals (repeat' first|intro _|(with_reducible apply And.intro))
  all_goals first
    | omega
    | (unfold maxLen;omega)
    | exact ⟨j+1,by omega,by rw[← bBA (by omega)];rfl⟩
    | exact ⟨j+1,by omega,by rw[← bA9 (by omega)];rfl⟩
    | (have hj2:j=micro.toNat:=by omega
       rw[hj2]
       exact hfin)
theorem bF0:Con.Holds Tryz.prog aAK:=aR aW (aG eS (aG aWF (aG aV0 (aG aYD aS)))) bIG bGK
end
end Go.Proofs.YtiihghfoeinbbaaGreat
