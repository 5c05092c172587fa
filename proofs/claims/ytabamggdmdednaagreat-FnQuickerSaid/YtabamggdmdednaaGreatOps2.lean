/- Ops2: lemmas. No conditions. -/
import Derived.Test.YtabamggdmdednaaGreatGr2
namespace Go.Proofs.YtabamggdmdednaaGreat
noncomputable section
set_option maxRecDepth 100000
open Go.ChangeShapes Go.WideShapes Go.ChangeAt Go.RowKit Go.Deep
set_option linter.unusedVariables false
set_option linter.unusedSimpArgs false
def iQ (v:List Int):Bool:=decide (1≤v.length)&&(decide (v.length≤6)&&v.all jL)
theorem cT (v:List Int):iQ v=true↔1≤v.length∧v.length≤6∧v.all jL=true:=by unfold iQ;simp only[Bool.and_eq_true,decide_eq_true_eq]
def gM (o:dI):Int:=if o.2.1<1∨6<o.2.1∨o.2.2.1<1∨6<o.2.2.1 then 0 else if o.1=1∨o.1=5 then o.2.1 * o.2.2.1 else if o.1=2 then o.2.1 else if o.1=4 then 1 else 0
def opB (o:dI):Bool:=decide (1≤o.1∧o.1≤5∧1≤o.2.1∧o.2.1≤6∧1≤o.2.2.1∧o.2.2.1≤6∧(o.1≠1→o.2.1=o.2.2.1)∧(o.2.2.2.length:Int)=gM o)&&o.2.2.2.all jL
theorem gY (o:dI):opB o=true↔(1≤o.1∧o.1≤5∧1≤o.2.1∧o.2.1≤6∧1≤o.2.2.1∧o.2.2.1≤6∧(o.1≠1→o.2.1=o.2.2.1)∧(o.2.2.2.length:Int)=gM o)∧o.2.2.2.all jL=true:=by
 unfold opB;simp only[Bool.and_eq_true,decide_eq_true_eq]
theorem bRS {m n:Nat}:((m:Int)=(n:Int))↔m=n:=by omega
def zOp:dI:=(0,0,0,[])
def bDC (m:List dI) (i:Nat):Bool:=opB (m.getD i zOp)&&(decide (i=0) || decide ((m.getD (i - 1) zOp).2.2.1=(m.getD i zOp).2.1))
theorem xI (m:List dI) {i:Nat} (h:i<m.length):bDC m i=true↔opB m[i]=true∧(i=0∨(m[i - 1]'(by omega)).2.2.1=m[i].2.1):=by
 unfold bDC
 rw[aZ h,aZ (show i - 1<m.length by omega)]
 simp only[Bool.and_eq_true,Bool.or_eq_true,decide_eq_true_eq]
def cR (m:List dI):Bool:=decide (1≤m.length)&&(decide (m.length≤8)&&(List.range m.length).all (bDC m))
theorem bY (m:List dI):cR m=true↔1≤m.length∧m.length≤8∧∀ i,i<m.length→bDC m i=true:=by
 unfold cR;simp only[Bool.and_eq_true,decide_eq_true_eq,List.all_eq_true,List.mem_range]
theorem aMZ {m:List dI} {i:Nat} (h:i<m.length) (hb:¬ bDC m i=true):false=cR m:=by
 refine (Bool.eq_false_iff.2 ?_).symm
 rw[ne_eq,bY]
 exact fun hh=>hb (hh.2.2 i h)
theorem aWP {o:dI} (h:o.2.1<1∨6<o.2.1∨o.2.2.1<1∨6<o.2.2.1∨(o.1≠1∧o.1≠5∧o.1≠2∧o.1≠4)):0=gM o:=by
 unfold gM
 split
 ·rfl
 ·rw[if_neg (by omega),if_neg (by omega),if_neg (by omega)]
theorem aVO {o:dI} (h:1≤o.2.1∧o.2.1≤6∧1≤o.2.2.1∧o.2.2.1≤6∧(o.1=1∨o.1=5)):o.2.1 * o.2.2.1=gM o:=by
 unfold gM;rw[if_neg (by omega),if_pos (by omega)]
theorem aYY {o:dI} (h:1≤o.2.1∧o.2.1≤6∧1≤o.2.2.1∧o.2.2.1≤6∧o.1=2):o.2.1=gM o:=by
 unfold gM;rw[if_neg (by omega),if_neg (by omega),if_pos (by omega)]
theorem aLT {o:dI} (h:1≤o.2.1∧o.2.1≤6∧1≤o.2.2.1∧o.2.2.1≤6∧o.1=4):1=gM o:=by
 unfold gM;rw[if_neg (by omega),if_neg (by omega),if_neg (by omega),if_pos (by omega)]
theorem aRB {a b:Int} (h1:1≤a) (h2:a≤6) (h3:1≤b) (h4:b≤6):0≤a * b∧a * b≤36 :=
 ⟨Int.mul_nonneg (by omega) (by omega),Int.le_trans (Int.mul_le_mul h2 h4 (by omega) (by omega)) (by omega)⟩
def iN:Con:=⟨88,aB,.bool,[.val ⟨false,aB,[]⟩],[⟨false,.bool,[0]⟩],false,none,
 ((fun _=>True):(List Int)→Prop),
 ((fun x=>List.all x jL):(List Int)→(Bool))⟩
def aFV:T :=
 .bRX (.bS0 3 tI) (.Z 0) <|
 .loop tI (.ci .i64 0) <|
  .bRX (.cmp .lss .i64) (.bRY tI tI (.Z 2) (.Z 1)) <|
  .ite (.Z 3) (
   .bRX (.bS1 3 tI) (.bRY aB tI (.Z 0) (.Z 2)) <|
   .call 0 (.Z 4) <|
   .bRX .not (.Z 5) <|
   .ite (.Z 6) (
    .ret (.cb false)) (
    .bRX (.ar .add .i64) (.bRY tI tI (.Z 2) (.ci .i64 1)) <|
    .bRZ 0 (.Z 7))) (
   .ret (.cb true))
theorem bBK:bI Tryz.prog [jZ] iN false 3000 ⟨[(2993,1002,[.dr 0,.tm 7 0])],[]⟩ = .ok aFV:=by kernel_rfl
theorem bBX (x:List Int) (hx:okD aB x) (hp:(fun _=>True) x):aFV.wp [jZ] [⟨aB,x⟩] [] (fun v=>v.as .bool=(fun x=>List.all x jL) x):=by
 have hp:List.length x≤9223372036854775807:=hx.1
 delta aFV jZ;refine cW ?_
 intro _
 refine ⟨fun s=>∃ k:Nat,k≤x.length∧s=(k:Int)∧(x.take k).all jL=true,fun s=>x.length - (s:Int).toNat,⟨0,by omega,rfl,rfl⟩,fun s _ hI=>?_⟩
 obtain ⟨k,hk,rfl,ha⟩:=hI
 refine dB ?_
 constructor
 ·intro hlt
  have hk':k<x.length:=by omega
  rw[aZ hk']
  have e:=mT jL x hk'
  (repeat' first|intro _|(with_reducible apply And.intro))
  all_goals first|omega|skip
  ·exact (vE hk' (by assumption)).symm
  ·exact ⟨k+1,by omega,rfl,by rw[e,ha];simpa using ‹jL _=true›⟩
 ·intro hge
  have:k=x.length:=by omega
  subst this
  rw[List.take_length] at ha
  exact ha.symm
theorem aEO:Con.Holds Tryz.prog iN:=aS aV (aI aIW aQ) bBK bBX
def tZ:Con:=⟨87,bF,tI,[.val ⟨true,bF,[]⟩],[⟨false,tI,[0]⟩],false,none,
 ((fun _=>True):(dI)→Prop),
 ((fun x=>gM x):(dI)→(Int))⟩
def aG9:T :=
 .bRX (.cmp .lss .i64) (.bRY tI tI (aK bF 1 (.Z 0)) (.ci .i64 1)) <|
 .ite (.Z 1) (
  .ret (.ci .i64 0)) (
  .bRX (.cmp .gtr .i64) (.bRY tI tI (aK bF 1 (.Z 0)) (.ci .i64 6)) <|
  .ite (.Z 2) (
   .ret (.ci .i64 0)) (
   .bRX (.cmp .lss .i64) (.bRY tI tI (aK bF 2 (.Z 0)) (.ci .i64 1)) <|
   .ite (.Z 3) (
    .ret (.ci .i64 0)) (
    .bRX (.cmp .gtr .i64) (.bRY tI tI (aK bF 2 (.Z 0)) (.ci .i64 6)) <|
    .ite (.Z 4) (
     .ret (.ci .i64 0)) (
     .bRX (.cmp .eql .i64) (.bRY tI tI (.p1 tI (.bRW tI aH) (.Z 0)) (.ci .i64 1)) <|
     .ite (.Z 5) (
      .bRX (.ar .mul .i64) (.bRY tI tI (aK bF 1 (.Z 0)) (aK bF 2 (.Z 0))) <|
      .ret (.Z 6)) (
      .bRX (.cmp .eql .i64) (.bRY tI tI (.p1 tI (.bRW tI aH) (.Z 0)) (.ci .i64 5)) <|
      .ite (.Z 6) (
       .bRX (.ar .mul .i64) (.bRY tI tI (aK bF 1 (.Z 0)) (aK bF 2 (.Z 0))) <|
       .ret (.Z 7)) (
       .bRX (.cmp .eql .i64) (.bRY tI tI (.p1 tI (.bRW tI aH) (.Z 0)) (.ci .i64 2)) <|
       .ite (.Z 7) (
        .ret (aK bF 1 (.Z 0))) (
        .bRX (.cmp .eql .i64) (.bRY tI tI (.p1 tI (.bRW tI aH) (.Z 0)) (.ci .i64 4)) <|
        .ite (.Z 8) (
         .ret (.ci .i64 1)) (
         .ret (.ci .i64 0)))))))))
theorem bD4:bI Tryz.prog [] tZ false 3000 ⟨[],[]⟩ = .ok aG9:=by kernel_rfl
theorem bAF (x:dI) (hx:okD bF x) (hp:(fun _=>True) x):aG9.wp [] [⟨bF,x⟩] [] (fun v=>v.as tI=(fun x=>gM x) x):=by
 delta aG9;refine cW ?_;try with_reducible exact True.intro
 (repeat' first|intro _|(with_reducible apply And.intro))
 all_goals simp only[mG] at *
 all_goals first|omega|(have:=aRB (a:=x.2.1) (b:=x.2.2.1) (by omega) (by omega) (by omega) (by omega);omega)|exact aWP (by omega)|exact aVO (by omega)|exact aYY (by omega)|exact aLT (by omega)
theorem bE7:Con.Holds Tryz.prog tZ:=aS aV aQ bD4 bAF
def lS:Con:=⟨50,bF,.bool,[.val ⟨true,bF,[]⟩],[⟨false,.bool,[0]⟩],false,none,
 ((fun _=>True):(dI)→Prop),
 ((fun x=>opB x):(dI)→(Bool))⟩
def aMI:T :=
 .bRX (.cmp .lss .i64) (.bRY tI tI (.p1 tI (.bRW tI aH) (.Z 0)) (.ci .i64 1)) <|
 .ite (.Z 1) (
  .ret (.cb false)) (
  .bRX (.cmp .gtr .i64) (.bRY tI tI (.p1 tI (.bRW tI aH) (.Z 0)) (.ci .i64 5)) <|
  .ite (.Z 2) (
   .ret (.cb false)) (
   .bRX (.cmp .lss .i64) (.bRY tI tI (aK bF 1 (.Z 0)) (.ci .i64 1)) <|
   .ite (.Z 3) (
    .ret (.cb false)) (
    .bRX (.cmp .gtr .i64) (.bRY tI tI (aK bF 1 (.Z 0)) (.ci .i64 6)) <|
    .ite (.Z 4) (
     .ret (.cb false)) (
     .bRX (.cmp .lss .i64) (.bRY tI tI (aK bF 2 (.Z 0)) (.ci .i64 1)) <|
     .ite (.Z 5) (
      .ret (.cb false)) (
      .bRX (.cmp .gtr .i64) (.bRY tI tI (aK bF 2 (.Z 0)) (.ci .i64 6)) <|
      .ite (.Z 6) (
       .ret (.cb false)) (
       .bRX (.cmp .neq .i64) (.bRY tI tI (.p1 tI (.bRW tI aH) (.Z 0)) (.ci .i64 1)) <|
       .ite (.Z 7) (
        .bRX (.cmp .neq .i64) (.bRY tI tI (aK bF 1 (.Z 0)) (aK bF 2 (.Z 0))) <|
        .ite (.Z 8) (
         .ret (.cb false)) (
         .bRX (.bS0 3 tI) (aP bF 3 (.Z 0)) <|
         .call 0 (.Z 0) <|
         .bRX (.cmp .eql .i64) (.bRY tI tI (.Z 9) (.Z 10)) <|
         .ite (.Z 11) (
          .call 1 (aP bF 3 (.Z 0)) <|
          .ret (.Z 12)) (
          .ret (.cb false)))) (
        .bRX (.bS0 3 tI) (aP bF 3 (.Z 0)) <|
        .call 0 (.Z 0) <|
        .bRX (.cmp .eql .i64) (.bRY tI tI (.Z 8) (.Z 9)) <|
        .ite (.Z 10) (
         .call 1 (aP bF 3 (.Z 0)) <|
         .ret (.Z 11)) (
         .ret (.cb false)))))))))
theorem bNS:bI Tryz.prog [tZ,iN] lS false 3000 ⟨[],[]⟩ = .ok aMI:=by kernel_rfl
theorem bLT (x:dI) (hx:okD bF x) (hp:(fun _=>True) x):aMI.wp [tZ,iN] [⟨bF,x⟩] [] (fun v=>v.as .bool=(fun x=>opB x) x):=by
 have hp:List.length x.2.2.2≤9223372036854775807:=hx.2.2.2.1
 delta aMI tZ iN;refine cW ?_;try with_reducible exact True.intro
 (repeat' first|intro _|(with_reducible apply And.intro))
 all_goals simp only[mG] at *
 all_goals first|assumption|(first|(refine (Bool.eq_false_iff.2 ?_).symm;rw[ne_eq,gY];intro hh;omega)|(refine (gY.2 ?_).symm;omega))|(rw[Bool.eq_iff_iff,gY];exact ⟨fun h=>⟨by omega,h⟩,fun h=>h.2⟩)
theorem aOH:Con.Holds Tryz.prog lS:=aS aV (aI bE7 (aI aEO aQ)) bNS bLT
def bS:Con:=⟨23,aE,.bool,[.val ⟨true,aE,[]⟩],[⟨false,.bool,[0]⟩],false,none,
 ((fun _=>True):(aY)→Prop),
 ((fun x=>cR x):(aY)→(Bool))⟩
def aB5:T :=
 .bRX (.bS0 88 bF) (.Z 0) <|
 .bRX (.cmp .lss .i64) (.bRY tI tI (.Z 1) (.ci .i64 1)) <|
 .ite (.Z 2) (
  .ret (.cb false)) (
  .bRX (.bS0 88 bF) (.Z 0) <|
  .bRX (.cmp .gtr .i64) (.bRY tI tI (.Z 3) (.ci .i64 8)) <|
  .ite (.Z 4) (
   .ret (.cb false)) (
   .bRX (.bS0 88 bF) (.Z 0) <|
   .loop tI (.ci .i64 0) <|
    .bRX (.cmp .lss .i64) (.bRY tI tI (.Z 6) (.Z 5)) <|
    .ite (.Z 7) (
     .bRX (.bS1 88 bF) (.bRY aE tI (.Z 0) (.Z 6)) <|
     .call 0 (.Z 8) <|
     .bRX .not (.Z 9) <|
     .ite (.Z 10) (
      .ret (.cb false)) (
      .bRX (.cmp .gtr .i64) (.bRY tI tI (.Z 6) (.ci .i64 0)) <|
      .ite (.Z 11) (
       .bRX (.ar .sub .i64) (.bRY tI tI (.Z 6) (.ci .i64 1)) <|
       .bRX (.bS1 88 bF) (.bRY aE tI (.Z 0) (.Z 12)) <|
       .bRX (.cmp .neq .i64) (.bRY tI tI (aK bF 2 (.Z 13)) (aK bF 1 (.Z 8))) <|
       .ite (.Z 14) (
        .ret (.cb false)) (
        .bRX (.ar .add .i64) (.bRY tI tI (.Z 6) (.ci .i64 1)) <|
        .bRZ 0 (.Z 15))) (
       .bRX (.ar .add .i64) (.bRY tI tI (.Z 6) (.ci .i64 1)) <|
       .bRZ 0 (.Z 12)))) (
     .ret (.cb true))))
theorem aYT:bI Tryz.prog [lS] bS false 3000 ⟨[(2988,4006,gQ 15 5++[.dr 0,.tm 18 0])],[]⟩ = .ok aB5:=by kernel_rfl
theorem aWW (x:aY) (hx:okD aE x) (hp:(fun _=>True) x):aB5.wp [lS] [⟨aE,x⟩] [] (fun v=>v.as .bool=(fun x=>cR x) x):=by
 obtain ⟨hp1,hp2⟩:List.length x≤9223372036854775807∧∀ o∈(x:List dI),List.length o.2.2.2≤9223372036854775807:=⟨hx.1,fun o ho=>(hx.2 o ho).2.2.2.1⟩
 delta aB5 lS;refine cW ?_;try with_reducible exact True.intro
 (repeat' first|intro _|(with_reducible apply And.intro))
 all_goals simp only[mG] at *
 ·(first|(refine (Bool.eq_false_iff.2 ?_).symm;rw[ne_eq,bY];intro hh;omega)|(refine (bY.2 ?_).symm;omega))
 ·(first|(refine (Bool.eq_false_iff.2 ?_).symm;rw[ne_eq,bY];intro hh;omega)|(refine (bY.2 ?_).symm;omega))
 refine ⟨fun s=>∃ k:Nat,k≤x.length∧s=(k:Int)∧∀ i,i<k→bDC x i=true,fun s=>x.length - (s:Int).toNat,⟨0,by omega,rfl,by omega⟩,fun s _ hI=>?_⟩
 obtain ⟨k,hk,rfl,ha⟩:=hI
 refine dB ?_
 constructor
 ·intro hlt
  have hk':k<x.length:=by omega
  rw[aZ hk',aZ (show k - 1<x.length by omega)]
  have e:=xI x hk'
  have hm:=hp2 _ (List.getElem_mem hk')
  (repeat' first|intro _|(with_reducible apply And.intro))
  all_goals first|omega|exact hm|skip
  all_goals first|(refine aMZ hk' fun h=>?_;rw[e] at h;obtain ⟨h1,h2⟩:=h;first|(simp_all;done)|omega)|skip
  all_goals refine ⟨k+1,by omega,rfl,fun i hi=>?_⟩
  all_goals rcases Nat.lt_or_eq_of_le (Nat.le_of_lt_succ hi) with h|rfl
  all_goals first|exact ha i h|(refine e.2 ⟨by assumption,?_⟩;first|exact .inl (by omega)|exact .inr (by assumption)|exact .inr (by omega))
 ·intro hge
  have:k=x.length:=by omega
  subst this
  refine ((bY x).2 ⟨?_,?_,ha⟩).symm <;> omega
theorem iB:Con.Holds Tryz.prog bS:=aS aV (aI aOH aQ) aYT aWW
def gJ:Con:=⟨141,tI,.bool,[.val ⟨false,tI,[]⟩],[⟨false,.bool,[0]⟩],false,none,
 ((fun _=>True):(Int)→Prop),
 ((fun x=>jL x):(Int)→(Bool))⟩
def aJI:T:=.call 0 (bB (.bRW tI aD) [(.Z 0),(.ci .i64 (-2147483647)),(.ci .i64 2147483647)]) <|.ret (.Z 1)
theorem bGJ:bI Tryz.prog [bL] gJ false 3000 ⟨[],[]⟩ = .ok aJI:=by kernel_rfl
theorem bHJ (x:Int) (hx:okD tI x) (hp:(fun _=>True) x):aJI.wp [bL] [⟨tI,x⟩] [] (fun v=>v.as .bool=(fun x=>jL x) x):=by
 delta aJI bL;refine cW ?_
 rw[Bool.eq_iff_iff,aD0]
 (refine dB ?_;try with_reducible exact True.intro)
theorem aDF:Con.Holds Tryz.prog gJ:=aS aV (aI eV aQ) bGJ bHJ
def bN:Con:=⟨113,aB,.bool,[.val ⟨false,aB,[]⟩],[⟨false,.bool,[0]⟩],false,none,
 ((fun _=>True):(List Int)→Prop),
 ((fun x=>iQ x):(List Int)→(Bool))⟩
def aJX:T:=.loop tI (.ci .i64 0) <|
 .bRX (.bS0 3 tI) (.Z 0) <|
 .bRX (.cmp .lss .i64) (.bRY tI tI (.Z 1) (.Z 2)) <|
 .ite (.Z 3) (
  .bRX (.bS1 3 tI) (.bRY aB tI (.Z 0) (.Z 1)) <|
  .call 0 (.Z 4) <|
  .bRX .not (.Z 5) <|
  .ite (.Z 6) (
   .ret (.cb false)) (
   .bRX (.ar .add .i64) (.bRY tI tI (.Z 1) (.ci .i64 1)) <|
   .bRZ 0 (.Z 7))) (
  .bRX (.bS0 3 tI) (.Z 0) <|
  .call 1 (bB (.bRW tI aD) [(.Z 4),(.ci .i64 1),(.ci .i64 6)]) <|
  .ret (.Z 5))
theorem bHH:bI Tryz.prog [gJ,bL] bN false 3000 ⟨[(2993,1001,[.tm 3 0])],[]⟩ = .ok aJX:=by kernel_rfl
theorem bGK (x:List Int) (hx:okD aB x) (hp:(fun _=>True) x):aJX.wp [gJ,bL] [⟨aB,x⟩] [] (fun v=>v.as .bool=(fun x=>iQ x) x):=by
 have hp:List.length x≤9223372036854775807:=hx.1
 delta aJX gJ bL;refine cW ?_
 refine ⟨fun s=>∃ k:Nat,k≤x.length∧s=(k:Int)∧(x.take k).all jL=true,fun s=>x.length - (s:Int).toNat,⟨0,by omega,rfl,rfl⟩,fun s _ hI=>?_⟩
 obtain ⟨k,hk,rfl,ha⟩:=hI
 refine dB ?_
 intro _
 constructor
 ·intro hlt
  have hk':k<x.length:=by omega
  rw[aZ hk']
  have e:=mT jL x hk'
  (repeat' first|intro _|(with_reducible apply And.intro))
  all_goals first|omega|skip
  ·have:=vE hk' (by assumption)
   unfold iQ
   rw[this]
   simp
  ·exact ⟨k+1,by omega,rfl,by rw[e,ha];simpa using ‹jL _=true›⟩
 ·intro hge
  have:k=x.length:=by omega
  subst this
  rw[List.take_length] at ha
  intro _
  rw[Bool.eq_iff_iff,cT,ha]
  simp only[mG,and_true]
  omega
theorem fD:Con.Holds Tryz.prog bN:=aS aV (aI aDF (aI eV aQ)) bHH bGK
def fA:Con:=⟨168,aO,.bool,[.val ⟨false,aB,[]⟩,.val ⟨false,aB,[]⟩],[⟨false,.bool,[0]⟩],false,none,
 ((fun _=>True):(bT)→Prop),
 ((fun x=>iQ x.1&&(iQ x.2&&decide ((x.1:List Int).length=(x.2:List Int).length))):(bT)→(Bool))⟩
def aFP:T:=.call 0 (.p1 aB aB (.Z 0)) <|.ite (.Z 1) (.call 0 (aP aO 1 (.Z 0)) <|.ite (.Z 2) (
  .bRX (.bS0 3 tI) (.p1 aB aB (.Z 0)) <|
  .bRX (.bS0 3 tI) (aP aO 1 (.Z 0)) <|
  .bRX (.cmp .eql .i64) (.bRY tI tI (.Z 3) (.Z 4)) <|
  .ret (.Z 5)) (
  .ret (.cb false))) (
 .ret (.cb false))
theorem bDE:bI Tryz.prog [bN] fA false 3000 ⟨[],[]⟩ = .ok aFP:=by kernel_rfl
theorem bCI (x:bT) (hx:okD aO x) (hp:(fun _=>True) x):aFP.wp [bN] [⟨aO,x⟩] [] (fun v=>v.as .bool=(fun x=>iQ x.1&&(iQ x.2&&decide ((x.1:List Int).length=(x.2:List Int).length))) x):=by
 delta aFP bN;refine cW ?_
 cases iQ x.1 <;> cases iQ x.2 <;> simp only[reduceCtorEq,true_implies,false_implies,and_true,true_and,Bool.true_and,Bool.false_and,Bool.and_false,implies_true]
 intro _ _
 rw[Bool.eq_iff_iff,beq_iff_eq,decide_eq_true_eq]
 exact bRS
theorem aA3:Con.Holds Tryz.prog fA:=aS aV (aI fD aQ) bDE bCI
def lM:Con:=⟨128,bF,tI,[.val ⟨true,bF,[]⟩],[⟨false,tI,[0]⟩],false,none,
 ((fun _=>True):(dI)→Prop),
 ((fun x=>gM x):(dI)→(Int))⟩
def aFD:T:=.call 0 (bB (.bRW tI aD) [(aK bF 1 (.Z 0)),(.ci .i64 1),(.ci .i64 6)]) <|
 .bRX .not (.Z 1) <|
 .ite (.Z 2) (
  .ret (.ci .i64 0)) (
  .call 0 (bB (.bRW tI aD) [(aK bF 2 (.Z 0)),(.ci .i64 1),(.ci .i64 6)]) <|
  .bRX .not (.Z 3) <|
  .ite (.Z 4) (
   .ret (.ci .i64 0)) (
   .bRX (.cmp .eql .i64) (.bRY tI tI (.p1 tI (.bRW tI aH) (.Z 0)) (.ci .i64 1)) <|
   .ite (.Z 5) (
    .bRX (.ar .mul .i64) (.bRY tI tI (aK bF 1 (.Z 0)) (aK bF 2 (.Z 0))) <|
    .ret (.Z 6)) (
    .bRX (.cmp .eql .i64) (.bRY tI tI (.p1 tI (.bRW tI aH) (.Z 0)) (.ci .i64 5)) <|
    .ite (.Z 6) (
     .bRX (.ar .mul .i64) (.bRY tI tI (aK bF 1 (.Z 0)) (aK bF 2 (.Z 0))) <|
     .ret (.Z 7)) (
     .bRX (.cmp .eql .i64) (.bRY tI tI (.p1 tI (.bRW tI aH) (.Z 0)) (.ci .i64 2)) <|
     .ite (.Z 7) (
      .ret (aK bF 1 (.Z 0))) (
      .bRX (.cmp .eql .i64) (.bRY tI tI (.p1 tI (.bRW tI aH) (.Z 0)) (.ci .i64 4)) <|
      .ite (.Z 8) (
       .ret (.ci .i64 1)) (
       .ret (.ci .i64 0)))))))
theorem bBF:bI Tryz.prog [bL] lM false 3000 ⟨[],[]⟩ = .ok aFD:=by kernel_rfl
theorem bDT (x:dI) (hx:okD bF x) (hp:(fun _=>True) x):aFD.wp [bL] [⟨bF,x⟩] [] (fun v=>v.as tI=(fun x=>gM x) x):=by
 delta aFD bL;refine cW ?_;try with_reducible exact True.intro
 (repeat' first|intro _|(with_reducible apply And.intro))
 all_goals simp only[mG] at *
 all_goals first|omega|(have:=aRB (a:=x.2.1) (b:=x.2.2.1) (by omega) (by omega) (by omega) (by omega);omega)|exact aWP (by omega)|exact aVO (by omega)|exact aYY (by omega)|exact aLT (by omega)
theorem aNR:Con.Holds Tryz.prog lM:=aS aV (aI eV aQ) bBF bDT
def mD:Con:=⟨112,bF,.bool,[.val ⟨true,bF,[]⟩],[⟨false,.bool,[0]⟩],false,none,
 ((fun _=>True):(dI)→Prop),
 ((fun x=>opB x):(dI)→(Bool))⟩
def aLI:T:=.call 0 (bB (.bRW tI aD) [(.p1 tI (.bRW tI aH) (.Z 0)),(.ci .i64 1),(.ci .i64 5)]) <|
 .bRX .not (.Z 1) <|
 .ite (.Z 2) (
  .ret (.cb false)) (
  .call 0 (bB (.bRW tI aD) [(aK bF 1 (.Z 0)),(.ci .i64 1),(.ci .i64 6)]) <|
  .bRX .not (.Z 3) <|
  .ite (.Z 4) (
   .ret (.cb false)) (
   .call 0 (bB (.bRW tI aD) [(aK bF 2 (.Z 0)),(.ci .i64 1),(.ci .i64 6)]) <|
   .bRX .not (.Z 5) <|
   .ite (.Z 6) (
    .ret (.cb false)) (
    .bRX (.cmp .neq .i64) (.bRY tI tI (.p1 tI (.bRW tI aH) (.Z 0)) (.ci .i64 1)) <|
    .ite (.Z 7) (
     .bRX (.cmp .neq .i64) (.bRY tI tI (aK bF 1 (.Z 0)) (aK bF 2 (.Z 0))) <|
     .ite (.Z 8) (
      .ret (.cb false)) (
      .bRX (.bS0 3 tI) (aP bF 3 (.Z 0)) <|
      .call 1 (.Z 0) <|
      .bRX (.cmp .neq .i64) (.bRY tI tI (.Z 9) (.Z 10)) <|
      .ite (.Z 11) (
       .ret (.cb false)) (
       .loop tI (.ci .i64 0) <|
        .bRX (.bS0 3 tI) (aP bF 3 (.Z 0)) <|
        .bRX (.cmp .lss .i64) (.bRY tI tI (.Z 12) (.Z 13)) <|
        .ite (.Z 14) (
         .bRX (.bS1 3 tI) (.bRY aB tI (aP bF 3 (.Z 0)) (.Z 12)) <|
         .call 2 (.Z 15) <|
         .bRX .not (.Z 16) <|
         .ite (.Z 17) (
          .ret (.cb false)) (
          .bRX (.ar .add .i64) (.bRY tI tI (.Z 12) (.ci .i64 1)) <|
          .bRZ 0 (.Z 18))) (
         .ret (.cb true))))) (
     .bRX (.bS0 3 tI) (aP bF 3 (.Z 0)) <|
     .call 1 (.Z 0) <|
     .bRX (.cmp .neq .i64) (.bRY tI tI (.Z 8) (.Z 9)) <|
     .ite (.Z 10) (
      .ret (.cb false)) (
      .loop tI (.ci .i64 0) <|
       .bRX (.bS0 3 tI) (aP bF 3 (.Z 0)) <|
       .bRX (.cmp .lss .i64) (.bRY tI tI (.Z 11) (.Z 12)) <|
       .ite (.Z 13) (
        .bRX (.bS1 3 tI) (.bRY aB tI (aP bF 3 (.Z 0)) (.Z 11)) <|
        .call 2 (.Z 14) <|
        .bRX .not (.Z 15) <|
        .ite (.Z 16) (
         .ret (.cb false)) (
         .bRX (.ar .add .i64) (.bRY tI tI (.Z 11) (.ci .i64 1)) <|
         .bRZ 0 (.Z 17))) (
        .ret (.cb true)))))))
theorem bLG:bI Tryz.prog [bL,lM,gJ] mD false 3000 ⟨[(2988,72012,gQ 39 28++[.dr 26,.dr 27]++gQ 25 4++[.dr 0,.tm 3 0]),(2988,32011,gQ 39 28++[.dr 26,.dr 27]++gQ 25 4++[.dr 0,.tm 3 0])],[]⟩ = .ok aLI:=by kernel_rfl
theorem bN7 (x:dI) (hx:okD bF x) (hp:(fun _=>True) x):aLI.wp [bL,lM,gJ] [⟨bF,x⟩] [] (fun v=>v.as .bool=(fun x=>opB x) x):=by
  have hp:List.length x.2.2.2≤9223372036854775807:=hx.2.2.2.1
  delta aLI bL lM gJ;refine cW ?_;try with_reducible exact True.intro
  (repeat' first|intro _|(with_reducible apply And.intro))
  all_goals simp only[mG] at *
  all_goals first|assumption|(first|(refine (Bool.eq_false_iff.2 ?_).symm;rw[ne_eq,gY];intro hh;omega)|(refine (gY.2 ?_).symm;omega))|skip
  all_goals refine ⟨fun s=>∃ k:Nat,k≤x.2.2.2.length∧s=(k:Int)∧(x.2.2.2.take k).all jL=true,fun s=>x.2.2.2.length - (s:Int).toNat,⟨0,by omega,rfl,rfl⟩,fun s _ hI=>?_⟩
  all_goals obtain ⟨k,hk,rfl,ha⟩:=hI
  all_goals (refine dB ?_;try with_reducible exact True.intro)
  all_goals intro _
  all_goals have hin:k<x.2.2.2.length→x.2.2.2.getD k 0=x.2.2.2.getD k (0:Int):=fun _=>rfl
  all_goals constructor
  all_goals intro hlt
  all_goals first
    | (have hk':k<x.2.2.2.length:=by omega
       rw[aZ hk']
       have e:=mT jL x.2.2.2 hk'
       refine ⟨by omega,fun _=>⟨fun hf=>?_,fun hf=>⟨by omega,fun _=>⟨⟨k+1,by omega,rfl,by rw[e,ha,hf];rfl⟩,by omega⟩⟩⟩⟩
       have hb:=vE hk' hf
       refine (Bool.eq_false_iff.2 fun h=>?_).symm
       rw[gY] at h
       rw[hb] at h
       exact Bool.noConfusion h.2)
    | (have:k=x.2.2.2.length:=by omega
       subst this
       rw[List.take_length] at ha
       exact ((gY x).2 ⟨by omega,ha⟩).symm)
theorem aOK:Con.Holds Tryz.prog mD:=aS aV (aI eV (aI aNR (aI aDF aQ))) bLG bN7
def cD:Con:=⟨69,aE,.bool,[.val ⟨true,aE,[]⟩],[⟨false,.bool,[0]⟩],false,none,
 ((fun _=>True):(aY)→Prop),
 ((fun x=>cR x):(aY)→(Bool))⟩
def aBO:T:=.loop tI (.ci .i64 0) <|
 .bRX (.bS0 88 bF) (.Z 0) <|
 .bRX (.cmp .lss .i64) (.bRY tI tI (.Z 1) (.Z 2)) <|
 .ite (.Z 3) (
  .bRX (.bS1 88 bF) (.bRY aE tI (.Z 0) (.Z 1)) <|
  .call 0 (.Z 4) <|
  .bRX .not (.Z 5) <|
  .ite (.Z 6) (
   .ret (.cb false)) (
   .bRX (.cmp .gtr .i64) (.bRY tI tI (.Z 1) (.ci .i64 0)) <|
   .ite (.Z 7) (
    .bRX (.ar .sub .i64) (.bRY tI tI (.Z 1) (.ci .i64 1)) <|
    .bRX (.bS1 88 bF) (.bRY aE tI (.Z 0) (.Z 1)) <|
    .bRX (.bS1 88 bF) (.bRY aE tI (.Z 0) (.Z 8)) <|
    .bRX (.cmp .neq .i64) (.bRY tI tI (aK bF 1 (.Z 9)) (aK bF 2 (.Z 10))) <|
    .ite (.Z 11) (
     .ret (.cb false)) (
     .bRX (.ar .add .i64) (.bRY tI tI (.Z 1) (.ci .i64 1)) <|
     .bRZ 0 (.Z 12))) (
    .bRX (.ar .add .i64) (.bRY tI tI (.Z 1) (.ci .i64 1)) <|
    .bRZ 0 (.Z 8)))) (
  .bRX (.bS0 88 bF) (.Z 0) <|
  .call 1 (bB (.bRW tI aD) [(.Z 4),(.ci .i64 1),(.ci .i64 8)]) <|
  .ret (.Z 5))
theorem aZO:bI Tryz.prog [mD,bL] cD false 3000 ⟨[(2993,1001,[.dr 0,.tm 3 0])],[]⟩ = .ok aBO:=by kernel_rfl
theorem aVI (x:aY) (hx:okD aE x) (hp:(fun _=>True) x):aBO.wp [mD,bL] [⟨aE,x⟩] [] (fun v=>v.as .bool=(fun x=>cR x) x):=by
 obtain ⟨hp1,hp2⟩:List.length x≤9223372036854775807∧∀ o∈(x:List dI),List.length o.2.2.2≤9223372036854775807:=⟨hx.1,fun o ho=>(hx.2 o ho).2.2.2.1⟩
 delta aBO mD bL;refine cW ?_
 refine ⟨fun s=>∃ k:Nat,k≤x.length∧s=(k:Int)∧∀ i,i<k→bDC x i=true,fun s=>x.length - (s:Int).toNat,⟨0,by omega,rfl,by omega⟩,fun s _ hI=>?_⟩
 obtain ⟨k,hk,rfl,ha⟩:=hI
 refine dB ?_
 intro _
 constructor
 ·intro hlt
  have hk':k<x.length:=by omega
  rw[aZ hk',aZ (show k - 1<x.length by omega)]
  have e:=xI x hk'
  have hm:=hp2 _ (List.getElem_mem hk')
  (repeat' first|intro _|(with_reducible apply And.intro))
  all_goals first|omega|exact hm|skip
  all_goals first|(refine aMZ hk' fun h=>?_;rw[e] at h;obtain ⟨h1,h2⟩:=h;first|(simp_all;done)|omega)|skip
  all_goals refine ⟨k+1,by omega,rfl,fun i hi=>?_⟩
  all_goals rcases Nat.lt_or_eq_of_le (Nat.le_of_lt_succ hi) with h|rfl
  all_goals first|exact ha i h|(refine e.2 ⟨by assumption,?_⟩;first|exact .inl (by omega)|exact .inr (by assumption)|exact .inr (by omega))
 ·intro hge
  have:k=x.length:=by omega
  subst this
  intro _
  rw[Bool.eq_iff_iff,bY]
  refine dB ?_
  constructor
  ·intro h;exact ⟨by omega,by omega,ha⟩
  ·intro h;omega
theorem kF:Con.Holds Tryz.prog cD:=aS aV (aI aOK (aI eV aQ)) aZO aVI
end
end Go.Proofs.YtabamggdmdednaaGreat
