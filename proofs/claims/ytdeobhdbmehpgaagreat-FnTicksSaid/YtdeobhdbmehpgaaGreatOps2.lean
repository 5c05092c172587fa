/- Ops2: lemmas. No conditions. -/
import Derived.Test.YtdeobhdbmehpgaaGreatGr2
namespace Go.Proofs.YtdeobhdbmehpgaaGreat
noncomputable section
set_option maxRecDepth 100000
open Go.ChangeShapes Go.WideShapes Go.ChangeAt Go.RowKit Go.Deep
set_option linter.unusedVariables false
set_option linter.unusedSimpArgs false
def iA (v:List Int):Bool:=decide (1≤v.length)&&(decide (v.length≤6)&&v.all iP)
theorem cL (v:List Int):iA v=true↔1≤v.length∧v.length≤6∧v.all iP=true:=by unfold iA;simp only[Bool.and_eq_true,decide_eq_true_eq]
def gC (o:dJ):Int:=if o.2.1<1∨6<o.2.1∨o.2.2.1<1∨6<o.2.2.1 then 0 else if o.1=1∨o.1=5 then o.2.1 * o.2.2.1 else if o.1=2 then o.2.1 else if o.1=4 then 1 else 0
def opB (o:dJ):Bool:=decide (1≤o.1∧o.1≤5∧1≤o.2.1∧o.2.1≤6∧1≤o.2.2.1∧o.2.2.1≤6∧(o.1≠1→o.2.1=o.2.2.1)∧(o.2.2.2.length:Int)=gC o)&&o.2.2.2.all iP
theorem hK (o:dJ):opB o=true↔(1≤o.1∧o.1≤5∧1≤o.2.1∧o.2.1≤6∧1≤o.2.2.1∧o.2.2.1≤6∧(o.1≠1→o.2.1=o.2.2.1)∧(o.2.2.2.length:Int)=gC o)∧o.2.2.2.all iP=true:=by
 unfold opB;simp only[Bool.and_eq_true,decide_eq_true_eq]
theorem bCS {m n:Nat}:((m:Int)=(n:Int))↔m=n:=by omega
def zOp:dJ:=(0,0,0,[])
def aMN (m:List dJ) (i:Nat):Bool:=opB (m.getD i zOp)&&(decide (i=0) || decide ((m.getD (i - 1) zOp).2.2.1=(m.getD i zOp).2.1))
theorem wC (m:List dJ) {i:Nat} (h:i<m.length):aMN m i=true↔opB m[i]=true∧(i=0∨(m[i - 1]'(by omega)).2.2.1=m[i].2.1):=by
 unfold aMN
 rw[aZ h,aZ (show i - 1<m.length by omega)]
 simp only[Bool.and_eq_true,Bool.or_eq_true,decide_eq_true_eq]
def bW (m:List dJ):Bool:=decide (1≤m.length)&&(decide (m.length≤8)&&(List.range m.length).all (aMN m))
theorem bR (m:List dJ):bW m=true↔1≤m.length∧m.length≤8∧∀ i,i<m.length→aMN m i=true:=by
 unfold bW;simp only[Bool.and_eq_true,decide_eq_true_eq,List.all_eq_true,List.mem_range]
theorem aKS {m:List dJ} {i:Nat} (h:i<m.length) (hb:¬ aMN m i=true):false=bW m:=by
 refine (Bool.eq_false_iff.2 ?_).symm
 rw[ne_eq,bR]
 exact fun hh=>hb (hh.2.2 i h)
theorem aVX {o:dJ} (h:o.2.1<1∨6<o.2.1∨o.2.2.1<1∨6<o.2.2.1∨(o.1≠1∧o.1≠5∧o.1≠2∧o.1≠4)):0=gC o:=by
 unfold gC
 split
 ·rfl
 ·rw[if_neg (by omega),if_neg (by omega),if_neg (by omega)]
theorem aU6 {o:dJ} (h:1≤o.2.1∧o.2.1≤6∧1≤o.2.2.1∧o.2.2.1≤6∧(o.1=1∨o.1=5)):o.2.1 * o.2.2.1=gC o:=by
 unfold gC;rw[if_neg (by omega),if_pos (by omega)]
theorem aS6 {o:dJ} (h:1≤o.2.1∧o.2.1≤6∧1≤o.2.2.1∧o.2.2.1≤6∧o.1=2):o.2.1=gC o:=by
 unfold gC;rw[if_neg (by omega),if_neg (by omega),if_pos (by omega)]
theorem aLV {o:dJ} (h:1≤o.2.1∧o.2.1≤6∧1≤o.2.2.1∧o.2.2.1≤6∧o.1=4):1=gC o:=by
 unfold gC;rw[if_neg (by omega),if_neg (by omega),if_neg (by omega),if_pos (by omega)]
theorem aOW {a b:Int} (h1:1≤a) (h2:a≤6) (h3:1≤b) (h4:b≤6):0≤a * b∧a * b≤36 :=
 ⟨Int.mul_nonneg (by omega) (by omega),Int.le_trans (Int.mul_le_mul h2 h4 (by omega) (by omega)) (by omega)⟩
def gT:Con:=⟨138,aB,.bool,[.val ⟨false,aB,[]⟩],[⟨false,.bool,[0]⟩],false,none,
 ((fun _=>True):(List Int)→Prop),
 ((fun x=>List.all x iP):(List Int)→(Bool))⟩
def aD2:T :=
 .bNU (.bNX 3 tI) (.Z 0) <|
 .loop tI (.ci .i64 0) <|
  .bNU (.cmp .lss .i64) (.bNV tI tI (.Z 2) (.Z 1)) <|
  .ite (.Z 3) (
   .bNU (.bNY 3 tI) (.bNV aB tI (.Z 0) (.Z 2)) <|
   .call 0 (.Z 4) <|
   .bNU .not (.Z 5) <|
   .ite (.Z 6) (
    .ret (.cb false)) (
    .bNU (.ar .add .i64) (.bNV tI tI (.Z 2) (.ci .i64 1)) <|
    .bNW 0 (.Z 7))) (
   .ret (.cb true))
theorem aXG:bM Tryz.prog [iW] gT false 3000 ⟨[(2993,1002,[.dr 0,.tm 7 0])],[]⟩ = .ok aD2:=by kernel_rfl
theorem aZE (x:List Int) (hx:okD aB x) (hp:(fun _=>True) x):aD2.wp [iW] [⟨aB,x⟩] [] (fun v=>v.as .bool=(fun x=>List.all x iP) x):=by
 have hp:List.length x≤9223372036854775807:=hx.1
 delta aD2 iW;refine dB ?_
 intro _
 refine ⟨fun s=>∃ k:Nat,k≤x.length∧s=(k:Int)∧(x.take k).all iP=true,fun s=>x.length - (s:Int).toNat,⟨0,by omega,rfl,rfl⟩,fun s _ hI=>?_⟩
 obtain ⟨k,hk,rfl,ha⟩:=hI
 refine dT ?_
 constructor
 ·intro hlt
  have hk':k<x.length:=by omega
  rw[aZ hk']
  have e:=qB iP x hk'
  (repeat' first|intro _|(with_reducible apply And.intro))
  all_goals first|omega|skip
  ·exact (wT hk' (by assumption)).symm
  ·exact ⟨k+1,by omega,rfl,by rw[e,ha];simpa using ‹iP _=true›⟩
 ·intro hge
  have:k=x.length:=by omega
  subst this
  rw[List.take_length] at ha
  exact ha.symm
theorem aDR:Con.Holds Tryz.prog gT:=aS aW (aH aFW aR) aXG aZE
def rG:Con:=⟨137,bG,tI,[.val ⟨true,bG,[]⟩],[⟨false,tI,[0]⟩],false,none,
 ((fun _=>True):(dJ)→Prop),
 ((fun x=>gC x):(dJ)→(Int))⟩
def aDW:T :=
 .bNU (.cmp .lss .i64) (.bNV tI tI (aJ bG 1 (.Z 0)) (.ci .i64 1)) <|
 .ite (.Z 1) (
  .ret (.ci .i64 0)) (
  .bNU (.cmp .gtr .i64) (.bNV tI tI (aJ bG 1 (.Z 0)) (.ci .i64 6)) <|
  .ite (.Z 2) (
   .ret (.ci .i64 0)) (
   .bNU (.cmp .lss .i64) (.bNV tI tI (aJ bG 2 (.Z 0)) (.ci .i64 1)) <|
   .ite (.Z 3) (
    .ret (.ci .i64 0)) (
    .bNU (.cmp .gtr .i64) (.bNV tI tI (aJ bG 2 (.Z 0)) (.ci .i64 6)) <|
    .ite (.Z 4) (
     .ret (.ci .i64 0)) (
     .bNU (.cmp .eql .i64) (.bNV tI tI (.p1 tI (.bNT tI aF) (.Z 0)) (.ci .i64 1)) <|
     .ite (.Z 5) (
      .bNU (.ar .mul .i64) (.bNV tI tI (aJ bG 1 (.Z 0)) (aJ bG 2 (.Z 0))) <|
      .ret (.Z 6)) (
      .bNU (.cmp .eql .i64) (.bNV tI tI (.p1 tI (.bNT tI aF) (.Z 0)) (.ci .i64 5)) <|
      .ite (.Z 6) (
       .bNU (.ar .mul .i64) (.bNV tI tI (aJ bG 1 (.Z 0)) (aJ bG 2 (.Z 0))) <|
       .ret (.Z 7)) (
       .bNU (.cmp .eql .i64) (.bNV tI tI (.p1 tI (.bNT tI aF) (.Z 0)) (.ci .i64 2)) <|
       .ite (.Z 7) (
        .ret (aJ bG 1 (.Z 0))) (
        .bNU (.cmp .eql .i64) (.bNV tI tI (.p1 tI (.bNT tI aF) (.Z 0)) (.ci .i64 4)) <|
        .ite (.Z 8) (
         .ret (.ci .i64 1)) (
         .ret (.ci .i64 0)))))))))
theorem aXK:bM Tryz.prog [] rG false 3000 ⟨[],[]⟩ = .ok aDW:=by kernel_rfl
theorem aZ2 (x:dJ) (hx:okD bG x) (hp:(fun _=>True) x):aDW.wp [] [⟨bG,x⟩] [] (fun v=>v.as tI=(fun x=>gC x) x):=by
 delta aDW;refine dB ?_;try with_reducible exact True.intro
 (repeat' first|intro _|(with_reducible apply And.intro))
 all_goals simp only[nS] at *
 all_goals first|omega|(have:=aOW (a:=x.2.1) (b:=x.2.2.1) (by omega) (by omega) (by omega) (by omega);omega)|exact aVX (by omega)|exact aU6 (by omega)|exact aS6 (by omega)|exact aLV (by omega)
theorem aX5:Con.Holds Tryz.prog rG:=aS aW aR aXK aZ2
def kO:Con:=⟨100,bG,.bool,[.val ⟨true,bG,[]⟩],[⟨false,.bool,[0]⟩],false,none,
 ((fun _=>True):(dJ)→Prop),
 ((fun x=>opB x):(dJ)→(Bool))⟩
def aKA:T :=
 .bNU (.cmp .lss .i64) (.bNV tI tI (.p1 tI (.bNT tI aF) (.Z 0)) (.ci .i64 1)) <|
 .ite (.Z 1) (
  .ret (.cb false)) (
  .bNU (.cmp .gtr .i64) (.bNV tI tI (.p1 tI (.bNT tI aF) (.Z 0)) (.ci .i64 5)) <|
  .ite (.Z 2) (
   .ret (.cb false)) (
   .bNU (.cmp .lss .i64) (.bNV tI tI (aJ bG 1 (.Z 0)) (.ci .i64 1)) <|
   .ite (.Z 3) (
    .ret (.cb false)) (
    .bNU (.cmp .gtr .i64) (.bNV tI tI (aJ bG 1 (.Z 0)) (.ci .i64 6)) <|
    .ite (.Z 4) (
     .ret (.cb false)) (
     .bNU (.cmp .lss .i64) (.bNV tI tI (aJ bG 2 (.Z 0)) (.ci .i64 1)) <|
     .ite (.Z 5) (
      .ret (.cb false)) (
      .bNU (.cmp .gtr .i64) (.bNV tI tI (aJ bG 2 (.Z 0)) (.ci .i64 6)) <|
      .ite (.Z 6) (
       .ret (.cb false)) (
       .bNU (.cmp .neq .i64) (.bNV tI tI (.p1 tI (.bNT tI aF) (.Z 0)) (.ci .i64 1)) <|
       .ite (.Z 7) (
        .bNU (.cmp .neq .i64) (.bNV tI tI (aJ bG 1 (.Z 0)) (aJ bG 2 (.Z 0))) <|
        .ite (.Z 8) (
         .ret (.cb false)) (
         .bNU (.bNX 3 tI) (aO bG 3 (.Z 0)) <|
         .call 0 (.Z 0) <|
         .bNU (.cmp .eql .i64) (.bNV tI tI (.Z 9) (.Z 10)) <|
         .ite (.Z 11) (
          .call 1 (aO bG 3 (.Z 0)) <|
          .ret (.Z 12)) (
          .ret (.cb false)))) (
        .bNU (.bNX 3 tI) (aO bG 3 (.Z 0)) <|
        .call 0 (.Z 0) <|
        .bNU (.cmp .eql .i64) (.bNV tI tI (.Z 8) (.Z 9)) <|
        .ite (.Z 10) (
         .call 1 (aO bG 3 (.Z 0)) <|
         .ret (.Z 11)) (
         .ret (.cb false)))))))))
theorem bH5:bM Tryz.prog [rG,gT] kO false 3000 ⟨[],[]⟩ = .ok aKA:=by kernel_rfl
theorem bH8 (x:dJ) (hx:okD bG x) (hp:(fun _=>True) x):aKA.wp [rG,gT] [⟨bG,x⟩] [] (fun v=>v.as .bool=(fun x=>opB x) x):=by
 have hp:List.length x.2.2.2≤9223372036854775807:=hx.2.2.2.1
 delta aKA rG gT;refine dB ?_;try with_reducible exact True.intro
 (repeat' first|intro _|(with_reducible apply And.intro))
 all_goals simp only[nS] at *
 all_goals first|assumption|(first|(refine (Bool.eq_false_iff.2 ?_).symm;rw[ne_eq,hK];intro hh;omega)|(refine (hK.2 ?_).symm;omega))|(rw[Bool.eq_iff_iff,hK];exact ⟨fun h=>⟨by omega,h⟩,fun h=>h.2⟩)
theorem aIV:Con.Holds Tryz.prog kO:=aS aW (aH aX5 (aH aDR aR)) bH5 bH8
def dW:Con:=⟨61,aK,.bool,[.val ⟨true,aK,[]⟩],[⟨false,.bool,[0]⟩],false,none,
 ((fun _=>True):(bD)→Prop),
 ((fun x=>bW x):(bD)→(Bool))⟩
def zX:T :=
 .bNU (.bNX 78 bG) (.Z 0) <|
 .bNU (.cmp .lss .i64) (.bNV tI tI (.Z 1) (.ci .i64 1)) <|
 .ite (.Z 2) (
  .ret (.cb false)) (
  .bNU (.bNX 78 bG) (.Z 0) <|
  .bNU (.cmp .gtr .i64) (.bNV tI tI (.Z 3) (.ci .i64 8)) <|
  .ite (.Z 4) (
   .ret (.cb false)) (
   .bNU (.bNX 78 bG) (.Z 0) <|
   .loop tI (.ci .i64 0) <|
    .bNU (.cmp .lss .i64) (.bNV tI tI (.Z 6) (.Z 5)) <|
    .ite (.Z 7) (
     .bNU (.bNY 78 bG) (.bNV aK tI (.Z 0) (.Z 6)) <|
     .call 0 (.Z 8) <|
     .bNU .not (.Z 9) <|
     .ite (.Z 10) (
      .ret (.cb false)) (
      .bNU (.cmp .gtr .i64) (.bNV tI tI (.Z 6) (.ci .i64 0)) <|
      .ite (.Z 11) (
       .bNU (.ar .sub .i64) (.bNV tI tI (.Z 6) (.ci .i64 1)) <|
       .bNU (.bNY 78 bG) (.bNV aK tI (.Z 0) (.Z 12)) <|
       .bNU (.cmp .neq .i64) (.bNV tI tI (aJ bG 2 (.Z 13)) (aJ bG 1 (.Z 8))) <|
       .ite (.Z 14) (
        .ret (.cb false)) (
        .bNU (.ar .add .i64) (.bNV tI tI (.Z 6) (.ci .i64 1)) <|
        .bNW 0 (.Z 15))) (
       .bNU (.ar .add .i64) (.bNV tI tI (.Z 6) (.ci .i64 1)) <|
       .bNW 0 (.Z 12)))) (
     .ret (.cb true))))
theorem aVJ:bM Tryz.prog [kO] dW false 3000 ⟨[(2988,4006,iT 15 5++[.dr 0,.tm 18 0])],[]⟩ = .ok zX:=by kernel_rfl
theorem aVC (x:bD) (hx:okD aK x) (hp:(fun _=>True) x):zX.wp [kO] [⟨aK,x⟩] [] (fun v=>v.as .bool=(fun x=>bW x) x):=by
 obtain ⟨hp1,hp2⟩:List.length x≤9223372036854775807∧∀ o∈(x:List dJ),List.length o.2.2.2≤9223372036854775807:=⟨hx.1,fun o ho=>(hx.2 o ho).2.2.2.1⟩
 delta zX kO;refine dB ?_;try with_reducible exact True.intro
 (repeat' first|intro _|(with_reducible apply And.intro))
 all_goals simp only[nS] at *
 ·(first|(refine (Bool.eq_false_iff.2 ?_).symm;rw[ne_eq,bR];intro hh;omega)|(refine (bR.2 ?_).symm;omega))
 ·(first|(refine (Bool.eq_false_iff.2 ?_).symm;rw[ne_eq,bR];intro hh;omega)|(refine (bR.2 ?_).symm;omega))
 refine ⟨fun s=>∃ k:Nat,k≤x.length∧s=(k:Int)∧∀ i,i<k→aMN x i=true,fun s=>x.length - (s:Int).toNat,⟨0,by omega,rfl,by omega⟩,fun s _ hI=>?_⟩
 obtain ⟨k,hk,rfl,ha⟩:=hI
 refine dT ?_
 constructor
 ·intro hlt
  have hk':k<x.length:=by omega
  rw[aZ hk',aZ (show k - 1<x.length by omega)]
  have e:=wC x hk'
  have hm:=hp2 _ (List.getElem_mem hk')
  (repeat' first|intro _|(with_reducible apply And.intro))
  all_goals first|omega|exact hm|skip
  all_goals first|(refine aKS hk' fun h=>?_;rw[e] at h;obtain ⟨h1,h2⟩:=h;first|(simp_all;done)|omega)|skip
  all_goals refine ⟨k+1,by omega,rfl,fun i hi=>?_⟩
  all_goals rcases Nat.lt_or_eq_of_le (Nat.le_of_lt_succ hi) with h|rfl
  all_goals first|exact ha i h|(refine e.2 ⟨by assumption,?_⟩;first|exact .inl (by omega)|exact .inr (by assumption)|exact .inr (by omega))
 ·intro hge
  have:k=x.length:=by omega
  subst this
  refine ((bR x).2 ⟨?_,?_,ha⟩).symm <;> omega
theorem tG:Con.Holds Tryz.prog dW:=aS aW (aH aIV aR) aVJ aVC
def fY:Con:=⟨103,tI,.bool,[.val ⟨false,tI,[]⟩],[⟨false,.bool,[0]⟩],false,none,
 ((fun _=>True):(Int)→Prop),
 ((fun x=>iP x):(Int)→(Bool))⟩
def aG1:T:=.call 0 (bB (.bNT tI aE) [(.Z 0),(.ci .i64 (-2147483647)),(.ci .i64 2147483647)]) <|.ret (.Z 1)
theorem bDK:bM Tryz.prog [bI] fY false 3000 ⟨[],[]⟩ = .ok aG1:=by kernel_rfl
theorem bDY (x:Int) (hx:okD tI x) (hp:(fun _=>True) x):aG1.wp [bI] [⟨tI,x⟩] [] (fun v=>v.as .bool=(fun x=>iP x) x):=by
 delta aG1 bI;refine dB ?_
 rw[Bool.eq_iff_iff,zI]
 (refine dT ?_;try with_reducible exact True.intro)
theorem aBM:Con.Holds Tryz.prog fY:=aS aW (aH eY aR) bDK bDY
def bJ:Con:=⟨70,aB,.bool,[.val ⟨false,aB,[]⟩],[⟨false,.bool,[0]⟩],false,none,
 ((fun _=>True):(List Int)→Prop),
 ((fun x=>iA x):(List Int)→(Bool))⟩
def aG4:T:=.loop tI (.ci .i64 0) <|
 .bNU (.bNX 3 tI) (.Z 0) <|
 .bNU (.cmp .lss .i64) (.bNV tI tI (.Z 1) (.Z 2)) <|
 .ite (.Z 3) (
  .bNU (.bNY 3 tI) (.bNV aB tI (.Z 0) (.Z 1)) <|
  .call 0 (.Z 4) <|
  .bNU .not (.Z 5) <|
  .ite (.Z 6) (
   .ret (.cb false)) (
   .bNU (.ar .add .i64) (.bNV tI tI (.Z 1) (.ci .i64 1)) <|
   .bNW 0 (.Z 7))) (
  .bNU (.bNX 3 tI) (.Z 0) <|
  .call 1 (bB (.bNT tI aE) [(.Z 4),(.ci .i64 1),(.ci .i64 6)]) <|
  .ret (.Z 5))
theorem bDH:bM Tryz.prog [fY,bI] bJ false 3000 ⟨[(2993,1001,[.tm 3 0])],[]⟩ = .ok aG4:=by kernel_rfl
theorem bCV (x:List Int) (hx:okD aB x) (hp:(fun _=>True) x):aG4.wp [fY,bI] [⟨aB,x⟩] [] (fun v=>v.as .bool=(fun x=>iA x) x):=by
 have hp:List.length x≤9223372036854775807:=hx.1
 delta aG4 fY bI;refine dB ?_
 refine ⟨fun s=>∃ k:Nat,k≤x.length∧s=(k:Int)∧(x.take k).all iP=true,fun s=>x.length - (s:Int).toNat,⟨0,by omega,rfl,rfl⟩,fun s _ hI=>?_⟩
 obtain ⟨k,hk,rfl,ha⟩:=hI
 refine dT ?_
 intro _
 constructor
 ·intro hlt
  have hk':k<x.length:=by omega
  rw[aZ hk']
  have e:=qB iP x hk'
  (repeat' first|intro _|(with_reducible apply And.intro))
  all_goals first|omega|skip
  ·have:=wT hk' (by assumption)
   unfold iA
   rw[this]
   simp
  ·exact ⟨k+1,by omega,rfl,by rw[e,ha];simpa using ‹iP _=true›⟩
 ·intro hge
  have:k=x.length:=by omega
  subst this
  rw[List.take_length] at ha
  intro _
  rw[Bool.eq_iff_iff,cL,ha]
  simp only[nS,and_true]
  omega
theorem fD:Con.Holds Tryz.prog bJ:=aS aW (aH aBM (aH eY aR)) bDH bCV
def eZ:Con:=⟨162,aM,.bool,[.val ⟨false,aB,[]⟩,.val ⟨false,aB,[]⟩],[⟨false,.bool,[0]⟩],false,none,
 ((fun _=>True):(bP)→Prop),
 ((fun x=>iA x.1&&(iA x.2&&decide ((x.1:List Int).length=(x.2:List Int).length))):(bP)→(Bool))⟩
def aDA:T:=.call 0 (.p1 aB aB (.Z 0)) <|.ite (.Z 1) (.call 0 (aO aM 1 (.Z 0)) <|.ite (.Z 2) (
  .bNU (.bNX 3 tI) (.p1 aB aB (.Z 0)) <|
  .bNU (.bNX 3 tI) (aO aM 1 (.Z 0)) <|
  .bNU (.cmp .eql .i64) (.bNV tI tI (.Z 3) (.Z 4)) <|
  .ret (.Z 5)) (
  .ret (.cb false))) (
 .ret (.cb false))
theorem aZV:bM Tryz.prog [bJ] eZ false 3000 ⟨[],[]⟩ = .ok aDA:=by kernel_rfl
theorem aXH (x:bP) (hx:okD aM x) (hp:(fun _=>True) x):aDA.wp [bJ] [⟨aM,x⟩] [] (fun v=>v.as .bool=(fun x=>iA x.1&&(iA x.2&&decide ((x.1:List Int).length=(x.2:List Int).length))) x):=by
 delta aDA bJ;refine dB ?_
 cases iA x.1 <;> cases iA x.2 <;> simp only[reduceCtorEq,true_implies,false_implies,and_true,true_and,Bool.true_and,Bool.false_and,Bool.and_false,implies_true]
 intro _ _
 rw[Bool.eq_iff_iff,beq_iff_eq,decide_eq_true_eq]
 exact bCS
theorem xF:Con.Holds Tryz.prog eZ:=aS aW (aH fD aR) aZV aXH
def kW:Con:=⟨140,bG,tI,[.val ⟨true,bG,[]⟩],[⟨false,tI,[0]⟩],false,none,
 ((fun _=>True):(dJ)→Prop),
 ((fun x=>gC x):(dJ)→(Int))⟩
def aD8:T:=.call 0 (bB (.bNT tI aE) [(aJ bG 1 (.Z 0)),(.ci .i64 1),(.ci .i64 6)]) <|
 .bNU .not (.Z 1) <|
 .ite (.Z 2) (
  .ret (.ci .i64 0)) (
  .call 0 (bB (.bNT tI aE) [(aJ bG 2 (.Z 0)),(.ci .i64 1),(.ci .i64 6)]) <|
  .bNU .not (.Z 3) <|
  .ite (.Z 4) (
   .ret (.ci .i64 0)) (
   .bNU (.cmp .eql .i64) (.bNV tI tI (.p1 tI (.bNT tI aF) (.Z 0)) (.ci .i64 1)) <|
   .ite (.Z 5) (
    .bNU (.ar .mul .i64) (.bNV tI tI (aJ bG 1 (.Z 0)) (aJ bG 2 (.Z 0))) <|
    .ret (.Z 6)) (
    .bNU (.cmp .eql .i64) (.bNV tI tI (.p1 tI (.bNT tI aF) (.Z 0)) (.ci .i64 5)) <|
    .ite (.Z 6) (
     .bNU (.ar .mul .i64) (.bNV tI tI (aJ bG 1 (.Z 0)) (aJ bG 2 (.Z 0))) <|
     .ret (.Z 7)) (
     .bNU (.cmp .eql .i64) (.bNV tI tI (.p1 tI (.bNT tI aF) (.Z 0)) (.ci .i64 2)) <|
     .ite (.Z 7) (
      .ret (aJ bG 1 (.Z 0))) (
      .bNU (.cmp .eql .i64) (.bNV tI tI (.p1 tI (.bNT tI aF) (.Z 0)) (.ci .i64 4)) <|
      .ite (.Z 8) (
       .ret (.ci .i64 1)) (
       .ret (.ci .i64 0)))))))
theorem aZM:bM Tryz.prog [bI] kW false 3000 ⟨[],[]⟩ = .ok aD8:=by kernel_rfl
theorem aYW (x:dJ) (hx:okD bG x) (hp:(fun _=>True) x):aD8.wp [bI] [⟨bG,x⟩] [] (fun v=>v.as tI=(fun x=>gC x) x):=by
 delta aD8 bI;refine dB ?_;try with_reducible exact True.intro
 (repeat' first|intro _|(with_reducible apply And.intro))
 all_goals simp only[nS] at *
 all_goals first|omega|(have:=aOW (a:=x.2.1) (b:=x.2.2.1) (by omega) (by omega) (by omega) (by omega);omega)|exact aVX (by omega)|exact aU6 (by omega)|exact aS6 (by omega)|exact aLV (by omega)
theorem aLK:Con.Holds Tryz.prog kW:=aS aW (aH eY aR) aZM aYW
def lA:Con:=⟨102,bG,.bool,[.val ⟨true,bG,[]⟩],[⟨false,.bool,[0]⟩],false,none,
 ((fun _=>True):(dJ)→Prop),
 ((fun x=>opB x):(dJ)→(Bool))⟩
def aL0:T:=.call 0 (bB (.bNT tI aE) [(.p1 tI (.bNT tI aF) (.Z 0)),(.ci .i64 1),(.ci .i64 5)]) <|
 .bNU .not (.Z 1) <|
 .ite (.Z 2) (
  .ret (.cb false)) (
  .call 0 (bB (.bNT tI aE) [(aJ bG 1 (.Z 0)),(.ci .i64 1),(.ci .i64 6)]) <|
  .bNU .not (.Z 3) <|
  .ite (.Z 4) (
   .ret (.cb false)) (
   .call 0 (bB (.bNT tI aE) [(aJ bG 2 (.Z 0)),(.ci .i64 1),(.ci .i64 6)]) <|
   .bNU .not (.Z 5) <|
   .ite (.Z 6) (
    .ret (.cb false)) (
    .bNU (.cmp .neq .i64) (.bNV tI tI (.p1 tI (.bNT tI aF) (.Z 0)) (.ci .i64 1)) <|
    .ite (.Z 7) (
     .bNU (.cmp .neq .i64) (.bNV tI tI (aJ bG 1 (.Z 0)) (aJ bG 2 (.Z 0))) <|
     .ite (.Z 8) (
      .ret (.cb false)) (
      .bNU (.bNX 3 tI) (aO bG 3 (.Z 0)) <|
      .call 1 (.Z 0) <|
      .bNU (.cmp .neq .i64) (.bNV tI tI (.Z 9) (.Z 10)) <|
      .ite (.Z 11) (
       .ret (.cb false)) (
       .loop tI (.ci .i64 0) <|
        .bNU (.bNX 3 tI) (aO bG 3 (.Z 0)) <|
        .bNU (.cmp .lss .i64) (.bNV tI tI (.Z 12) (.Z 13)) <|
        .ite (.Z 14) (
         .bNU (.bNY 3 tI) (.bNV aB tI (aO bG 3 (.Z 0)) (.Z 12)) <|
         .call 2 (.Z 15) <|
         .bNU .not (.Z 16) <|
         .ite (.Z 17) (
          .ret (.cb false)) (
          .bNU (.ar .add .i64) (.bNV tI tI (.Z 12) (.ci .i64 1)) <|
          .bNW 0 (.Z 18))) (
         .ret (.cb true))))) (
     .bNU (.bNX 3 tI) (aO bG 3 (.Z 0)) <|
     .call 1 (.Z 0) <|
     .bNU (.cmp .neq .i64) (.bNV tI tI (.Z 8) (.Z 9)) <|
     .ite (.Z 10) (
      .ret (.cb false)) (
      .loop tI (.ci .i64 0) <|
       .bNU (.bNX 3 tI) (aO bG 3 (.Z 0)) <|
       .bNU (.cmp .lss .i64) (.bNV tI tI (.Z 11) (.Z 12)) <|
       .ite (.Z 13) (
        .bNU (.bNY 3 tI) (.bNV aB tI (aO bG 3 (.Z 0)) (.Z 11)) <|
        .call 2 (.Z 14) <|
        .bNU .not (.Z 15) <|
        .ite (.Z 16) (
         .ret (.cb false)) (
         .bNU (.ar .add .i64) (.bNV tI tI (.Z 11) (.ci .i64 1)) <|
         .bNW 0 (.Z 17))) (
        .ret (.cb true)))))))
theorem bGW:bM Tryz.prog [bI,kW,fY] lA false 3000 ⟨[(2988,72012,iT 39 28++[.dr 26,.dr 27]++iT 25 4++[.dr 0,.tm 3 0]),(2988,32011,iT 39 28++[.dr 26,.dr 27]++iT 25 4++[.dr 0,.tm 3 0])],[]⟩ = .ok aL0:=by kernel_rfl
theorem bGI (x:dJ) (hx:okD bG x) (hp:(fun _=>True) x):aL0.wp [bI,kW,fY] [⟨bG,x⟩] [] (fun v=>v.as .bool=(fun x=>opB x) x):=by
  have hp:List.length x.2.2.2≤9223372036854775807:=hx.2.2.2.1
  delta aL0 bI kW fY;refine dB ?_;try with_reducible exact True.intro
  (repeat' first|intro _|(with_reducible apply And.intro))
  all_goals simp only[nS] at *
  all_goals first|assumption|(first|(refine (Bool.eq_false_iff.2 ?_).symm;rw[ne_eq,hK];intro hh;omega)|(refine (hK.2 ?_).symm;omega))|skip
  all_goals refine ⟨fun s=>∃ k:Nat,k≤x.2.2.2.length∧s=(k:Int)∧(x.2.2.2.take k).all iP=true,fun s=>x.2.2.2.length - (s:Int).toNat,⟨0,by omega,rfl,rfl⟩,fun s _ hI=>?_⟩
  all_goals obtain ⟨k,hk,rfl,ha⟩:=hI
  all_goals (refine dT ?_;try with_reducible exact True.intro)
  all_goals intro _
  all_goals have hin:k<x.2.2.2.length→x.2.2.2.getD k 0=x.2.2.2.getD k (0:Int):=fun _=>rfl
  all_goals constructor
  all_goals intro hlt
  all_goals first
    | (have hk':k<x.2.2.2.length:=by omega
       rw[aZ hk']
       have e:=qB iP x.2.2.2 hk'
       refine ⟨by omega,fun _=>⟨fun hf=>?_,fun hf=>⟨by omega,fun _=>⟨⟨k+1,by omega,rfl,by rw[e,ha,hf];rfl⟩,by omega⟩⟩⟩⟩
       have hb:=wT hk' hf
       refine (Bool.eq_false_iff.2 fun h=>?_).symm
       rw[hK] at h
       rw[hb] at h
       exact Bool.noConfusion h.2)
    | (have:k=x.2.2.2.length:=by omega
       subst this
       rw[List.take_length] at ha
       exact ((hK x).2 ⟨by omega,ha⟩).symm)
theorem aLE:Con.Holds Tryz.prog lA:=aS aW (aH eY (aH aLK (aH aBM aR))) bGW bGI
def bY:Con:=⟨69,aK,.bool,[.val ⟨true,aK,[]⟩],[⟨false,.bool,[0]⟩],false,none,
 ((fun _=>True):(bD)→Prop),
 ((fun x=>bW x):(bD)→(Bool))⟩
def aBD:T:=.loop tI (.ci .i64 0) <|
 .bNU (.bNX 78 bG) (.Z 0) <|
 .bNU (.cmp .lss .i64) (.bNV tI tI (.Z 1) (.Z 2)) <|
 .ite (.Z 3) (
  .bNU (.bNY 78 bG) (.bNV aK tI (.Z 0) (.Z 1)) <|
  .call 0 (.Z 4) <|
  .bNU .not (.Z 5) <|
  .ite (.Z 6) (
   .ret (.cb false)) (
   .bNU (.cmp .gtr .i64) (.bNV tI tI (.Z 1) (.ci .i64 0)) <|
   .ite (.Z 7) (
    .bNU (.ar .sub .i64) (.bNV tI tI (.Z 1) (.ci .i64 1)) <|
    .bNU (.bNY 78 bG) (.bNV aK tI (.Z 0) (.Z 1)) <|
    .bNU (.bNY 78 bG) (.bNV aK tI (.Z 0) (.Z 8)) <|
    .bNU (.cmp .neq .i64) (.bNV tI tI (aJ bG 1 (.Z 9)) (aJ bG 2 (.Z 10))) <|
    .ite (.Z 11) (
     .ret (.cb false)) (
     .bNU (.ar .add .i64) (.bNV tI tI (.Z 1) (.ci .i64 1)) <|
     .bNW 0 (.Z 12))) (
    .bNU (.ar .add .i64) (.bNV tI tI (.Z 1) (.ci .i64 1)) <|
    .bNW 0 (.Z 8)))) (
  .bNU (.bNX 78 bG) (.Z 0) <|
  .call 1 (bB (.bNT tI aE) [(.Z 4),(.ci .i64 1),(.ci .i64 8)]) <|
  .ret (.Z 5))
theorem aWA:bM Tryz.prog [lA,bI] bY false 3000 ⟨[(2993,1001,[.dr 0,.tm 3 0])],[]⟩ = .ok aBD:=by kernel_rfl
theorem aSL (x:bD) (hx:okD aK x) (hp:(fun _=>True) x):aBD.wp [lA,bI] [⟨aK,x⟩] [] (fun v=>v.as .bool=(fun x=>bW x) x):=by
 obtain ⟨hp1,hp2⟩:List.length x≤9223372036854775807∧∀ o∈(x:List dJ),List.length o.2.2.2≤9223372036854775807:=⟨hx.1,fun o ho=>(hx.2 o ho).2.2.2.1⟩
 delta aBD lA bI;refine dB ?_
 refine ⟨fun s=>∃ k:Nat,k≤x.length∧s=(k:Int)∧∀ i,i<k→aMN x i=true,fun s=>x.length - (s:Int).toNat,⟨0,by omega,rfl,by omega⟩,fun s _ hI=>?_⟩
 obtain ⟨k,hk,rfl,ha⟩:=hI
 refine dT ?_
 intro _
 constructor
 ·intro hlt
  have hk':k<x.length:=by omega
  rw[aZ hk',aZ (show k - 1<x.length by omega)]
  have e:=wC x hk'
  have hm:=hp2 _ (List.getElem_mem hk')
  (repeat' first|intro _|(with_reducible apply And.intro))
  all_goals first|omega|exact hm|skip
  all_goals first|(refine aKS hk' fun h=>?_;rw[e] at h;obtain ⟨h1,h2⟩:=h;first|(simp_all;done)|omega)|skip
  all_goals refine ⟨k+1,by omega,rfl,fun i hi=>?_⟩
  all_goals rcases Nat.lt_or_eq_of_le (Nat.le_of_lt_succ hi) with h|rfl
  all_goals first|exact ha i h|(refine e.2 ⟨by assumption,?_⟩;first|exact .inl (by omega)|exact .inr (by assumption)|exact .inr (by omega))
 ·intro hge
  have:k=x.length:=by omega
  subst this
  intro _
  rw[Bool.eq_iff_iff,bR]
  refine dT ?_
  constructor
  ·intro h;exact ⟨by omega,by omega,ha⟩
  ·intro h;omega
theorem jI:Con.Holds Tryz.prog bY:=aS aW (aH aLE (aH eY aR)) aWA aSL
end
end Go.Proofs.YtdeobhdbmehpgaaGreat
