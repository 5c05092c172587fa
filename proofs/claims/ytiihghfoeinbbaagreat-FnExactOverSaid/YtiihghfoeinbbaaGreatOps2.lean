/- Ops2: lemmas. No conditions. -/
import Derived.Test.YtiihghfoeinbbaaGreatGr2
namespace Go.Proofs.YtiihghfoeinbbaaGreat
noncomputable section
set_option maxRecDepth 100000
open Go.ChangeShapes Go.WideShapes Go.ChangeAt Go.RowKit Go.Deep
set_option linter.unusedVariables false
set_option linter.unusedSimpArgs false
def iK (v:List Int):Bool:=decide (1≤v.length)&&(decide (v.length≤6)&&v.all nU)
theorem cP (v:List Int):iK v=true↔1≤v.length∧v.length≤6∧v.all nU=true:=by unfold iK;simp only[Bool.and_eq_true,decide_eq_true_eq]
def lW (o:eK):Int:=if o.2.1<1∨6<o.2.1∨o.2.2.1<1∨6<o.2.2.1 then 0 else if o.1=1∨o.1=5 then o.2.1 * o.2.2.1 else if o.1=2 then o.2.1 else if o.1=4 then 1 else 0
def opB (o:eK):Bool:=decide (1≤o.1∧o.1≤5∧1≤o.2.1∧o.2.1≤6∧1≤o.2.2.1∧o.2.2.1≤6∧(o.1≠1→o.2.1=o.2.2.1)∧(o.2.2.2.length:Int)=lW o)&&o.2.2.2.all nU
theorem kL (o:eK):opB o=true↔(1≤o.1∧o.1≤5∧1≤o.2.1∧o.2.1≤6∧1≤o.2.2.1∧o.2.2.1≤6∧(o.1≠1→o.2.1=o.2.2.1)∧(o.2.2.2.length:Int)=lW o)∧o.2.2.2.all nU=true:=by
 unfold opB;simp only[Bool.and_eq_true,decide_eq_true_eq]
theorem bMB {m n:Nat}:((m:Int)=(n:Int))↔m=n:=by omega
def zOp:eK:=(0,0,0,[])
def aXO (m:List eK) (i:Nat):Bool:=opB (m.getD i zOp)&&(decide (i=0) || decide ((m.getD (i - 1) zOp).2.2.1=(m.getD i zOp).2.1))
theorem zO (m:List eK) {i:Nat} (h:i<m.length):aXO m i=true↔opB m[i]=true∧(i=0∨(m[i - 1]'(by omega)).2.2.1=m[i].2.1):=by
 unfold aXO
 rw[aZ h,aZ (show i - 1<m.length by omega)]
 simp only[Bool.and_eq_true,Bool.or_eq_true,decide_eq_true_eq]
def cQ (m:List eK):Bool:=decide (1≤m.length)&&(decide (m.length≤8)&&(List.range m.length).all (aXO m))
theorem bY (m:List eK):cQ m=true↔1≤m.length∧m.length≤8∧∀ i,i<m.length→aXO m i=true:=by
 unfold cQ;simp only[Bool.and_eq_true,decide_eq_true_eq,List.all_eq_true,List.mem_range]
theorem aJH {m:List eK} {i:Nat} (h:i<m.length) (hb:¬ aXO m i=true):false=cQ m:=by
 refine (Bool.eq_false_iff.2 ?_).symm
 rw[ne_eq,bY]
 exact fun hh=>hb (hh.2.2 i h)
theorem aT7 {o:eK} (h:o.2.1<1∨6<o.2.1∨o.2.2.1<1∨6<o.2.2.1∨(o.1≠1∧o.1≠5∧o.1≠2∧o.1≠4)):0=lW o:=by
 unfold lW
 split
 ·rfl
 ·rw[if_neg (by omega),if_neg (by omega),if_neg (by omega)]
theorem aSA {o:eK} (h:1≤o.2.1∧o.2.1≤6∧1≤o.2.2.1∧o.2.2.1≤6∧(o.1=1∨o.1=5)):o.2.1 * o.2.2.1=lW o:=by
 unfold lW;rw[if_neg (by omega),if_pos (by omega)]
theorem aV2 {o:eK} (h:1≤o.2.1∧o.2.1≤6∧1≤o.2.2.1∧o.2.2.1≤6∧o.1=2):o.2.1=lW o:=by
 unfold lW;rw[if_neg (by omega),if_neg (by omega),if_pos (by omega)]
theorem aIQ {o:eK} (h:1≤o.2.1∧o.2.1≤6∧1≤o.2.2.1∧o.2.2.1≤6∧o.1=4):1=lW o:=by
 unfold lW;rw[if_neg (by omega),if_neg (by omega),if_neg (by omega),if_pos (by omega)]
theorem aRE {a b:Int} (h1:1≤a) (h2:a≤6) (h3:1≤b) (h4:b≤6):0≤a * b∧a * b≤36 :=
 ⟨Int.mul_nonneg (by omega) (by omega),Int.le_trans (Int.mul_le_mul h2 h4 (by omega) (by omega)) (by omega)⟩
def iC:Con:=⟨264,aB,.bool,[.val ⟨false,aB,[]⟩],[⟨false,.bool,[0]⟩],false,none,
 ((fun _=>True):(List Int)→Prop),
 ((fun x=>List.all x nU):(List Int)→(Bool))⟩
def aDD:T :=
 .bMD (.bMG 3 tI) (.Z 0) <|
 .loop tI (.ci .i64 0) <|
  .bMD (.cmp .lss .i64) (.bME tI tI (.Z 2) (.Z 1)) <|
  .ite (.Z 3) (
   .bMD (.bMH 3 tI) (.bME aB tI (.Z 0) (.Z 2)) <|
   .call 0 (.Z 4) <|
   .bMD .not (.Z 5) <|
   .ite (.Z 6) (
    .ret (.cb false)) (
    .bMD (.ar .add .i64) (.bME tI tI (.Z 2) (.ci .i64 1)) <|
    .bMF 0 (.Z 7))) (
   .ret (.cb true))
theorem aX2:bL Tryz.prog [jE] iC false 3000 ⟨[(2993,1002,[.dr 0,.tm 7 0])],[]⟩ = .ok aDD:=by kernel_rfl
theorem aYV (x:List Int) (hx:okD aB x) (hp:(fun _=>True) x):aDD.wp [jE] [⟨aB,x⟩] [] (fun v=>v.as .bool=(fun x=>List.all x nU) x):=by
 have hp:List.length x≤9223372036854775807:=hx.1
 delta aDD jE;refine dD ?_
 intro _
 refine ⟨fun s=>∃ k:Nat,k≤x.length∧s=(k:Int)∧(x.take k).all nU=true,fun s=>x.length - (s:Int).toNat,⟨0,by omega,rfl,rfl⟩,fun s _ hI=>?_⟩
 obtain ⟨k,hk,rfl,ha⟩:=hI
 refine eE ?_
 constructor
 ·intro hlt
  have hk':k<x.length:=by omega
  rw[aZ hk']
  have e:=mL nU x hk'
  (repeat' first|intro _|(with_reducible apply And.intro))
  all_goals first|omega|skip
  ·exact (uP hk' (by assumption)).symm
  ·exact ⟨k+1,by omega,rfl,by rw[e,ha];simpa using ‹nU _=true›⟩
 ·intro hge
  have:k=x.length:=by omega
  subst this
  rw[List.take_length] at ha
  exact ha.symm
theorem aCY:Con.Holds Tryz.prog iC:=aR aW (aG aGE aS) aX2 aYV
def rM:Con:=⟨274,bA,tI,[.val ⟨true,bA,[]⟩],[⟨false,tI,[0]⟩],false,none,
 ((fun _=>True):(eK)→Prop),
 ((fun x=>lW x):(eK)→(Int))⟩
def aD2:T :=
 .bMD (.cmp .lss .i64) (.bME tI tI (aJ bA 1 (.Z 0)) (.ci .i64 1)) <|
 .ite (.Z 1) (
  .ret (.ci .i64 0)) (
  .bMD (.cmp .gtr .i64) (.bME tI tI (aJ bA 1 (.Z 0)) (.ci .i64 6)) <|
  .ite (.Z 2) (
   .ret (.ci .i64 0)) (
   .bMD (.cmp .lss .i64) (.bME tI tI (aJ bA 2 (.Z 0)) (.ci .i64 1)) <|
   .ite (.Z 3) (
    .ret (.ci .i64 0)) (
    .bMD (.cmp .gtr .i64) (.bME tI tI (aJ bA 2 (.Z 0)) (.ci .i64 6)) <|
    .ite (.Z 4) (
     .ret (.ci .i64 0)) (
     .bMD (.cmp .eql .i64) (.bME tI tI (.p1 tI (.bMC tI aF) (.Z 0)) (.ci .i64 1)) <|
     .ite (.Z 5) (
      .bMD (.ar .mul .i64) (.bME tI tI (aJ bA 1 (.Z 0)) (aJ bA 2 (.Z 0))) <|
      .ret (.Z 6)) (
      .bMD (.cmp .eql .i64) (.bME tI tI (.p1 tI (.bMC tI aF) (.Z 0)) (.ci .i64 5)) <|
      .ite (.Z 6) (
       .bMD (.ar .mul .i64) (.bME tI tI (aJ bA 1 (.Z 0)) (aJ bA 2 (.Z 0))) <|
       .ret (.Z 7)) (
       .bMD (.cmp .eql .i64) (.bME tI tI (.p1 tI (.bMC tI aF) (.Z 0)) (.ci .i64 2)) <|
       .ite (.Z 7) (
        .ret (aJ bA 1 (.Z 0))) (
        .bMD (.cmp .eql .i64) (.bME tI tI (.p1 tI (.bMC tI aF) (.Z 0)) (.ci .i64 4)) <|
        .ite (.Z 8) (
         .ret (.ci .i64 1)) (
         .ret (.ci .i64 0)))))))))
theorem aZJ:bL Tryz.prog [] rM false 3000 ⟨[],[]⟩ = .ok aD2:=by kernel_rfl
theorem aXE (x:eK) (hx:okD bA x) (hp:(fun _=>True) x):aD2.wp [] [⟨bA,x⟩] [] (fun v=>v.as tI=(fun x=>lW x) x):=by
 delta aD2;refine dD ?_;try with_reducible exact True.intro
 (repeat' first|intro _|(with_reducible apply And.intro))
 all_goals simp only[lU] at *
 all_goals first|omega|(have:=aRE (a:=x.2.1) (b:=x.2.2.1) (by omega) (by omega) (by omega) (by omega);omega)|exact aT7 (by omega)|exact aSA (by omega)|exact aV2 (by omega)|exact aIQ (by omega)
theorem aXR:Con.Holds Tryz.prog rM:=aR aW aS aZJ aXE
def lG:Con:=⟨208,bA,.bool,[.val ⟨true,bA,[]⟩],[⟨false,.bool,[0]⟩],false,none,
 ((fun _=>True):(eK)→Prop),
 ((fun x=>opB x):(eK)→(Bool))⟩
def aL1:T :=
 .bMD (.cmp .lss .i64) (.bME tI tI (.p1 tI (.bMC tI aF) (.Z 0)) (.ci .i64 1)) <|
 .ite (.Z 1) (
  .ret (.cb false)) (
  .bMD (.cmp .gtr .i64) (.bME tI tI (.p1 tI (.bMC tI aF) (.Z 0)) (.ci .i64 5)) <|
  .ite (.Z 2) (
   .ret (.cb false)) (
   .bMD (.cmp .lss .i64) (.bME tI tI (aJ bA 1 (.Z 0)) (.ci .i64 1)) <|
   .ite (.Z 3) (
    .ret (.cb false)) (
    .bMD (.cmp .gtr .i64) (.bME tI tI (aJ bA 1 (.Z 0)) (.ci .i64 6)) <|
    .ite (.Z 4) (
     .ret (.cb false)) (
     .bMD (.cmp .lss .i64) (.bME tI tI (aJ bA 2 (.Z 0)) (.ci .i64 1)) <|
     .ite (.Z 5) (
      .ret (.cb false)) (
      .bMD (.cmp .gtr .i64) (.bME tI tI (aJ bA 2 (.Z 0)) (.ci .i64 6)) <|
      .ite (.Z 6) (
       .ret (.cb false)) (
       .bMD (.cmp .neq .i64) (.bME tI tI (.p1 tI (.bMC tI aF) (.Z 0)) (.ci .i64 1)) <|
       .ite (.Z 7) (
        .bMD (.cmp .neq .i64) (.bME tI tI (aJ bA 1 (.Z 0)) (aJ bA 2 (.Z 0))) <|
        .ite (.Z 8) (
         .ret (.cb false)) (
         .bMD (.bMG 3 tI) (aQ bA 3 (.Z 0)) <|
         .call 0 (.Z 0) <|
         .bMD (.cmp .eql .i64) (.bME tI tI (.Z 9) (.Z 10)) <|
         .ite (.Z 11) (
          .call 1 (aQ bA 3 (.Z 0)) <|
          .ret (.Z 12)) (
          .ret (.cb false)))) (
        .bMD (.bMG 3 tI) (aQ bA 3 (.Z 0)) <|
        .call 0 (.Z 0) <|
        .bMD (.cmp .eql .i64) (.bME tI tI (.Z 8) (.Z 9)) <|
        .ite (.Z 10) (
         .call 1 (aQ bA 3 (.Z 0)) <|
         .ret (.Z 11)) (
         .ret (.cb false)))))))))
theorem bFM:bL Tryz.prog [rM,iC] lG false 3000 ⟨[],[]⟩ = .ok aL1:=by kernel_rfl
theorem bF4 (x:eK) (hx:okD bA x) (hp:(fun _=>True) x):aL1.wp [rM,iC] [⟨bA,x⟩] [] (fun v=>v.as .bool=(fun x=>opB x) x):=by
 have hp:List.length x.2.2.2≤9223372036854775807:=hx.2.2.2.1
 delta aL1 rM iC;refine dD ?_;try with_reducible exact True.intro
 (repeat' first|intro _|(with_reducible apply And.intro))
 all_goals simp only[lU] at *
 all_goals first|assumption|(first|(refine (Bool.eq_false_iff.2 ?_).symm;rw[ne_eq,kL];intro hh;omega)|(refine (kL.2 ?_).symm;omega))|(rw[Bool.eq_iff_iff,kL];exact ⟨fun h=>⟨by omega,h⟩,fun h=>h.2⟩)
theorem aL3:Con.Holds Tryz.prog lG:=aR aW (aG aXR (aG aCY aS)) bFM bF4
def bQ:Con:=⟨122,aE,.bool,[.val ⟨true,aE,[]⟩],[⟨false,.bool,[0]⟩],false,none,
 ((fun _=>True):(bM)→Prop),
 ((fun x=>cQ x):(bM)→(Bool))⟩
def aA3:T :=
 .bMD (.bMG 146 bA) (.Z 0) <|
 .bMD (.cmp .lss .i64) (.bME tI tI (.Z 1) (.ci .i64 1)) <|
 .ite (.Z 2) (
  .ret (.cb false)) (
  .bMD (.bMG 146 bA) (.Z 0) <|
  .bMD (.cmp .gtr .i64) (.bME tI tI (.Z 3) (.ci .i64 8)) <|
  .ite (.Z 4) (
   .ret (.cb false)) (
   .bMD (.bMG 146 bA) (.Z 0) <|
   .loop tI (.ci .i64 0) <|
    .bMD (.cmp .lss .i64) (.bME tI tI (.Z 6) (.Z 5)) <|
    .ite (.Z 7) (
     .bMD (.bMH 146 bA) (.bME aE tI (.Z 0) (.Z 6)) <|
     .call 0 (.Z 8) <|
     .bMD .not (.Z 9) <|
     .ite (.Z 10) (
      .ret (.cb false)) (
      .bMD (.cmp .gtr .i64) (.bME tI tI (.Z 6) (.ci .i64 0)) <|
      .ite (.Z 11) (
       .bMD (.ar .sub .i64) (.bME tI tI (.Z 6) (.ci .i64 1)) <|
       .bMD (.bMH 146 bA) (.bME aE tI (.Z 0) (.Z 12)) <|
       .bMD (.cmp .neq .i64) (.bME tI tI (aJ bA 2 (.Z 13)) (aJ bA 1 (.Z 8))) <|
       .ite (.Z 14) (
        .ret (.cb false)) (
        .bMD (.ar .add .i64) (.bME tI tI (.Z 6) (.ci .i64 1)) <|
        .bMF 0 (.Z 15))) (
       .bMD (.ar .add .i64) (.bME tI tI (.Z 6) (.ci .i64 1)) <|
       .bMF 0 (.Z 12)))) (
     .ret (.cb true))))
theorem aS3:bL Tryz.prog [lG] bQ false 3000 ⟨[(2988,4006,iQ 15 5++[.dr 0,.tm 18 0])],[]⟩ = .ok aA3:=by kernel_rfl
theorem aUF (x:bM) (hx:okD aE x) (hp:(fun _=>True) x):aA3.wp [lG] [⟨aE,x⟩] [] (fun v=>v.as .bool=(fun x=>cQ x) x):=by
 obtain ⟨hp1,hp2⟩:List.length x≤9223372036854775807∧∀ o∈(x:List eK),List.length o.2.2.2≤9223372036854775807:=⟨hx.1,fun o ho=>(hx.2 o ho).2.2.2.1⟩
 delta aA3 lG;refine dD ?_;try with_reducible exact True.intro
 (repeat' first|intro _|(with_reducible apply And.intro))
 all_goals simp only[lU] at *
 ·(first|(refine (Bool.eq_false_iff.2 ?_).symm;rw[ne_eq,bY];intro hh;omega)|(refine (bY.2 ?_).symm;omega))
 ·(first|(refine (Bool.eq_false_iff.2 ?_).symm;rw[ne_eq,bY];intro hh;omega)|(refine (bY.2 ?_).symm;omega))
 refine ⟨fun s=>∃ k:Nat,k≤x.length∧s=(k:Int)∧∀ i,i<k→aXO x i=true,fun s=>x.length - (s:Int).toNat,⟨0,by omega,rfl,by omega⟩,fun s _ hI=>?_⟩
 obtain ⟨k,hk,rfl,ha⟩:=hI
 refine eE ?_
 constructor
 ·intro hlt
  have hk':k<x.length:=by omega
  rw[aZ hk',aZ (show k - 1<x.length by omega)]
  have e:=zO x hk'
  have hm:=hp2 _ (List.getElem_mem hk')
  (repeat' first|intro _|(with_reducible apply And.intro))
  all_goals first|omega|exact hm|skip
  all_goals first|(refine aJH hk' fun h=>?_;rw[e] at h;obtain ⟨h1,h2⟩:=h;first|(simp_all;done)|omega)|skip
  all_goals refine ⟨k+1,by omega,rfl,fun i hi=>?_⟩
  all_goals rcases Nat.lt_or_eq_of_le (Nat.le_of_lt_succ hi) with h|rfl
  all_goals first|exact ha i h|(refine e.2 ⟨by assumption,?_⟩;first|exact .inl (by omega)|exact .inr (by assumption)|exact .inr (by omega))
 ·intro hge
  have:k=x.length:=by omega
  subst this
  refine ((bY x).2 ⟨?_,?_,ha⟩).symm <;> omega
theorem gW:Con.Holds Tryz.prog bQ:=aR aW (aG aL3 aS) aS3 aUF
def gE:Con:=⟨117,tI,.bool,[.val ⟨false,tI,[]⟩],[⟨false,.bool,[0]⟩],false,none,
 ((fun _=>True):(Int)→Prop),
 ((fun x=>nU x):(Int)→(Bool))⟩
def aH0:T:=.call 0 (bE (.bMC tI aO) [(.Z 0),(.ci .i64 (-2147483647)),(.ci .i64 2147483647)]) <|.ret (.Z 1)
theorem bCB:bL Tryz.prog [bH] gE false 3000 ⟨[],[]⟩ = .ok aH0:=by kernel_rfl
theorem bDB (x:Int) (hx:okD tI x) (hp:(fun _=>True) x):aH0.wp [bH] [⟨tI,x⟩] [] (fun v=>v.as .bool=(fun x=>nU x) x):=by
 delta aH0 bH;refine dD ?_
 rw[Bool.eq_iff_iff,bFY]
 (refine eE ?_;try with_reducible exact True.intro)
theorem aC3:Con.Holds Tryz.prog gE:=aR aW (aG eS aS) bCB bDB
def bI:Con:=⟨111,aB,.bool,[.val ⟨false,aB,[]⟩],[⟨false,.bool,[0]⟩],false,none,
 ((fun _=>True):(List Int)→Prop),
 ((fun x=>iK x):(List Int)→(Bool))⟩
def aH1:T:=.loop tI (.ci .i64 0) <|
 .bMD (.bMG 3 tI) (.Z 0) <|
 .bMD (.cmp .lss .i64) (.bME tI tI (.Z 1) (.Z 2)) <|
 .ite (.Z 3) (
  .bMD (.bMH 3 tI) (.bME aB tI (.Z 0) (.Z 1)) <|
  .call 0 (.Z 4) <|
  .bMD .not (.Z 5) <|
  .ite (.Z 6) (
   .ret (.cb false)) (
   .bMD (.ar .add .i64) (.bME tI tI (.Z 1) (.ci .i64 1)) <|
   .bMF 0 (.Z 7))) (
  .bMD (.bMG 3 tI) (.Z 0) <|
  .call 1 (bE (.bMC tI aO) [(.Z 4),(.ci .i64 1),(.ci .i64 6)]) <|
  .ret (.Z 5))
theorem bDM:bL Tryz.prog [gE,bH] bI false 3000 ⟨[(2993,1001,[.tm 3 0])],[]⟩ = .ok aH1:=by kernel_rfl
theorem bC8 (x:List Int) (hx:okD aB x) (hp:(fun _=>True) x):aH1.wp [gE,bH] [⟨aB,x⟩] [] (fun v=>v.as .bool=(fun x=>iK x) x):=by
 have hp:List.length x≤9223372036854775807:=hx.1
 delta aH1 gE bH;refine dD ?_
 refine ⟨fun s=>∃ k:Nat,k≤x.length∧s=(k:Int)∧(x.take k).all nU=true,fun s=>x.length - (s:Int).toNat,⟨0,by omega,rfl,rfl⟩,fun s _ hI=>?_⟩
 obtain ⟨k,hk,rfl,ha⟩:=hI
 refine eE ?_
 intro _
 constructor
 ·intro hlt
  have hk':k<x.length:=by omega
  rw[aZ hk']
  have e:=mL nU x hk'
  (repeat' first|intro _|(with_reducible apply And.intro))
  all_goals first|omega|skip
  ·have:=uP hk' (by assumption)
   unfold iK
   rw[this]
   simp
  ·exact ⟨k+1,by omega,rfl,by rw[e,ha];simpa using ‹nU _=true›⟩
 ·intro hge
  have:k=x.length:=by omega
  subst this
  rw[List.take_length] at ha
  intro _
  rw[Bool.eq_iff_iff,cP,ha]
  simp only[lU,and_true]
  omega
theorem fD:Con.Holds Tryz.prog bI:=aR aW (aG aC3 (aG eS aS)) bDM bC8
def eX:Con:=⟨272,aI,.bool,[.val ⟨false,aB,[]⟩,.val ⟨false,aB,[]⟩],[⟨false,.bool,[0]⟩],false,none,
 ((fun _=>True):(bW)→Prop),
 ((fun x=>iK x.1&&(iK x.2&&decide ((x.1:List Int).length=(x.2:List Int).length))):(bW)→(Bool))⟩
def aE5:T:=.call 0 (.p1 aB aB (.Z 0)) <|.ite (.Z 1) (.call 0 (aQ aI 1 (.Z 0)) <|.ite (.Z 2) (
  .bMD (.bMG 3 tI) (.p1 aB aB (.Z 0)) <|
  .bMD (.bMG 3 tI) (aQ aI 1 (.Z 0)) <|
  .bMD (.cmp .eql .i64) (.bME tI tI (.Z 3) (.Z 4)) <|
  .ret (.Z 5)) (
  .ret (.cb false))) (
 .ret (.cb false))
theorem aY1:bL Tryz.prog [bI] eX false 3000 ⟨[],[]⟩ = .ok aE5:=by kernel_rfl
theorem aZN (x:bW) (hx:okD aI x) (hp:(fun _=>True) x):aE5.wp [bI] [⟨aI,x⟩] [] (fun v=>v.as .bool=(fun x=>iK x.1&&(iK x.2&&decide ((x.1:List Int).length=(x.2:List Int).length))) x):=by
 delta aE5 bI;refine dD ?_
 cases iK x.1 <;> cases iK x.2 <;> simp only[reduceCtorEq,true_implies,false_implies,and_true,true_and,Bool.true_and,Bool.false_and,Bool.and_false,implies_true]
 intro _ _
 rw[Bool.eq_iff_iff,beq_iff_eq,decide_eq_true_eq]
 exact bMB
theorem xG:Con.Holds Tryz.prog eX:=aR aW (aG fD aS) aY1 aZN
def sC:Con:=⟨269,bA,tI,[.val ⟨true,bA,[]⟩],[⟨false,tI,[0]⟩],false,none,
 ((fun _=>True):(eK)→Prop),
 ((fun x=>lW x):(eK)→(Int))⟩
def aEL:T:=.call 0 (bE (.bMC tI aO) [(aJ bA 1 (.Z 0)),(.ci .i64 1),(.ci .i64 6)]) <|
 .bMD .not (.Z 1) <|
 .ite (.Z 2) (
  .ret (.ci .i64 0)) (
  .call 0 (bE (.bMC tI aO) [(aJ bA 2 (.Z 0)),(.ci .i64 1),(.ci .i64 6)]) <|
  .bMD .not (.Z 3) <|
  .ite (.Z 4) (
   .ret (.ci .i64 0)) (
   .bMD (.cmp .eql .i64) (.bME tI tI (.p1 tI (.bMC tI aF) (.Z 0)) (.ci .i64 1)) <|
   .ite (.Z 5) (
    .bMD (.ar .mul .i64) (.bME tI tI (aJ bA 1 (.Z 0)) (aJ bA 2 (.Z 0))) <|
    .ret (.Z 6)) (
    .bMD (.cmp .eql .i64) (.bME tI tI (.p1 tI (.bMC tI aF) (.Z 0)) (.ci .i64 5)) <|
    .ite (.Z 6) (
     .bMD (.ar .mul .i64) (.bME tI tI (aJ bA 1 (.Z 0)) (aJ bA 2 (.Z 0))) <|
     .ret (.Z 7)) (
     .bMD (.cmp .eql .i64) (.bME tI tI (.p1 tI (.bMC tI aF) (.Z 0)) (.ci .i64 2)) <|
     .ite (.Z 7) (
      .ret (aJ bA 1 (.Z 0))) (
      .bMD (.cmp .eql .i64) (.bME tI tI (.p1 tI (.bMC tI aF) (.Z 0)) (.ci .i64 4)) <|
      .ite (.Z 8) (
       .ret (.ci .i64 1)) (
       .ret (.ci .i64 0)))))))
theorem aWN:bL Tryz.prog [bH] sC false 3000 ⟨[],[]⟩ = .ok aEL:=by kernel_rfl
theorem aWZ (x:eK) (hx:okD bA x) (hp:(fun _=>True) x):aEL.wp [bH] [⟨bA,x⟩] [] (fun v=>v.as tI=(fun x=>lW x) x):=by
 delta aEL bH;refine dD ?_;try with_reducible exact True.intro
 (repeat' first|intro _|(with_reducible apply And.intro))
 all_goals simp only[lU] at *
 all_goals first|omega|(have:=aRE (a:=x.2.1) (b:=x.2.2.1) (by omega) (by omega) (by omega) (by omega);omega)|exact aT7 (by omega)|exact aSA (by omega)|exact aV2 (by omega)|exact aIQ (by omega)
theorem aXD:Con.Holds Tryz.prog sC:=aR aW (aG eS aS) aWN aWZ
def lK:Con:=⟨197,bA,.bool,[.val ⟨true,bA,[]⟩],[⟨false,.bool,[0]⟩],false,none,
 ((fun _=>True):(eK)→Prop),
 ((fun x=>opB x):(eK)→(Bool))⟩
def aIR:T:=.call 0 (bE (.bMC tI aO) [(.p1 tI (.bMC tI aF) (.Z 0)),(.ci .i64 1),(.ci .i64 5)]) <|
 .bMD .not (.Z 1) <|
 .ite (.Z 2) (
  .ret (.cb false)) (
  .call 0 (bE (.bMC tI aO) [(aJ bA 1 (.Z 0)),(.ci .i64 1),(.ci .i64 6)]) <|
  .bMD .not (.Z 3) <|
  .ite (.Z 4) (
   .ret (.cb false)) (
   .call 0 (bE (.bMC tI aO) [(aJ bA 2 (.Z 0)),(.ci .i64 1),(.ci .i64 6)]) <|
   .bMD .not (.Z 5) <|
   .ite (.Z 6) (
    .ret (.cb false)) (
    .bMD (.cmp .neq .i64) (.bME tI tI (.p1 tI (.bMC tI aF) (.Z 0)) (.ci .i64 1)) <|
    .ite (.Z 7) (
     .bMD (.cmp .neq .i64) (.bME tI tI (aJ bA 1 (.Z 0)) (aJ bA 2 (.Z 0))) <|
     .ite (.Z 8) (
      .ret (.cb false)) (
      .bMD (.bMG 3 tI) (aQ bA 3 (.Z 0)) <|
      .call 1 (.Z 0) <|
      .bMD (.cmp .neq .i64) (.bME tI tI (.Z 9) (.Z 10)) <|
      .ite (.Z 11) (
       .ret (.cb false)) (
       .loop tI (.ci .i64 0) <|
        .bMD (.bMG 3 tI) (aQ bA 3 (.Z 0)) <|
        .bMD (.cmp .lss .i64) (.bME tI tI (.Z 12) (.Z 13)) <|
        .ite (.Z 14) (
         .bMD (.bMH 3 tI) (.bME aB tI (aQ bA 3 (.Z 0)) (.Z 12)) <|
         .call 2 (.Z 15) <|
         .bMD .not (.Z 16) <|
         .ite (.Z 17) (
          .ret (.cb false)) (
          .bMD (.ar .add .i64) (.bME tI tI (.Z 12) (.ci .i64 1)) <|
          .bMF 0 (.Z 18))) (
         .ret (.cb true))))) (
     .bMD (.bMG 3 tI) (aQ bA 3 (.Z 0)) <|
     .call 1 (.Z 0) <|
     .bMD (.cmp .neq .i64) (.bME tI tI (.Z 8) (.Z 9)) <|
     .ite (.Z 10) (
      .ret (.cb false)) (
      .loop tI (.ci .i64 0) <|
       .bMD (.bMG 3 tI) (aQ bA 3 (.Z 0)) <|
       .bMD (.cmp .lss .i64) (.bME tI tI (.Z 11) (.Z 12)) <|
       .ite (.Z 13) (
        .bMD (.bMH 3 tI) (.bME aB tI (aQ bA 3 (.Z 0)) (.Z 11)) <|
        .call 2 (.Z 14) <|
        .bMD .not (.Z 15) <|
        .ite (.Z 16) (
         .ret (.cb false)) (
         .bMD (.ar .add .i64) (.bME tI tI (.Z 11) (.ci .i64 1)) <|
         .bMF 0 (.Z 17))) (
        .ret (.cb true)))))))
theorem bHT:bL Tryz.prog [bH,sC,gE] lK false 3000 ⟨[(2988,72012,iQ 39 28++[.dr 26,.dr 27]++iQ 25 4++[.dr 0,.tm 3 0]),(2988,32011,iQ 39 28++[.dr 26,.dr 27]++iQ 25 4++[.dr 0,.tm 3 0])],[]⟩ = .ok aIR:=by kernel_rfl
theorem bHW (x:eK) (hx:okD bA x) (hp:(fun _=>True) x):aIR.wp [bH,sC,gE] [⟨bA,x⟩] [] (fun v=>v.as .bool=(fun x=>opB x) x):=by
  have hp:List.length x.2.2.2≤9223372036854775807:=hx.2.2.2.1
  delta aIR bH sC gE;refine dD ?_;try with_reducible exact True.intro
  (repeat' first|intro _|(with_reducible apply And.intro))
  all_goals simp only[lU] at *
  all_goals first|assumption|(first|(refine (Bool.eq_false_iff.2 ?_).symm;rw[ne_eq,kL];intro hh;omega)|(refine (kL.2 ?_).symm;omega))|skip
  all_goals refine ⟨fun s=>∃ k:Nat,k≤x.2.2.2.length∧s=(k:Int)∧(x.2.2.2.take k).all nU=true,fun s=>x.2.2.2.length - (s:Int).toNat,⟨0,by omega,rfl,rfl⟩,fun s _ hI=>?_⟩
  all_goals obtain ⟨k,hk,rfl,ha⟩:=hI
  all_goals (refine eE ?_;try with_reducible exact True.intro)
  all_goals intro _
  all_goals have hin:k<x.2.2.2.length→x.2.2.2.getD k 0=x.2.2.2.getD k (0:Int):=fun _=>rfl
  all_goals constructor
  all_goals intro hlt
  all_goals first
    | (have hk':k<x.2.2.2.length:=by omega
       rw[aZ hk']
       have e:=mL nU x.2.2.2 hk'
       refine ⟨by omega,fun _=>⟨fun hf=>?_,fun hf=>⟨by omega,fun _=>⟨⟨k+1,by omega,rfl,by rw[e,ha,hf];rfl⟩,by omega⟩⟩⟩⟩
       have hb:=uP hk' hf
       refine (Bool.eq_false_iff.2 fun h=>?_).symm
       rw[kL] at h
       rw[hb] at h
       exact Bool.noConfusion h.2)
    | (have:k=x.2.2.2.length:=by omega
       subst this
       rw[List.take_length] at ha
       exact ((kL x).2 ⟨by omega,ha⟩).symm)
theorem aIJ:Con.Holds Tryz.prog lK:=aR aW (aG eS (aG aXD (aG aC3 aS))) bHT bHW
def cB:Con:=⟨109,aE,.bool,[.val ⟨true,aE,[]⟩],[⟨false,.bool,[0]⟩],false,none,
 ((fun _=>True):(bM)→Prop),
 ((fun x=>cQ x):(bM)→(Bool))⟩
def aAS:T:=.loop tI (.ci .i64 0) <|
 .bMD (.bMG 146 bA) (.Z 0) <|
 .bMD (.cmp .lss .i64) (.bME tI tI (.Z 1) (.Z 2)) <|
 .ite (.Z 3) (
  .bMD (.bMH 146 bA) (.bME aE tI (.Z 0) (.Z 1)) <|
  .call 0 (.Z 4) <|
  .bMD .not (.Z 5) <|
  .ite (.Z 6) (
   .ret (.cb false)) (
   .bMD (.cmp .gtr .i64) (.bME tI tI (.Z 1) (.ci .i64 0)) <|
   .ite (.Z 7) (
    .bMD (.ar .sub .i64) (.bME tI tI (.Z 1) (.ci .i64 1)) <|
    .bMD (.bMH 146 bA) (.bME aE tI (.Z 0) (.Z 1)) <|
    .bMD (.bMH 146 bA) (.bME aE tI (.Z 0) (.Z 8)) <|
    .bMD (.cmp .neq .i64) (.bME tI tI (aJ bA 1 (.Z 9)) (aJ bA 2 (.Z 10))) <|
    .ite (.Z 11) (
     .ret (.cb false)) (
     .bMD (.ar .add .i64) (.bME tI tI (.Z 1) (.ci .i64 1)) <|
     .bMF 0 (.Z 12))) (
    .bMD (.ar .add .i64) (.bME tI tI (.Z 1) (.ci .i64 1)) <|
    .bMF 0 (.Z 8)))) (
  .bMD (.bMG 146 bA) (.Z 0) <|
  .call 1 (bE (.bMC tI aO) [(.Z 4),(.ci .i64 1),(.ci .i64 8)]) <|
  .ret (.Z 5))
theorem aRA:bL Tryz.prog [lK,bH] cB false 3000 ⟨[(2993,1001,[.dr 0,.tm 3 0])],[]⟩ = .ok aAS:=by kernel_rfl
theorem aRD (x:bM) (hx:okD aE x) (hp:(fun _=>True) x):aAS.wp [lK,bH] [⟨aE,x⟩] [] (fun v=>v.as .bool=(fun x=>cQ x) x):=by
 obtain ⟨hp1,hp2⟩:List.length x≤9223372036854775807∧∀ o∈(x:List eK),List.length o.2.2.2≤9223372036854775807:=⟨hx.1,fun o ho=>(hx.2 o ho).2.2.2.1⟩
 delta aAS lK bH;refine dD ?_
 refine ⟨fun s=>∃ k:Nat,k≤x.length∧s=(k:Int)∧∀ i,i<k→aXO x i=true,fun s=>x.length - (s:Int).toNat,⟨0,by omega,rfl,by omega⟩,fun s _ hI=>?_⟩
 obtain ⟨k,hk,rfl,ha⟩:=hI
 refine eE ?_
 intro _
 constructor
 ·intro hlt
  have hk':k<x.length:=by omega
  rw[aZ hk',aZ (show k - 1<x.length by omega)]
  have e:=zO x hk'
  have hm:=hp2 _ (List.getElem_mem hk')
  (repeat' first|intro _|(with_reducible apply And.intro))
  all_goals first|omega|exact hm|skip
  all_goals first|(refine aJH hk' fun h=>?_;rw[e] at h;obtain ⟨h1,h2⟩:=h;first|(simp_all;done)|omega)|skip
  all_goals refine ⟨k+1,by omega,rfl,fun i hi=>?_⟩
  all_goals rcases Nat.lt_or_eq_of_le (Nat.le_of_lt_succ hi) with h|rfl
  all_goals first|exact ha i h|(refine e.2 ⟨by assumption,?_⟩;first|exact .inl (by omega)|exact .inr (by assumption)|exact .inr (by omega))
 ·intro hge
  have:k=x.length:=by omega
  subst this
  intro _
  rw[Bool.eq_iff_iff,bY]
  refine eE ?_
  constructor
  ·intro h;exact ⟨by omega,by omega,ha⟩
  ·intro h;omega
theorem jV:Con.Holds Tryz.prog cB:=aR aW (aG aIJ (aG eS aS)) aRA aRD
end
end Go.Proofs.YtiihghfoeinbbaaGreat
