/- Ops2: lemmas. No conditions. -/
import Derived.Test.YtpafjioccjpmfaaGreatGr2
namespace Go.Proofs.YtpafjioccjpmfaaGreat
noncomputable section
set_option maxRecDepth 100000
open Go.ChangeShapes Go.WideShapes Go.ChangeAt Go.RowKit Go.Deep
set_option linter.unusedVariables false
set_option linter.unusedSimpArgs false
def nE (v:List Int):Bool:=decide (1≤v.length)&&(decide (v.length≤6)&&v.all gM)
theorem dB (v:List Int):nE v=true↔1≤v.length∧v.length≤6∧v.all gM=true:=by unfold nE;simp only[Bool.and_eq_true,decide_eq_true_eq]
def dZ (o:cZ):Int:=if o.2.1<1∨6<o.2.1∨o.2.2.1<1∨6<o.2.2.1 then 0 else if o.1=1∨o.1=5 then o.2.1 * o.2.2.1 else if o.1=2 then o.2.1 else if o.1=4 then 1 else 0
def opB (o:cZ):Bool:=decide (1≤o.1∧o.1≤5∧1≤o.2.1∧o.2.1≤6∧1≤o.2.2.1∧o.2.2.1≤6∧(o.1≠1→o.2.1=o.2.2.1)∧(o.2.2.2.length:Int)=dZ o)&&o.2.2.2.all gM
theorem eH (o:cZ):opB o=true↔(1≤o.1∧o.1≤5∧1≤o.2.1∧o.2.1≤6∧1≤o.2.2.1∧o.2.2.1≤6∧(o.1≠1→o.2.1=o.2.2.1)∧(o.2.2.2.length:Int)=dZ o)∧o.2.2.2.all gM=true:=by
 unfold opB;simp only[Bool.and_eq_true,decide_eq_true_eq]
def qY:cZ:=(0,0,0,[])
def aLV (m:List cZ) (i:Nat):Bool:=opB (m.getD i qY)&&(decide (i=0) || decide ((m.getD (i - 1) qY).2.2.1=(m.getD i qY).2.1))
theorem iO (m:List cZ) {i:Nat} (h:i<m.length):aLV m i=true↔opB m[i]=true∧(i=0∨(m[i - 1]'(by omega)).2.2.1=m[i].2.1):=by
 unfold aLV
 rw[aW h,aW (show i - 1<m.length by omega)]
 simp only[Bool.and_eq_true,Bool.or_eq_true,decide_eq_true_eq]
def bO (m:List cZ):Bool:=decide (1≤m.length)&&(decide (m.length≤8)&&(List.range m.length).all (aLV m))
theorem bM (m:List cZ):bO m=true↔1≤m.length∧m.length≤8∧∀ i,i<m.length→aLV m i=true:=by
 unfold bO;simp only[Bool.and_eq_true,decide_eq_true_eq,List.all_eq_true,List.mem_range]
theorem aKY {m:List cZ} {i:Nat} (h:i<m.length) (hb:¬ aLV m i=true):false=bO m:=by
 refine (Bool.eq_false_iff.2 ?_).symm
 rw[ne_eq,bM]
 exact fun hh=>hb (hh.2.2 i h)
theorem aTN {o:cZ} (h:o.2.1<1∨6<o.2.1∨o.2.2.1<1∨6<o.2.2.1∨(o.1≠1∧o.1≠5∧o.1≠2∧o.1≠4)):0=dZ o:=by
 unfold dZ
 split
 ·rfl
 ·rw[if_neg (by omega),if_neg (by omega),if_neg (by omega)]
theorem aTJ {o:cZ} (h:1≤o.2.1∧o.2.1≤6∧1≤o.2.2.1∧o.2.2.1≤6∧(o.1=1∨o.1=5)):o.2.1 * o.2.2.1=dZ o:=by
 unfold dZ;rw[if_neg (by omega),if_pos (by omega)]
theorem aUW {o:cZ} (h:1≤o.2.1∧o.2.1≤6∧1≤o.2.2.1∧o.2.2.1≤6∧o.1=2):o.2.1=dZ o:=by
 unfold dZ;rw[if_neg (by omega),if_neg (by omega),if_pos (by omega)]
theorem aL6 {o:cZ} (h:1≤o.2.1∧o.2.1≤6∧1≤o.2.2.1∧o.2.2.1≤6∧o.1=4):1=dZ o:=by
 unfold dZ;rw[if_neg (by omega),if_neg (by omega),if_neg (by omega),if_pos (by omega)]
theorem aTZ {a b:Int} (h1:1≤a) (h2:a≤6) (h3:1≤b) (h4:b≤6):0≤a * b∧a * b≤36 :=
 ⟨Int.mul_nonneg (by omega) (by omega),Int.le_trans (Int.mul_le_mul h2 h4 (by omega) (by omega)) (by omega)⟩
def iA:Con:=⟨116,aB,.bool,[.val ⟨false,aB,[]⟩],[⟨false,.bool,[0]⟩],false,none,
 ((fun _=>True):(List Int)→Prop),
 ((fun x=>List.all x gM):(List Int)→(Bool))⟩
def aEN:T :=
 .bPX (.bQ0 3 tI) (.Z 0) <|
 .loop tI (.ci .i64 0) <|
  .bPX (.cmp .lss .i64) (.bPY tI tI (.Z 2) (.Z 1)) <|
  .ite (.Z 3) (
   .bPX (.bQ1 3 tI) (.bPY aB tI (.Z 0) (.Z 2)) <|
   .call 0 (.Z 4) <|
   .bPX .not (.Z 5) <|
   .ite (.Z 6) (
    .ret (.cb false)) (
    .bPX (.ar .add .i64) (.bPY tI tI (.Z 2) (.ci .i64 1)) <|
    .bPZ 0 (.Z 7))) (
   .ret (.cb true))
theorem aWY:bW Tryz.prog [jS] iA false 3000 ⟨[(2993,1002,[.dr 0,.tm 7 0])],[]⟩ = .ok aEN:=by kernel_rfl
theorem aXN (x:List Int) (hx:okD aB x) (hp:(fun _=>True) x):aEN.wp [jS] [⟨aB,x⟩] [] (fun v=>v.as .bool=(fun x=>List.all x gM) x):=by
 have hp:List.length x≤9223372036854775807:=hx.1
 delta aEN jS;refine dY ?_
 intro _
 refine ⟨fun s=>∃ k:Nat,k≤x.length∧s=(k:Int)∧(x.take k).all gM=true,fun s=>x.length - (s:Int).toNat,⟨0,by omega,rfl,rfl⟩,fun s _ hI=>?_⟩
 obtain ⟨k,hk,rfl,ha⟩:=hI
 refine eD ?_
 constructor
 ·intro hlt
  have hk':k<x.length:=by omega
  rw[aW hk']
  have e:=qF gM x hk'
  (repeat' first|intro _|(with_reducible apply And.intro))
  all_goals first|omega|skip
  ·exact (yF hk' (by assumption)).symm
  ·exact ⟨k+1,by omega,rfl,by rw[e,ha];simpa using ‹gM _=true›⟩
 ·intro hge
  have:k=x.length:=by omega
  subst this
  rw[List.take_length] at ha
  exact ha.symm
theorem aET:Con.Holds Tryz.prog iA:=aX aZ (aG aHX aT) aWY aXN
def tF:Con:=⟨115,bU,tI,[.val ⟨true,bU,[]⟩],[⟨false,tI,[0]⟩],false,none,
 ((fun _=>True):(cZ)→Prop),
 ((fun x=>dZ x):(cZ)→(Int))⟩
def aDX:T :=
 .bPX (.cmp .lss .i64) (.bPY tI tI (aH bU 1 (.Z 0)) (.ci .i64 1)) <|
 .ite (.Z 1) (
  .ret (.ci .i64 0)) (
  .bPX (.cmp .gtr .i64) (.bPY tI tI (aH bU 1 (.Z 0)) (.ci .i64 6)) <|
  .ite (.Z 2) (
   .ret (.ci .i64 0)) (
   .bPX (.cmp .lss .i64) (.bPY tI tI (aH bU 2 (.Z 0)) (.ci .i64 1)) <|
   .ite (.Z 3) (
    .ret (.ci .i64 0)) (
    .bPX (.cmp .gtr .i64) (.bPY tI tI (aH bU 2 (.Z 0)) (.ci .i64 6)) <|
    .ite (.Z 4) (
     .ret (.ci .i64 0)) (
     .bPX (.cmp .eql .i64) (.bPY tI tI (.p1 tI (.bPW tI aI) (.Z 0)) (.ci .i64 1)) <|
     .ite (.Z 5) (
      .bPX (.ar .mul .i64) (.bPY tI tI (aH bU 1 (.Z 0)) (aH bU 2 (.Z 0))) <|
      .ret (.Z 6)) (
      .bPX (.cmp .eql .i64) (.bPY tI tI (.p1 tI (.bPW tI aI) (.Z 0)) (.ci .i64 5)) <|
      .ite (.Z 6) (
       .bPX (.ar .mul .i64) (.bPY tI tI (aH bU 1 (.Z 0)) (aH bU 2 (.Z 0))) <|
       .ret (.Z 7)) (
       .bPX (.cmp .eql .i64) (.bPY tI tI (.p1 tI (.bPW tI aI) (.Z 0)) (.ci .i64 2)) <|
       .ite (.Z 7) (
        .ret (aH bU 1 (.Z 0))) (
        .bPX (.cmp .eql .i64) (.bPY tI tI (.p1 tI (.bPW tI aI) (.Z 0)) (.ci .i64 4)) <|
        .ite (.Z 8) (
         .ret (.ci .i64 1)) (
         .ret (.ci .i64 0)))))))))
theorem aZA:bW Tryz.prog [] tF false 3000 ⟨[],[]⟩ = .ok aDX:=by kernel_rfl
theorem aZZ (x:cZ) (hx:okD bU x) (hp:(fun _=>True) x):aDX.wp [] [⟨bU,x⟩] [] (fun v=>v.as tI=(fun x=>dZ x) x):=by
 delta aDX;refine dY ?_;try with_reducible exact True.intro
 (repeat' first|intro _|(with_reducible apply And.intro))
 all_goals simp only[uP] at *
 all_goals first|omega|(have:=aTZ (a:=x.2.1) (b:=x.2.2.1) (by omega) (by omega) (by omega) (by omega);omega)|exact aTN (by omega)|exact aTJ (by omega)|exact aUW (by omega)|exact aL6 (by omega)
theorem aXV:Con.Holds Tryz.prog tF:=aX aZ aT aZA aZZ
def kY:Con:=⟨85,bU,.bool,[.val ⟨true,bU,[]⟩],[⟨false,.bool,[0]⟩],false,none,
 ((fun _=>True):(cZ)→Prop),
 ((fun x=>opB x):(cZ)→(Bool))⟩
def aMP:T :=
 .bPX (.cmp .lss .i64) (.bPY tI tI (.p1 tI (.bPW tI aI) (.Z 0)) (.ci .i64 1)) <|
 .ite (.Z 1) (
  .ret (.cb false)) (
  .bPX (.cmp .gtr .i64) (.bPY tI tI (.p1 tI (.bPW tI aI) (.Z 0)) (.ci .i64 5)) <|
  .ite (.Z 2) (
   .ret (.cb false)) (
   .bPX (.cmp .lss .i64) (.bPY tI tI (aH bU 1 (.Z 0)) (.ci .i64 1)) <|
   .ite (.Z 3) (
    .ret (.cb false)) (
    .bPX (.cmp .gtr .i64) (.bPY tI tI (aH bU 1 (.Z 0)) (.ci .i64 6)) <|
    .ite (.Z 4) (
     .ret (.cb false)) (
     .bPX (.cmp .lss .i64) (.bPY tI tI (aH bU 2 (.Z 0)) (.ci .i64 1)) <|
     .ite (.Z 5) (
      .ret (.cb false)) (
      .bPX (.cmp .gtr .i64) (.bPY tI tI (aH bU 2 (.Z 0)) (.ci .i64 6)) <|
      .ite (.Z 6) (
       .ret (.cb false)) (
       .bPX (.cmp .neq .i64) (.bPY tI tI (.p1 tI (.bPW tI aI) (.Z 0)) (.ci .i64 1)) <|
       .ite (.Z 7) (
        .bPX (.cmp .neq .i64) (.bPY tI tI (aH bU 1 (.Z 0)) (aH bU 2 (.Z 0))) <|
        .ite (.Z 8) (
         .ret (.cb false)) (
         .bPX (.bQ0 3 tI) (aS bU 3 (.Z 0)) <|
         .call 0 (.Z 0) <|
         .bPX (.cmp .eql .i64) (.bPY tI tI (.Z 9) (.Z 10)) <|
         .ite (.Z 11) (
          .call 1 (aS bU 3 (.Z 0)) <|
          .ret (.Z 12)) (
          .ret (.cb false)))) (
        .bPX (.bQ0 3 tI) (aS bU 3 (.Z 0)) <|
        .call 0 (.Z 0) <|
        .bPX (.cmp .eql .i64) (.bPY tI tI (.Z 8) (.Z 9)) <|
        .ite (.Z 10) (
         .call 1 (aS bU 3 (.Z 0)) <|
         .ret (.Z 11)) (
         .ret (.cb false)))))))))
theorem bGW:bW Tryz.prog [tF,iA] kY false 3000 ⟨[],[]⟩ = .ok aMP:=by kernel_rfl
theorem bJA (x:cZ) (hx:okD bU x) (hp:(fun _=>True) x):aMP.wp [tF,iA] [⟨bU,x⟩] [] (fun v=>v.as .bool=(fun x=>opB x) x):=by
 have hp:List.length x.2.2.2≤9223372036854775807:=hx.2.2.2.1
 delta aMP tF iA;refine dY ?_;try with_reducible exact True.intro
 (repeat' first|intro _|(with_reducible apply And.intro))
 all_goals simp only[uP] at *
 all_goals first|assumption|(first|(refine (Bool.eq_false_iff.2 ?_).symm;rw[ne_eq,eH];intro hh;omega)|(refine (eH.2 ?_).symm;omega))|(rw[Bool.eq_iff_iff,eH];exact ⟨fun h=>⟨by omega,h⟩,fun h=>h.2⟩)
theorem aMI:Con.Holds Tryz.prog kY:=aX aZ (aG aXV (aG aET aT)) bGW bJA
def bV:Con:=⟨50,aE,.bool,[.val ⟨true,aE,[]⟩],[⟨false,.bool,[0]⟩],false,none,
 ((fun _=>True):(bE)→Prop),
 ((fun x=>bO x):(bE)→(Bool))⟩
def aA7:T :=
 .bPX (.bQ0 80 bU) (.Z 0) <|
 .bPX (.cmp .lss .i64) (.bPY tI tI (.Z 1) (.ci .i64 1)) <|
 .ite (.Z 2) (
  .ret (.cb false)) (
  .bPX (.bQ0 80 bU) (.Z 0) <|
  .bPX (.cmp .gtr .i64) (.bPY tI tI (.Z 3) (.ci .i64 8)) <|
  .ite (.Z 4) (
   .ret (.cb false)) (
   .bPX (.bQ0 80 bU) (.Z 0) <|
   .loop tI (.ci .i64 0) <|
    .bPX (.cmp .lss .i64) (.bPY tI tI (.Z 6) (.Z 5)) <|
    .ite (.Z 7) (
     .bPX (.bQ1 80 bU) (.bPY aE tI (.Z 0) (.Z 6)) <|
     .call 0 (.Z 8) <|
     .bPX .not (.Z 9) <|
     .ite (.Z 10) (
      .ret (.cb false)) (
      .bPX (.cmp .gtr .i64) (.bPY tI tI (.Z 6) (.ci .i64 0)) <|
      .ite (.Z 11) (
       .bPX (.ar .sub .i64) (.bPY tI tI (.Z 6) (.ci .i64 1)) <|
       .bPX (.bQ1 80 bU) (.bPY aE tI (.Z 0) (.Z 12)) <|
       .bPX (.cmp .neq .i64) (.bPY tI tI (aH bU 2 (.Z 13)) (aH bU 1 (.Z 8))) <|
       .ite (.Z 14) (
        .ret (.cb false)) (
        .bPX (.ar .add .i64) (.bPY tI tI (.Z 6) (.ci .i64 1)) <|
        .bPZ 0 (.Z 15))) (
       .bPX (.ar .add .i64) (.bPY tI tI (.Z 6) (.ci .i64 1)) <|
       .bPZ 0 (.Z 12)))) (
     .ret (.cb true))))
theorem aV0:bW Tryz.prog [kY] bV false 3000 ⟨[(2988,4006,jV 15 5++[.dr 0,.tm 18 0])],[]⟩ = .ok aA7:=by kernel_rfl
theorem aTV (x:bE) (hx:okD aE x) (hp:(fun _=>True) x):aA7.wp [kY] [⟨aE,x⟩] [] (fun v=>v.as .bool=(fun x=>bO x) x):=by
 obtain ⟨hp1,hp2⟩:List.length x≤9223372036854775807∧∀ o∈(x:List cZ),List.length o.2.2.2≤9223372036854775807:=⟨hx.1,fun o ho=>(hx.2 o ho).2.2.2.1⟩
 delta aA7 kY;refine dY ?_;try with_reducible exact True.intro
 (repeat' first|intro _|(with_reducible apply And.intro))
 all_goals simp only[uP] at *
 ·(first|(refine (Bool.eq_false_iff.2 ?_).symm;rw[ne_eq,bM];intro hh;omega)|(refine (bM.2 ?_).symm;omega))
 ·(first|(refine (Bool.eq_false_iff.2 ?_).symm;rw[ne_eq,bM];intro hh;omega)|(refine (bM.2 ?_).symm;omega))
 refine ⟨fun s=>∃ k:Nat,k≤x.length∧s=(k:Int)∧∀ i,i<k→aLV x i=true,fun s=>x.length - (s:Int).toNat,⟨0,by omega,rfl,by omega⟩,fun s _ hI=>?_⟩
 obtain ⟨k,hk,rfl,ha⟩:=hI
 refine eD ?_
 constructor
 ·intro hlt
  have hk':k<x.length:=by omega
  rw[aW hk',aW (show k - 1<x.length by omega)]
  have e:=iO x hk'
  have hm:=hp2 _ (List.getElem_mem hk')
  (repeat' first|intro _|(with_reducible apply And.intro))
  all_goals first|omega|exact hm|skip
  all_goals first|(refine aKY hk' fun h=>?_;rw[e] at h;obtain ⟨h1,h2⟩:=h;first|(simp_all;done)|omega)|skip
  all_goals refine ⟨k+1,by omega,rfl,fun i hi=>?_⟩
  all_goals rcases Nat.lt_or_eq_of_le (Nat.le_of_lt_succ hi) with h|rfl
  all_goals first|exact ha i h|(refine e.2 ⟨by assumption,?_⟩;first|exact .inl (by omega)|exact .inr (by assumption)|exact .inr (by omega))
 ·intro hge
  have:k=x.length:=by omega
  subst this
  refine ((bM x).2 ⟨?_,?_,ha⟩).symm <;> omega
theorem gZ:Con.Holds Tryz.prog bV:=aX aZ (aG aMI aT) aV0 aTV
def nO:Con:=⟨94,tI,.bool,[.val ⟨false,tI,[]⟩],[⟨false,.bool,[0]⟩],false,none,
 ((fun _=>True):(Int)→Prop),
 ((fun x=>gM x):(Int)→(Bool))⟩
def aGR:T:=.call 0 (bP (.bPW tI aD) [(.Z 0),(.ci .i64 (-2147483647)),(.ci .i64 2147483647)]) <|.ret (.Z 1)
theorem bFE:bW Tryz.prog [cJ] nO false 3000 ⟨[],[]⟩ = .ok aGR:=by kernel_rfl
theorem bFP (x:Int) (hx:okD tI x) (hp:(fun _=>True) x):aGR.wp [cJ] [⟨tI,x⟩] [] (fun v=>v.as .bool=(fun x=>gM x) x):=by
 delta aGR cJ;refine dY ?_
 rw[Bool.eq_iff_iff,sY]
 (refine eD ?_;try with_reducible exact True.intro)
theorem aP8:Con.Holds Tryz.prog nO:=aX aZ (aG kF aT) bFE bFP
def wY:Con:=⟨62,aB,.bool,[.val ⟨false,aB,[]⟩],[⟨false,.bool,[0]⟩],false,none,
 ((fun _=>True):(List Int)→Prop),
 ((fun x=>nE x):(List Int)→(Bool))⟩
def aHD:T:=.loop tI (.ci .i64 0) <|
 .bPX (.bQ0 3 tI) (.Z 0) <|
 .bPX (.cmp .lss .i64) (.bPY tI tI (.Z 1) (.Z 2)) <|
 .ite (.Z 3) (
  .bPX (.bQ1 3 tI) (.bPY aB tI (.Z 0) (.Z 1)) <|
  .call 0 (.Z 4) <|
  .bPX .not (.Z 5) <|
  .ite (.Z 6) (
   .ret (.cb false)) (
   .bPX (.ar .add .i64) (.bPY tI tI (.Z 1) (.ci .i64 1)) <|
   .bPZ 0 (.Z 7))) (
  .bPX (.bQ0 3 tI) (.Z 0) <|
  .call 1 (bP (.bPW tI aD) [(.Z 4),(.ci .i64 1),(.ci .i64 6)]) <|
  .ret (.Z 5))
theorem bFK:bW Tryz.prog [nO,cJ] wY false 3000 ⟨[(2993,1001,[.tm 3 0])],[]⟩ = .ok aHD:=by kernel_rfl
theorem bEY (x:List Int) (hx:okD aB x) (hp:(fun _=>True) x):aHD.wp [nO,cJ] [⟨aB,x⟩] [] (fun v=>v.as .bool=(fun x=>nE x) x):=by
 have hp:List.length x≤9223372036854775807:=hx.1
 delta aHD nO cJ;refine dY ?_
 refine ⟨fun s=>∃ k:Nat,k≤x.length∧s=(k:Int)∧(x.take k).all gM=true,fun s=>x.length - (s:Int).toNat,⟨0,by omega,rfl,rfl⟩,fun s _ hI=>?_⟩
 obtain ⟨k,hk,rfl,ha⟩:=hI
 refine eD ?_
 intro _
 constructor
 ·intro hlt
  have hk':k<x.length:=by omega
  rw[aW hk']
  have e:=qF gM x hk'
  (repeat' first|intro _|(with_reducible apply And.intro))
  all_goals first|omega|skip
  ·have:=yF hk' (by assumption)
   unfold nE
   rw[this]
   simp
  ·exact ⟨k+1,by omega,rfl,by rw[e,ha];simpa using ‹gM _=true›⟩
 ·intro hge
  have:k=x.length:=by omega
  subst this
  rw[List.take_length] at ha
  intro _
  rw[Bool.eq_iff_iff,dB,ha]
  simp only[uP,and_true]
  omega
theorem bFB:Con.Holds Tryz.prog wY:=aX aZ (aG aP8 (aG kF aT)) bFK bEY
def lD:Con:=⟨93,bU,tI,[.val ⟨true,bU,[]⟩],[⟨false,tI,[0]⟩],false,none,
 ((fun _=>True):(cZ)→Prop),
 ((fun x=>dZ x):(cZ)→(Int))⟩
def aDA:T:=.call 0 (bP (.bPW tI aD) [(aH bU 1 (.Z 0)),(.ci .i64 1),(.ci .i64 6)]) <|
 .bPX .not (.Z 1) <|
 .ite (.Z 2) (
  .ret (.ci .i64 0)) (
  .call 0 (bP (.bPW tI aD) [(aH bU 2 (.Z 0)),(.ci .i64 1),(.ci .i64 6)]) <|
  .bPX .not (.Z 3) <|
  .ite (.Z 4) (
   .ret (.ci .i64 0)) (
   .bPX (.cmp .eql .i64) (.bPY tI tI (.p1 tI (.bPW tI aI) (.Z 0)) (.ci .i64 1)) <|
   .ite (.Z 5) (
    .bPX (.ar .mul .i64) (.bPY tI tI (aH bU 1 (.Z 0)) (aH bU 2 (.Z 0))) <|
    .ret (.Z 6)) (
    .bPX (.cmp .eql .i64) (.bPY tI tI (.p1 tI (.bPW tI aI) (.Z 0)) (.ci .i64 5)) <|
    .ite (.Z 6) (
     .bPX (.ar .mul .i64) (.bPY tI tI (aH bU 1 (.Z 0)) (aH bU 2 (.Z 0))) <|
     .ret (.Z 7)) (
     .bPX (.cmp .eql .i64) (.bPY tI tI (.p1 tI (.bPW tI aI) (.Z 0)) (.ci .i64 2)) <|
     .ite (.Z 7) (
      .ret (aH bU 1 (.Z 0))) (
      .bPX (.cmp .eql .i64) (.bPY tI tI (.p1 tI (.bPW tI aI) (.Z 0)) (.ci .i64 4)) <|
      .ite (.Z 8) (
       .ret (.ci .i64 1)) (
       .ret (.ci .i64 0)))))))
theorem bAK:bW Tryz.prog [cJ] lD false 3000 ⟨[],[]⟩ = .ok aDA:=by kernel_rfl
theorem aXH (x:cZ) (hx:okD bU x) (hp:(fun _=>True) x):aDA.wp [cJ] [⟨bU,x⟩] [] (fun v=>v.as tI=(fun x=>dZ x) x):=by
 delta aDA cJ;refine dY ?_;try with_reducible exact True.intro
 (repeat' first|intro _|(with_reducible apply And.intro))
 all_goals simp only[uP] at *
 all_goals first|omega|(have:=aTZ (a:=x.2.1) (b:=x.2.2.1) (by omega) (by omega) (by omega) (by omega);omega)|exact aTN (by omega)|exact aTJ (by omega)|exact aUW (by omega)|exact aL6 (by omega)
theorem aL2:Con.Holds Tryz.prog lD:=aX aZ (aG kF aT) bAK aXH
def aA6:Con:=⟨61,bU,.bool,[.val ⟨true,bU,[]⟩],[⟨false,.bool,[0]⟩],false,none,
 ((fun _=>True):(cZ)→Prop),
 ((fun x=>opB x):(cZ)→(Bool))⟩
def aKZ:T:=.call 0 (bP (.bPW tI aD) [(.p1 tI (.bPW tI aI) (.Z 0)),(.ci .i64 1),(.ci .i64 5)]) <|
 .bPX .not (.Z 1) <|
 .ite (.Z 2) (
  .ret (.cb false)) (
  .call 0 (bP (.bPW tI aD) [(aH bU 1 (.Z 0)),(.ci .i64 1),(.ci .i64 6)]) <|
  .bPX .not (.Z 3) <|
  .ite (.Z 4) (
   .ret (.cb false)) (
   .call 0 (bP (.bPW tI aD) [(aH bU 2 (.Z 0)),(.ci .i64 1),(.ci .i64 6)]) <|
   .bPX .not (.Z 5) <|
   .ite (.Z 6) (
    .ret (.cb false)) (
    .bPX (.cmp .neq .i64) (.bPY tI tI (.p1 tI (.bPW tI aI) (.Z 0)) (.ci .i64 1)) <|
    .ite (.Z 7) (
     .bPX (.cmp .neq .i64) (.bPY tI tI (aH bU 1 (.Z 0)) (aH bU 2 (.Z 0))) <|
     .ite (.Z 8) (
      .ret (.cb false)) (
      .bPX (.bQ0 3 tI) (aS bU 3 (.Z 0)) <|
      .call 1 (.Z 0) <|
      .bPX (.cmp .neq .i64) (.bPY tI tI (.Z 9) (.Z 10)) <|
      .ite (.Z 11) (
       .ret (.cb false)) (
       .loop tI (.ci .i64 0) <|
        .bPX (.bQ0 3 tI) (aS bU 3 (.Z 0)) <|
        .bPX (.cmp .lss .i64) (.bPY tI tI (.Z 12) (.Z 13)) <|
        .ite (.Z 14) (
         .bPX (.bQ1 3 tI) (.bPY aB tI (aS bU 3 (.Z 0)) (.Z 12)) <|
         .call 2 (.Z 15) <|
         .bPX .not (.Z 16) <|
         .ite (.Z 17) (
          .ret (.cb false)) (
          .bPX (.ar .add .i64) (.bPY tI tI (.Z 12) (.ci .i64 1)) <|
          .bPZ 0 (.Z 18))) (
         .ret (.cb true))))) (
     .bPX (.bQ0 3 tI) (aS bU 3 (.Z 0)) <|
     .call 1 (.Z 0) <|
     .bPX (.cmp .neq .i64) (.bPY tI tI (.Z 8) (.Z 9)) <|
     .ite (.Z 10) (
      .ret (.cb false)) (
      .loop tI (.ci .i64 0) <|
       .bPX (.bQ0 3 tI) (aS bU 3 (.Z 0)) <|
       .bPX (.cmp .lss .i64) (.bPY tI tI (.Z 11) (.Z 12)) <|
       .ite (.Z 13) (
        .bPX (.bQ1 3 tI) (.bPY aB tI (aS bU 3 (.Z 0)) (.Z 11)) <|
        .call 2 (.Z 14) <|
        .bPX .not (.Z 15) <|
        .ite (.Z 16) (
         .ret (.cb false)) (
         .bPX (.ar .add .i64) (.bPY tI tI (.Z 11) (.ci .i64 1)) <|
         .bPZ 0 (.Z 17))) (
        .ret (.cb true)))))))
theorem bGP:bW Tryz.prog [cJ,lD,nO] aA6 false 3000 ⟨[(2988,72012,jV 39 28++[.dr 26,.dr 27]++jV 25 4++[.dr 0,.tm 3 0]),(2988,32011,jV 39 28++[.dr 26,.dr 27]++jV 25 4++[.dr 0,.tm 3 0])],[]⟩ = .ok aKZ:=by kernel_rfl
theorem bI3 (x:cZ) (hx:okD bU x) (hp:(fun _=>True) x):aKZ.wp [cJ,lD,nO] [⟨bU,x⟩] [] (fun v=>v.as .bool=(fun x=>opB x) x):=by
  have hp:List.length x.2.2.2≤9223372036854775807:=hx.2.2.2.1
  delta aKZ cJ lD nO;refine dY ?_;try with_reducible exact True.intro
  (repeat' first|intro _|(with_reducible apply And.intro))
  all_goals simp only[uP] at *
  all_goals first|assumption|(first|(refine (Bool.eq_false_iff.2 ?_).symm;rw[ne_eq,eH];intro hh;omega)|(refine (eH.2 ?_).symm;omega))|skip
  all_goals refine ⟨fun s=>∃ k:Nat,k≤x.2.2.2.length∧s=(k:Int)∧(x.2.2.2.take k).all gM=true,fun s=>x.2.2.2.length - (s:Int).toNat,⟨0,by omega,rfl,rfl⟩,fun s _ hI=>?_⟩
  all_goals obtain ⟨k,hk,rfl,ha⟩:=hI
  all_goals (refine eD ?_;try with_reducible exact True.intro)
  all_goals intro _
  all_goals have hin:k<x.2.2.2.length→x.2.2.2.getD k 0=x.2.2.2.getD k (0:Int):=fun _=>rfl
  all_goals constructor
  all_goals intro hlt
  all_goals first
    | (have hk':k<x.2.2.2.length:=by omega
       rw[aW hk']
       have e:=qF gM x.2.2.2 hk'
       refine ⟨by omega,fun _=>⟨fun hf=>?_,fun hf=>⟨by omega,fun _=>⟨⟨k+1,by omega,rfl,by rw[e,ha,hf];rfl⟩,by omega⟩⟩⟩⟩
       have hb:=yF hk' hf
       refine (Bool.eq_false_iff.2 fun h=>?_).symm
       rw[eH] at h
       rw[hb] at h
       exact Bool.noConfusion h.2)
    | (have:k=x.2.2.2.length:=by omega
       subst this
       rw[List.take_length] at ha
       exact ((eH x).2 ⟨by omega,ha⟩).symm)
theorem bHO:Con.Holds Tryz.prog aA6:=aX aZ (aG kF (aG aL2 (aG aP8 aT))) bGP bI3
def dJ:Con:=⟨29,aE,.bool,[.val ⟨true,aE,[]⟩],[⟨false,.bool,[0]⟩],false,none,
 ((fun _=>True):(bE)→Prop),
 ((fun x=>bO x):(bE)→(Bool))⟩
def aBN:T:=.loop tI (.ci .i64 0) <|
 .bPX (.bQ0 80 bU) (.Z 0) <|
 .bPX (.cmp .lss .i64) (.bPY tI tI (.Z 1) (.Z 2)) <|
 .ite (.Z 3) (
  .bPX (.bQ1 80 bU) (.bPY aE tI (.Z 0) (.Z 1)) <|
  .call 0 (.Z 4) <|
  .bPX .not (.Z 5) <|
  .ite (.Z 6) (
   .ret (.cb false)) (
   .bPX (.cmp .gtr .i64) (.bPY tI tI (.Z 1) (.ci .i64 0)) <|
   .ite (.Z 7) (
    .bPX (.ar .sub .i64) (.bPY tI tI (.Z 1) (.ci .i64 1)) <|
    .bPX (.bQ1 80 bU) (.bPY aE tI (.Z 0) (.Z 1)) <|
    .bPX (.bQ1 80 bU) (.bPY aE tI (.Z 0) (.Z 8)) <|
    .bPX (.cmp .neq .i64) (.bPY tI tI (aH bU 1 (.Z 9)) (aH bU 2 (.Z 10))) <|
    .ite (.Z 11) (
     .ret (.cb false)) (
     .bPX (.ar .add .i64) (.bPY tI tI (.Z 1) (.ci .i64 1)) <|
     .bPZ 0 (.Z 12))) (
    .bPX (.ar .add .i64) (.bPY tI tI (.Z 1) (.ci .i64 1)) <|
    .bPZ 0 (.Z 8)))) (
  .bPX (.bQ0 80 bU) (.Z 0) <|
  .call 1 (bP (.bPW tI aD) [(.Z 4),(.ci .i64 1),(.ci .i64 8)]) <|
  .ret (.Z 5))
theorem aSY:bW Tryz.prog [aA6,cJ] dJ false 3000 ⟨[(2993,1001,[.dr 0,.tm 3 0])],[]⟩ = .ok aBN:=by kernel_rfl
theorem aV5 (x:bE) (hx:okD aE x) (hp:(fun _=>True) x):aBN.wp [aA6,cJ] [⟨aE,x⟩] [] (fun v=>v.as .bool=(fun x=>bO x) x):=by
 obtain ⟨hp1,hp2⟩:List.length x≤9223372036854775807∧∀ o∈(x:List cZ),List.length o.2.2.2≤9223372036854775807:=⟨hx.1,fun o ho=>(hx.2 o ho).2.2.2.1⟩
 delta aBN aA6 cJ;refine dY ?_
 refine ⟨fun s=>∃ k:Nat,k≤x.length∧s=(k:Int)∧∀ i,i<k→aLV x i=true,fun s=>x.length - (s:Int).toNat,⟨0,by omega,rfl,by omega⟩,fun s _ hI=>?_⟩
 obtain ⟨k,hk,rfl,ha⟩:=hI
 refine eD ?_
 intro _
 constructor
 ·intro hlt
  have hk':k<x.length:=by omega
  rw[aW hk',aW (show k - 1<x.length by omega)]
  have e:=iO x hk'
  have hm:=hp2 _ (List.getElem_mem hk')
  (repeat' first|intro _|(with_reducible apply And.intro))
  all_goals first|omega|exact hm|skip
  all_goals first|(refine aKY hk' fun h=>?_;rw[e] at h;obtain ⟨h1,h2⟩:=h;first|(simp_all;done)|omega)|skip
  all_goals refine ⟨k+1,by omega,rfl,fun i hi=>?_⟩
  all_goals rcases Nat.lt_or_eq_of_le (Nat.le_of_lt_succ hi) with h|rfl
  all_goals first|exact ha i h|(refine e.2 ⟨by assumption,?_⟩;first|exact .inl (by omega)|exact .inr (by assumption)|exact .inr (by omega))
 ·intro hge
  have:k=x.length:=by omega
  subst this
  intro _
  rw[Bool.eq_iff_iff,bM]
  refine eD ?_
  constructor
  ·intro h;exact ⟨by omega,by omega,ha⟩
  ·intro h;omega
theorem qJ:Con.Holds Tryz.prog dJ:=aX aZ (aG bHO (aG kF aT)) aSY aV5
end
end Go.Proofs.YtpafjioccjpmfaaGreat
