/- Ops2: lemmas. No conditions. -/
import Derived.Test.YtpleleanibgniaaGreatGr2
namespace Go.Proofs.YtpleleanibgniaaGreat
noncomputable section
set_option maxRecDepth 100000
open Go.ChangeShapes Go.WideShapes Go.ChangeAt Go.RowKit Go.Deep
set_option linter.unusedVariables false
set_option linter.unusedSimpArgs false
def kO (v:List Int):Bool:=decide (1≤v.length)&&(decide (v.length≤6)&&v.all iI)
theorem dB (v:List Int):kO v=true↔1≤v.length∧v.length≤6∧v.all iI=true:=by unfold kO;simp only[Bool.and_eq_true,decide_eq_true_eq]
def fG (o:dE):Int:=if o.2.1<1∨6<o.2.1∨o.2.2.1<1∨6<o.2.2.1 then 0 else if o.1=1∨o.1=5 then o.2.1 * o.2.2.1 else if o.1=2 then o.2.1 else if o.1=4 then 1 else 0
def opB (o:dE):Bool:=decide (1≤o.1∧o.1≤5∧1≤o.2.1∧o.2.1≤6∧1≤o.2.2.1∧o.2.2.1≤6∧(o.1≠1→o.2.1=o.2.2.1)∧(o.2.2.2.length:Int)=fG o)&&o.2.2.2.all iI
theorem gG (o:dE):opB o=true↔(1≤o.1∧o.1≤5∧1≤o.2.1∧o.2.1≤6∧1≤o.2.2.1∧o.2.2.1≤6∧(o.1≠1→o.2.1=o.2.2.1)∧(o.2.2.2.length:Int)=fG o)∧o.2.2.2.all iI=true:=by
 unfold opB;simp only[Bool.and_eq_true,decide_eq_true_eq]
def zOp:dE:=(0,0,0,[])
def aHB (m:List dE) (i:Nat):Bool:=opB (m.getD i zOp)&&(decide (i=0) || decide ((m.getD (i - 1) zOp).2.2.1=(m.getD i zOp).2.1))
theorem xB (m:List dE) {i:Nat} (h:i<m.length):aHB m i=true↔opB m[i]=true∧(i=0∨(m[i - 1]'(by omega)).2.2.1=m[i].2.1):=by
 unfold aHB
 rw[bD h,bD (show i - 1<m.length by omega)]
 simp only[Bool.and_eq_true,Bool.or_eq_true,decide_eq_true_eq]
def bT (m:List dE):Bool:=decide (1≤m.length)&&(decide (m.length≤8)&&(List.range m.length).all (aHB m))
theorem bR (m:List dE):bT m=true↔1≤m.length∧m.length≤8∧∀ i,i<m.length→aHB m i=true:=by
 unfold bT;simp only[Bool.and_eq_true,decide_eq_true_eq,List.all_eq_true,List.mem_range]
theorem aIG {m:List dE} {i:Nat} (h:i<m.length) (hb:¬ aHB m i=true):false=bT m:=by
 refine (Bool.eq_false_iff.2 ?_).symm
 rw[ne_eq,bR]
 exact fun hh=>hb (hh.2.2 i h)
theorem aPQ {o:dE} (h:o.2.1<1∨6<o.2.1∨o.2.2.1<1∨6<o.2.2.1∨(o.1≠1∧o.1≠5∧o.1≠2∧o.1≠4)):0=fG o:=by
 unfold fG
 split
 ·rfl
 ·rw[if_neg (by omega),if_neg (by omega),if_neg (by omega)]
theorem aQK {o:dE} (h:1≤o.2.1∧o.2.1≤6∧1≤o.2.2.1∧o.2.2.1≤6∧(o.1=1∨o.1=5)):o.2.1 * o.2.2.1=fG o:=by
 unfold fG;rw[if_neg (by omega),if_pos (by omega)]
theorem aRC {o:dE} (h:1≤o.2.1∧o.2.1≤6∧1≤o.2.2.1∧o.2.2.1≤6∧o.1=2):o.2.1=fG o:=by
 unfold fG;rw[if_neg (by omega),if_neg (by omega),if_pos (by omega)]
theorem aJ1 {o:dE} (h:1≤o.2.1∧o.2.1≤6∧1≤o.2.2.1∧o.2.2.1≤6∧o.1=4):1=fG o:=by
 unfold fG;rw[if_neg (by omega),if_neg (by omega),if_neg (by omega),if_pos (by omega)]
theorem aOS {a b:Int} (h1:1≤a) (h2:a≤6) (h3:1≤b) (h4:b≤6):0≤a * b∧a * b≤36 :=
 ⟨Int.mul_nonneg (by omega) (by omega),Int.le_trans (Int.mul_le_mul h2 h4 (by omega) (by omega)) (by omega)⟩
def fS:Con:=⟨95,aB,.bool,[.val ⟨false,aB,[]⟩],[⟨false,.bool,[0]⟩],false,none,
 ((fun _=>True):(List Int)→Prop),
 ((fun x=>List.all x iI):(List Int)→(Bool))⟩
def aA8:T :=
 .bJ3 (.bJ6 3 tI) (.Z 0) <|
 .loop tI (.ci .i64 0) <|
  .bJ3 (.cmp .lss .i64) (.bJ4 tI tI (.Z 2) (.Z 1)) <|
  .ite (.Z 3) (
   .bJ3 (.bJ7 3 tI) (.bJ4 aB tI (.Z 0) (.Z 2)) <|
   .call 0 (.Z 4) <|
   .bJ3 .not (.Z 5) <|
   .ite (.Z 6) (
    .ret (.cb false)) (
    .bJ3 (.ar .add .i64) (.bJ4 tI tI (.Z 2) (.ci .i64 1)) <|
    .bJ5 0 (.Z 7))) (
   .ret (.cb true))
theorem aTQ:bV Tryz.prog [gW] fS false 3000 ⟨[(2993,1002,[.dr 0,.tm 7 0])],[]⟩ = .ok aA8:=by kernel_rfl
theorem aRZ (x:List Int) (hx:okD aB x) (hp:(fun _=>True) x):aA8.wp [gW] [⟨aB,x⟩] [] (fun v=>v.as .bool=(fun x=>List.all x iI) x):=by
 have hp:List.length x≤9223372036854775807:=hx.1
 delta aA8 gW;refine eE ?_
 intro _
 refine ⟨fun s=>∃ k:Nat,k≤x.length∧s=(k:Int)∧(x.take k).all iI=true,fun s=>x.length - (s:Int).toNat,⟨0,by omega,rfl,rfl⟩,fun s _ hI=>?_⟩
 obtain ⟨k,hk,rfl,ha⟩:=hI
 refine eL ?_
 constructor
 ·intro hlt
  have hk':k<x.length:=by omega
  rw[bD hk']
  have e:=tE iI x hk'
  (repeat' first|intro _|(with_reducible apply And.intro))
  all_goals first|omega|skip
  ·exact (zI hk' (by assumption)).symm
  ·exact ⟨k+1,by omega,rfl,by rw[e,ha];simpa using ‹iI _=true›⟩
 ·intro hge
  have:k=x.length:=by omega
  subst this
  rw[List.take_length] at ha
  exact ha.symm
theorem aAP:Con.Holds Tryz.prog fS:=aV aX (aG aDX aT) aTQ aRZ
def pW:Con:=⟨118,bN,tI,[.val ⟨true,bN,[]⟩],[⟨false,tI,[0]⟩],false,none,
 ((fun _=>True):(dE)→Prop),
 ((fun x=>fG x):(dE)→(Int))⟩
def aAF:T :=
 .bJ3 (.cmp .lss .i64) (.bJ4 tI tI (aJ bN 1 (.Z 0)) (.ci .i64 1)) <|
 .ite (.Z 1) (
  .ret (.ci .i64 0)) (
  .bJ3 (.cmp .gtr .i64) (.bJ4 tI tI (aJ bN 1 (.Z 0)) (.ci .i64 6)) <|
  .ite (.Z 2) (
   .ret (.ci .i64 0)) (
   .bJ3 (.cmp .lss .i64) (.bJ4 tI tI (aJ bN 2 (.Z 0)) (.ci .i64 1)) <|
   .ite (.Z 3) (
    .ret (.ci .i64 0)) (
    .bJ3 (.cmp .gtr .i64) (.bJ4 tI tI (aJ bN 2 (.Z 0)) (.ci .i64 6)) <|
    .ite (.Z 4) (
     .ret (.ci .i64 0)) (
     .bJ3 (.cmp .eql .i64) (.bJ4 tI tI (.p1 tI (.bJ2 tI aI) (.Z 0)) (.ci .i64 1)) <|
     .ite (.Z 5) (
      .bJ3 (.ar .mul .i64) (.bJ4 tI tI (aJ bN 1 (.Z 0)) (aJ bN 2 (.Z 0))) <|
      .ret (.Z 6)) (
      .bJ3 (.cmp .eql .i64) (.bJ4 tI tI (.p1 tI (.bJ2 tI aI) (.Z 0)) (.ci .i64 5)) <|
      .ite (.Z 6) (
       .bJ3 (.ar .mul .i64) (.bJ4 tI tI (aJ bN 1 (.Z 0)) (aJ bN 2 (.Z 0))) <|
       .ret (.Z 7)) (
       .bJ3 (.cmp .eql .i64) (.bJ4 tI tI (.p1 tI (.bJ2 tI aI) (.Z 0)) (.ci .i64 2)) <|
       .ite (.Z 7) (
        .ret (aJ bN 1 (.Z 0))) (
        .bJ3 (.cmp .eql .i64) (.bJ4 tI tI (.p1 tI (.bJ2 tI aI) (.Z 0)) (.ci .i64 4)) <|
        .ite (.Z 8) (
         .ret (.ci .i64 1)) (
         .ret (.ci .i64 0)))))))))
theorem aTS:bV Tryz.prog [] pW false 3000 ⟨[],[]⟩ = .ok aAF:=by kernel_rfl
theorem aUY (x:dE) (hx:okD bN x) (hp:(fun _=>True) x):aAF.wp [] [⟨bN,x⟩] [] (fun v=>v.as tI=(fun x=>fG x) x):=by
 delta aAF;refine eE ?_;try with_reducible exact True.intro
 (repeat' first|intro _|(with_reducible apply And.intro))
 all_goals simp only[zO] at *
 all_goals first|omega|(have:=aOS (a:=x.2.1) (b:=x.2.2.1) (by omega) (by omega) (by omega) (by omega);omega)|exact aPQ (by omega)|exact aQK (by omega)|exact aRC (by omega)|exact aJ1 (by omega)
theorem aT8:Con.Holds Tryz.prog pW:=aV aX aT aTS aUY
def jJ:Con:=⟨108,bN,.bool,[.val ⟨true,bN,[]⟩],[⟨false,.bool,[0]⟩],false,none,
 ((fun _=>True):(dE)→Prop),
 ((fun x=>opB x):(dE)→(Bool))⟩
def aH8:T :=
 .bJ3 (.cmp .lss .i64) (.bJ4 tI tI (.p1 tI (.bJ2 tI aI) (.Z 0)) (.ci .i64 1)) <|
 .ite (.Z 1) (
  .ret (.cb false)) (
  .bJ3 (.cmp .gtr .i64) (.bJ4 tI tI (.p1 tI (.bJ2 tI aI) (.Z 0)) (.ci .i64 5)) <|
  .ite (.Z 2) (
   .ret (.cb false)) (
   .bJ3 (.cmp .lss .i64) (.bJ4 tI tI (aJ bN 1 (.Z 0)) (.ci .i64 1)) <|
   .ite (.Z 3) (
    .ret (.cb false)) (
    .bJ3 (.cmp .gtr .i64) (.bJ4 tI tI (aJ bN 1 (.Z 0)) (.ci .i64 6)) <|
    .ite (.Z 4) (
     .ret (.cb false)) (
     .bJ3 (.cmp .lss .i64) (.bJ4 tI tI (aJ bN 2 (.Z 0)) (.ci .i64 1)) <|
     .ite (.Z 5) (
      .ret (.cb false)) (
      .bJ3 (.cmp .gtr .i64) (.bJ4 tI tI (aJ bN 2 (.Z 0)) (.ci .i64 6)) <|
      .ite (.Z 6) (
       .ret (.cb false)) (
       .bJ3 (.cmp .neq .i64) (.bJ4 tI tI (.p1 tI (.bJ2 tI aI) (.Z 0)) (.ci .i64 1)) <|
       .ite (.Z 7) (
        .bJ3 (.cmp .neq .i64) (.bJ4 tI tI (aJ bN 1 (.Z 0)) (aJ bN 2 (.Z 0))) <|
        .ite (.Z 8) (
         .ret (.cb false)) (
         .bJ3 (.bJ6 3 tI) (aR bN 3 (.Z 0)) <|
         .call 0 (.Z 0) <|
         .bJ3 (.cmp .eql .i64) (.bJ4 tI tI (.Z 9) (.Z 10)) <|
         .ite (.Z 11) (
          .call 1 (aR bN 3 (.Z 0)) <|
          .ret (.Z 12)) (
          .ret (.cb false)))) (
        .bJ3 (.bJ6 3 tI) (aR bN 3 (.Z 0)) <|
        .call 0 (.Z 0) <|
        .bJ3 (.cmp .eql .i64) (.bJ4 tI tI (.Z 8) (.Z 9)) <|
        .ite (.Z 10) (
         .call 1 (aR bN 3 (.Z 0)) <|
         .ret (.Z 11)) (
         .ret (.cb false)))))))))
theorem bC1:bV Tryz.prog [pW,fS] jJ false 3000 ⟨[],[]⟩ = .ok aH8:=by kernel_rfl
theorem bAI (x:dE) (hx:okD bN x) (hp:(fun _=>True) x):aH8.wp [pW,fS] [⟨bN,x⟩] [] (fun v=>v.as .bool=(fun x=>opB x) x):=by
 have hp:List.length x.2.2.2≤9223372036854775807:=hx.2.2.2.1
 delta aH8 pW fS;refine eE ?_;try with_reducible exact True.intro
 (repeat' first|intro _|(with_reducible apply And.intro))
 all_goals simp only[zO] at *
 all_goals first|assumption|(first|(refine (Bool.eq_false_iff.2 ?_).symm;rw[ne_eq,gG];intro hh;omega)|(refine (gG.2 ?_).symm;omega))|(rw[Bool.eq_iff_iff,gG];exact ⟨fun h=>⟨by omega,h⟩,fun h=>h.2⟩)
theorem aHS:Con.Holds Tryz.prog jJ:=aV aX (aG aT8 (aG aAP aT)) bC1 bAI
def dL:Con:=⟨96,aD,.bool,[.val ⟨true,aD,[]⟩],[⟨false,.bool,[0]⟩],false,none,
 ((fun _=>True):(aW)→Prop),
 ((fun x=>bT x):(aW)→(Bool))⟩
def wT:T :=
 .bJ3 (.bJ6 93 bN) (.Z 0) <|
 .bJ3 (.cmp .lss .i64) (.bJ4 tI tI (.Z 1) (.ci .i64 1)) <|
 .ite (.Z 2) (
  .ret (.cb false)) (
  .bJ3 (.bJ6 93 bN) (.Z 0) <|
  .bJ3 (.cmp .gtr .i64) (.bJ4 tI tI (.Z 3) (.ci .i64 8)) <|
  .ite (.Z 4) (
   .ret (.cb false)) (
   .bJ3 (.bJ6 93 bN) (.Z 0) <|
   .loop tI (.ci .i64 0) <|
    .bJ3 (.cmp .lss .i64) (.bJ4 tI tI (.Z 6) (.Z 5)) <|
    .ite (.Z 7) (
     .bJ3 (.bJ7 93 bN) (.bJ4 aD tI (.Z 0) (.Z 6)) <|
     .call 0 (.Z 8) <|
     .bJ3 .not (.Z 9) <|
     .ite (.Z 10) (
      .ret (.cb false)) (
      .bJ3 (.cmp .gtr .i64) (.bJ4 tI tI (.Z 6) (.ci .i64 0)) <|
      .ite (.Z 11) (
       .bJ3 (.ar .sub .i64) (.bJ4 tI tI (.Z 6) (.ci .i64 1)) <|
       .bJ3 (.bJ7 93 bN) (.bJ4 aD tI (.Z 0) (.Z 12)) <|
       .bJ3 (.cmp .neq .i64) (.bJ4 tI tI (aJ bN 2 (.Z 13)) (aJ bN 1 (.Z 8))) <|
       .ite (.Z 14) (
        .ret (.cb false)) (
        .bJ3 (.ar .add .i64) (.bJ4 tI tI (.Z 6) (.ci .i64 1)) <|
        .bJ5 0 (.Z 15))) (
       .bJ3 (.ar .add .i64) (.bJ4 tI tI (.Z 6) (.ci .i64 1)) <|
       .bJ5 0 (.Z 12)))) (
     .ret (.cb true))))
theorem aQ1:bV Tryz.prog [jJ] dL false 3000 ⟨[(2988,4006,mW 15 5++[.dr 0,.tm 18 0])],[]⟩ = .ok wT:=by kernel_rfl
theorem aPZ (x:aW) (hx:okD aD x) (hp:(fun _=>True) x):wT.wp [jJ] [⟨aD,x⟩] [] (fun v=>v.as .bool=(fun x=>bT x) x):=by
 obtain ⟨hp1,hp2⟩:List.length x≤9223372036854775807∧∀ o∈(x:List dE),List.length o.2.2.2≤9223372036854775807:=⟨hx.1,fun o ho=>(hx.2 o ho).2.2.2.1⟩
 delta wT jJ;refine eE ?_;try with_reducible exact True.intro
 (repeat' first|intro _|(with_reducible apply And.intro))
 all_goals simp only[zO] at *
 ·(first|(refine (Bool.eq_false_iff.2 ?_).symm;rw[ne_eq,bR];intro hh;omega)|(refine (bR.2 ?_).symm;omega))
 ·(first|(refine (Bool.eq_false_iff.2 ?_).symm;rw[ne_eq,bR];intro hh;omega)|(refine (bR.2 ?_).symm;omega))
 refine ⟨fun s=>∃ k:Nat,k≤x.length∧s=(k:Int)∧∀ i,i<k→aHB x i=true,fun s=>x.length - (s:Int).toNat,⟨0,by omega,rfl,by omega⟩,fun s _ hI=>?_⟩
 obtain ⟨k,hk,rfl,ha⟩:=hI
 refine eL ?_
 constructor
 ·intro hlt
  have hk':k<x.length:=by omega
  rw[bD hk',bD (show k - 1<x.length by omega)]
  have e:=xB x hk'
  have hm:=hp2 _ (List.getElem_mem hk')
  (repeat' first|intro _|(with_reducible apply And.intro))
  all_goals first|omega|exact hm|skip
  all_goals first|(refine aIG hk' fun h=>?_;rw[e] at h;obtain ⟨h1,h2⟩:=h;first|(simp_all;done)|omega)|skip
  all_goals refine ⟨k+1,by omega,rfl,fun i hi=>?_⟩
  all_goals rcases Nat.lt_or_eq_of_le (Nat.le_of_lt_succ hi) with h|rfl
  all_goals first|exact ha i h|(refine e.2 ⟨by assumption,?_⟩;first|exact .inl (by omega)|exact .inr (by assumption)|exact .inr (by omega))
 ·intro hge
  have:k=x.length:=by omega
  subst this
  refine ((bR x).2 ⟨?_,?_,ha⟩).symm <;> omega
theorem rF:Con.Holds Tryz.prog dL:=aV aX (aG aHS aT) aQ1 aPZ
def kX:Con:=⟨71,tI,.bool,[.val ⟨false,tI,[]⟩],[⟨false,.bool,[0]⟩],false,none,
 ((fun _=>True):(Int)→Prop),
 ((fun x=>iI x):(Int)→(Bool))⟩
def aEC:T:=.call 0 (bJ (.bJ2 tI aC) [(.Z 0),(.ci .i64 (-2147483647)),(.ci .i64 2147483647)]) <|.ret (.Z 1)
theorem aX9:bV Tryz.prog [bY] kX false 3000 ⟨[],[]⟩ = .ok aEC:=by kernel_rfl
theorem aY0 (x:Int) (hx:okD tI x) (hp:(fun _=>True) x):aEC.wp [bY] [⟨tI,x⟩] [] (fun v=>v.as .bool=(fun x=>iI x) x):=by
 delta aEC bY;refine eE ?_
 rw[Bool.eq_iff_iff,vV]
 (refine eL ?_;try with_reducible exact True.intro)
theorem aKK:Con.Holds Tryz.prog kX:=aV aX (aG iJ aT) aX9 aY0
def sW:Con:=⟨43,aB,.bool,[.val ⟨false,aB,[]⟩],[⟨false,.bool,[0]⟩],false,none,
 ((fun _=>True):(List Int)→Prop),
 ((fun x=>kO x):(List Int)→(Bool))⟩
def aEF:T:=.loop tI (.ci .i64 0) <|
 .bJ3 (.bJ6 3 tI) (.Z 0) <|
 .bJ3 (.cmp .lss .i64) (.bJ4 tI tI (.Z 1) (.Z 2)) <|
 .ite (.Z 3) (
  .bJ3 (.bJ7 3 tI) (.bJ4 aB tI (.Z 0) (.Z 1)) <|
  .call 0 (.Z 4) <|
  .bJ3 .not (.Z 5) <|
  .ite (.Z 6) (
   .ret (.cb false)) (
   .bJ3 (.ar .add .i64) (.bJ4 tI tI (.Z 1) (.ci .i64 1)) <|
   .bJ5 0 (.Z 7))) (
  .bJ3 (.bJ6 3 tI) (.Z 0) <|
  .call 1 (bJ (.bJ2 tI aC) [(.Z 4),(.ci .i64 1),(.ci .i64 6)]) <|
  .ret (.Z 5))
theorem aX6:bV Tryz.prog [kX,bY] sW false 3000 ⟨[(2993,1001,[.tm 3 0])],[]⟩ = .ok aEF:=by kernel_rfl
theorem aYH (x:List Int) (hx:okD aB x) (hp:(fun _=>True) x):aEF.wp [kX,bY] [⟨aB,x⟩] [] (fun v=>v.as .bool=(fun x=>kO x) x):=by
 have hp:List.length x≤9223372036854775807:=hx.1
 delta aEF kX bY;refine eE ?_
 refine ⟨fun s=>∃ k:Nat,k≤x.length∧s=(k:Int)∧(x.take k).all iI=true,fun s=>x.length - (s:Int).toNat,⟨0,by omega,rfl,rfl⟩,fun s _ hI=>?_⟩
 obtain ⟨k,hk,rfl,ha⟩:=hI
 refine eL ?_
 intro _
 constructor
 ·intro hlt
  have hk':k<x.length:=by omega
  rw[bD hk']
  have e:=tE iI x hk'
  (repeat' first|intro _|(with_reducible apply And.intro))
  all_goals first|omega|skip
  ·have:=zI hk' (by assumption)
   unfold kO
   rw[this]
   simp
  ·exact ⟨k+1,by omega,rfl,by rw[e,ha];simpa using ‹iI _=true›⟩
 ·intro hge
  have:k=x.length:=by omega
  subst this
  rw[List.take_length] at ha
  intro _
  rw[Bool.eq_iff_iff,dB,ha]
  simp only[zO,and_true]
  omega
theorem aYY:Con.Holds Tryz.prog sW:=aV aX (aG aKK (aG iJ aT)) aX6 aYH
def iU:Con:=⟨70,bN,tI,[.val ⟨true,bN,[]⟩],[⟨false,tI,[0]⟩],false,none,
 ((fun _=>True):(dE)→Prop),
 ((fun x=>fG x):(dE)→(Int))⟩
def aB8:T:=.call 0 (bJ (.bJ2 tI aC) [(aJ bN 1 (.Z 0)),(.ci .i64 1),(.ci .i64 6)]) <|
 .bJ3 .not (.Z 1) <|
 .ite (.Z 2) (
  .ret (.ci .i64 0)) (
  .call 0 (bJ (.bJ2 tI aC) [(aJ bN 2 (.Z 0)),(.ci .i64 1),(.ci .i64 6)]) <|
  .bJ3 .not (.Z 3) <|
  .ite (.Z 4) (
   .ret (.ci .i64 0)) (
   .bJ3 (.cmp .eql .i64) (.bJ4 tI tI (.p1 tI (.bJ2 tI aI) (.Z 0)) (.ci .i64 1)) <|
   .ite (.Z 5) (
    .bJ3 (.ar .mul .i64) (.bJ4 tI tI (aJ bN 1 (.Z 0)) (aJ bN 2 (.Z 0))) <|
    .ret (.Z 6)) (
    .bJ3 (.cmp .eql .i64) (.bJ4 tI tI (.p1 tI (.bJ2 tI aI) (.Z 0)) (.ci .i64 5)) <|
    .ite (.Z 6) (
     .bJ3 (.ar .mul .i64) (.bJ4 tI tI (aJ bN 1 (.Z 0)) (aJ bN 2 (.Z 0))) <|
     .ret (.Z 7)) (
     .bJ3 (.cmp .eql .i64) (.bJ4 tI tI (.p1 tI (.bJ2 tI aI) (.Z 0)) (.ci .i64 2)) <|
     .ite (.Z 7) (
      .ret (aJ bN 1 (.Z 0))) (
      .bJ3 (.cmp .eql .i64) (.bJ4 tI tI (.p1 tI (.bJ2 tI aI) (.Z 0)) (.ci .i64 4)) <|
      .ite (.Z 8) (
       .ret (.ci .i64 1)) (
       .ret (.ci .i64 0)))))))
theorem aTB:bV Tryz.prog [bY] iU false 3000 ⟨[],[]⟩ = .ok aB8:=by kernel_rfl
theorem aTC (x:dE) (hx:okD bN x) (hp:(fun _=>True) x):aB8.wp [bY] [⟨bN,x⟩] [] (fun v=>v.as tI=(fun x=>fG x) x):=by
 delta aB8 bY;refine eE ?_;try with_reducible exact True.intro
 (repeat' first|intro _|(with_reducible apply And.intro))
 all_goals simp only[zO] at *
 all_goals first|omega|(have:=aOS (a:=x.2.1) (b:=x.2.2.1) (by omega) (by omega) (by omega) (by omega);omega)|exact aPQ (by omega)|exact aQK (by omega)|exact aRC (by omega)|exact aJ1 (by omega)
theorem aGB:Con.Holds Tryz.prog iU:=aV aX (aG iJ aT) aTB aTC
def wH:Con:=⟨42,bN,.bool,[.val ⟨true,bN,[]⟩],[⟨false,.bool,[0]⟩],false,none,
 ((fun _=>True):(dE)→Prop),
 ((fun x=>opB x):(dE)→(Bool))⟩
def aHR:T:=.call 0 (bJ (.bJ2 tI aC) [(.p1 tI (.bJ2 tI aI) (.Z 0)),(.ci .i64 1),(.ci .i64 5)]) <|
 .bJ3 .not (.Z 1) <|
 .ite (.Z 2) (
  .ret (.cb false)) (
  .call 0 (bJ (.bJ2 tI aC) [(aJ bN 1 (.Z 0)),(.ci .i64 1),(.ci .i64 6)]) <|
  .bJ3 .not (.Z 3) <|
  .ite (.Z 4) (
   .ret (.cb false)) (
   .call 0 (bJ (.bJ2 tI aC) [(aJ bN 2 (.Z 0)),(.ci .i64 1),(.ci .i64 6)]) <|
   .bJ3 .not (.Z 5) <|
   .ite (.Z 6) (
    .ret (.cb false)) (
    .bJ3 (.cmp .neq .i64) (.bJ4 tI tI (.p1 tI (.bJ2 tI aI) (.Z 0)) (.ci .i64 1)) <|
    .ite (.Z 7) (
     .bJ3 (.cmp .neq .i64) (.bJ4 tI tI (aJ bN 1 (.Z 0)) (aJ bN 2 (.Z 0))) <|
     .ite (.Z 8) (
      .ret (.cb false)) (
      .bJ3 (.bJ6 3 tI) (aR bN 3 (.Z 0)) <|
      .call 1 (.Z 0) <|
      .bJ3 (.cmp .neq .i64) (.bJ4 tI tI (.Z 9) (.Z 10)) <|
      .ite (.Z 11) (
       .ret (.cb false)) (
       .loop tI (.ci .i64 0) <|
        .bJ3 (.bJ6 3 tI) (aR bN 3 (.Z 0)) <|
        .bJ3 (.cmp .lss .i64) (.bJ4 tI tI (.Z 12) (.Z 13)) <|
        .ite (.Z 14) (
         .bJ3 (.bJ7 3 tI) (.bJ4 aB tI (aR bN 3 (.Z 0)) (.Z 12)) <|
         .call 2 (.Z 15) <|
         .bJ3 .not (.Z 16) <|
         .ite (.Z 17) (
          .ret (.cb false)) (
          .bJ3 (.ar .add .i64) (.bJ4 tI tI (.Z 12) (.ci .i64 1)) <|
          .bJ5 0 (.Z 18))) (
         .ret (.cb true))))) (
     .bJ3 (.bJ6 3 tI) (aR bN 3 (.Z 0)) <|
     .call 1 (.Z 0) <|
     .bJ3 (.cmp .neq .i64) (.bJ4 tI tI (.Z 8) (.Z 9)) <|
     .ite (.Z 10) (
      .ret (.cb false)) (
      .loop tI (.ci .i64 0) <|
       .bJ3 (.bJ6 3 tI) (aR bN 3 (.Z 0)) <|
       .bJ3 (.cmp .lss .i64) (.bJ4 tI tI (.Z 11) (.Z 12)) <|
       .ite (.Z 13) (
        .bJ3 (.bJ7 3 tI) (.bJ4 aB tI (aR bN 3 (.Z 0)) (.Z 11)) <|
        .call 2 (.Z 14) <|
        .bJ3 .not (.Z 15) <|
        .ite (.Z 16) (
         .ret (.cb false)) (
         .bJ3 (.ar .add .i64) (.bJ4 tI tI (.Z 11) (.ci .i64 1)) <|
         .bJ5 0 (.Z 17))) (
        .ret (.cb true)))))))
theorem bDB:bV Tryz.prog [bY,iU,kX] wH false 3000 ⟨[(2988,72012,mW 39 28++[.dr 26,.dr 27]++mW 25 4++[.dr 0,.tm 3 0]),(2988,32011,mW 39 28++[.dr 26,.dr 27]++mW 25 4++[.dr 0,.tm 3 0])],[]⟩ = .ok aHR:=by kernel_rfl
theorem bCG (x:dE) (hx:okD bN x) (hp:(fun _=>True) x):aHR.wp [bY,iU,kX] [⟨bN,x⟩] [] (fun v=>v.as .bool=(fun x=>opB x) x):=by
  have hp:List.length x.2.2.2≤9223372036854775807:=hx.2.2.2.1
  delta aHR bY iU kX;refine eE ?_;try with_reducible exact True.intro
  (repeat' first|intro _|(with_reducible apply And.intro))
  all_goals simp only[zO] at *
  all_goals first|assumption|(first|(refine (Bool.eq_false_iff.2 ?_).symm;rw[ne_eq,gG];intro hh;omega)|(refine (gG.2 ?_).symm;omega))|skip
  all_goals refine ⟨fun s=>∃ k:Nat,k≤x.2.2.2.length∧s=(k:Int)∧(x.2.2.2.take k).all iI=true,fun s=>x.2.2.2.length - (s:Int).toNat,⟨0,by omega,rfl,rfl⟩,fun s _ hI=>?_⟩
  all_goals obtain ⟨k,hk,rfl,ha⟩:=hI
  all_goals (refine eL ?_;try with_reducible exact True.intro)
  all_goals intro _
  all_goals have hin:k<x.2.2.2.length→x.2.2.2.getD k 0=x.2.2.2.getD k (0:Int):=fun _=>rfl
  all_goals constructor
  all_goals intro hlt
  all_goals first
    | (have hk':k<x.2.2.2.length:=by omega
       rw[bD hk']
       have e:=tE iI x.2.2.2 hk'
       refine ⟨by omega,fun _=>⟨fun hf=>?_,fun hf=>⟨by omega,fun _=>⟨⟨k+1,by omega,rfl,by rw[e,ha,hf];rfl⟩,by omega⟩⟩⟩⟩
       have hb:=zI hk' hf
       refine (Bool.eq_false_iff.2 fun h=>?_).symm
       rw[gG] at h
       rw[hb] at h
       exact Bool.noConfusion h.2)
    | (have:k=x.2.2.2.length:=by omega
       subst this
       rw[List.take_length] at ha
       exact ((gG x).2 ⟨by omega,ha⟩).symm)
theorem bDE:Con.Holds Tryz.prog wH:=aV aX (aG iJ (aG aGB (aG aKK aT))) bDB bCG
def cE:Con:=⟨19,aD,.bool,[.val ⟨true,aD,[]⟩],[⟨false,.bool,[0]⟩],false,none,
 ((fun _=>True):(aW)→Prop),
 ((fun x=>bT x):(aW)→(Bool))⟩
def xY:T:=.loop tI (.ci .i64 0) <|
 .bJ3 (.bJ6 93 bN) (.Z 0) <|
 .bJ3 (.cmp .lss .i64) (.bJ4 tI tI (.Z 1) (.Z 2)) <|
 .ite (.Z 3) (
  .bJ3 (.bJ7 93 bN) (.bJ4 aD tI (.Z 0) (.Z 1)) <|
  .call 0 (.Z 4) <|
  .bJ3 .not (.Z 5) <|
  .ite (.Z 6) (
   .ret (.cb false)) (
   .bJ3 (.cmp .gtr .i64) (.bJ4 tI tI (.Z 1) (.ci .i64 0)) <|
   .ite (.Z 7) (
    .bJ3 (.ar .sub .i64) (.bJ4 tI tI (.Z 1) (.ci .i64 1)) <|
    .bJ3 (.bJ7 93 bN) (.bJ4 aD tI (.Z 0) (.Z 1)) <|
    .bJ3 (.bJ7 93 bN) (.bJ4 aD tI (.Z 0) (.Z 8)) <|
    .bJ3 (.cmp .neq .i64) (.bJ4 tI tI (aJ bN 1 (.Z 9)) (aJ bN 2 (.Z 10))) <|
    .ite (.Z 11) (
     .ret (.cb false)) (
     .bJ3 (.ar .add .i64) (.bJ4 tI tI (.Z 1) (.ci .i64 1)) <|
     .bJ5 0 (.Z 12))) (
    .bJ3 (.ar .add .i64) (.bJ4 tI tI (.Z 1) (.ci .i64 1)) <|
    .bJ5 0 (.Z 8)))) (
  .bJ3 (.bJ6 93 bN) (.Z 0) <|
  .call 1 (bJ (.bJ2 tI aC) [(.Z 4),(.ci .i64 1),(.ci .i64 8)]) <|
  .ret (.Z 5))
theorem aR0:bV Tryz.prog [wH,bY] cE false 3000 ⟨[(2993,1001,[.dr 0,.tm 3 0])],[]⟩ = .ok xY:=by kernel_rfl
theorem aOF (x:aW) (hx:okD aD x) (hp:(fun _=>True) x):xY.wp [wH,bY] [⟨aD,x⟩] [] (fun v=>v.as .bool=(fun x=>bT x) x):=by
 obtain ⟨hp1,hp2⟩:List.length x≤9223372036854775807∧∀ o∈(x:List dE),List.length o.2.2.2≤9223372036854775807:=⟨hx.1,fun o ho=>(hx.2 o ho).2.2.2.1⟩
 delta xY wH bY;refine eE ?_
 refine ⟨fun s=>∃ k:Nat,k≤x.length∧s=(k:Int)∧∀ i,i<k→aHB x i=true,fun s=>x.length - (s:Int).toNat,⟨0,by omega,rfl,by omega⟩,fun s _ hI=>?_⟩
 obtain ⟨k,hk,rfl,ha⟩:=hI
 refine eL ?_
 intro _
 constructor
 ·intro hlt
  have hk':k<x.length:=by omega
  rw[bD hk',bD (show k - 1<x.length by omega)]
  have e:=xB x hk'
  have hm:=hp2 _ (List.getElem_mem hk')
  (repeat' first|intro _|(with_reducible apply And.intro))
  all_goals first|omega|exact hm|skip
  all_goals first|(refine aIG hk' fun h=>?_;rw[e] at h;obtain ⟨h1,h2⟩:=h;first|(simp_all;done)|omega)|skip
  all_goals refine ⟨k+1,by omega,rfl,fun i hi=>?_⟩
  all_goals rcases Nat.lt_or_eq_of_le (Nat.le_of_lt_succ hi) with h|rfl
  all_goals first|exact ha i h|(refine e.2 ⟨by assumption,?_⟩;first|exact .inl (by omega)|exact .inr (by assumption)|exact .inr (by omega))
 ·intro hge
  have:k=x.length:=by omega
  subst this
  intro _
  rw[Bool.eq_iff_iff,bR]
  refine eL ?_
  constructor
  ·intro h;exact ⟨by omega,by omega,ha⟩
  ·intro h;omega
theorem jH:Con.Holds Tryz.prog cE:=aV aX (aG bDE (aG iJ aT)) aR0 aOF
end
end Go.Proofs.YtpleleanibgniaaGreat
