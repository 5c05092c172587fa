/- Ops2: lemmas. No conditions. -/
import Derived.Test.YtdeobhdbmehpgaaGreatGr2
namespace Go.Proofs.YtdeobhdbmehpgaaGreat
noncomputable section
set_option maxRecDepth 100000
open Go.ChangeShapes Go.WideShapes Go.ChangeAt Go.RowKit Go.Deep
set_option linter.unusedVariables false
set_option linter.unusedSimpArgs false
def kH (v:List Int):Bool:=decide (1≤v.length)&&(decide (v.length≤6)&&v.all fZ)
theorem dU (v:List Int):kH v=true↔1≤v.length∧v.length≤6∧v.all fZ=true:=by unfold kH;simp only[Bool.and_eq_true,decide_eq_true_eq]
def eX (o:dR):Int:=if o.2.1<1∨6<o.2.1∨o.2.2.1<1∨6<o.2.2.1 then 0 else if o.1=1∨o.1=5 then o.2.1 * o.2.2.1 else if o.1=2 then o.2.1 else if o.1=4 then 1 else 0
def opB (o:dR):Bool:=decide (1≤o.1∧o.1≤5∧1≤o.2.1∧o.2.1≤6∧1≤o.2.2.1∧o.2.2.1≤6∧(o.1≠1→o.2.1=o.2.2.1)∧(o.2.2.2.length:Int)=eX o)&&o.2.2.2.all fZ
theorem gA (o:dR):opB o=true↔(1≤o.1∧o.1≤5∧1≤o.2.1∧o.2.1≤6∧1≤o.2.2.1∧o.2.2.1≤6∧(o.1≠1→o.2.1=o.2.2.1)∧(o.2.2.2.length:Int)=eX o)∧o.2.2.2.all fZ=true:=by
 unfold opB;simp only[Bool.and_eq_true,decide_eq_true_eq]
theorem bEJ {m n:Nat}:((m:Int)=(n:Int))↔m=n:=by omega
def zOp:dR:=(0,0,0,[])
def aIE (m:List dR) (i:Nat):Bool:=opB (m.getD i zOp)&&(decide (i=0) || decide ((m.getD (i - 1) zOp).2.2.1=(m.getD i zOp).2.1))
theorem sB (m:List dR) {i:Nat} (h:i<m.length):aIE m i=true↔opB m[i]=true∧(i=0∨(m[i - 1]'(by omega)).2.2.1=m[i].2.1):=by
 unfold aIE
 rw[bE h,bE (show i - 1<m.length by omega)]
 simp only[Bool.and_eq_true,Bool.or_eq_true,decide_eq_true_eq]
def cX (m:List dR):Bool:=decide (1≤m.length)&&(decide (m.length≤8)&&(List.range m.length).all (aIE m))
theorem bA (m:List dR):cX m=true↔1≤m.length∧m.length≤8∧∀ i,i<m.length→aIE m i=true:=by
 unfold cX;simp only[Bool.and_eq_true,decide_eq_true_eq,List.all_eq_true,List.mem_range]
theorem aGJ {m:List dR} {i:Nat} (h:i<m.length) (hb:¬ aIE m i=true):false=cX m:=by
 refine (Bool.eq_false_iff.2 ?_).symm
 rw[ne_eq,bA]
 exact fun hh=>hb (hh.2.2 i h)
theorem aOS {o:dR} (h:o.2.1<1∨6<o.2.1∨o.2.2.1<1∨6<o.2.2.1∨(o.1≠1∧o.1≠5∧o.1≠2∧o.1≠4)):0=eX o:=by
 unfold eX
 split
 ·rfl
 ·rw[if_neg (by omega),if_neg (by omega),if_neg (by omega)]
theorem aMX {o:dR} (h:1≤o.2.1∧o.2.1≤6∧1≤o.2.2.1∧o.2.2.1≤6∧(o.1=1∨o.1=5)):o.2.1 * o.2.2.1=eX o:=by
 unfold eX;rw[if_neg (by omega),if_pos (by omega)]
theorem aNE {o:dR} (h:1≤o.2.1∧o.2.1≤6∧1≤o.2.2.1∧o.2.2.1≤6∧o.1=2):o.2.1=eX o:=by
 unfold eX;rw[if_neg (by omega),if_neg (by omega),if_pos (by omega)]
theorem aGG {o:dR} (h:1≤o.2.1∧o.2.1≤6∧1≤o.2.2.1∧o.2.2.1≤6∧o.1=4):1=eX o:=by
 unfold eX;rw[if_neg (by omega),if_neg (by omega),if_neg (by omega),if_pos (by omega)]
theorem aOR {a b:Int} (h1:1≤a) (h2:a≤6) (h3:1≤b) (h4:b≤6):0≤a * b∧a * b≤36 :=
 ⟨Int.mul_nonneg (by omega) (by omega),Int.le_trans (Int.mul_le_mul h2 h4 (by omega) (by omega)) (by omega)⟩
def iW:Con:=⟨138,aA,.bool,[.val ⟨false,aA,[]⟩],[⟨false,.bool,[0]⟩],false,none,
 ((fun _=>True):(List Int)→Prop),
 ((fun x=>List.all x fZ):(List Int)→(Bool))⟩
def zF:T :=
 .bEM (.bEP 3 tI) (.Z 0) <|
 .loop tI (.ci .i64 0) <|
  .bEM (.cmp .lss .i64) (.bEN tI tI (.Z 2) (.Z 1)) <|
  .ite (.Z 3) (
   .bEM (.bEQ 3 tI) (.bEN aA tI (.Z 0) (.Z 2)) <|
   .call 0 (.Z 4) <|
   .bEM .not (.Z 5) <|
   .ite (.Z 6) (
    .ret (.cb false)) (
    .bEM (.ar .add .i64) (.bEN tI tI (.Z 2) (.ci .i64 1)) <|
    .bEO 0 (.Z 7))) (
   .ret (.cb true))
theorem aSE:bJ Tryz.prog [sR] iW false 3000 ⟨[(2993,1002,[.dr 0,.tm 7 0])],[]⟩ = .ok zF:=by kernel_rfl
theorem aQH (x:List Int) (hx:okD aA x) (hp:(fun _=>True) x):zF.wp [sR] [⟨aA,x⟩] [] (fun v=>v.as .bool=(fun x=>List.all x fZ) x):=by
 have hp:List.length x≤9223372036854775807:=hx.1
 delta zF sR;refine eE ?_
 intro _
 refine ⟨fun s=>∃ k:Nat,k≤x.length∧s=(k:Int)∧(x.take k).all fZ=true,fun s=>x.length - (s:Int).toNat,⟨0,by omega,rfl,rfl⟩,fun s _ hI=>?_⟩
 obtain ⟨k,hk,rfl,ha⟩:=hI
 refine fJ ?_
 constructor
 ·intro hlt
  have hk':k<x.length:=by omega
  rw[bE hk']
  have e:=pJ fZ x hk'
  (repeat' first|intro _|(with_reducible apply And.intro))
  all_goals first|omega|skip
  ·exact (aAQ hk' (by assumption)).symm
  ·exact ⟨k+1,by omega,rfl,by rw[e,ha];simpa using ‹fZ _=true›⟩
 ·intro hge
  have:k=x.length:=by omega
  subst this
  rw[List.take_length] at ha
  exact ha.symm
theorem aFY:Con.Holds Tryz.prog iW:=aQ aR (aG aW9 aO) aSE aQH
def pY:Con:=⟨137,bC,tI,[.val ⟨true,bC,[]⟩],[⟨false,tI,[0]⟩],false,none,
 ((fun _=>True):(dR)→Prop),
 ((fun x=>eX x):(dR)→(Int))⟩
def zP:T :=
 .bEM (.cmp .lss .i64) (.bEN tI tI (aI bC 1 (.Z 0)) (.ci .i64 1)) <|
 .ite (.Z 1) (
  .ret (.ci .i64 0)) (
  .bEM (.cmp .gtr .i64) (.bEN tI tI (aI bC 1 (.Z 0)) (.ci .i64 6)) <|
  .ite (.Z 2) (
   .ret (.ci .i64 0)) (
   .bEM (.cmp .lss .i64) (.bEN tI tI (aI bC 2 (.Z 0)) (.ci .i64 1)) <|
   .ite (.Z 3) (
    .ret (.ci .i64 0)) (
    .bEM (.cmp .gtr .i64) (.bEN tI tI (aI bC 2 (.Z 0)) (.ci .i64 6)) <|
    .ite (.Z 4) (
     .ret (.ci .i64 0)) (
     .bEM (.cmp .eql .i64) (.bEN tI tI (.p1 tI (.bEL tI aK) (.Z 0)) (.ci .i64 1)) <|
     .ite (.Z 5) (
      .bEM (.ar .mul .i64) (.bEN tI tI (aI bC 1 (.Z 0)) (aI bC 2 (.Z 0))) <|
      .ret (.Z 6)) (
      .bEM (.cmp .eql .i64) (.bEN tI tI (.p1 tI (.bEL tI aK) (.Z 0)) (.ci .i64 5)) <|
      .ite (.Z 6) (
       .bEM (.ar .mul .i64) (.bEN tI tI (aI bC 1 (.Z 0)) (aI bC 2 (.Z 0))) <|
       .ret (.Z 7)) (
       .bEM (.cmp .eql .i64) (.bEN tI tI (.p1 tI (.bEL tI aK) (.Z 0)) (.ci .i64 2)) <|
       .ite (.Z 7) (
        .ret (aI bC 1 (.Z 0))) (
        .bEM (.cmp .eql .i64) (.bEN tI tI (.p1 tI (.bEL tI aK) (.Z 0)) (.ci .i64 4)) <|
        .ite (.Z 8) (
         .ret (.ci .i64 1)) (
         .ret (.ci .i64 0)))))))))
theorem aR7:bJ Tryz.prog [] pY false 3000 ⟨[],[]⟩ = .ok zP:=by kernel_rfl
theorem aQG (x:dR) (hx:okD bC x) (hp:(fun _=>True) x):zP.wp [] [⟨bC,x⟩] [] (fun v=>v.as tI=(fun x=>eX x) x):=by
 delta zP;refine eE ?_;try with_reducible exact True.intro
 (repeat' first|intro _|(with_reducible apply And.intro))
 all_goals simp only[sS] at *
 all_goals first|omega|(have:=aOR (a:=x.2.1) (b:=x.2.2.1) (by omega) (by omega) (by omega) (by omega);omega)|exact aOS (by omega)|exact aMX (by omega)|exact aNE (by omega)|exact aGG (by omega)
theorem aSP:Con.Holds Tryz.prog pY:=aQ aR aO aR7 aQG
def wR:Con:=⟨100,bC,.bool,[.val ⟨true,bC,[]⟩],[⟨false,.bool,[0]⟩],false,none,
 ((fun _=>True):(dR)→Prop),
 ((fun x=>opB x):(dR)→(Bool))⟩
def aHP:T :=
 .bEM (.cmp .lss .i64) (.bEN tI tI (.p1 tI (.bEL tI aK) (.Z 0)) (.ci .i64 1)) <|
 .ite (.Z 1) (
  .ret (.cb false)) (
  .bEM (.cmp .gtr .i64) (.bEN tI tI (.p1 tI (.bEL tI aK) (.Z 0)) (.ci .i64 5)) <|
  .ite (.Z 2) (
   .ret (.cb false)) (
   .bEM (.cmp .lss .i64) (.bEN tI tI (aI bC 1 (.Z 0)) (.ci .i64 1)) <|
   .ite (.Z 3) (
    .ret (.cb false)) (
    .bEM (.cmp .gtr .i64) (.bEN tI tI (aI bC 1 (.Z 0)) (.ci .i64 6)) <|
    .ite (.Z 4) (
     .ret (.cb false)) (
     .bEM (.cmp .lss .i64) (.bEN tI tI (aI bC 2 (.Z 0)) (.ci .i64 1)) <|
     .ite (.Z 5) (
      .ret (.cb false)) (
      .bEM (.cmp .gtr .i64) (.bEN tI tI (aI bC 2 (.Z 0)) (.ci .i64 6)) <|
      .ite (.Z 6) (
       .ret (.cb false)) (
       .bEM (.cmp .neq .i64) (.bEN tI tI (.p1 tI (.bEL tI aK) (.Z 0)) (.ci .i64 1)) <|
       .ite (.Z 7) (
        .bEM (.cmp .neq .i64) (.bEN tI tI (aI bC 1 (.Z 0)) (aI bC 2 (.Z 0))) <|
        .ite (.Z 8) (
         .ret (.cb false)) (
         .bEM (.bEP 3 tI) (aN bC 3 (.Z 0)) <|
         .call 0 (.Z 0) <|
         .bEM (.cmp .eql .i64) (.bEN tI tI (.Z 9) (.Z 10)) <|
         .ite (.Z 11) (
          .call 1 (aN bC 3 (.Z 0)) <|
          .ret (.Z 12)) (
          .ret (.cb false)))) (
        .bEM (.bEP 3 tI) (aN bC 3 (.Z 0)) <|
        .call 0 (.Z 0) <|
        .bEM (.cmp .eql .i64) (.bEN tI tI (.Z 8) (.Z 9)) <|
        .ite (.Z 10) (
         .call 1 (aN bC 3 (.Z 0)) <|
         .ret (.Z 11)) (
         .ret (.cb false)))))))))
theorem aXP:bJ Tryz.prog [pY,iW] wR false 3000 ⟨[],[]⟩ = .ok aHP:=by kernel_rfl
theorem aYQ (x:dR) (hx:okD bC x) (hp:(fun _=>True) x):aHP.wp [pY,iW] [⟨bC,x⟩] [] (fun v=>v.as .bool=(fun x=>opB x) x):=by
 have hp:List.length x.2.2.2≤9223372036854775807:=hx.2.2.2.1
 delta aHP pY iW;refine eE ?_;try with_reducible exact True.intro
 (repeat' first|intro _|(with_reducible apply And.intro))
 all_goals simp only[sS] at *
 all_goals first|assumption|(first|(refine (Bool.eq_false_iff.2 ?_).symm;rw[ne_eq,gA];intro hh;omega)|(refine (gA.2 ?_).symm;omega))|(rw[Bool.eq_iff_iff,gA];exact ⟨fun h=>⟨by omega,h⟩,fun h=>h.2⟩)
theorem aY9:Con.Holds Tryz.prog wR:=aQ aR (aG aSP (aG aFY aO)) aXP aYQ
def eP:Con:=⟨61,aF,.bool,[.val ⟨true,aF,[]⟩],[⟨false,.bool,[0]⟩],false,none,
 ((fun _=>True):(bL)→Prop),
 ((fun x=>cX x):(bL)→(Bool))⟩
def vI:T :=
 .bEM (.bEP 78 bC) (.Z 0) <|
 .bEM (.cmp .lss .i64) (.bEN tI tI (.Z 1) (.ci .i64 1)) <|
 .ite (.Z 2) (
  .ret (.cb false)) (
  .bEM (.bEP 78 bC) (.Z 0) <|
  .bEM (.cmp .gtr .i64) (.bEN tI tI (.Z 3) (.ci .i64 8)) <|
  .ite (.Z 4) (
   .ret (.cb false)) (
   .bEM (.bEP 78 bC) (.Z 0) <|
   .loop tI (.ci .i64 0) <|
    .bEM (.cmp .lss .i64) (.bEN tI tI (.Z 6) (.Z 5)) <|
    .ite (.Z 7) (
     .bEM (.bEQ 78 bC) (.bEN aF tI (.Z 0) (.Z 6)) <|
     .call 0 (.Z 8) <|
     .bEM .not (.Z 9) <|
     .ite (.Z 10) (
      .ret (.cb false)) (
      .bEM (.cmp .gtr .i64) (.bEN tI tI (.Z 6) (.ci .i64 0)) <|
      .ite (.Z 11) (
       .bEM (.ar .sub .i64) (.bEN tI tI (.Z 6) (.ci .i64 1)) <|
       .bEM (.bEQ 78 bC) (.bEN aF tI (.Z 0) (.Z 12)) <|
       .bEM (.cmp .neq .i64) (.bEN tI tI (aI bC 2 (.Z 13)) (aI bC 1 (.Z 8))) <|
       .ite (.Z 14) (
        .ret (.cb false)) (
        .bEM (.ar .add .i64) (.bEN tI tI (.Z 6) (.ci .i64 1)) <|
        .bEO 0 (.Z 15))) (
       .bEM (.ar .add .i64) (.bEN tI tI (.Z 6) (.ci .i64 1)) <|
       .bEO 0 (.Z 12)))) (
     .ret (.cb true))))
theorem aMZ:bJ Tryz.prog [wR] eP false 3000 ⟨[(2988,4006,jT 15 5++[.dr 0,.tm 18 0])],[]⟩ = .ok vI:=by kernel_rfl
theorem aMP (x:bL) (hx:okD aF x) (hp:(fun _=>True) x):vI.wp [wR] [⟨aF,x⟩] [] (fun v=>v.as .bool=(fun x=>cX x) x):=by
 obtain ⟨hp1,hp2⟩:List.length x≤9223372036854775807∧∀ o∈(x:List dR),List.length o.2.2.2≤9223372036854775807:=⟨hx.1,fun o ho=>(hx.2 o ho).2.2.2.1⟩
 delta vI wR;refine eE ?_;try with_reducible exact True.intro
 (repeat' first|intro _|(with_reducible apply And.intro))
 all_goals simp only[sS] at *
 ·(first|(refine (Bool.eq_false_iff.2 ?_).symm;rw[ne_eq,bA];intro hh;omega)|(refine (bA.2 ?_).symm;omega))
 ·(first|(refine (Bool.eq_false_iff.2 ?_).symm;rw[ne_eq,bA];intro hh;omega)|(refine (bA.2 ?_).symm;omega))
 refine ⟨fun s=>∃ k:Nat,k≤x.length∧s=(k:Int)∧∀ i,i<k→aIE x i=true,fun s=>x.length - (s:Int).toNat,⟨0,by omega,rfl,by omega⟩,fun s _ hI=>?_⟩
 obtain ⟨k,hk,rfl,ha⟩:=hI
 refine fJ ?_
 constructor
 ·intro hlt
  have hk':k<x.length:=by omega
  rw[bE hk',bE (show k - 1<x.length by omega)]
  have e:=sB x hk'
  have hm:=hp2 _ (List.getElem_mem hk')
  (repeat' first|intro _|(with_reducible apply And.intro))
  all_goals first|omega|exact hm|skip
  all_goals first|(refine aGJ hk' fun h=>?_;rw[e] at h;obtain ⟨h1,h2⟩:=h;first|(simp_all;done)|omega)|skip
  all_goals refine ⟨k+1,by omega,rfl,fun i hi=>?_⟩
  all_goals rcases Nat.lt_or_eq_of_le (Nat.le_of_lt_succ hi) with h|rfl
  all_goals first|exact ha i h|(refine e.2 ⟨by assumption,?_⟩;first|exact .inl (by omega)|exact .inr (by assumption)|exact .inr (by omega))
 ·intro hge
  have:k=x.length:=by omega
  subst this
  refine ((bA x).2 ⟨?_,?_,ha⟩).symm <;> omega
theorem uW:Con.Holds Tryz.prog eP:=aQ aR (aG aY9 aO) aMZ aMP
def eS:Con:=⟨103,tI,.bool,[.val ⟨false,tI,[]⟩],[⟨false,.bool,[0]⟩],false,none,
 ((fun _=>True):(Int)→Prop),
 ((fun x=>fZ x):(Int)→(Bool))⟩
def aDF:T:=.call 0 (aY (.bEL tI aD) [(.Z 0),(.ci .i64 (-2147483647)),(.ci .i64 2147483647)]) <|.ret (.Z 1)
theorem aVP:bJ Tryz.prog [bM] eS false 3000 ⟨[],[]⟩ = .ok aDF:=by kernel_rfl
theorem aWV (x:Int) (hx:okD tI x) (hp:(fun _=>True) x):aDF.wp [bM] [⟨tI,x⟩] [] (fun v=>v.as .bool=(fun x=>fZ x) x):=by
 delta aDF bM;refine eE ?_
 rw[Bool.eq_iff_iff,vU]
 (refine fJ ?_;try with_reducible exact True.intro)
theorem yA:Con.Holds Tryz.prog eS:=aQ aR (aG iV aO) aVP aWV
def bF:Con:=⟨70,aA,.bool,[.val ⟨false,aA,[]⟩],[⟨false,.bool,[0]⟩],false,none,
 ((fun _=>True):(List Int)→Prop),
 ((fun x=>kH x):(List Int)→(Bool))⟩
def aC6:T:=.loop tI (.ci .i64 0) <|
 .bEM (.bEP 3 tI) (.Z 0) <|
 .bEM (.cmp .lss .i64) (.bEN tI tI (.Z 1) (.Z 2)) <|
 .ite (.Z 3) (
  .bEM (.bEQ 3 tI) (.bEN aA tI (.Z 0) (.Z 1)) <|
  .call 0 (.Z 4) <|
  .bEM .not (.Z 5) <|
  .ite (.Z 6) (
   .ret (.cb false)) (
   .bEM (.ar .add .i64) (.bEN tI tI (.Z 1) (.ci .i64 1)) <|
   .bEO 0 (.Z 7))) (
  .bEM (.bEP 3 tI) (.Z 0) <|
  .call 1 (aY (.bEL tI aD) [(.Z 4),(.ci .i64 1),(.ci .i64 6)]) <|
  .ret (.Z 5))
theorem aVW:bJ Tryz.prog [eS,bM] bF false 3000 ⟨[(2993,1001,[.tm 3 0])],[]⟩ = .ok aC6:=by kernel_rfl
theorem aVO (x:List Int) (hx:okD aA x) (hp:(fun _=>True) x):aC6.wp [eS,bM] [⟨aA,x⟩] [] (fun v=>v.as .bool=(fun x=>kH x) x):=by
 have hp:List.length x≤9223372036854775807:=hx.1
 delta aC6 eS bM;refine eE ?_
 refine ⟨fun s=>∃ k:Nat,k≤x.length∧s=(k:Int)∧(x.take k).all fZ=true,fun s=>x.length - (s:Int).toNat,⟨0,by omega,rfl,rfl⟩,fun s _ hI=>?_⟩
 obtain ⟨k,hk,rfl,ha⟩:=hI
 refine fJ ?_
 intro _
 constructor
 ·intro hlt
  have hk':k<x.length:=by omega
  rw[bE hk']
  have e:=pJ fZ x hk'
  (repeat' first|intro _|(with_reducible apply And.intro))
  all_goals first|omega|skip
  ·have:=aAQ hk' (by assumption)
   unfold kH
   rw[this]
   simp
  ·exact ⟨k+1,by omega,rfl,by rw[e,ha];simpa using ‹fZ _=true›⟩
 ·intro hge
  have:k=x.length:=by omega
  subst this
  rw[List.take_length] at ha
  intro _
  rw[Bool.eq_iff_iff,dU,ha]
  simp only[sS,and_true]
  omega
theorem fL:Con.Holds Tryz.prog bF:=aQ aR (aG yA (aG iV aO)) aVW aVO
def dG:Con:=⟨162,aU,.bool,[.val ⟨false,aA,[]⟩,.val ⟨false,aA,[]⟩],[⟨false,.bool,[0]⟩],false,none,
 ((fun _=>True):(eZ)→Prop),
 ((fun x=>kH x.1&&(kH x.2&&decide ((x.1:List Int).length=(x.2:List Int).length))):(eZ)→(Bool))⟩
def aAK:T:=.call 0 (.p1 aA aA (.Z 0)) <|.ite (.Z 1) (.call 0 (aN aU 1 (.Z 0)) <|.ite (.Z 2) (
  .bEM (.bEP 3 tI) (.p1 aA aA (.Z 0)) <|
  .bEM (.bEP 3 tI) (aN aU 1 (.Z 0)) <|
  .bEM (.cmp .eql .i64) (.bEN tI tI (.Z 3) (.Z 4)) <|
  .ret (.Z 5)) (
  .ret (.cb false))) (
 .ret (.cb false))
theorem aQT:bJ Tryz.prog [bF] dG false 3000 ⟨[],[]⟩ = .ok aAK:=by kernel_rfl
theorem aSI (x:eZ) (hx:okD aU x) (hp:(fun _=>True) x):aAK.wp [bF] [⟨aU,x⟩] [] (fun v=>v.as .bool=(fun x=>kH x.1&&(kH x.2&&decide ((x.1:List Int).length=(x.2:List Int).length))) x):=by
 delta aAK bF;refine eE ?_
 cases kH x.1 <;> cases kH x.2 <;> simp only[reduceCtorEq,true_implies,false_implies,and_true,true_and,Bool.true_and,Bool.false_and,Bool.and_false,implies_true]
 intro _ _
 rw[Bool.eq_iff_iff,beq_iff_eq,decide_eq_true_eq]
 exact bEJ
theorem uA:Con.Holds Tryz.prog dG:=aQ aR (aG fL aO) aQT aSI
def iM:Con:=⟨140,bC,tI,[.val ⟨true,bC,[]⟩],[⟨false,tI,[0]⟩],false,none,
 ((fun _=>True):(dR)→Prop),
 ((fun x=>eX x):(dR)→(Int))⟩
def aA3:T:=.call 0 (aY (.bEL tI aD) [(aI bC 1 (.Z 0)),(.ci .i64 1),(.ci .i64 6)]) <|
 .bEM .not (.Z 1) <|
 .ite (.Z 2) (
  .ret (.ci .i64 0)) (
  .call 0 (aY (.bEL tI aD) [(aI bC 2 (.Z 0)),(.ci .i64 1),(.ci .i64 6)]) <|
  .bEM .not (.Z 3) <|
  .ite (.Z 4) (
   .ret (.ci .i64 0)) (
   .bEM (.cmp .eql .i64) (.bEN tI tI (.p1 tI (.bEL tI aK) (.Z 0)) (.ci .i64 1)) <|
   .ite (.Z 5) (
    .bEM (.ar .mul .i64) (.bEN tI tI (aI bC 1 (.Z 0)) (aI bC 2 (.Z 0))) <|
    .ret (.Z 6)) (
    .bEM (.cmp .eql .i64) (.bEN tI tI (.p1 tI (.bEL tI aK) (.Z 0)) (.ci .i64 5)) <|
    .ite (.Z 6) (
     .bEM (.ar .mul .i64) (.bEN tI tI (aI bC 1 (.Z 0)) (aI bC 2 (.Z 0))) <|
     .ret (.Z 7)) (
     .bEM (.cmp .eql .i64) (.bEN tI tI (.p1 tI (.bEL tI aK) (.Z 0)) (.ci .i64 2)) <|
     .ite (.Z 7) (
      .ret (aI bC 1 (.Z 0))) (
      .bEM (.cmp .eql .i64) (.bEN tI tI (.p1 tI (.bEL tI aK) (.Z 0)) (.ci .i64 4)) <|
      .ite (.Z 8) (
       .ret (.ci .i64 1)) (
       .ret (.ci .i64 0)))))))
theorem aRR:bJ Tryz.prog [bM] iM false 3000 ⟨[],[]⟩ = .ok aA3:=by kernel_rfl
theorem aQR (x:dR) (hx:okD bC x) (hp:(fun _=>True) x):aA3.wp [bM] [⟨bC,x⟩] [] (fun v=>v.as tI=(fun x=>eX x) x):=by
 delta aA3 bM;refine eE ?_;try with_reducible exact True.intro
 (repeat' first|intro _|(with_reducible apply And.intro))
 all_goals simp only[sS] at *
 all_goals first|omega|(have:=aOR (a:=x.2.1) (b:=x.2.2.1) (by omega) (by omega) (by omega) (by omega);omega)|exact aOS (by omega)|exact aMX (by omega)|exact aNE (by omega)|exact aGG (by omega)
theorem aF7:Con.Holds Tryz.prog iM:=aQ aR (aG iV aO) aRR aQR
def jA:Con:=⟨102,bC,.bool,[.val ⟨true,bC,[]⟩],[⟨false,.bool,[0]⟩],false,none,
 ((fun _=>True):(dR)→Prop),
 ((fun x=>opB x):(dR)→(Bool))⟩
def aH8:T:=.call 0 (aY (.bEL tI aD) [(.p1 tI (.bEL tI aK) (.Z 0)),(.ci .i64 1),(.ci .i64 5)]) <|
 .bEM .not (.Z 1) <|
 .ite (.Z 2) (
  .ret (.cb false)) (
  .call 0 (aY (.bEL tI aD) [(aI bC 1 (.Z 0)),(.ci .i64 1),(.ci .i64 6)]) <|
  .bEM .not (.Z 3) <|
  .ite (.Z 4) (
   .ret (.cb false)) (
   .call 0 (aY (.bEL tI aD) [(aI bC 2 (.Z 0)),(.ci .i64 1),(.ci .i64 6)]) <|
   .bEM .not (.Z 5) <|
   .ite (.Z 6) (
    .ret (.cb false)) (
    .bEM (.cmp .neq .i64) (.bEN tI tI (.p1 tI (.bEL tI aK) (.Z 0)) (.ci .i64 1)) <|
    .ite (.Z 7) (
     .bEM (.cmp .neq .i64) (.bEN tI tI (aI bC 1 (.Z 0)) (aI bC 2 (.Z 0))) <|
     .ite (.Z 8) (
      .ret (.cb false)) (
      .bEM (.bEP 3 tI) (aN bC 3 (.Z 0)) <|
      .call 1 (.Z 0) <|
      .bEM (.cmp .neq .i64) (.bEN tI tI (.Z 9) (.Z 10)) <|
      .ite (.Z 11) (
       .ret (.cb false)) (
       .loop tI (.ci .i64 0) <|
        .bEM (.bEP 3 tI) (aN bC 3 (.Z 0)) <|
        .bEM (.cmp .lss .i64) (.bEN tI tI (.Z 12) (.Z 13)) <|
        .ite (.Z 14) (
         .bEM (.bEQ 3 tI) (.bEN aA tI (aN bC 3 (.Z 0)) (.Z 12)) <|
         .call 2 (.Z 15) <|
         .bEM .not (.Z 16) <|
         .ite (.Z 17) (
          .ret (.cb false)) (
          .bEM (.ar .add .i64) (.bEN tI tI (.Z 12) (.ci .i64 1)) <|
          .bEO 0 (.Z 18))) (
         .ret (.cb true))))) (
     .bEM (.bEP 3 tI) (aN bC 3 (.Z 0)) <|
     .call 1 (.Z 0) <|
     .bEM (.cmp .neq .i64) (.bEN tI tI (.Z 8) (.Z 9)) <|
     .ite (.Z 10) (
      .ret (.cb false)) (
      .loop tI (.ci .i64 0) <|
       .bEM (.bEP 3 tI) (aN bC 3 (.Z 0)) <|
       .bEM (.cmp .lss .i64) (.bEN tI tI (.Z 11) (.Z 12)) <|
       .ite (.Z 13) (
        .bEM (.bEQ 3 tI) (.bEN aA tI (aN bC 3 (.Z 0)) (.Z 11)) <|
        .call 2 (.Z 14) <|
        .bEM .not (.Z 15) <|
        .ite (.Z 16) (
         .ret (.cb false)) (
         .bEM (.ar .add .i64) (.bEN tI tI (.Z 11) (.ci .i64 1)) <|
         .bEO 0 (.Z 17))) (
        .ret (.cb true)))))))
theorem aYX:bJ Tryz.prog [bM,iM,eS] jA false 3000 ⟨[(2988,72012,jT 39 28++[.dr 26,.dr 27]++jT 25 4++[.dr 0,.tm 3 0]),(2988,32011,jT 39 28++[.dr 26,.dr 27]++jT 25 4++[.dr 0,.tm 3 0])],[]⟩ = .ok aH8:=by kernel_rfl
theorem aXN (x:dR) (hx:okD bC x) (hp:(fun _=>True) x):aH8.wp [bM,iM,eS] [⟨bC,x⟩] [] (fun v=>v.as .bool=(fun x=>opB x) x):=by
  have hp:List.length x.2.2.2≤9223372036854775807:=hx.2.2.2.1
  delta aH8 bM iM eS;refine eE ?_;try with_reducible exact True.intro
  (repeat' first|intro _|(with_reducible apply And.intro))
  all_goals simp only[sS] at *
  all_goals first|assumption|(first|(refine (Bool.eq_false_iff.2 ?_).symm;rw[ne_eq,gA];intro hh;omega)|(refine (gA.2 ?_).symm;omega))|skip
  all_goals refine ⟨fun s=>∃ k:Nat,k≤x.2.2.2.length∧s=(k:Int)∧(x.2.2.2.take k).all fZ=true,fun s=>x.2.2.2.length - (s:Int).toNat,⟨0,by omega,rfl,rfl⟩,fun s _ hI=>?_⟩
  all_goals obtain ⟨k,hk,rfl,ha⟩:=hI
  all_goals (refine fJ ?_;try with_reducible exact True.intro)
  all_goals intro _
  all_goals have hin:k<x.2.2.2.length→x.2.2.2.getD k 0=x.2.2.2.getD k (0:Int):=fun _=>rfl
  all_goals constructor
  all_goals intro hlt
  all_goals first
    | (have hk':k<x.2.2.2.length:=by omega
       rw[bE hk']
       have e:=pJ fZ x.2.2.2 hk'
       refine ⟨by omega,fun _=>⟨fun hf=>?_,fun hf=>⟨by omega,fun _=>⟨⟨k+1,by omega,rfl,by rw[e,ha,hf];rfl⟩,by omega⟩⟩⟩⟩
       have hb:=aAQ hk' hf
       refine (Bool.eq_false_iff.2 fun h=>?_).symm
       rw[gA] at h
       rw[hb] at h
       exact Bool.noConfusion h.2)
    | (have:k=x.2.2.2.length:=by omega
       subst this
       rw[List.take_length] at ha
       exact ((gA x).2 ⟨by omega,ha⟩).symm)
theorem aGQ:Con.Holds Tryz.prog jA:=aQ aR (aG iV (aG aF7 (aG yA aO))) aYX aXN
def cH:Con:=⟨69,aF,.bool,[.val ⟨true,aF,[]⟩],[⟨false,.bool,[0]⟩],false,none,
 ((fun _=>True):(bL)→Prop),
 ((fun x=>cX x):(bL)→(Bool))⟩
def uR:T:=.loop tI (.ci .i64 0) <|
 .bEM (.bEP 78 bC) (.Z 0) <|
 .bEM (.cmp .lss .i64) (.bEN tI tI (.Z 1) (.Z 2)) <|
 .ite (.Z 3) (
  .bEM (.bEQ 78 bC) (.bEN aF tI (.Z 0) (.Z 1)) <|
  .call 0 (.Z 4) <|
  .bEM .not (.Z 5) <|
  .ite (.Z 6) (
   .ret (.cb false)) (
   .bEM (.cmp .gtr .i64) (.bEN tI tI (.Z 1) (.ci .i64 0)) <|
   .ite (.Z 7) (
    .bEM (.ar .sub .i64) (.bEN tI tI (.Z 1) (.ci .i64 1)) <|
    .bEM (.bEQ 78 bC) (.bEN aF tI (.Z 0) (.Z 1)) <|
    .bEM (.bEQ 78 bC) (.bEN aF tI (.Z 0) (.Z 8)) <|
    .bEM (.cmp .neq .i64) (.bEN tI tI (aI bC 1 (.Z 9)) (aI bC 2 (.Z 10))) <|
    .ite (.Z 11) (
     .ret (.cb false)) (
     .bEM (.ar .add .i64) (.bEN tI tI (.Z 1) (.ci .i64 1)) <|
     .bEO 0 (.Z 12))) (
    .bEM (.ar .add .i64) (.bEN tI tI (.Z 1) (.ci .i64 1)) <|
    .bEO 0 (.Z 8)))) (
  .bEM (.bEP 78 bC) (.Z 0) <|
  .call 1 (aY (.bEL tI aD) [(.Z 4),(.ci .i64 1),(.ci .i64 8)]) <|
  .ret (.Z 5))
theorem aP4:bJ Tryz.prog [jA,bM] cH false 3000 ⟨[(2993,1001,[.dr 0,.tm 3 0])],[]⟩ = .ok uR:=by kernel_rfl
theorem aP2 (x:bL) (hx:okD aF x) (hp:(fun _=>True) x):uR.wp [jA,bM] [⟨aF,x⟩] [] (fun v=>v.as .bool=(fun x=>cX x) x):=by
 obtain ⟨hp1,hp2⟩:List.length x≤9223372036854775807∧∀ o∈(x:List dR),List.length o.2.2.2≤9223372036854775807:=⟨hx.1,fun o ho=>(hx.2 o ho).2.2.2.1⟩
 delta uR jA bM;refine eE ?_
 refine ⟨fun s=>∃ k:Nat,k≤x.length∧s=(k:Int)∧∀ i,i<k→aIE x i=true,fun s=>x.length - (s:Int).toNat,⟨0,by omega,rfl,by omega⟩,fun s _ hI=>?_⟩
 obtain ⟨k,hk,rfl,ha⟩:=hI
 refine fJ ?_
 intro _
 constructor
 ·intro hlt
  have hk':k<x.length:=by omega
  rw[bE hk',bE (show k - 1<x.length by omega)]
  have e:=sB x hk'
  have hm:=hp2 _ (List.getElem_mem hk')
  (repeat' first|intro _|(with_reducible apply And.intro))
  all_goals first|omega|exact hm|skip
  all_goals first|(refine aGJ hk' fun h=>?_;rw[e] at h;obtain ⟨h1,h2⟩:=h;first|(simp_all;done)|omega)|skip
  all_goals refine ⟨k+1,by omega,rfl,fun i hi=>?_⟩
  all_goals rcases Nat.lt_or_eq_of_le (Nat.le_of_lt_succ hi) with h|rfl
  all_goals first|exact ha i h|(refine e.2 ⟨by assumption,?_⟩;first|exact .inl (by omega)|exact .inr (by assumption)|exact .inr (by omega))
 ·intro hge
  have:k=x.length:=by omega
  subst this
  intro _
  rw[Bool.eq_iff_iff,bA]
  refine fJ ?_
  constructor
  ·intro h;exact ⟨by omega,by omega,ha⟩
  ·intro h;omega
theorem nD:Con.Holds Tryz.prog cH:=aQ aR (aG aGQ (aG iV aO)) aP4 aP2
end
end Go.Proofs.YtdeobhdbmehpgaaGreat
