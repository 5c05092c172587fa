/- Ops2: lemmas. No conditions. -/
import Derived.Test.YtmfpkkbhnmkfdaaGreatGr2
namespace Go.Proofs.YtmfpkkbhnmkfdaaGreat
noncomputable section
set_option maxRecDepth 100000
open Go.ChangeShapes Go.WideShapes Go.ChangeAt Go.RowKit Go.Deep
set_option linter.unusedVariables false
set_option linter.unusedSimpArgs false
def iZ (v:List Int):Bool:=decide (1≤v.length)&&(decide (v.length≤6)&&v.all oL)
theorem cT (v:List Int):iZ v=true↔1≤v.length∧v.length≤6∧v.all oL=true:=by unfold iZ;simp only[Bool.and_eq_true,decide_eq_true_eq]
def mT (o:eV):Int:=if o.2.1<1∨6<o.2.1∨o.2.2.1<1∨6<o.2.2.1 then 0 else if o.1=1∨o.1=5 then o.2.1 * o.2.2.1 else if o.1=2 then o.2.1 else if o.1=4 then 1 else 0
def opB (o:eV):Bool:=decide (1≤o.1∧o.1≤5∧1≤o.2.1∧o.2.1≤6∧1≤o.2.2.1∧o.2.2.1≤6∧(o.1≠1→o.2.1=o.2.2.1)∧(o.2.2.2.length:Int)=mT o)&&o.2.2.2.all oL
theorem lE (o:eV):opB o=true↔(1≤o.1∧o.1≤5∧1≤o.2.1∧o.2.1≤6∧1≤o.2.2.1∧o.2.2.1≤6∧(o.1≠1→o.2.1=o.2.2.1)∧(o.2.2.2.length:Int)=mT o)∧o.2.2.2.all oL=true:=by
 unfold opB;simp only[Bool.and_eq_true,decide_eq_true_eq]
theorem bP7 {m n:Nat}:((m:Int)=(n:Int))↔m=n:=by omega
def zOp:eV:=(0,0,0,[])
def bBE (m:List eV) (i:Nat):Bool:=opB (m.getD i zOp)&&(decide (i=0) || decide ((m.getD (i - 1) zOp).2.2.1=(m.getD i zOp).2.1))
theorem aBS (m:List eV) {i:Nat} (h:i<m.length):bBE m i=true↔opB m[i]=true∧(i=0∨(m[i - 1]'(by omega)).2.2.1=m[i].2.1):=by
 unfold bBE
 rw[aZ h,aZ (show i - 1<m.length by omega)]
 simp only[Bool.and_eq_true,Bool.or_eq_true,decide_eq_true_eq]
def cS (m:List eV):Bool:=decide (1≤m.length)&&(decide (m.length≤8)&&(List.range m.length).all (bBE m))
theorem bY (m:List eV):cS m=true↔1≤m.length∧m.length≤8∧∀ i,i<m.length→bBE m i=true:=by
 unfold cS;simp only[Bool.and_eq_true,decide_eq_true_eq,List.all_eq_true,List.mem_range]
theorem aLU {m:List eV} {i:Nat} (h:i<m.length) (hb:¬ bBE m i=true):false=cS m:=by
 refine (Bool.eq_false_iff.2 ?_).symm
 rw[ne_eq,bY]
 exact fun hh=>hb (hh.2.2 i h)
theorem aVL {o:eV} (h:o.2.1<1∨6<o.2.1∨o.2.2.1<1∨6<o.2.2.1∨(o.1≠1∧o.1≠5∧o.1≠2∧o.1≠4)):0=mT o:=by
 unfold mT
 split
 ·rfl
 ·rw[if_neg (by omega),if_neg (by omega),if_neg (by omega)]
theorem aUO {o:eV} (h:1≤o.2.1∧o.2.1≤6∧1≤o.2.2.1∧o.2.2.1≤6∧(o.1=1∨o.1=5)):o.2.1 * o.2.2.1=mT o:=by
 unfold mT;rw[if_neg (by omega),if_pos (by omega)]
theorem aUZ {o:eV} (h:1≤o.2.1∧o.2.1≤6∧1≤o.2.2.1∧o.2.2.1≤6∧o.1=2):o.2.1=mT o:=by
 unfold mT;rw[if_neg (by omega),if_neg (by omega),if_pos (by omega)]
theorem aKS {o:eV} (h:1≤o.2.1∧o.2.1≤6∧1≤o.2.2.1∧o.2.2.1≤6∧o.1=4):1=mT o:=by
 unfold mT;rw[if_neg (by omega),if_neg (by omega),if_neg (by omega),if_pos (by omega)]
theorem aWF {a b:Int} (h1:1≤a) (h2:a≤6) (h3:1≤b) (h4:b≤6):0≤a * b∧a * b≤36 :=
 ⟨Int.mul_nonneg (by omega) (by omega),Int.le_trans (Int.mul_le_mul h2 h4 (by omega) (by omega)) (by omega)⟩
def iT:Con:=⟨254,aB,.bool,[.val ⟨false,aB,[]⟩],[⟨false,.bool,[0]⟩],false,none,
 ((fun _=>True):(List Int)→Prop),
 ((fun x=>List.all x oL):(List Int)→(Bool))⟩
def aFR:T :=
 .bPA (.bPD 3 tI) (.Z 0) <|
 .loop tI (.ci .i64 0) <|
  .bPA (.cmp .lss .i64) (.bPB tI tI (.Z 2) (.Z 1)) <|
  .ite (.Z 3) (
   .bPA (.bPE 3 tI) (.bPB aB tI (.Z 0) (.Z 2)) <|
   .call 0 (.Z 4) <|
   .bPA .not (.Z 5) <|
   .ite (.Z 6) (
    .ret (.cb false)) (
    .bPA (.ar .add .i64) (.bPB tI tI (.Z 2) (.ci .i64 1)) <|
    .bPC 0 (.Z 7))) (
   .ret (.cb true))
theorem aXW:bN Tryz.prog [jY] iT false 3000 ⟨[(2993,1002,[.dr 0,.tm 7 0])],[]⟩ = .ok aFR:=by kernel_rfl
theorem bB4 (x:List Int) (hx:okD aB x) (hp:(fun _=>True) x):aFR.wp [jY] [⟨aB,x⟩] [] (fun v=>v.as .bool=(fun x=>List.all x oL) x):=by
 have hp:List.length x≤9223372036854775807:=hx.1
 delta aFR jY;refine dD ?_
 intro _
 refine ⟨fun s=>∃ k:Nat,k≤x.length∧s=(k:Int)∧(x.take k).all oL=true,fun s=>x.length - (s:Int).toNat,⟨0,by omega,rfl,rfl⟩,fun s _ hI=>?_⟩
 obtain ⟨k,hk,rfl,ha⟩:=hI
 refine dM ?_
 constructor
 ·intro hlt
  have hk':k<x.length:=by omega
  rw[aZ hk']
  have e:=mV oL x hk'
  (repeat' first|intro _|(with_reducible apply And.intro))
  all_goals first|omega|skip
  ·exact (vH hk' (by assumption)).symm
  ·exact ⟨k+1,by omega,rfl,by rw[e,ha];simpa using ‹oL _=true›⟩
 ·intro hge
  have:k=x.length:=by omega
  subst this
  rw[List.take_length] at ha
  exact ha.symm
theorem aFH:Con.Holds Tryz.prog iT:=aS aV (aH aI4 aT) aXW bB4
def sR:Con:=⟨295,bD,tI,[.val ⟨true,bD,[]⟩],[⟨false,tI,[0]⟩],false,none,
 ((fun _=>True):(eV)→Prop),
 ((fun x=>mT x):(eV)→(Int))⟩
def aED:T :=
 .bPA (.cmp .lss .i64) (.bPB tI tI (aK bD 1 (.Z 0)) (.ci .i64 1)) <|
 .ite (.Z 1) (
  .ret (.ci .i64 0)) (
  .bPA (.cmp .gtr .i64) (.bPB tI tI (aK bD 1 (.Z 0)) (.ci .i64 6)) <|
  .ite (.Z 2) (
   .ret (.ci .i64 0)) (
   .bPA (.cmp .lss .i64) (.bPB tI tI (aK bD 2 (.Z 0)) (.ci .i64 1)) <|
   .ite (.Z 3) (
    .ret (.ci .i64 0)) (
    .bPA (.cmp .gtr .i64) (.bPB tI tI (aK bD 2 (.Z 0)) (.ci .i64 6)) <|
    .ite (.Z 4) (
     .ret (.ci .i64 0)) (
     .bPA (.cmp .eql .i64) (.bPB tI tI (.p1 tI (.bP9 tI aF) (.Z 0)) (.ci .i64 1)) <|
     .ite (.Z 5) (
      .bPA (.ar .mul .i64) (.bPB tI tI (aK bD 1 (.Z 0)) (aK bD 2 (.Z 0))) <|
      .ret (.Z 6)) (
      .bPA (.cmp .eql .i64) (.bPB tI tI (.p1 tI (.bP9 tI aF) (.Z 0)) (.ci .i64 5)) <|
      .ite (.Z 6) (
       .bPA (.ar .mul .i64) (.bPB tI tI (aK bD 1 (.Z 0)) (aK bD 2 (.Z 0))) <|
       .ret (.Z 7)) (
       .bPA (.cmp .eql .i64) (.bPB tI tI (.p1 tI (.bP9 tI aF) (.Z 0)) (.ci .i64 2)) <|
       .ite (.Z 7) (
        .ret (aK bD 1 (.Z 0))) (
        .bPA (.cmp .eql .i64) (.bPB tI tI (.p1 tI (.bP9 tI aF) (.Z 0)) (.ci .i64 4)) <|
        .ite (.Z 8) (
         .ret (.ci .i64 1)) (
         .ret (.ci .i64 0)))))))))
theorem aZQ:bN Tryz.prog [] sR false 3000 ⟨[],[]⟩ = .ok aED:=by kernel_rfl
theorem bAS (x:eV) (hx:okD bD x) (hp:(fun _=>True) x):aED.wp [] [⟨bD,x⟩] [] (fun v=>v.as tI=(fun x=>mT x) x):=by
 delta aED;refine dD ?_;try with_reducible exact True.intro
 (repeat' first|intro _|(with_reducible apply And.intro))
 all_goals simp only[mP] at *
 all_goals first|omega|(have:=aWF (a:=x.2.1) (b:=x.2.2.1) (by omega) (by omega) (by omega) (by omega);omega)|exact aVL (by omega)|exact aUO (by omega)|exact aUZ (by omega)|exact aKS (by omega)
theorem aXZ:Con.Holds Tryz.prog sR:=aS aV aT aZQ bAS
def lM:Con:=⟨244,bD,.bool,[.val ⟨true,bD,[]⟩],[⟨false,.bool,[0]⟩],false,none,
 ((fun _=>True):(eV)→Prop),
 ((fun x=>opB x):(eV)→(Bool))⟩
def aLM:T :=
 .bPA (.cmp .lss .i64) (.bPB tI tI (.p1 tI (.bP9 tI aF) (.Z 0)) (.ci .i64 1)) <|
 .ite (.Z 1) (
  .ret (.cb false)) (
  .bPA (.cmp .gtr .i64) (.bPB tI tI (.p1 tI (.bP9 tI aF) (.Z 0)) (.ci .i64 5)) <|
  .ite (.Z 2) (
   .ret (.cb false)) (
   .bPA (.cmp .lss .i64) (.bPB tI tI (aK bD 1 (.Z 0)) (.ci .i64 1)) <|
   .ite (.Z 3) (
    .ret (.cb false)) (
    .bPA (.cmp .gtr .i64) (.bPB tI tI (aK bD 1 (.Z 0)) (.ci .i64 6)) <|
    .ite (.Z 4) (
     .ret (.cb false)) (
     .bPA (.cmp .lss .i64) (.bPB tI tI (aK bD 2 (.Z 0)) (.ci .i64 1)) <|
     .ite (.Z 5) (
      .ret (.cb false)) (
      .bPA (.cmp .gtr .i64) (.bPB tI tI (aK bD 2 (.Z 0)) (.ci .i64 6)) <|
      .ite (.Z 6) (
       .ret (.cb false)) (
       .bPA (.cmp .neq .i64) (.bPB tI tI (.p1 tI (.bP9 tI aF) (.Z 0)) (.ci .i64 1)) <|
       .ite (.Z 7) (
        .bPA (.cmp .neq .i64) (.bPB tI tI (aK bD 1 (.Z 0)) (aK bD 2 (.Z 0))) <|
        .ite (.Z 8) (
         .ret (.cb false)) (
         .bPA (.bPD 3 tI) (aQ bD 3 (.Z 0)) <|
         .call 0 (.Z 0) <|
         .bPA (.cmp .eql .i64) (.bPB tI tI (.Z 9) (.Z 10)) <|
         .ite (.Z 11) (
          .call 1 (aQ bD 3 (.Z 0)) <|
          .ret (.Z 12)) (
          .ret (.cb false)))) (
        .bPA (.bPD 3 tI) (aQ bD 3 (.Z 0)) <|
        .call 0 (.Z 0) <|
        .bPA (.cmp .eql .i64) (.bPB tI tI (.Z 8) (.Z 9)) <|
        .ite (.Z 10) (
         .call 1 (aQ bD 3 (.Z 0)) <|
         .ret (.Z 11)) (
         .ret (.cb false)))))))))
theorem bJ5:bN Tryz.prog [sR,iT] lM false 3000 ⟨[],[]⟩ = .ok aLM:=by kernel_rfl
theorem bJB (x:eV) (hx:okD bD x) (hp:(fun _=>True) x):aLM.wp [sR,iT] [⟨bD,x⟩] [] (fun v=>v.as .bool=(fun x=>opB x) x):=by
 have hp:List.length x.2.2.2≤9223372036854775807:=hx.2.2.2.1
 delta aLM sR iT;refine dD ?_;try with_reducible exact True.intro
 (repeat' first|intro _|(with_reducible apply And.intro))
 all_goals simp only[mP] at *
 all_goals first|assumption|(first|(refine (Bool.eq_false_iff.2 ?_).symm;rw[ne_eq,lE];intro hh;omega)|(refine (lE.2 ?_).symm;omega))|(rw[Bool.eq_iff_iff,lE];exact ⟨fun h=>⟨by omega,h⟩,fun h=>h.2⟩)
theorem aN7:Con.Holds Tryz.prog lM:=aS aV (aH aXZ (aH aFH aT)) bJ5 bJB
def bT:Con:=⟨155,aE,.bool,[.val ⟨true,aE,[]⟩],[⟨false,.bool,[0]⟩],false,none,
 ((fun _=>True):(bO)→Prop),
 ((fun x=>cS x):(bO)→(Bool))⟩
def aB2:T :=
 .bPA (.bPD 219 bD) (.Z 0) <|
 .bPA (.cmp .lss .i64) (.bPB tI tI (.Z 1) (.ci .i64 1)) <|
 .ite (.Z 2) (
  .ret (.cb false)) (
  .bPA (.bPD 219 bD) (.Z 0) <|
  .bPA (.cmp .gtr .i64) (.bPB tI tI (.Z 3) (.ci .i64 8)) <|
  .ite (.Z 4) (
   .ret (.cb false)) (
   .bPA (.bPD 219 bD) (.Z 0) <|
   .loop tI (.ci .i64 0) <|
    .bPA (.cmp .lss .i64) (.bPB tI tI (.Z 6) (.Z 5)) <|
    .ite (.Z 7) (
     .bPA (.bPE 219 bD) (.bPB aE tI (.Z 0) (.Z 6)) <|
     .call 0 (.Z 8) <|
     .bPA .not (.Z 9) <|
     .ite (.Z 10) (
      .ret (.cb false)) (
      .bPA (.cmp .gtr .i64) (.bPB tI tI (.Z 6) (.ci .i64 0)) <|
      .ite (.Z 11) (
       .bPA (.ar .sub .i64) (.bPB tI tI (.Z 6) (.ci .i64 1)) <|
       .bPA (.bPE 219 bD) (.bPB aE tI (.Z 0) (.Z 12)) <|
       .bPA (.cmp .neq .i64) (.bPB tI tI (aK bD 2 (.Z 13)) (aK bD 1 (.Z 8))) <|
       .ite (.Z 14) (
        .ret (.cb false)) (
        .bPA (.ar .add .i64) (.bPB tI tI (.Z 6) (.ci .i64 1)) <|
        .bPC 0 (.Z 15))) (
       .bPA (.ar .add .i64) (.bPB tI tI (.Z 6) (.ci .i64 1)) <|
       .bPC 0 (.Z 12)))) (
     .ret (.cb true))))
theorem aW3:bN Tryz.prog [lM] bT false 3000 ⟨[(2988,4006,iL 15 5++[.dr 0,.tm 18 0])],[]⟩ = .ok aB2:=by kernel_rfl
theorem aV6 (x:bO) (hx:okD aE x) (hp:(fun _=>True) x):aB2.wp [lM] [⟨aE,x⟩] [] (fun v=>v.as .bool=(fun x=>cS x) x):=by
 obtain ⟨hp1,hp2⟩:List.length x≤9223372036854775807∧∀ o∈(x:List eV),List.length o.2.2.2≤9223372036854775807:=⟨hx.1,fun o ho=>(hx.2 o ho).2.2.2.1⟩
 delta aB2 lM;refine dD ?_;try with_reducible exact True.intro
 (repeat' first|intro _|(with_reducible apply And.intro))
 all_goals simp only[mP] at *
 ·(first|(refine (Bool.eq_false_iff.2 ?_).symm;rw[ne_eq,bY];intro hh;omega)|(refine (bY.2 ?_).symm;omega))
 ·(first|(refine (Bool.eq_false_iff.2 ?_).symm;rw[ne_eq,bY];intro hh;omega)|(refine (bY.2 ?_).symm;omega))
 refine ⟨fun s=>∃ k:Nat,k≤x.length∧s=(k:Int)∧∀ i,i<k→bBE x i=true,fun s=>x.length - (s:Int).toNat,⟨0,by omega,rfl,by omega⟩,fun s _ hI=>?_⟩
 obtain ⟨k,hk,rfl,ha⟩:=hI
 refine dM ?_
 constructor
 ·intro hlt
  have hk':k<x.length:=by omega
  rw[aZ hk',aZ (show k - 1<x.length by omega)]
  have e:=aBS x hk'
  have hm:=hp2 _ (List.getElem_mem hk')
  (repeat' first|intro _|(with_reducible apply And.intro))
  all_goals first|omega|exact hm|skip
  all_goals first|(refine aLU hk' fun h=>?_;rw[e] at h;obtain ⟨h1,h2⟩:=h;first|(simp_all;done)|omega)|skip
  all_goals refine ⟨k+1,by omega,rfl,fun i hi=>?_⟩
  all_goals rcases Nat.lt_or_eq_of_le (Nat.le_of_lt_succ hi) with h|rfl
  all_goals first|exact ha i h|(refine e.2 ⟨by assumption,?_⟩;first|exact .inl (by omega)|exact .inr (by assumption)|exact .inr (by omega))
 ·intro hge
  have:k=x.length:=by omega
  subst this
  refine ((bY x).2 ⟨?_,?_,ha⟩).symm <;> omega
theorem iI:Con.Holds Tryz.prog bT:=aS aV (aH aN7 aT) aW3 aV6
def gT:Con:=⟨248,tI,.bool,[.val ⟨false,tI,[]⟩],[⟨false,.bool,[0]⟩],false,none,
 ((fun _=>True):(Int)→Prop),
 ((fun x=>oL x):(Int)→(Bool))⟩
def aH2:T:=.call 0 (bG (.bP9 tI aP) [(.Z 0),(.ci .i64 (-2147483647)),(.ci .i64 2147483647)]) <|.ret (.Z 1)
theorem bFH:bN Tryz.prog [bK] gT false 3000 ⟨[],[]⟩ = .ok aH2:=by kernel_rfl
theorem bEF (x:Int) (hx:okD tI x) (hp:(fun _=>True) x):aH2.wp [bK] [⟨tI,x⟩] [] (fun v=>v.as .bool=(fun x=>oL x) x):=by
 delta aH2 bK;refine dD ?_
 rw[Bool.eq_iff_iff,bJ8]
 (refine dM ?_;try with_reducible exact True.intro)
theorem aD3:Con.Holds Tryz.prog gT:=aS aV (aH fM aT) bFH bEF
def bL:Con:=⟨162,aB,.bool,[.val ⟨false,aB,[]⟩],[⟨false,.bool,[0]⟩],false,none,
 ((fun _=>True):(List Int)→Prop),
 ((fun x=>iZ x):(List Int)→(Bool))⟩
def aI2:T:=.loop tI (.ci .i64 0) <|
 .bPA (.bPD 3 tI) (.Z 0) <|
 .bPA (.cmp .lss .i64) (.bPB tI tI (.Z 1) (.Z 2)) <|
 .ite (.Z 3) (
  .bPA (.bPE 3 tI) (.bPB aB tI (.Z 0) (.Z 1)) <|
  .call 0 (.Z 4) <|
  .bPA .not (.Z 5) <|
  .ite (.Z 6) (
   .ret (.cb false)) (
   .bPA (.ar .add .i64) (.bPB tI tI (.Z 1) (.ci .i64 1)) <|
   .bPC 0 (.Z 7))) (
  .bPA (.bPD 3 tI) (.Z 0) <|
  .call 1 (bG (.bP9 tI aP) [(.Z 4),(.ci .i64 1),(.ci .i64 6)]) <|
  .ret (.Z 5))
theorem bEG:bN Tryz.prog [gT,bK] bL false 3000 ⟨[(2993,1001,[.tm 3 0])],[]⟩ = .ok aI2:=by kernel_rfl
theorem bFE (x:List Int) (hx:okD aB x) (hp:(fun _=>True) x):aI2.wp [gT,bK] [⟨aB,x⟩] [] (fun v=>v.as .bool=(fun x=>iZ x) x):=by
 have hp:List.length x≤9223372036854775807:=hx.1
 delta aI2 gT bK;refine dD ?_
 refine ⟨fun s=>∃ k:Nat,k≤x.length∧s=(k:Int)∧(x.take k).all oL=true,fun s=>x.length - (s:Int).toNat,⟨0,by omega,rfl,rfl⟩,fun s _ hI=>?_⟩
 obtain ⟨k,hk,rfl,ha⟩:=hI
 refine dM ?_
 intro _
 constructor
 ·intro hlt
  have hk':k<x.length:=by omega
  rw[aZ hk']
  have e:=mV oL x hk'
  (repeat' first|intro _|(with_reducible apply And.intro))
  all_goals first|omega|skip
  ·have:=vH hk' (by assumption)
   unfold iZ
   rw[this]
   simp
  ·exact ⟨k+1,by omega,rfl,by rw[e,ha];simpa using ‹oL _=true›⟩
 ·intro hge
  have:k=x.length:=by omega
  subst this
  rw[List.take_length] at ha
  intro _
  rw[Bool.eq_iff_iff,cT,ha]
  simp only[mP,and_true]
  omega
theorem fT:Con.Holds Tryz.prog bL:=aS aV (aH aD3 (aH fM aT)) bEG bFE
def fQ:Con:=⟨276,aI,.bool,[.val ⟨false,aB,[]⟩,.val ⟨false,aB,[]⟩],[⟨false,.bool,[0]⟩],false,none,
 ((fun _=>True):(bP)→Prop),
 ((fun x=>iZ x.1&&(iZ x.2&&decide ((x.1:List Int).length=(x.2:List Int).length))):(bP)→(Bool))⟩
def aFD:T:=.call 0 (.p1 aB aB (.Z 0)) <|.ite (.Z 1) (.call 0 (aQ aI 1 (.Z 0)) <|.ite (.Z 2) (
  .bPA (.bPD 3 tI) (.p1 aB aB (.Z 0)) <|
  .bPA (.bPD 3 tI) (aQ aI 1 (.Z 0)) <|
  .bPA (.cmp .eql .i64) (.bPB tI tI (.Z 3) (.Z 4)) <|
  .ret (.Z 5)) (
  .ret (.cb false))) (
 .ret (.cb false))
theorem bBF:bN Tryz.prog [bL] fQ false 3000 ⟨[],[]⟩ = .ok aFD:=by kernel_rfl
theorem bBU (x:bP) (hx:okD aI x) (hp:(fun _=>True) x):aFD.wp [bL] [⟨aI,x⟩] [] (fun v=>v.as .bool=(fun x=>iZ x.1&&(iZ x.2&&decide ((x.1:List Int).length=(x.2:List Int).length))) x):=by
 delta aFD bL;refine dD ?_
 cases iZ x.1 <;> cases iZ x.2 <;> simp only[reduceCtorEq,true_implies,false_implies,and_true,true_and,Bool.true_and,Bool.false_and,Bool.and_false,implies_true]
 intro _ _
 rw[Bool.eq_iff_iff,beq_iff_eq,decide_eq_true_eq]
 exact bP7
theorem zF:Con.Holds Tryz.prog fQ:=aS aV (aH fT aT) bBF bBU
def tD:Con:=⟨294,bD,tI,[.val ⟨true,bD,[]⟩],[⟨false,tI,[0]⟩],false,none,
 ((fun _=>True):(eV)→Prop),
 ((fun x=>mT x):(eV)→(Int))⟩
def aEU:T:=.call 0 (bG (.bP9 tI aP) [(aK bD 1 (.Z 0)),(.ci .i64 1),(.ci .i64 6)]) <|
 .bPA .not (.Z 1) <|
 .ite (.Z 2) (
  .ret (.ci .i64 0)) (
  .call 0 (bG (.bP9 tI aP) [(aK bD 2 (.Z 0)),(.ci .i64 1),(.ci .i64 6)]) <|
  .bPA .not (.Z 3) <|
  .ite (.Z 4) (
   .ret (.ci .i64 0)) (
   .bPA (.cmp .eql .i64) (.bPB tI tI (.p1 tI (.bP9 tI aF) (.Z 0)) (.ci .i64 1)) <|
   .ite (.Z 5) (
    .bPA (.ar .mul .i64) (.bPB tI tI (aK bD 1 (.Z 0)) (aK bD 2 (.Z 0))) <|
    .ret (.Z 6)) (
    .bPA (.cmp .eql .i64) (.bPB tI tI (.p1 tI (.bP9 tI aF) (.Z 0)) (.ci .i64 5)) <|
    .ite (.Z 6) (
     .bPA (.ar .mul .i64) (.bPB tI tI (aK bD 1 (.Z 0)) (aK bD 2 (.Z 0))) <|
     .ret (.Z 7)) (
     .bPA (.cmp .eql .i64) (.bPB tI tI (.p1 tI (.bP9 tI aF) (.Z 0)) (.ci .i64 2)) <|
     .ite (.Z 7) (
      .ret (aK bD 1 (.Z 0))) (
      .bPA (.cmp .eql .i64) (.bPB tI tI (.p1 tI (.bP9 tI aF) (.Z 0)) (.ci .i64 4)) <|
      .ite (.Z 8) (
       .ret (.ci .i64 1)) (
       .ret (.ci .i64 0)))))))
theorem bBW:bN Tryz.prog [bK] tD false 3000 ⟨[],[]⟩ = .ok aEU:=by kernel_rfl
theorem bAT (x:eV) (hx:okD bD x) (hp:(fun _=>True) x):aEU.wp [bK] [⟨bD,x⟩] [] (fun v=>v.as tI=(fun x=>mT x) x):=by
 delta aEU bK;refine dD ?_;try with_reducible exact True.intro
 (repeat' first|intro _|(with_reducible apply And.intro))
 all_goals simp only[mP] at *
 all_goals first|omega|(have:=aWF (a:=x.2.1) (b:=x.2.2.1) (by omega) (by omega) (by omega) (by omega);omega)|exact aVL (by omega)|exact aUO (by omega)|exact aUZ (by omega)|exact aKS (by omega)
theorem aZ3:Con.Holds Tryz.prog tD:=aS aV (aH fM aT) bBW bAT
def mF:Con:=⟨239,bD,.bool,[.val ⟨true,bD,[]⟩],[⟨false,.bool,[0]⟩],false,none,
 ((fun _=>True):(eV)→Prop),
 ((fun x=>opB x):(eV)→(Bool))⟩
def aMZ:T:=.call 0 (bG (.bP9 tI aP) [(.p1 tI (.bP9 tI aF) (.Z 0)),(.ci .i64 1),(.ci .i64 5)]) <|
 .bPA .not (.Z 1) <|
 .ite (.Z 2) (
  .ret (.cb false)) (
  .call 0 (bG (.bP9 tI aP) [(aK bD 1 (.Z 0)),(.ci .i64 1),(.ci .i64 6)]) <|
  .bPA .not (.Z 3) <|
  .ite (.Z 4) (
   .ret (.cb false)) (
   .call 0 (bG (.bP9 tI aP) [(aK bD 2 (.Z 0)),(.ci .i64 1),(.ci .i64 6)]) <|
   .bPA .not (.Z 5) <|
   .ite (.Z 6) (
    .ret (.cb false)) (
    .bPA (.cmp .neq .i64) (.bPB tI tI (.p1 tI (.bP9 tI aF) (.Z 0)) (.ci .i64 1)) <|
    .ite (.Z 7) (
     .bPA (.cmp .neq .i64) (.bPB tI tI (aK bD 1 (.Z 0)) (aK bD 2 (.Z 0))) <|
     .ite (.Z 8) (
      .ret (.cb false)) (
      .bPA (.bPD 3 tI) (aQ bD 3 (.Z 0)) <|
      .call 1 (.Z 0) <|
      .bPA (.cmp .neq .i64) (.bPB tI tI (.Z 9) (.Z 10)) <|
      .ite (.Z 11) (
       .ret (.cb false)) (
       .loop tI (.ci .i64 0) <|
        .bPA (.bPD 3 tI) (aQ bD 3 (.Z 0)) <|
        .bPA (.cmp .lss .i64) (.bPB tI tI (.Z 12) (.Z 13)) <|
        .ite (.Z 14) (
         .bPA (.bPE 3 tI) (.bPB aB tI (aQ bD 3 (.Z 0)) (.Z 12)) <|
         .call 2 (.Z 15) <|
         .bPA .not (.Z 16) <|
         .ite (.Z 17) (
          .ret (.cb false)) (
          .bPA (.ar .add .i64) (.bPB tI tI (.Z 12) (.ci .i64 1)) <|
          .bPC 0 (.Z 18))) (
         .ret (.cb true))))) (
     .bPA (.bPD 3 tI) (aQ bD 3 (.Z 0)) <|
     .call 1 (.Z 0) <|
     .bPA (.cmp .neq .i64) (.bPB tI tI (.Z 8) (.Z 9)) <|
     .ite (.Z 10) (
      .ret (.cb false)) (
      .loop tI (.ci .i64 0) <|
       .bPA (.bPD 3 tI) (aQ bD 3 (.Z 0)) <|
       .bPA (.cmp .lss .i64) (.bPB tI tI (.Z 11) (.Z 12)) <|
       .ite (.Z 13) (
        .bPA (.bPE 3 tI) (.bPB aB tI (aQ bD 3 (.Z 0)) (.Z 11)) <|
        .call 2 (.Z 14) <|
        .bPA .not (.Z 15) <|
        .ite (.Z 16) (
         .ret (.cb false)) (
         .bPA (.ar .add .i64) (.bPB tI tI (.Z 11) (.ci .i64 1)) <|
         .bPC 0 (.Z 17))) (
        .ret (.cb true)))))))
theorem bIE:bN Tryz.prog [bK,tD,gT] mF false 3000 ⟨[(2988,72012,iL 39 28++[.dr 26,.dr 27]++iL 25 4++[.dr 0,.tm 3 0]),(2988,32011,iL 39 28++[.dr 26,.dr 27]++iL 25 4++[.dr 0,.tm 3 0])],[]⟩ = .ok aMZ:=by kernel_rfl
theorem bHJ (x:eV) (hx:okD bD x) (hp:(fun _=>True) x):aMZ.wp [bK,tD,gT] [⟨bD,x⟩] [] (fun v=>v.as .bool=(fun x=>opB x) x):=by
  have hp:List.length x.2.2.2≤9223372036854775807:=hx.2.2.2.1
  delta aMZ bK tD gT;refine dD ?_;try with_reducible exact True.intro
  (repeat' first|intro _|(with_reducible apply And.intro))
  all_goals simp only[mP] at *
  all_goals first|assumption|(first|(refine (Bool.eq_false_iff.2 ?_).symm;rw[ne_eq,lE];intro hh;omega)|(refine (lE.2 ?_).symm;omega))|skip
  all_goals refine ⟨fun s=>∃ k:Nat,k≤x.2.2.2.length∧s=(k:Int)∧(x.2.2.2.take k).all oL=true,fun s=>x.2.2.2.length - (s:Int).toNat,⟨0,by omega,rfl,rfl⟩,fun s _ hI=>?_⟩
  all_goals obtain ⟨k,hk,rfl,ha⟩:=hI
  all_goals (refine dM ?_;try with_reducible exact True.intro)
  all_goals intro _
  all_goals have hin:k<x.2.2.2.length→x.2.2.2.getD k 0=x.2.2.2.getD k (0:Int):=fun _=>rfl
  all_goals constructor
  all_goals intro hlt
  all_goals first
    | (have hk':k<x.2.2.2.length:=by omega
       rw[aZ hk']
       have e:=mV oL x.2.2.2 hk'
       refine ⟨by omega,fun _=>⟨fun hf=>?_,fun hf=>⟨by omega,fun _=>⟨⟨k+1,by omega,rfl,by rw[e,ha,hf];rfl⟩,by omega⟩⟩⟩⟩
       have hb:=vH hk' hf
       refine (Bool.eq_false_iff.2 fun h=>?_).symm
       rw[lE] at h
       rw[hb] at h
       exact Bool.noConfusion h.2)
    | (have:k=x.2.2.2.length:=by omega
       subst this
       rw[List.take_length] at ha
       exact ((lE x).2 ⟨by omega,ha⟩).symm)
theorem aKA:Con.Holds Tryz.prog mF:=aS aV (aH fM (aH aZ3 (aH aD3 aT))) bIE bHJ
def cD:Con:=⟨151,aE,.bool,[.val ⟨true,aE,[]⟩],[⟨false,.bool,[0]⟩],false,none,
 ((fun _=>True):(bO)→Prop),
 ((fun x=>cS x):(bO)→(Bool))⟩
def aA7:T:=.loop tI (.ci .i64 0) <|
 .bPA (.bPD 219 bD) (.Z 0) <|
 .bPA (.cmp .lss .i64) (.bPB tI tI (.Z 1) (.Z 2)) <|
 .ite (.Z 3) (
  .bPA (.bPE 219 bD) (.bPB aE tI (.Z 0) (.Z 1)) <|
  .call 0 (.Z 4) <|
  .bPA .not (.Z 5) <|
  .ite (.Z 6) (
   .ret (.cb false)) (
   .bPA (.cmp .gtr .i64) (.bPB tI tI (.Z 1) (.ci .i64 0)) <|
   .ite (.Z 7) (
    .bPA (.ar .sub .i64) (.bPB tI tI (.Z 1) (.ci .i64 1)) <|
    .bPA (.bPE 219 bD) (.bPB aE tI (.Z 0) (.Z 1)) <|
    .bPA (.bPE 219 bD) (.bPB aE tI (.Z 0) (.Z 8)) <|
    .bPA (.cmp .neq .i64) (.bPB tI tI (aK bD 1 (.Z 9)) (aK bD 2 (.Z 10))) <|
    .ite (.Z 11) (
     .ret (.cb false)) (
     .bPA (.ar .add .i64) (.bPB tI tI (.Z 1) (.ci .i64 1)) <|
     .bPC 0 (.Z 12))) (
    .bPA (.ar .add .i64) (.bPB tI tI (.Z 1) (.ci .i64 1)) <|
    .bPC 0 (.Z 8)))) (
  .bPA (.bPD 219 bD) (.Z 0) <|
  .call 1 (bG (.bP9 tI aP) [(.Z 4),(.ci .i64 1),(.ci .i64 8)]) <|
  .ret (.Z 5))
theorem aU6:bN Tryz.prog [mF,bK] cD false 3000 ⟨[(2993,1001,[.dr 0,.tm 3 0])],[]⟩ = .ok aA7:=by kernel_rfl
theorem aVX (x:bO) (hx:okD aE x) (hp:(fun _=>True) x):aA7.wp [mF,bK] [⟨aE,x⟩] [] (fun v=>v.as .bool=(fun x=>cS x) x):=by
 obtain ⟨hp1,hp2⟩:List.length x≤9223372036854775807∧∀ o∈(x:List eV),List.length o.2.2.2≤9223372036854775807:=⟨hx.1,fun o ho=>(hx.2 o ho).2.2.2.1⟩
 delta aA7 mF bK;refine dD ?_
 refine ⟨fun s=>∃ k:Nat,k≤x.length∧s=(k:Int)∧∀ i,i<k→bBE x i=true,fun s=>x.length - (s:Int).toNat,⟨0,by omega,rfl,by omega⟩,fun s _ hI=>?_⟩
 obtain ⟨k,hk,rfl,ha⟩:=hI
 refine dM ?_
 intro _
 constructor
 ·intro hlt
  have hk':k<x.length:=by omega
  rw[aZ hk',aZ (show k - 1<x.length by omega)]
  have e:=aBS x hk'
  have hm:=hp2 _ (List.getElem_mem hk')
  (repeat' first|intro _|(with_reducible apply And.intro))
  all_goals first|omega|exact hm|skip
  all_goals first|(refine aLU hk' fun h=>?_;rw[e] at h;obtain ⟨h1,h2⟩:=h;first|(simp_all;done)|omega)|skip
  all_goals refine ⟨k+1,by omega,rfl,fun i hi=>?_⟩
  all_goals rcases Nat.lt_or_eq_of_le (Nat.le_of_lt_succ hi) with h|rfl
  all_goals first|exact ha i h|(refine e.2 ⟨by assumption,?_⟩;first|exact .inl (by omega)|exact .inr (by assumption)|exact .inr (by omega))
 ·intro hge
  have:k=x.length:=by omega
  subst this
  intro _
  rw[Bool.eq_iff_iff,bY]
  refine dM ?_
  constructor
  ·intro h;exact ⟨by omega,by omega,ha⟩
  ·intro h;omega
theorem kP:Con.Holds Tryz.prog cD:=aS aV (aH aKA (aH fM aT)) aU6 aVX
end
end Go.Proofs.YtmfpkkbhnmkfdaaGreat
