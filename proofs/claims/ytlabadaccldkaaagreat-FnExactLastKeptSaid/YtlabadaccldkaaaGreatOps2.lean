/- Ops2: lemmas. No conditions. -/
import Derived.Test.YtlabadaccldkaaaGreatGr2
namespace Go.Proofs.YtlabadaccldkaaaGreat
noncomputable section
set_option maxRecDepth 100000
open Go.ChangeShapes Go.WideShapes Go.ChangeAt Go.RowKit Go.Deep
set_option linter.unusedVariables false
set_option linter.unusedSimpArgs false
def pP (v:List Int):Bool:=decide (1≤v.length)&&(decide (v.length≤6)&&v.all qX)
theorem tJ (v:List Int):pP v=true↔1≤v.length∧v.length≤6∧v.all qX=true:=by unfold pP;simp only[Bool.and_eq_true,decide_eq_true_eq]
def lF (o:jT):Int:=if o.2.1<1∨6<o.2.1∨o.2.2.1<1∨6<o.2.2.1 then 0 else if o.1=1∨o.1=5 then o.2.1 * o.2.2.1 else if o.1=2 then o.2.1 else if o.1=4 then 1 else 0
def opB (o:jT):Bool:=decide (1≤o.1∧o.1≤5∧1≤o.2.1∧o.2.1≤6∧1≤o.2.2.1∧o.2.2.1≤6∧(o.1≠1→o.2.1=o.2.2.1)∧(o.2.2.2.length:Int)=lF o)&&o.2.2.2.all qX
theorem qA (o:jT):opB o=true↔(1≤o.1∧o.1≤5∧1≤o.2.1∧o.2.1≤6∧1≤o.2.2.1∧o.2.2.1≤6∧(o.1≠1→o.2.1=o.2.2.1)∧(o.2.2.2.length:Int)=lF o)∧o.2.2.2.all qX=true:=by
 unfold opB;simp only[Bool.and_eq_true,decide_eq_true_eq]
def zOp:jT:=(0,0,0,[])
def aNB (m:List jT) (i:Nat):Bool:=opB (m.getD i zOp)&&(decide (i=0) || decide ((m.getD (i - 1) zOp).2.2.1=(m.getD i zOp).2.1))
theorem yF (m:List jT) {i:Nat} (h:i<m.length):aNB m i=true↔opB m[i]=true∧(i=0∨(m[i - 1]'(by omega)).2.2.1=m[i].2.1):=by
 unfold aNB
 rw[bG h,bG (show i - 1<m.length by omega)]
 simp only[Bool.and_eq_true,Bool.or_eq_true,decide_eq_true_eq]
def iM (m:List jT):Bool:=decide (1≤m.length)&&(decide (m.length≤8)&&(List.range m.length).all (aNB m))
theorem cB (m:List jT):iM m=true↔1≤m.length∧m.length≤8∧∀ i,i<m.length→aNB m i=true:=by
 unfold iM;simp only[Bool.and_eq_true,decide_eq_true_eq,List.all_eq_true,List.mem_range]
theorem aD6 {m:List jT} {i:Nat} (h:i<m.length) (hb:¬ aNB m i=true):false=iM m:=by
 refine (Bool.eq_false_iff.2 ?_).symm
 rw[ne_eq,cB]
 exact fun hh=>hb (hh.2.2 i h)
theorem aL1 {o:jT} (h:o.2.1<1∨6<o.2.1∨o.2.2.1<1∨6<o.2.2.1∨(o.1≠1∧o.1≠5∧o.1≠2∧o.1≠4)):0=lF o:=by
 unfold lF
 split
 ·rfl
 ·rw[if_neg (by omega),if_neg (by omega),if_neg (by omega)]
theorem aLL {o:jT} (h:1≤o.2.1∧o.2.1≤6∧1≤o.2.2.1∧o.2.2.1≤6∧(o.1=1∨o.1=5)):o.2.1 * o.2.2.1=lF o:=by
 unfold lF;rw[if_neg (by omega),if_pos (by omega)]
theorem aIQ {o:jT} (h:1≤o.2.1∧o.2.1≤6∧1≤o.2.2.1∧o.2.2.1≤6∧o.1=2):o.2.1=lF o:=by
 unfold lF;rw[if_neg (by omega),if_neg (by omega),if_pos (by omega)]
theorem aKR {o:jT} (h:1≤o.2.1∧o.2.1≤6∧1≤o.2.2.1∧o.2.2.1≤6∧o.1=4):1=lF o:=by
 unfold lF;rw[if_neg (by omega),if_neg (by omega),if_neg (by omega),if_pos (by omega)]
theorem aVC {a b:Int} (h1:1≤a) (h2:a≤6) (h3:1≤b) (h4:b≤6):0≤a * b∧a * b≤36 :=
 ⟨Int.mul_nonneg (by omega) (by omega),Int.le_trans (Int.mul_le_mul h2 h4 (by omega) (by omega)) (by omega)⟩
def iZ:Con:=⟨98,aA,.bool,[.val ⟨false,aA,[]⟩],[⟨false,.bool,[0]⟩],false,none,
 ((fun _=>True):(List Int)→Prop),
 ((fun x=>List.all x qX):(List Int)→(Bool))⟩
def wU:T :=
 .aWT (.aWW 3 tI) (.Z 0) <|
 .loop tI (.ci .i64 0) <|
  .aWT (.cmp .lss .i64) (.aWU tI tI (.Z 2) (.Z 1)) <|
  .ite (.Z 3) (
   .aWT (.aWX 3 tI) (.aWU aA tI (.Z 0) (.Z 2)) <|
   .call 0 (.Z 4) <|
   .aWT .not (.Z 5) <|
   .ite (.Z 6) (
    .ret (.cb false)) (
    .aWT (.ar .add .i64) (.aWU tI tI (.Z 2) (.ci .i64 1)) <|
    .aWV 0 (.Z 7))) (
   .ret (.cb true))
theorem aM4:cW Tryz.prog [qW] iZ false 3000 ⟨[(2993,1002,[.dr 0,.tm 7 0])],[]⟩ = .ok wU:=by kernel_rfl
theorem aM6 (x:List Int) (hx:okD aA x) (hp:(fun _=>True) x):wU.wp [qW] [⟨aA,x⟩] [] (fun v=>v.as .bool=(fun x=>List.all x qX) x):=by
 have hp:List.length x≤9223372036854775807:=hx.1
 delta wU qW;refine jN ?_
 intro _
 refine ⟨fun s=>∃ k:Nat,k≤x.length∧s=(k:Int)∧(x.take k).all qX=true,fun s=>x.length - (s:Int).toNat,⟨0,by omega,rfl,rfl⟩,fun s _ hI=>?_⟩
 obtain ⟨k,hk,rfl,ha⟩:=hI
 refine gJ ?_
 constructor
 ·intro hlt
  have hk':k<x.length:=by omega
  rw[bG hk']
  have e:=qY qX x hk'
  (repeat' first|intro _|(with_reducible apply And.intro))
  all_goals first|omega|skip
  ·exact (yB hk' (by assumption)).symm
  ·exact ⟨k+1,by omega,rfl,by rw[e,ha];simpa using ‹qX _=true›⟩
 ·intro hge
  have:k=x.length:=by omega
  subst this
  rw[List.take_length] at ha
  exact ha.symm
theorem aDV:Con.Holds Tryz.prog iZ:=aX bI (aR aQJ aY) aM4 aM6
def pL:Con:=⟨113,aZ,tI,[.val ⟨true,aZ,[]⟩],[⟨false,tI,[0]⟩],false,none,
 ((fun _=>True):(jT)→Prop),
 ((fun x=>lF x):(jT)→(Int))⟩
def xB:T :=
 .aWT (.cmp .lss .i64) (.aWU tI tI (aO aZ 1 (.Z 0)) (.ci .i64 1)) <|
 .ite (.Z 1) (
  .ret (.ci .i64 0)) (
  .aWT (.cmp .gtr .i64) (.aWU tI tI (aO aZ 1 (.Z 0)) (.ci .i64 6)) <|
  .ite (.Z 2) (
   .ret (.ci .i64 0)) (
   .aWT (.cmp .lss .i64) (.aWU tI tI (aO aZ 2 (.Z 0)) (.ci .i64 1)) <|
   .ite (.Z 3) (
    .ret (.ci .i64 0)) (
    .aWT (.cmp .gtr .i64) (.aWU tI tI (aO aZ 2 (.Z 0)) (.ci .i64 6)) <|
    .ite (.Z 4) (
     .ret (.ci .i64 0)) (
     .aWT (.cmp .eql .i64) (.aWU tI tI (.p1 tI (.aWS tI aP) (.Z 0)) (.ci .i64 1)) <|
     .ite (.Z 5) (
      .aWT (.ar .mul .i64) (.aWU tI tI (aO aZ 1 (.Z 0)) (aO aZ 2 (.Z 0))) <|
      .ret (.Z 6)) (
      .aWT (.cmp .eql .i64) (.aWU tI tI (.p1 tI (.aWS tI aP) (.Z 0)) (.ci .i64 5)) <|
      .ite (.Z 6) (
       .aWT (.ar .mul .i64) (.aWU tI tI (aO aZ 1 (.Z 0)) (aO aZ 2 (.Z 0))) <|
       .ret (.Z 7)) (
       .aWT (.cmp .eql .i64) (.aWU tI tI (.p1 tI (.aWS tI aP) (.Z 0)) (.ci .i64 2)) <|
       .ite (.Z 7) (
        .ret (aO aZ 1 (.Z 0))) (
        .aWT (.cmp .eql .i64) (.aWU tI tI (.p1 tI (.aWS tI aP) (.Z 0)) (.ci .i64 4)) <|
        .ite (.Z 8) (
         .ret (.ci .i64 1)) (
         .ret (.ci .i64 0)))))))))
theorem aO2:cW Tryz.prog [] pL false 3000 ⟨[],[]⟩ = .ok xB:=by kernel_rfl
theorem aMM (x:jT) (hx:okD aZ x) (hp:(fun _=>True) x):xB.wp [] [⟨aZ,x⟩] [] (fun v=>v.as tI=(fun x=>lF x) x):=by
 delta xB;refine jN ?_;try with_reducible exact True.intro
 (repeat' first|intro _|(with_reducible apply And.intro))
 all_goals simp only[dzx] at *
 all_goals first|omega|(have:=aVC (a:=x.2.1) (b:=x.2.2.1) (by omega) (by omega) (by omega) (by omega);omega)|exact aL1 (by omega)|exact aLL (by omega)|exact aIQ (by omega)|exact aKR (by omega)
theorem aMU:Con.Holds Tryz.prog pL:=aX bI aY aO2 aMM
def uQ:Con:=⟨110,aZ,.bool,[.val ⟨true,aZ,[]⟩],[⟨false,.bool,[0]⟩],false,none,
 ((fun _=>True):(jT)→Prop),
 ((fun x=>opB x):(jT)→(Bool))⟩
def aDQ:T :=
 .aWT (.cmp .lss .i64) (.aWU tI tI (.p1 tI (.aWS tI aP) (.Z 0)) (.ci .i64 1)) <|
 .ite (.Z 1) (
  .ret (.cb false)) (
  .aWT (.cmp .gtr .i64) (.aWU tI tI (.p1 tI (.aWS tI aP) (.Z 0)) (.ci .i64 5)) <|
  .ite (.Z 2) (
   .ret (.cb false)) (
   .aWT (.cmp .lss .i64) (.aWU tI tI (aO aZ 1 (.Z 0)) (.ci .i64 1)) <|
   .ite (.Z 3) (
    .ret (.cb false)) (
    .aWT (.cmp .gtr .i64) (.aWU tI tI (aO aZ 1 (.Z 0)) (.ci .i64 6)) <|
    .ite (.Z 4) (
     .ret (.cb false)) (
     .aWT (.cmp .lss .i64) (.aWU tI tI (aO aZ 2 (.Z 0)) (.ci .i64 1)) <|
     .ite (.Z 5) (
      .ret (.cb false)) (
      .aWT (.cmp .gtr .i64) (.aWU tI tI (aO aZ 2 (.Z 0)) (.ci .i64 6)) <|
      .ite (.Z 6) (
       .ret (.cb false)) (
       .aWT (.cmp .neq .i64) (.aWU tI tI (.p1 tI (.aWS tI aP) (.Z 0)) (.ci .i64 1)) <|
       .ite (.Z 7) (
        .aWT (.cmp .neq .i64) (.aWU tI tI (aO aZ 1 (.Z 0)) (aO aZ 2 (.Z 0))) <|
        .ite (.Z 8) (
         .ret (.cb false)) (
         .aWT (.aWW 3 tI) (aG aZ 3 (.Z 0)) <|
         .call 0 (.Z 0) <|
         .aWT (.cmp .eql .i64) (.aWU tI tI (.Z 9) (.Z 10)) <|
         .ite (.Z 11) (
          .call 1 (aG aZ 3 (.Z 0)) <|
          .ret (.Z 12)) (
          .ret (.cb false)))) (
        .aWT (.aWW 3 tI) (aG aZ 3 (.Z 0)) <|
        .call 0 (.Z 0) <|
        .aWT (.cmp .eql .i64) (.aWU tI tI (.Z 8) (.Z 9)) <|
        .ite (.Z 10) (
         .call 1 (aG aZ 3 (.Z 0)) <|
         .ret (.Z 11)) (
         .ret (.cb false)))))))))
theorem aRE:cW Tryz.prog [pL,iZ] uQ false 3000 ⟨[],[]⟩ = .ok aDQ:=by kernel_rfl
theorem aRA (x:jT) (hx:okD aZ x) (hp:(fun _=>True) x):aDQ.wp [pL,iZ] [⟨aZ,x⟩] [] (fun v=>v.as .bool=(fun x=>opB x) x):=by
 have hp:List.length x.2.2.2≤9223372036854775807:=hx.2.2.2.1
 delta aDQ pL iZ;refine jN ?_;try with_reducible exact True.intro
 (repeat' first|intro _|(with_reducible apply And.intro))
 all_goals simp only[dzx] at *
 all_goals first|assumption|(first|(refine (Bool.eq_false_iff.2 ?_).symm;rw[ne_eq,qA];intro hh;omega)|(refine (qA.2 ?_).symm;omega))|(rw[Bool.eq_iff_iff,qA];exact ⟨fun h=>⟨by omega,h⟩,fun h=>h.2⟩)
theorem aSR:Con.Holds Tryz.prog uQ:=aX bI (aR aMU (aR aDV aY)) aRE aRA
def eP:Con:=⟨101,aK,.bool,[.val ⟨true,aK,[]⟩],[⟨false,.bool,[0]⟩],false,none,
 ((fun _=>True):(hZ)→Prop),
 ((fun x=>iM x):(hZ)→(Bool))⟩
def uD:T :=
 .aWT (.aWW 90 aZ) (.Z 0) <|
 .aWT (.cmp .lss .i64) (.aWU tI tI (.Z 1) (.ci .i64 1)) <|
 .ite (.Z 2) (
  .ret (.cb false)) (
  .aWT (.aWW 90 aZ) (.Z 0) <|
  .aWT (.cmp .gtr .i64) (.aWU tI tI (.Z 3) (.ci .i64 8)) <|
  .ite (.Z 4) (
   .ret (.cb false)) (
   .aWT (.aWW 90 aZ) (.Z 0) <|
   .loop tI (.ci .i64 0) <|
    .aWT (.cmp .lss .i64) (.aWU tI tI (.Z 6) (.Z 5)) <|
    .ite (.Z 7) (
     .aWT (.aWX 90 aZ) (.aWU aK tI (.Z 0) (.Z 6)) <|
     .call 0 (.Z 8) <|
     .aWT .not (.Z 9) <|
     .ite (.Z 10) (
      .ret (.cb false)) (
      .aWT (.cmp .gtr .i64) (.aWU tI tI (.Z 6) (.ci .i64 0)) <|
      .ite (.Z 11) (
       .aWT (.ar .sub .i64) (.aWU tI tI (.Z 6) (.ci .i64 1)) <|
       .aWT (.aWX 90 aZ) (.aWU aK tI (.Z 0) (.Z 12)) <|
       .aWT (.cmp .neq .i64) (.aWU tI tI (aO aZ 2 (.Z 13)) (aO aZ 1 (.Z 8))) <|
       .ite (.Z 14) (
        .ret (.cb false)) (
        .aWT (.ar .add .i64) (.aWU tI tI (.Z 6) (.ci .i64 1)) <|
        .aWV 0 (.Z 15))) (
       .aWT (.ar .add .i64) (.aWU tI tI (.Z 6) (.ci .i64 1)) <|
       .aWV 0 (.Z 12)))) (
     .ret (.cb true))))
theorem aJR:cW Tryz.prog [uQ] eP false 3000 ⟨[(2988,4006,fG 15 5++[.dr 0,.tm 18 0])],[]⟩ = .ok uD:=by kernel_rfl
theorem aJV (x:hZ) (hx:okD aK x) (hp:(fun _=>True) x):uD.wp [uQ] [⟨aK,x⟩] [] (fun v=>v.as .bool=(fun x=>iM x) x):=by
 obtain ⟨hp1,hp2⟩:List.length x≤9223372036854775807∧∀ o∈(x:List jT),List.length o.2.2.2≤9223372036854775807:=⟨hx.1,fun o ho=>(hx.2 o ho).2.2.2.1⟩
 delta uD uQ;refine jN ?_;try with_reducible exact True.intro
 (repeat' first|intro _|(with_reducible apply And.intro))
 all_goals simp only[dzx] at *
 ·(first|(refine (Bool.eq_false_iff.2 ?_).symm;rw[ne_eq,cB];intro hh;omega)|(refine (cB.2 ?_).symm;omega))
 ·(first|(refine (Bool.eq_false_iff.2 ?_).symm;rw[ne_eq,cB];intro hh;omega)|(refine (cB.2 ?_).symm;omega))
 refine ⟨fun s=>∃ k:Nat,k≤x.length∧s=(k:Int)∧∀ i,i<k→aNB x i=true,fun s=>x.length - (s:Int).toNat,⟨0,by omega,rfl,by omega⟩,fun s _ hI=>?_⟩
 obtain ⟨k,hk,rfl,ha⟩:=hI
 refine gJ ?_
 constructor
 ·intro hlt
  have hk':k<x.length:=by omega
  rw[bG hk',bG (show k - 1<x.length by omega)]
  have e:=yF x hk'
  have hm:=hp2 _ (List.getElem_mem hk')
  (repeat' first|intro _|(with_reducible apply And.intro))
  all_goals first|omega|exact hm|skip
  all_goals first|(refine aD6 hk' fun h=>?_;rw[e] at h;obtain ⟨h1,h2⟩:=h;first|(simp_all;done)|omega)|skip
  all_goals refine ⟨k+1,by omega,rfl,fun i hi=>?_⟩
  all_goals rcases Nat.lt_or_eq_of_le (Nat.le_of_lt_succ hi) with h|rfl
  all_goals first|exact ha i h|(refine e.2 ⟨by assumption,?_⟩;first|exact .inl (by omega)|exact .inr (by assumption)|exact .inr (by omega))
 ·intro hge
  have:k=x.length:=by omega
  subst this
  refine ((cB x).2 ⟨?_,?_,ha⟩).symm <;> omega
theorem tZ:Con.Holds Tryz.prog eP:=aX bI (aR aSR aY) aJR aJV
def kN:Con:=⟨96,tI,.bool,[.val ⟨false,tI,[]⟩],[⟨false,.bool,[0]⟩],false,none,
 ((fun _=>True):(Int)→Prop),
 ((fun x=>qX x):(Int)→(Bool))⟩
def zO:T:=.call 0 (aQ (.aWS tI aJ) [(.Z 0),(.ci .i64 (-2147483647)),(.ci .i64 2147483647)]) <|.ret (.Z 1)
theorem aQP:cW Tryz.prog [bO] kN false 3000 ⟨[],[]⟩ = .ok zO:=by kernel_rfl
theorem aPK (x:Int) (hx:okD tI x) (hp:(fun _=>True) x):zO.wp [bO] [⟨tI,x⟩] [] (fun v=>v.as .bool=(fun x=>qX x) x):=by
 delta zO bO;refine jN ?_
 rw[Bool.eq_iff_iff,aIT]
 (refine gJ ?_;try with_reducible exact True.intro)
theorem aFT:Con.Holds Tryz.prog kN:=aX bI (aR iI aY) aQP aPK
def eV:Con:=⟨79,aA,.bool,[.val ⟨false,aA,[]⟩],[⟨false,.bool,[0]⟩],false,none,
 ((fun _=>True):(List Int)→Prop),
 ((fun x=>pP x):(List Int)→(Bool))⟩
def aA1:T:=.loop tI (.ci .i64 0) <|
 .aWT (.aWW 3 tI) (.Z 0) <|
 .aWT (.cmp .lss .i64) (.aWU tI tI (.Z 1) (.Z 2)) <|
 .ite (.Z 3) (
  .aWT (.aWX 3 tI) (.aWU aA tI (.Z 0) (.Z 1)) <|
  .call 0 (.Z 4) <|
  .aWT .not (.Z 5) <|
  .ite (.Z 6) (
   .ret (.cb false)) (
   .aWT (.ar .add .i64) (.aWU tI tI (.Z 1) (.ci .i64 1)) <|
   .aWV 0 (.Z 7))) (
  .aWT (.aWW 3 tI) (.Z 0) <|
  .call 1 (aQ (.aWS tI aJ) [(.Z 4),(.ci .i64 1),(.ci .i64 6)]) <|
  .ret (.Z 5))
theorem aQ4:cW Tryz.prog [kN,bO] eV false 3000 ⟨[(2993,1001,[.tm 3 0])],[]⟩ = .ok aA1:=by kernel_rfl
theorem aQ8 (x:List Int) (hx:okD aA x) (hp:(fun _=>True) x):aA1.wp [kN,bO] [⟨aA,x⟩] [] (fun v=>v.as .bool=(fun x=>pP x) x):=by
 have hp:List.length x≤9223372036854775807:=hx.1
 delta aA1 kN bO;refine jN ?_
 refine ⟨fun s=>∃ k:Nat,k≤x.length∧s=(k:Int)∧(x.take k).all qX=true,fun s=>x.length - (s:Int).toNat,⟨0,by omega,rfl,rfl⟩,fun s _ hI=>?_⟩
 obtain ⟨k,hk,rfl,ha⟩:=hI
 refine gJ ?_
 intro _
 constructor
 ·intro hlt
  have hk':k<x.length:=by omega
  rw[bG hk']
  have e:=qY qX x hk'
  (repeat' first|intro _|(with_reducible apply And.intro))
  all_goals first|omega|skip
  ·have:=yB hk' (by assumption)
   unfold pP
   rw[this]
   simp
  ·exact ⟨k+1,by omega,rfl,by rw[e,ha];simpa using ‹qX _=true›⟩
 ·intro hge
  have:k=x.length:=by omega
  subst this
  rw[List.take_length] at ha
  intro _
  rw[Bool.eq_iff_iff,tJ,ha]
  simp only[dzx,and_true]
  omega
theorem vH:Con.Holds Tryz.prog eV:=aX bI (aR aFT (aR iI aY)) aQ4 aQ8
def pC:Con:=⟨112,aZ,tI,[.val ⟨true,aZ,[]⟩],[⟨false,tI,[0]⟩],false,none,
 ((fun _=>True):(jT)→Prop),
 ((fun x=>lF x):(jT)→(Int))⟩
def wW:T:=.call 0 (aQ (.aWS tI aJ) [(aO aZ 1 (.Z 0)),(.ci .i64 1),(.ci .i64 6)]) <|
 .aWT .not (.Z 1) <|
 .ite (.Z 2) (
  .ret (.ci .i64 0)) (
  .call 0 (aQ (.aWS tI aJ) [(aO aZ 2 (.Z 0)),(.ci .i64 1),(.ci .i64 6)]) <|
  .aWT .not (.Z 3) <|
  .ite (.Z 4) (
   .ret (.ci .i64 0)) (
   .aWT (.cmp .eql .i64) (.aWU tI tI (.p1 tI (.aWS tI aP) (.Z 0)) (.ci .i64 1)) <|
   .ite (.Z 5) (
    .aWT (.ar .mul .i64) (.aWU tI tI (aO aZ 1 (.Z 0)) (aO aZ 2 (.Z 0))) <|
    .ret (.Z 6)) (
    .aWT (.cmp .eql .i64) (.aWU tI tI (.p1 tI (.aWS tI aP) (.Z 0)) (.ci .i64 5)) <|
    .ite (.Z 6) (
     .aWT (.ar .mul .i64) (.aWU tI tI (aO aZ 1 (.Z 0)) (aO aZ 2 (.Z 0))) <|
     .ret (.Z 7)) (
     .aWT (.cmp .eql .i64) (.aWU tI tI (.p1 tI (.aWS tI aP) (.Z 0)) (.ci .i64 2)) <|
     .ite (.Z 7) (
      .ret (aO aZ 1 (.Z 0))) (
      .aWT (.cmp .eql .i64) (.aWU tI tI (.p1 tI (.aWS tI aP) (.Z 0)) (.ci .i64 4)) <|
      .ite (.Z 8) (
       .ret (.ci .i64 1)) (
       .ret (.ci .i64 0)))))))
theorem aNC:cW Tryz.prog [bO] pC false 3000 ⟨[],[]⟩ = .ok wW:=by kernel_rfl
theorem aNW (x:jT) (hx:okD aZ x) (hp:(fun _=>True) x):wW.wp [bO] [⟨aZ,x⟩] [] (fun v=>v.as tI=(fun x=>lF x) x):=by
 delta wW bO;refine jN ?_;try with_reducible exact True.intro
 (repeat' first|intro _|(with_reducible apply And.intro))
 all_goals simp only[dzx] at *
 all_goals first|omega|(have:=aVC (a:=x.2.1) (b:=x.2.2.1) (by omega) (by omega) (by omega) (by omega);omega)|exact aL1 (by omega)|exact aLL (by omega)|exact aIQ (by omega)|exact aKR (by omega)
theorem aN6:Con.Holds Tryz.prog pC:=aX bI (aR iI aY) aNC aNW
def uP:Con:=⟨108,aZ,.bool,[.val ⟨true,aZ,[]⟩],[⟨false,.bool,[0]⟩],false,none,
 ((fun _=>True):(jT)→Prop),
 ((fun x=>opB x):(jT)→(Bool))⟩
def aCF:T:=.call 0 (aQ (.aWS tI aJ) [(.p1 tI (.aWS tI aP) (.Z 0)),(.ci .i64 1),(.ci .i64 5)]) <|
 .aWT .not (.Z 1) <|
 .ite (.Z 2) (
  .ret (.cb false)) (
  .call 0 (aQ (.aWS tI aJ) [(aO aZ 1 (.Z 0)),(.ci .i64 1),(.ci .i64 6)]) <|
  .aWT .not (.Z 3) <|
  .ite (.Z 4) (
   .ret (.cb false)) (
   .call 0 (aQ (.aWS tI aJ) [(aO aZ 2 (.Z 0)),(.ci .i64 1),(.ci .i64 6)]) <|
   .aWT .not (.Z 5) <|
   .ite (.Z 6) (
    .ret (.cb false)) (
    .aWT (.cmp .neq .i64) (.aWU tI tI (.p1 tI (.aWS tI aP) (.Z 0)) (.ci .i64 1)) <|
    .ite (.Z 7) (
     .aWT (.cmp .neq .i64) (.aWU tI tI (aO aZ 1 (.Z 0)) (aO aZ 2 (.Z 0))) <|
     .ite (.Z 8) (
      .ret (.cb false)) (
      .aWT (.aWW 3 tI) (aG aZ 3 (.Z 0)) <|
      .call 1 (.Z 0) <|
      .aWT (.cmp .neq .i64) (.aWU tI tI (.Z 9) (.Z 10)) <|
      .ite (.Z 11) (
       .ret (.cb false)) (
       .loop tI (.ci .i64 0) <|
        .aWT (.aWW 3 tI) (aG aZ 3 (.Z 0)) <|
        .aWT (.cmp .lss .i64) (.aWU tI tI (.Z 12) (.Z 13)) <|
        .ite (.Z 14) (
         .aWT (.aWX 3 tI) (.aWU aA tI (aG aZ 3 (.Z 0)) (.Z 12)) <|
         .call 2 (.Z 15) <|
         .aWT .not (.Z 16) <|
         .ite (.Z 17) (
          .ret (.cb false)) (
          .aWT (.ar .add .i64) (.aWU tI tI (.Z 12) (.ci .i64 1)) <|
          .aWV 0 (.Z 18))) (
         .ret (.cb true))))) (
     .aWT (.aWW 3 tI) (aG aZ 3 (.Z 0)) <|
     .call 1 (.Z 0) <|
     .aWT (.cmp .neq .i64) (.aWU tI tI (.Z 8) (.Z 9)) <|
     .ite (.Z 10) (
      .ret (.cb false)) (
      .loop tI (.ci .i64 0) <|
       .aWT (.aWW 3 tI) (aG aZ 3 (.Z 0)) <|
       .aWT (.cmp .lss .i64) (.aWU tI tI (.Z 11) (.Z 12)) <|
       .ite (.Z 13) (
        .aWT (.aWX 3 tI) (.aWU aA tI (aG aZ 3 (.Z 0)) (.Z 11)) <|
        .call 2 (.Z 14) <|
        .aWT .not (.Z 15) <|
        .ite (.Z 16) (
         .ret (.cb false)) (
         .aWT (.ar .add .i64) (.aWU tI tI (.Z 11) (.ci .i64 1)) <|
         .aWV 0 (.Z 17))) (
        .ret (.cb true)))))))
theorem aRQ:cW Tryz.prog [bO,pC,kN] uP false 3000 ⟨[(2988,72012,fG 39 28++[.dr 26,.dr 27]++fG 25 4++[.dr 0,.tm 3 0]),(2988,32011,fG 39 28++[.dr 26,.dr 27]++fG 25 4++[.dr 0,.tm 3 0])],[]⟩ = .ok aCF:=by kernel_rfl
theorem aTA (x:jT) (hx:okD aZ x) (hp:(fun _=>True) x):aCF.wp [bO,pC,kN] [⟨aZ,x⟩] [] (fun v=>v.as .bool=(fun x=>opB x) x):=by
  have hp:List.length x.2.2.2≤9223372036854775807:=hx.2.2.2.1
  delta aCF bO pC kN;refine jN ?_;try with_reducible exact True.intro
  (repeat' first|intro _|(with_reducible apply And.intro))
  all_goals simp only[dzx] at *
  all_goals first|assumption|(first|(refine (Bool.eq_false_iff.2 ?_).symm;rw[ne_eq,qA];intro hh;omega)|(refine (qA.2 ?_).symm;omega))|skip
  all_goals refine ⟨fun s=>∃ k:Nat,k≤x.2.2.2.length∧s=(k:Int)∧(x.2.2.2.take k).all qX=true,fun s=>x.2.2.2.length - (s:Int).toNat,⟨0,by omega,rfl,rfl⟩,fun s _ hI=>?_⟩
  all_goals obtain ⟨k,hk,rfl,ha⟩:=hI
  all_goals (refine gJ ?_;try with_reducible exact True.intro)
  all_goals intro _
  all_goals have hin:k<x.2.2.2.length→x.2.2.2.getD k 0=x.2.2.2.getD k (0:Int):=fun _=>rfl
  all_goals constructor
  all_goals intro hlt
  all_goals first
    | (have hk':k<x.2.2.2.length:=by omega
       rw[bG hk']
       have e:=qY qX x.2.2.2 hk'
       refine ⟨by omega,fun _=>⟨fun hf=>?_,fun hf=>⟨by omega,fun _=>⟨⟨k+1,by omega,rfl,by rw[e,ha,hf];rfl⟩,by omega⟩⟩⟩⟩
       have hb:=yB hk' hf
       refine (Bool.eq_false_iff.2 fun h=>?_).symm
       rw[qA] at h
       rw[hb] at h
       exact Bool.noConfusion h.2)
    | (have:k=x.2.2.2.length:=by omega
       subst this
       rw[List.take_length] at ha
       exact ((qA x).2 ⟨by omega,ha⟩).symm)
theorem aS1:Con.Holds Tryz.prog uP:=aX bI (aR iI (aR aN6 (aR aFT aY))) aRQ aTA
def mY:Con:=⟨93,aK,.bool,[.val ⟨true,aK,[]⟩],[⟨false,.bool,[0]⟩],false,none,
 ((fun _=>True):(hZ)→Prop),
 ((fun x=>iM x):(hZ)→(Bool))⟩
def tT:T:=.loop tI (.ci .i64 0) <|
 .aWT (.aWW 90 aZ) (.Z 0) <|
 .aWT (.cmp .lss .i64) (.aWU tI tI (.Z 1) (.Z 2)) <|
 .ite (.Z 3) (
  .aWT (.aWX 90 aZ) (.aWU aK tI (.Z 0) (.Z 1)) <|
  .call 0 (.Z 4) <|
  .aWT .not (.Z 5) <|
  .ite (.Z 6) (
   .ret (.cb false)) (
   .aWT (.cmp .gtr .i64) (.aWU tI tI (.Z 1) (.ci .i64 0)) <|
   .ite (.Z 7) (
    .aWT (.ar .sub .i64) (.aWU tI tI (.Z 1) (.ci .i64 1)) <|
    .aWT (.aWX 90 aZ) (.aWU aK tI (.Z 0) (.Z 1)) <|
    .aWT (.aWX 90 aZ) (.aWU aK tI (.Z 0) (.Z 8)) <|
    .aWT (.cmp .neq .i64) (.aWU tI tI (aO aZ 1 (.Z 9)) (aO aZ 2 (.Z 10))) <|
    .ite (.Z 11) (
     .ret (.cb false)) (
     .aWT (.ar .add .i64) (.aWU tI tI (.Z 1) (.ci .i64 1)) <|
     .aWV 0 (.Z 12))) (
    .aWT (.ar .add .i64) (.aWU tI tI (.Z 1) (.ci .i64 1)) <|
    .aWV 0 (.Z 8)))) (
  .aWT (.aWW 90 aZ) (.Z 0) <|
  .call 1 (aQ (.aWS tI aJ) [(.Z 4),(.ci .i64 1),(.ci .i64 8)]) <|
  .ret (.Z 5))
theorem aKE:cW Tryz.prog [uP,bO] mY false 3000 ⟨[(2993,1001,[.dr 0,.tm 3 0])],[]⟩ = .ok tT:=by kernel_rfl
theorem aJ5 (x:hZ) (hx:okD aK x) (hp:(fun _=>True) x):tT.wp [uP,bO] [⟨aK,x⟩] [] (fun v=>v.as .bool=(fun x=>iM x) x):=by
 obtain ⟨hp1,hp2⟩:List.length x≤9223372036854775807∧∀ o∈(x:List jT),List.length o.2.2.2≤9223372036854775807:=⟨hx.1,fun o ho=>(hx.2 o ho).2.2.2.1⟩
 delta tT uP bO;refine jN ?_
 refine ⟨fun s=>∃ k:Nat,k≤x.length∧s=(k:Int)∧∀ i,i<k→aNB x i=true,fun s=>x.length - (s:Int).toNat,⟨0,by omega,rfl,by omega⟩,fun s _ hI=>?_⟩
 obtain ⟨k,hk,rfl,ha⟩:=hI
 refine gJ ?_
 intro _
 constructor
 ·intro hlt
  have hk':k<x.length:=by omega
  rw[bG hk',bG (show k - 1<x.length by omega)]
  have e:=yF x hk'
  have hm:=hp2 _ (List.getElem_mem hk')
  (repeat' first|intro _|(with_reducible apply And.intro))
  all_goals first|omega|exact hm|skip
  all_goals first|(refine aD6 hk' fun h=>?_;rw[e] at h;obtain ⟨h1,h2⟩:=h;first|(simp_all;done)|omega)|skip
  all_goals refine ⟨k+1,by omega,rfl,fun i hi=>?_⟩
  all_goals rcases Nat.lt_or_eq_of_le (Nat.le_of_lt_succ hi) with h|rfl
  all_goals first|exact ha i h|(refine e.2 ⟨by assumption,?_⟩;first|exact .inl (by omega)|exact .inr (by assumption)|exact .inr (by omega))
 ·intro hge
  have:k=x.length:=by omega
  subst this
  intro _
  rw[Bool.eq_iff_iff,cB]
  refine gJ ?_
  constructor
  ·intro h;exact ⟨by omega,by omega,ha⟩
  ·intro h;omega
theorem aIX:Con.Holds Tryz.prog mY:=aX bI (aR aS1 (aR iI aY)) aKE aJ5
end
end Go.Proofs.YtlabadaccldkaaaGreat
