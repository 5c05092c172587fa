/- Pipe4: lemmas. No conditions. -/
import Derived.Test.YtlabadaccldkaaaGreatStage3
namespace Go.Proofs.YtlabadaccldkaaaGreat
noncomputable section
set_option maxRecDepth 100000
open Go.ChangeShapes Go.WideShapes Go.ChangeAt Go.RowKit Go.Deep
set_option linter.unusedVariables false
set_option linter.unusedSimpArgs false
def pB (P:Prop):Bool:=@decide P (Classical.propDecidable P)
theorem hY {P:Prop}:pB P=true↔P:=by unfold pB;rw[@decide_eq_true_eq]
theorem aWK {P:Prop}:pB P=false↔¬ P:=⟨fun h hp=>(by rw[hY.2 hp] at h;cases h),fun h=>Bool.eq_false_iff.2 fun h2=>h (hY.1 h2)⟩
theorem pF {P:Prop} (h:¬ P):false=pB P:=(aWK.2 h).symm
theorem pT {P:Prop} (h:P):true=pB P:=(hY.2 h).symm
theorem aV1 {k n:Nat}:((k:Int)==(n:Int) - 1)=decide (k+1=n):=by rw[Bool.eq_iff_iff,beq_iff_eq,decide_eq_true_eq];omega
theorem aSJ {x y:Bool}:aDX .bool x y=true↔x=y:=by cases x <;> cases y <;> simp[aDX]
theorem aRU {x y:Bool}:aDX .bool x y=false↔¬ x=y:=by cases x <;> cases y <;> simp[aDX]
def aCL (x:kP):Bool:=pP x.2&&decide (0≤x.1∧x.1<5)
theorem lT (x:kP):aCL x=true↔pP x.2=true∧0≤x.1∧x.1<5:=by unfold aCL;rw[Bool.and_eq_true,decide_eq_true_eq]
def gM (q:bK):Bool:=pB ((1≤q.1∧q.1≤5∧(q.2.length:Int)≤q.1)∧∀ i,i<q.2.length→aCL (q.2.getD i (aV aP))=true)
theorem vY {P:Nat→Prop} {k:Nat} (h:∀ i,i<k→P i) (h2:P k):∀ i,i<k+1→P i:=fun i hi=>by
 rcases Nat.lt_or_eq_of_le (Nat.le_of_lt_succ hi) with h'|rfl
 ·exact h i h'
 ·exact h2
def vD (p:dH) (i:Nat):Prop:=kH (p.2.1.getD i (aV aB))=true∧(p.2.1.getD i (aV aB)).2.2.2.1=decide (i+1=p.2.1.length) ∧
 ∀ k,k<(p.2.1.getD i (aV aB)).2.1.length→0≤((p.2.1.getD i (aV aB)).2.1.getD k (aV aJ)).2∧((p.2.1.getD i (aV aB)).2.1.getD k (aV aJ)).2<(p.1.length:Int)
def aVU (p:dH):Prop:=(1≤p.2.1.length∧p.2.1.length≤4∧p.2.2.1.length+1=p.2.1.length∧p.2.2.2.length+1=p.2.1.length∧1≤p.1.length∧p.1.length≤5) ∧
 (∀ i,i<p.1.length→pP (p.1.getD i (aV aM)).1=true∧pP (p.1.getD i (aV aM)).2=true) ∧
 (∀ i,i<p.2.2.1.length→gM (p.2.2.1.getD i (aV aE))=true∧gM (p.2.2.2.getD i (aV aE))=true)∧∀ i,i<p.2.1.length→vD p i
def nB (p:dH):Bool:=pB (aVU p)
def oH:Con:=⟨99,aP,.bool,[.val ⟨true,aP,[]⟩],[⟨false,.bool,[0]⟩],false,none,
 ((fun _=>True):(kP)→Prop),
 ((fun x=>aCL x):(kP)→(Bool))⟩
def wR:T:=.call 0 (aG aP 1 (.Z 0)) <|.ite (.Z 1) (
 .aWT (.cmp .geq .i64) (.aWU tI tI (.p1 tI aA (.Z 0)) (.ci .i64 0)) <|
 .ite (.Z 2) (
  .aWT (.cmp .lss .i64) (.aWU tI tI (.p1 tI aA (.Z 0)) (.ci .i64 5)) <|
  .ret (.Z 3)) (
  .ret (.cb false))) (
 .ret (.cb false))
theorem aME:cW Tryz.prog [gN] oH false 3000 ⟨[],[]⟩ = .ok wR:=by kernel_rfl
theorem aNS (x:kP) (hx:okD aP x) (hp:(fun _=>True) x):wR.wp [gN] [⟨aP,x⟩] [] (fun v=>v.as .bool=(fun x=>aCL x) x):=by
 delta wR gN;refine jN ?_
 (refine gJ ?_;try with_reducible exact True.intro)
 (repeat' first|intro _|(with_reducible apply And.intro))
 all_goals first|(first|(refine (Bool.eq_false_iff.2 ?_).symm;rw[ne_eq,lT];intro hh;omega)|(refine (lT.2 ?_).symm;omega))|(rw[Bool.eq_iff_iff,lT,decide_eq_true_eq];exact ⟨fun h=>⟨by assumption,by omega,h⟩,fun h=>h.2.2⟩)|(refine (Bool.eq_false_iff.2 fun h=>?_).symm;rw[lT] at h;simp_all)
theorem aNK:Con.Holds Tryz.prog oH:=aX bI (aR zG aY) aME aNS
def mV:Con:=⟨83,aE,.bool,[.val ⟨true,aE,[]⟩],[⟨false,.bool,[0]⟩],false,none,
 ((fun _=>True):(bK)→Prop),
 ((fun x=>gM x):(bK)→(Bool))⟩
def uS:T :=
 .aWT (.cmp .lss .i64) (.aWU tI tI (.p1 tI (.slice 97 aP) (.Z 0)) (.ci .i64 1)) <|
 .ite (.Z 1) (
  .ret (.cb false)) (
  .aWT (.cmp .gtr .i64) (.aWU tI tI (.p1 tI (.slice 97 aP) (.Z 0)) (.ci .i64 5)) <|
  .ite (.Z 2) (
   .ret (.cb false)) (
   .aWT (.aWW 97 aP) (aG aE 1 (.Z 0)) <|
   .aWT (.cmp .gtr .i64) (.aWU tI tI (.Z 3) (.p1 tI (.slice 97 aP) (.Z 0))) <|
   .ite (.Z 4) (
    .ret (.cb false)) (
    .aWT (.aWW 97 aP) (aG aE 1 (.Z 0)) <|
    .loop tI (.ci .i64 0) <|
     .aWT (.cmp .lss .i64) (.aWU tI tI (.Z 6) (.Z 5)) <|
     .ite (.Z 7) (
      .aWT (.aWX 97 aP) (.aWU (.slice 97 aP) tI (aG aE 1 (.Z 0)) (.Z 6)) <|
      .call 0 (.Z 8) <|
      .aWT .not (.Z 9) <|
      .ite (.Z 10) (
       .ret (.cb false)) (
       .aWT (.ar .add .i64) (.aWU tI tI (.Z 6) (.ci .i64 1)) <|
       .aWV 0 (.Z 11))) (
      .ret (.cb true)))))
theorem aKY:cW Tryz.prog [oH] mV false 3000 ⟨[(2988,8006,fG 21 5++[.dr 1,.dr 0,.tm 24 0])],[]⟩ = .ok uS:=by kernel_rfl
theorem aK2 (x:bK) (hx:okD aE x) (hp:(fun _=>True) x):uS.wp [oH] [⟨aE,x⟩] [] (fun v=>v.as .bool=(fun x=>gM x) x):=by
 have hm:List.length x.2≤9223372036854775807:=hx.2.1
 delta uS oH;refine jN ?_
 (refine gJ ?_;try with_reducible exact True.intro)
 (repeat' first|intro _|(with_reducible apply And.intro))
 all_goals first|omega|(exact pF fun h=>by have:=h.1;omega)|skip
 refine ⟨fun s=>∃ k:Nat,k≤x.2.length∧s=(k:Int)∧∀ i,i<k→aCL (x.2.getD i (aV aP))=true,fun s=>x.2.length - (s:Int).toNat,⟨0,by omega,rfl,by omega⟩,fun s _ hI=>?_⟩
 obtain ⟨k,hk,rfl,ha⟩:=hI
 refine gJ ?_
 constructor
 ·intro hlt
  (repeat' first|intro _|(with_reducible apply And.intro))
  all_goals first|omega|(exact pF fun h=>by have:=h.2 k (by omega);simp_all)|(exact ⟨k+1,by omega,rfl,vY ha (by assumption)⟩)
 ·intro hge
  exact pT ⟨⟨by omega,by omega,by omega⟩,fun i hi=>ha i (by omega)⟩
theorem aLB:Con.Holds Tryz.prog mV:=aX bI (aR aNK aY) aKY aK2
def mW:Con:=⟨78,aE,.bool,[.val ⟨true,aE,[]⟩],[⟨false,.bool,[0]⟩],false,none,
 ((fun _=>True):(bK)→Prop),
 ((fun x=>gM x):(bK)→(Bool))⟩
def uE:T:=.loop tI (.ci .i64 0) <|
 .aWT (.aWW 97 aP) (aG aE 1 (.Z 0)) <|
 .aWT (.cmp .lss .i64) (.aWU tI tI (.Z 1) (.Z 2)) <|
 .ite (.Z 3) (
  .aWT (.aWX 97 aP) (.aWU (.slice 97 aP) tI (aG aE 1 (.Z 0)) (.Z 1)) <|
  .call 0 (aG aP 1 (.Z 4)) <|
  .aWT .not (.Z 5) <|
  .ite (.Z 6) (
   .ret (.cb false)) (
   .aWT (.aWX 97 aP) (.aWU (.slice 97 aP) tI (aG aE 1 (.Z 0)) (.Z 1)) <|
   .call 1 (aQ (.aWS tI aJ) [(.p1 tI aA (.Z 7)),(.ci .i64 0),(.ci .i64 4)]) <|
   .aWT .not (.Z 8) <|
   .ite (.Z 9) (
    .ret (.cb false)) (
    .aWT (.ar .add .i64) (.aWU tI tI (.Z 1) (.ci .i64 1)) <|
    .aWV 0 (.Z 10)))) (
  .call 1 (aQ (.aWS tI aJ) [(.p1 tI (.slice 97 aP) (.Z 0)),(.ci .i64 1),(.ci .i64 5)]) <|
  .ite (.Z 4) (
   .aWT (.aWW 97 aP) (aG aE 1 (.Z 0)) <|
   .aWT (.cmp .leq .i64) (.aWU tI tI (.Z 5) (.p1 tI (.slice 97 aP) (.Z 0))) <|
   .ret (.Z 6)) (
   .ret (.cb false)))
theorem aL3:cW Tryz.prog [eV,bO] mW false 3000 ⟨[(2993,1001,[.dr 0,.tm 3 0])],[]⟩ = .ok uE:=by kernel_rfl
theorem aLG (x:bK) (hx:okD aE x) (hp:(fun _=>True) x):uE.wp [eV,bO] [⟨aE,x⟩] [] (fun v=>v.as .bool=(fun x=>gM x) x):=by
 have hm:List.length x.2≤9223372036854775807:=hx.2.1
 delta uE eV bO;refine jN ?_
 refine ⟨fun s=>∃ k:Nat,k≤x.2.length∧s=(k:Int)∧∀ i,i<k→aCL (x.2.getD i (aV aP))=true,fun s=>x.2.length - (s:Int).toNat,⟨0,by omega,rfl,by omega⟩,fun s _ hI=>?_⟩
 obtain ⟨k,hk,rfl,ha⟩:=hI
 refine gJ ?_
 intro _
 have hi:=lT (x.2.getD k (aV aP))
 constructor
 ·intro hlt
  (repeat' first|intro _|(with_reducible apply And.intro))
  all_goals first|omega|(exact pF fun h=>by have h5:=hi.1 (h.2 k (by omega));first|omega|simp_all)|(exact ⟨k+1,by omega,rfl,vY ha (hi.2 ⟨by assumption,by omega,by omega⟩)⟩)
 ·intro hge
  (repeat' first|intro _|(with_reducible apply And.intro))
  all_goals first|(exact pF fun h=>by have:=h.1;omega)|(unfold gM;rw[Bool.eq_iff_iff,hY,decide_eq_true_eq];exact ⟨fun h=>⟨⟨by omega,by omega,h⟩,fun i hi=>ha i (by omega)⟩,fun h=>h.1.2.2⟩)
theorem aJ9:Con.Holds Tryz.prog mW:=aX bI (aR vH (aR iI aY)) aL3 aLG
def oT:Con:=⟨60,aH,.bool,[.val ⟨true,aH,[]⟩],[⟨false,.bool,[0]⟩],false,none,
 ((fun _=>True):(dH)→Prop),
 ((fun x=>nB x):(dH)→(Bool))⟩
def wJ:T :=
 .aWT (.aWW 57 aB) (aO aH 1 (.Z 0)) <|
 .aWT (.cmp .lss .i64) (.aWU tI tI (.Z 1) (.ci .i64 1)) <|
 .ite (.Z 2) (
  .ret (.cb false)) (
  .aWT (.cmp .gtr .i64) (.aWU tI tI (.Z 1) (.ci .i64 4)) <|
  .ite (.Z 3) (
   .ret (.cb false)) (
   .aWT (.aWW 62 aE) (aO aH 2 (.Z 0)) <|
   .aWT (.ar .sub .i64) (.aWU tI tI (.Z 1) (.ci .i64 1)) <|
   .aWT (.cmp .neq .i64) (.aWU tI tI (.Z 4) (.Z 5)) <|
   .ite (.Z 6) (
    .ret (.cb false)) (
    .aWT (.aWW 62 aE) (aG aH 3 (.Z 0)) <|
    .aWT (.ar .sub .i64) (.aWU tI tI (.Z 1) (.ci .i64 1)) <|
    .aWT (.cmp .neq .i64) (.aWU tI tI (.Z 7) (.Z 8)) <|
    .ite (.Z 9) (
     .ret (.cb false)) (
     .aWT (.aWW 49 aM) (.p1 aS (.aWS (.slice 57 aB) (.aWS aC aC)) (.Z 0)) <|
     .aWT (.cmp .lss .i64) (.aWU tI tI (.Z 10) (.ci .i64 1)) <|
     .ite (.Z 11) (
      .ret (.cb false)) (
      .aWT (.aWW 49 aM) (.p1 aS (.aWS (.slice 57 aB) (.aWS aC aC)) (.Z 0)) <|
      .aWT (.cmp .gtr .i64) (.aWU tI tI (.Z 12) (.ci .i64 5)) <|
      .ite (.Z 13) (
       .ret (.cb false)) (
       .aWT (.aWW 49 aM) (.p1 aS (.aWS (.slice 57 aB) (.aWS aC aC)) (.Z 0)) <|
       .loop tI (.ci .i64 0) <|
        .aWT (.cmp .lss .i64) (.aWU tI tI (.Z 15) (.Z 14)) <|
        .ite (.Z 16) (
         .aWT (.aWX 49 aM) (.aWU aS tI (.p1 aS (.aWS (.slice 57 aB) (.aWS aC aC)) (.Z 0)) (.Z 15)) <|
         .call 0 (.p1 aA aA (.Z 17)) <|
         .aWT .not (.Z 18) <|
         .ite (.Z 19) (
          .ret (.cb false)) (
          .call 0 (aG aM 1 (.Z 17)) <|
          .aWT .not (.Z 20) <|
          .ite (.Z 21) (
           .ret (.cb false)) (
           .aWT (.ar .add .i64) (.aWU tI tI (.Z 15) (.ci .i64 1)) <|
           .aWV 0 (.Z 22)))) (
         .aWT (.aWW 62 aE) (aO aH 2 (.Z 0)) <|
         .loop tI (.ci .i64 0) <|
          .aWT (.cmp .lss .i64) (.aWU tI tI (.Z 18) (.Z 17)) <|
          .ite (.Z 19) (
           .aWT (.aWX 62 aE) (.aWU aC tI (aO aH 2 (.Z 0)) (.Z 18)) <|
           .call 1 (.Z 20) <|
           .aWT .not (.Z 21) <|
           .ite (.Z 22) (
            .ret (.cb false)) (
            .aWT (.aWX 62 aE) (.aWU aC tI (aG aH 3 (.Z 0)) (.Z 18)) <|
            .call 1 (.Z 23) <|
            .aWT .not (.Z 24) <|
            .ite (.Z 25) (
             .ret (.cb false)) (
             .aWT (.ar .add .i64) (.aWU tI tI (.Z 18) (.ci .i64 1)) <|
             .aWV 0 (.Z 26)))) (
           .aWT (.aWW 57 aB) (aO aH 1 (.Z 0)) <|
           .loop tI (.ci .i64 0) <|
            .aWT (.cmp .lss .i64) (.aWU tI tI (.Z 21) (.Z 20)) <|
            .ite (.Z 22) (
             .aWT (.aWX 57 aB) (.aWU (.slice 57 aB) tI (aO aH 1 (.Z 0)) (.Z 21)) <|
             .call 2 (.Z 23) <|
             .aWT .not (.Z 24) <|
             .ite (.Z 25) (
              .ret (.cb false)) (
              .aWT (.ar .sub .i64) (.aWU tI tI (.Z 1) (.ci .i64 1)) <|
              .aWT (.cmp .eql .i64) (.aWU tI tI (.Z 21) (.Z 26)) <|
              .aWT (.eqv true .bool) (.aWU .bool .bool (aO aB 3 (.Z 23)) (.Z 27)) <|
              .ite (.Z 28) (
               .ret (.cb false)) (
               .aWT (.aWW 88 aJ) (aO aB 1 (.Z 23)) <|
               .loop tI (.ci .i64 0) <|
                .aWT (.cmp .lss .i64) (.aWU tI tI (.Z 30) (.Z 29)) <|
                .ite (.Z 31) (
                 .aWT (.aWX 88 aJ) (.aWU bD tI (aO aB 1 (.Z 23)) (.Z 30)) <|
                 .aWT (.cmp .lss .i64) (.aWU tI tI (aG aJ 1 (.Z 32)) (.ci .i64 0)) <|
                 .ite (.Z 33) (
                  .ret (.cb false)) (
                  .aWT (.aWW 49 aM) (.p1 aS (.aWS (.slice 57 aB) (.aWS aC aC)) (.Z 0)) <|
                  .aWT (.cmp .geq .i64) (.aWU tI tI (aG aJ 1 (.Z 32)) (.Z 34)) <|
                  .ite (.Z 35) (
                   .ret (.cb false)) (
                   .aWT (.ar .add .i64) (.aWU tI tI (.Z 30) (.ci .i64 1)) <|
                   .aWV 0 (.Z 36)))) (
                 .aWT (.ar .add .i64) (.aWU tI tI (.Z 21) (.ci .i64 1)) <|
                 .aWV 1 (.Z 32))))) (
             .ret (.cb true))))))))))
theorem aN9:cW Tryz.prog [gN,mV,gZ] oT false 3000 ⟨[(2981,64015,fG 46 11++[.dr 0,.tm 49 0]),(2971,128018,[.dr 65,.dr 64]++fG 50 47++[.tm 67 0]),(2961,256021,[.dr 87]++fG 68 66++[.tm 90 0]),(2943,2304030,[.tm 110 0])],[]⟩ = .ok wJ:=by kernel_rfl
theorem aMI (x:dH) (hx:okD aH x) (hp:(fun _=>True) x):wJ.wp [gN,mV,gZ] [⟨aH,x⟩] [] (fun v=>v.as .bool=(fun x=>nB x) x):=by
 obtain ⟨batch,stages,acts,backs⟩:=x
 have hm1:batch.length≤9223372036854775807:=hx.1.1
 have hm2:stages.length≤9223372036854775807:=hx.2.1.1
 have hm3:acts.length≤9223372036854775807:=hx.2.2.1.1
 have hm4:∀ k,k<stages.length→(stages.getD k (aV aB)).2.1.length≤9223372036854775807:=fun k hk=>by rw[bG hk];exact (hx.2.1.2 _ (List.getElem_mem hk)).2.1.1
 delta wJ gN mV gZ;refine jN ?_
 (refine gJ ?_;try with_reducible exact True.intro)
 (repeat' first|intro _|(with_reducible apply And.intro))
 all_goals first|omega|(exact pF fun h=>by have:=h.1;dsimp only at this;omega)|skip
 refine ⟨fun s=>∃ k:Nat,k≤batch.length∧s=(k:Int)∧∀ i,i<k→pP (batch.getD i (aV aM)).1=true∧pP (batch.getD i (aV aM)).2=true,fun s=>batch.length - (s:Int).toNat,⟨0,by omega,rfl,by omega⟩,fun s _ hI=>?_⟩
 obtain ⟨k,hk,rfl,ha⟩:=hI
 refine gJ ?_
 constructor
 ·intro hlt
  (repeat' first|intro _|(with_reducible apply And.intro))
  all_goals first|omega|(exact pF fun h=>by have:=h.2.1 k (by dsimp only;omega);dsimp only at this;simp_all)|(exact ⟨k+1,by omega,rfl,vY ha ⟨by assumption,by assumption⟩⟩)
 intro hge _
 have hb:∀ i,i<batch.length→pP (batch.getD i (aV aM)).1=true∧pP (batch.getD i (aV aM)).2=true:=fun i hi=>ha i (by omega)
 clear ha
 refine ⟨fun s=>∃ k:Nat,k≤acts.length∧s=(k:Int)∧∀ i,i<k→gM (acts.getD i (aV aE))=true∧gM (backs.getD i (aV aE))=true,fun s=>acts.length - (s:Int).toNat,⟨0,by omega,rfl,by omega⟩,fun s _ hI=>?_⟩
 obtain ⟨k2,hk2,rfl,ha⟩:=hI
 refine gJ ?_
 constructor
 ·intro hlt
  (repeat' first|intro _|(with_reducible apply And.intro))
  all_goals first|omega|(exact pF fun h=>by have:=h.2.2.1 k2 (by dsimp only;omega);dsimp only at this;simp_all)|(exact ⟨k2+1,by omega,rfl,vY ha ⟨by assumption,by assumption⟩⟩)
 intro hge2 _
 have hq:∀ i,i<acts.length→gM (acts.getD i (aV aE))=true∧gM (backs.getD i (aV aE))=true:=fun i hi=>ha i (by omega)
 clear ha
 refine ⟨fun s=>∃ k:Nat,k≤stages.length∧s=(k:Int)∧∀ i,i<k→vD (batch,stages,acts,backs) i,fun s=>stages.length - (s:Int).toNat,⟨0,by omega,rfl,by omega⟩,fun s _ hI=>?_⟩
 obtain ⟨k3,hk3,rfl,ha⟩:=hI
 simp only[dzx,aV1,aSJ,aRU]
 have hm5:=hm4 k3
 constructor
 ·intro hlt
  have bad:¬ vD (batch,stages,acts,backs) k3→false=nB (batch,stages,acts,backs):=fun h=>pF fun hh=>h (hh.2.2.2 k3 (by dsimp only;omega))
  (repeat' first|intro _|(with_reducible apply And.intro))
  all_goals first|omega|(exact bad fun h=>absurd h.2.1 (by assumption))|(exact bad fun h=>Bool.noConfusion (h.1.symm.trans (by assumption:_=false)))|skip
  refine ⟨fun s=>∃ k:Nat,k≤(stages.getD k3 (aV aB)).2.1.length∧s=(k:Int)∧∀ i,i<k→0≤((stages.getD k3 (aV aB)).2.1.getD i (aV aJ)).2∧((stages.getD k3 (aV aB)).2.1.getD i (aV aJ)).2<(batch.length:Int),fun s=>(stages.getD k3 (aV aB)).2.1.length - (s:Int).toNat,⟨0,by omega,rfl,by omega⟩,fun s _ hI=>?_⟩
  obtain ⟨k4,hk4,rfl,hc⟩:=hI
  (refine gJ ?_;try with_reducible exact True.intro)
  (repeat' first|intro _|(with_reducible apply And.intro))
  all_goals first|omega|(exact bad fun h=>by have h5:=h.2.2 k4 (by dsimp only;omega);dsimp only at h5;omega)|(exact ⟨k4+1,by omega,rfl,vY hc ⟨by omega,by omega⟩⟩)|(exact ⟨k3+1,by omega,rfl,vY ha ⟨by assumption,by assumption,fun i hi=>hc i (by dsimp only at hi;omega)⟩⟩)
 ·intro hge3
  exact pT ⟨⟨by dsimp only;omega,by dsimp only;omega,by dsimp only;omega,by dsimp only;omega,by dsimp only;omega,by dsimp only;omega⟩,hb,hq,fun i hi=>ha i (by dsimp only at hi;omega)⟩
theorem aNI:Con.Holds Tryz.prog oT:=aX bI (aR zG (aR aLB (aR aAU aY))) aN9 aMI
def oN:Con:=⟨55,aH,.bool,[.val ⟨true,aH,[]⟩],[⟨false,.bool,[0]⟩],false,none,
 ((fun _=>True):(dH)→Prop),
 ((fun x=>nB x):(dH)→(Bool))⟩
def wH:T :=
 .aWT (.aWW 57 aB) (aO aH 1 (.Z 0)) <|
 .call 0 (aQ (.aWS tI aJ) [(.Z 1),(.ci .i64 1),(.ci .i64 4)]) <|
 .aWT .not (.Z 2) <|
 .ite (.Z 3) (
  .ret (.cb false)) (
  .aWT (.aWW 62 aE) (aO aH 2 (.Z 0)) <|
  .aWT (.ar .sub .i64) (.aWU tI tI (.Z 1) (.ci .i64 1)) <|
  .aWT (.cmp .neq .i64) (.aWU tI tI (.Z 4) (.Z 5)) <|
  .ite (.Z 6) (
   .ret (.cb false)) (
   .aWT (.aWW 62 aE) (aG aH 3 (.Z 0)) <|
   .aWT (.ar .sub .i64) (.aWU tI tI (.Z 1) (.ci .i64 1)) <|
   .aWT (.cmp .neq .i64) (.aWU tI tI (.Z 7) (.Z 8)) <|
   .ite (.Z 9) (
    .ret (.cb false)) (
    .aWT (.aWW 49 aM) (.p1 aS (.aWS (.slice 57 aB) (.aWS aC aC)) (.Z 0)) <|
    .call 0 (aQ (.aWS tI aJ) [(.Z 10),(.ci .i64 1),(.ci .i64 5)]) <|
    .aWT .not (.Z 11) <|
    .ite (.Z 12) (
     .ret (.cb false)) (
     .loop tI (.ci .i64 0) <|
      .aWT (.cmp .lss .i64) (.aWU tI tI (.Z 13) (.Z 1)) <|
      .ite (.Z 14) (
       .aWT (.aWX 57 aB) (.aWU (.slice 57 aB) tI (aO aH 1 (.Z 0)) (.Z 13)) <|
       .call 1 (.Z 15) <|
       .aWT .not (.Z 16) <|
       .ite (.Z 17) (
        .ret (.cb false)) (
        .aWT (.ar .sub .i64) (.aWU tI tI (.Z 1) (.ci .i64 1)) <|
        .aWT (.cmp .eql .i64) (.aWU tI tI (.Z 13) (.Z 18)) <|
        .aWT (.eqv true .bool) (.aWU .bool .bool (aO aB 3 (.Z 15)) (.Z 19)) <|
        .ite (.Z 20) (
         .ret (.cb false)) (
         .loop tI (.ci .i64 0) <|
          .aWT (.aWW 88 aJ) (aO aB 1 (.Z 15)) <|
          .aWT (.cmp .lss .i64) (.aWU tI tI (.Z 21) (.Z 22)) <|
          .ite (.Z 23) (
           .aWT (.aWX 88 aJ) (.aWU bD tI (aO aB 1 (.Z 15)) (.Z 21)) <|
           .aWT (.aWW 49 aM) (.p1 aS (.aWS (.slice 57 aB) (.aWS aC aC)) (.Z 0)) <|
           .aWT (.ar .sub .i64) (.aWU tI tI (.Z 25) (.ci .i64 1)) <|
           .call 0 (aQ (.aWS tI aJ) [(aG aJ 1 (.Z 24)),(.ci .i64 0),(.Z 26)]) <|
           .aWT .not (.Z 27) <|
           .ite (.Z 28) (
            .ret (.cb false)) (
            .aWT (.ar .add .i64) (.aWU tI tI (.Z 21) (.ci .i64 1)) <|
            .aWV 0 (.Z 29))) (
           .aWT (.cmp .gtr .i64) (.aWU tI tI (.Z 13) (.ci .i64 0)) <|
           .ite (.Z 24) (
            .aWT (.ar .sub .i64) (.aWU tI tI (.Z 13) (.ci .i64 1)) <|
            .aWT (.aWX 62 aE) (.aWU aC tI (aO aH 2 (.Z 0)) (.Z 25)) <|
            .call 2 (.Z 26) <|
            .aWT .not (.Z 27) <|
            .ite (.Z 28) (
             .ret (.cb false)) (
             .aWT (.ar .sub .i64) (.aWU tI tI (.Z 13) (.ci .i64 1)) <|
             .aWT (.aWX 62 aE) (.aWU aC tI (aG aH 3 (.Z 0)) (.Z 29)) <|
             .call 2 (.Z 30) <|
             .aWT .not (.Z 31) <|
             .ite (.Z 32) (
              .ret (.cb false)) (
              .aWT (.ar .add .i64) (.aWU tI tI (.Z 13) (.ci .i64 1)) <|
              .aWV 1 (.Z 33)))) (
            .aWT (.ar .add .i64) (.aWU tI tI (.Z 13) (.ci .i64 1)) <|
            .aWV 1 (.Z 25)))))) (
       .loop tI (.ci .i64 0) <|
        .aWT (.aWW 49 aM) (.p1 aS (.aWS (.slice 57 aB) (.aWS aC aC)) (.Z 0)) <|
        .aWT (.cmp .lss .i64) (.aWU tI tI (.Z 15) (.Z 16)) <|
        .ite (.Z 17) (
         .aWT (.aWX 49 aM) (.aWU aS tI (.p1 aS (.aWS (.slice 57 aB) (.aWS aC aC)) (.Z 0)) (.Z 15)) <|
         .call 3 (.p1 aA aA (.Z 18)) <|
         .aWT .not (.Z 19) <|
         .ite (.Z 20) (
          .ret (.cb false)) (
          .aWT (.aWX 49 aM) (.aWU aS tI (.p1 aS (.aWS (.slice 57 aB) (.aWS aC aC)) (.Z 0)) (.Z 15)) <|
          .call 3 (aG aM 1 (.Z 21)) <|
          .aWT .not (.Z 22) <|
          .ite (.Z 23) (
           .ret (.cb false)) (
           .aWT (.ar .add .i64) (.aWU tI tI (.Z 15) (.ci .i64 1)) <|
           .aWV 0 (.Z 24)))) (
         .ret (.cb true)))))))
theorem aMQ:cW Tryz.prog [bO,gY,mW,eV] oN false 3000 ⟨[(2986,16013,fG 36 8++[.dr 0,.tm 4 0]),(2967,144021,[.tm 6 0]),(2976,32015,fG 39 37++[.dr 4,.dr 3,.tm 7 0])],[]⟩ = .ok wH:=by kernel_rfl
theorem aMA (x:dH) (hx:okD aH x) (hp:(fun _=>True) x):wH.wp [bO,gY,mW,eV] [⟨aH,x⟩] [] (fun v=>v.as .bool=(fun x=>nB x) x):=by
 obtain ⟨batch,stages,acts,backs⟩:=x
 have hm1:batch.length≤9223372036854775807:=hx.1.1
 have hm2:stages.length≤9223372036854775807:=hx.2.1.1
 have hm3:acts.length≤9223372036854775807:=hx.2.2.1.1
 have hm4:∀ k,k<stages.length→(stages.getD k (aV aB)).2.1.length≤9223372036854775807:=fun k hk=>by rw[bG hk];exact (hx.2.1.2 _ (List.getElem_mem hk)).2.1.1
 delta wH bO gY mW eV;refine jN ?_
 (refine gJ ?_;try with_reducible exact True.intro)
 (repeat' first|intro _|(with_reducible apply And.intro))
 all_goals first|omega|(exact pF fun h=>by have:=h.1;dsimp only at this;omega)|skip
 refine ⟨fun s=>∃ k:Nat,k≤stages.length∧s=(k:Int)∧∀ i,i<k→vD (batch,stages,acts,backs) i∧(0<i→gM (acts.getD (i - 1) (aV aE))=true∧gM (backs.getD (i - 1) (aV aE))=true),fun s=>stages.length - (s:Int).toNat,⟨0,by omega,rfl,by omega⟩,fun s _ hI=>?_⟩
 obtain ⟨k3,hk3,rfl,ha⟩:=hI
 simp only[dzx,aV1,aSJ,aRU]
 have hm5:=hm4 k3
 constructor
 ·intro hlt
  have bad:¬ vD (batch,stages,acts,backs) k3→false=nB (batch,stages,acts,backs):=fun h=>pF fun hh=>h (hh.2.2.2 k3 (by dsimp only;omega))
  have bad2:0<k3→¬ (gM (acts.getD (k3 - 1) (aV aE))=true∧gM (backs.getD (k3 - 1) (aV aE))=true)→false=nB (batch,stages,acts,backs):=fun h0 h=>pF fun hh=>h (hh.2.2.1 (k3 - 1) (by have:=hh.1;dsimp only at this ⊢;omega))
  (repeat' first|intro _|(with_reducible apply And.intro))
  all_goals first|omega|(exact bad fun h=>absurd h.2.1 (by assumption))|(exact bad fun h=>Bool.noConfusion (h.1.symm.trans (by assumption:_=false)))|skip
  refine ⟨fun s=>∃ k:Nat,k≤(stages.getD k3 (aV aB)).2.1.length∧s=(k:Int)∧∀ i,i<k→0≤((stages.getD k3 (aV aB)).2.1.getD i (aV aJ)).2∧((stages.getD k3 (aV aB)).2.1.getD i (aV aJ)).2<(batch.length:Int),fun s=>(stages.getD k3 (aV aB)).2.1.length - (s:Int).toNat,⟨0,by omega,rfl,by omega⟩,fun s _ hI=>?_⟩
  obtain ⟨k4,hk4,rfl,hc⟩:=hI
  (refine gJ ?_;try with_reducible exact True.intro)
  (repeat' first|intro _|(with_reducible apply And.intro))
  all_goals first|omega|(exact bad fun h=>by have h5:=h.2.2 k4 (by dsimp only;omega);dsimp only at h5;omega)|(exact ⟨k4+1,by omega,rfl,vY hc ⟨by omega,by omega⟩⟩)|(exact bad2 (by omega) fun h=>by simp_all;done)|(exact ⟨k3+1,by omega,rfl,vY ha ⟨⟨by assumption,by assumption,fun i hi=>hc i (by dsimp only at hi;omega)⟩,fun _=>⟨by first|assumption|omega,by first|assumption|omega⟩⟩⟩)
 intro hge3
 have hs:∀ i,i<stages.length→vD (batch,stages,acts,backs) i:=fun i hi=>(ha i (by omega)).1
 have hq:∀ i,i<acts.length→gM (acts.getD i (aV aE))=true∧gM (backs.getD i (aV aE))=true:=fun i hi=>(ha (i+1) (by omega)).2 (by omega)
 clear ha
 refine ⟨fun s=>∃ k:Nat,k≤batch.length∧s=(k:Int)∧∀ i,i<k→pP (batch.getD i (aV aM)).1=true∧pP (batch.getD i (aV aM)).2=true,fun s=>batch.length - (s:Int).toNat,⟨0,by omega,rfl,by omega⟩,fun s _ hI=>?_⟩
 obtain ⟨k,hk,rfl,ha⟩:=hI
 refine gJ ?_
 intro _
 constructor
 ·intro hlt
  (repeat' first|intro _|(with_reducible apply And.intro))
  all_goals first|omega|(exact pF fun h=>by have:=h.2.1 k (by dsimp only;omega);dsimp only at this;simp_all)|(exact ⟨k+1,by omega,rfl,vY ha ⟨by assumption,by assumption⟩⟩)
 intro hge
 exact pT ⟨⟨by dsimp only;omega,by dsimp only;omega,by dsimp only;omega,by dsimp only;omega,by dsimp only;omega,by dsimp only;omega⟩,fun i hi=>ha i (by dsimp only at hi;omega),hq,hs⟩
theorem aMG:Con.Holds Tryz.prog oN:=aX bI (aR iI (aR aAR (aR aJ9 (aR vH aY)))) aMQ aMA
end
end Go.Proofs.YtlabadaccldkaaaGreat
