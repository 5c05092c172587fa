/- Pipe4: lemmas. No conditions. -/
import Derived.Test.YtabamggdmdednaaGreatStage3
namespace Go.Proofs.YtabamggdmdednaaGreat
noncomputable section
set_option maxRecDepth 100000
open Go.ChangeShapes Go.WideShapes Go.ChangeAt Go.RowKit Go.Deep
set_option linter.unusedVariables false
set_option linter.unusedSimpArgs false
def pB (P:Prop):Bool:=@decide P (Classical.propDecidable P)
theorem nJ {P:Prop}:pB P=true↔P:=by unfold pB;rw[@decide_eq_true_eq]
theorem bRA {P:Prop}:pB P=false↔¬ P:=⟨fun h hp=>(by rw[nJ.2 hp] at h;cases h),fun h=>Bool.eq_false_iff.2 fun h2=>h (nJ.1 h2)⟩
theorem pF {P:Prop} (h:¬ P):false=pB P:=(bRA.2 h).symm
theorem pT {P:Prop} (h:P):true=pB P:=(nJ.2 h).symm
theorem bPW {k n:Nat}:((k:Int)==(n:Int) - 1)=decide (k+1=n):=by rw[Bool.eq_iff_iff,beq_iff_eq,decide_eq_true_eq];omega
theorem bMB {x y:Bool}:aGJ .bool x y=true↔x=y:=by cases x <;> cases y <;> simp[aGJ]
theorem bN3 {x y:Bool}:aGJ .bool x y=false↔¬ x=y:=by cases x <;> cases y <;> simp[aGJ]
def xO (x:cP):Bool:=iQ x.2&&decide (0≤x.1∧x.1<5)
theorem kS (x:cP):xO x=true↔iQ x.2=true∧0≤x.1∧x.1<5:=by unfold xO;rw[Bool.and_eq_true,decide_eq_true_eq]
def gL (q:cG):Bool:=pB ((1≤q.1∧q.1≤5∧(q.2.length:Int)≤q.1)∧∀ i,i<q.2.length→xO (q.2.getD i (aW aH))=true)
theorem vS {P:Nat→Prop} {k:Nat} (h:∀ i,i<k→P i) (h2:P k):∀ i,i<k+1→P i:=fun i hi=>by
 rcases Nat.lt_or_eq_of_le (Nat.le_of_lt_succ hi) with h'|rfl
 ·exact h i h'
 ·exact h2
def aDQ (p:bE) (i:Nat):Prop:=gR (p.2.1.getD i (aW aA))=true∧(p.2.1.getD i (aW aA)).2.2.2.1=decide (i+1=p.2.1.length) ∧
 ∀ k,k<(p.2.1.getD i (aW aA)).2.1.length→0≤((p.2.1.getD i (aW aA)).2.1.getD k (aW aD)).2∧((p.2.1.getD i (aW aA)).2.1.getD k (aW aD)).2<(p.1.length:Int)
def bQA (p:bE):Prop:=(1≤p.2.1.length∧p.2.1.length≤4∧p.2.2.1.length+1=p.2.1.length∧p.2.2.2.length+1=p.2.1.length∧1≤p.1.length∧p.1.length≤5) ∧
 (∀ i,i<p.1.length→iQ (p.1.getD i (aW aO)).1=true∧iQ (p.1.getD i (aW aO)).2=true) ∧
 (∀ i,i<p.2.2.1.length→gL (p.2.2.1.getD i (aW aN))=true∧gL (p.2.2.2.getD i (aW aN))=true)∧∀ i,i<p.2.1.length→aDQ p i
def kM (p:bE):Bool:=pB (bQA p)
def lV:Con:=⟨107,aH,.bool,[.val ⟨true,aH,[]⟩],[⟨false,.bool,[0]⟩],false,none,
 ((fun _=>True):(cP)→Prop),
 ((fun x=>xO x):(cP)→(Bool))⟩
def aF7:T:=.call 0 (aP aH 1 (.Z 0)) <|.ite (.Z 1) (
 .bRX (.cmp .geq .i64) (.bRY tI tI (.p1 tI aB (.Z 0)) (.ci .i64 0)) <|
 .ite (.Z 2) (
  .bRX (.cmp .lss .i64) (.bRY tI tI (.p1 tI aB (.Z 0)) (.ci .i64 5)) <|
  .ret (.Z 3)) (
  .ret (.cb false))) (
 .ret (.cb false))
theorem bEB:bI Tryz.prog [dE] lV false 3000 ⟨[],[]⟩ = .ok aF7:=by kernel_rfl
theorem bC2 (x:cP) (hx:okD aH x) (hp:(fun _=>True) x):aF7.wp [dE] [⟨aH,x⟩] [] (fun v=>v.as .bool=(fun x=>xO x) x):=by
 delta aF7 dE;refine cW ?_
 (refine dB ?_;try with_reducible exact True.intro)
 (repeat' first|intro _|(with_reducible apply And.intro))
 all_goals first|(first|(refine (Bool.eq_false_iff.2 ?_).symm;rw[ne_eq,kS];intro hh;omega)|(refine (kS.2 ?_).symm;omega))|(rw[Bool.eq_iff_iff,kS,decide_eq_true_eq];exact ⟨fun h=>⟨by assumption,by omega,h⟩,fun h=>h.2.2⟩)|(refine (Bool.eq_false_iff.2 fun h=>?_).symm;rw[kS] at h;simp_all)
theorem aNA:Con.Holds Tryz.prog lV:=aS aV (aI pS aQ) bEB bC2
def fZ:Con:=⟨100,aN,.bool,[.val ⟨true,aN,[]⟩],[⟨false,.bool,[0]⟩],false,none,
 ((fun _=>True):(cG)→Prop),
 ((fun x=>gL x):(cG)→(Bool))⟩
def aCP:T :=
 .bRX (.cmp .lss .i64) (.bRY tI tI (.p1 tI (.slice 110 aH) (.Z 0)) (.ci .i64 1)) <|
 .ite (.Z 1) (
  .ret (.cb false)) (
  .bRX (.cmp .gtr .i64) (.bRY tI tI (.p1 tI (.slice 110 aH) (.Z 0)) (.ci .i64 5)) <|
  .ite (.Z 2) (
   .ret (.cb false)) (
   .bRX (.bS0 110 aH) (aP aN 1 (.Z 0)) <|
   .bRX (.cmp .gtr .i64) (.bRY tI tI (.Z 3) (.p1 tI (.slice 110 aH) (.Z 0))) <|
   .ite (.Z 4) (
    .ret (.cb false)) (
    .bRX (.bS0 110 aH) (aP aN 1 (.Z 0)) <|
    .loop tI (.ci .i64 0) <|
     .bRX (.cmp .lss .i64) (.bRY tI tI (.Z 6) (.Z 5)) <|
     .ite (.Z 7) (
      .bRX (.bS1 110 aH) (.bRY (.slice 110 aH) tI (aP aN 1 (.Z 0)) (.Z 6)) <|
      .call 0 (.Z 8) <|
      .bRX .not (.Z 9) <|
      .ite (.Z 10) (
       .ret (.cb false)) (
       .bRX (.ar .add .i64) (.bRY tI tI (.Z 6) (.ci .i64 1)) <|
       .bRZ 0 (.Z 11))) (
      .ret (.cb true)))))
theorem aWX:bI Tryz.prog [lV] fZ false 3000 ⟨[(2988,8006,gQ 21 5++[.dr 1,.dr 0,.tm 24 0])],[]⟩ = .ok aCP:=by kernel_rfl
theorem aXQ (x:cG) (hx:okD aN x) (hp:(fun _=>True) x):aCP.wp [lV] [⟨aN,x⟩] [] (fun v=>v.as .bool=(fun x=>gL x) x):=by
 have hm:List.length x.2≤9223372036854775807:=hx.2.1
 delta aCP lV;refine cW ?_
 (refine dB ?_;try with_reducible exact True.intro)
 (repeat' first|intro _|(with_reducible apply And.intro))
 all_goals first|omega|(exact pF fun h=>by have:=h.1;omega)|skip
 refine ⟨fun s=>∃ k:Nat,k≤x.2.length∧s=(k:Int)∧∀ i,i<k→xO (x.2.getD i (aW aH))=true,fun s=>x.2.length - (s:Int).toNat,⟨0,by omega,rfl,by omega⟩,fun s _ hI=>?_⟩
 obtain ⟨k,hk,rfl,ha⟩:=hI
 refine dB ?_
 constructor
 ·intro hlt
  (repeat' first|intro _|(with_reducible apply And.intro))
  all_goals first|omega|(exact pF fun h=>by have:=h.2 k (by omega);simp_all)|(exact ⟨k+1,by omega,rfl,vS ha (by assumption)⟩)
 ·intro hge
  exact pT ⟨⟨by omega,by omega,by omega⟩,fun i hi=>ha i (by omega)⟩
theorem aBH:Con.Holds Tryz.prog fZ:=aS aV (aI aNA aQ) aWX aXQ
def gA:Con:=⟨145,aN,.bool,[.val ⟨true,aN,[]⟩],[⟨false,.bool,[0]⟩],false,none,
 ((fun _=>True):(cG)→Prop),
 ((fun x=>gL x):(cG)→(Bool))⟩
def aD5:T:=.loop tI (.ci .i64 0) <|
 .bRX (.bS0 110 aH) (aP aN 1 (.Z 0)) <|
 .bRX (.cmp .lss .i64) (.bRY tI tI (.Z 1) (.Z 2)) <|
 .ite (.Z 3) (
  .bRX (.bS1 110 aH) (.bRY (.slice 110 aH) tI (aP aN 1 (.Z 0)) (.Z 1)) <|
  .call 0 (aP aH 1 (.Z 4)) <|
  .bRX .not (.Z 5) <|
  .ite (.Z 6) (
   .ret (.cb false)) (
   .bRX (.bS1 110 aH) (.bRY (.slice 110 aH) tI (aP aN 1 (.Z 0)) (.Z 1)) <|
   .call 1 (bB (.bRW tI aD) [(.p1 tI aB (.Z 7)),(.ci .i64 0),(.ci .i64 4)]) <|
   .bRX .not (.Z 8) <|
   .ite (.Z 9) (
    .ret (.cb false)) (
    .bRX (.ar .add .i64) (.bRY tI tI (.Z 1) (.ci .i64 1)) <|
    .bRZ 0 (.Z 10)))) (
  .call 1 (bB (.bRW tI aD) [(.p1 tI (.slice 110 aH) (.Z 0)),(.ci .i64 1),(.ci .i64 5)]) <|
  .ite (.Z 4) (
   .bRX (.bS0 110 aH) (aP aN 1 (.Z 0)) <|
   .bRX (.cmp .leq .i64) (.bRY tI tI (.Z 5) (.p1 tI (.slice 110 aH) (.Z 0))) <|
   .ret (.Z 6)) (
   .ret (.cb false)))
theorem aVD:bI Tryz.prog [bN,bL] gA false 3000 ⟨[(2993,1001,[.dr 0,.tm 3 0])],[]⟩ = .ok aD5:=by kernel_rfl
theorem aYC (x:cG) (hx:okD aN x) (hp:(fun _=>True) x):aD5.wp [bN,bL] [⟨aN,x⟩] [] (fun v=>v.as .bool=(fun x=>gL x) x):=by
 have hm:List.length x.2≤9223372036854775807:=hx.2.1
 delta aD5 bN bL;refine cW ?_
 refine ⟨fun s=>∃ k:Nat,k≤x.2.length∧s=(k:Int)∧∀ i,i<k→xO (x.2.getD i (aW aH))=true,fun s=>x.2.length - (s:Int).toNat,⟨0,by omega,rfl,by omega⟩,fun s _ hI=>?_⟩
 obtain ⟨k,hk,rfl,ha⟩:=hI
 refine dB ?_
 intro _
 have hi:=kS (x.2.getD k (aW aH))
 constructor
 ·intro hlt
  (repeat' first|intro _|(with_reducible apply And.intro))
  all_goals first|omega|(exact pF fun h=>by have h5:=hi.1 (h.2 k (by omega));first|omega|simp_all)|(exact ⟨k+1,by omega,rfl,vS ha (hi.2 ⟨by assumption,by omega,by omega⟩)⟩)
 ·intro hge
  (repeat' first|intro _|(with_reducible apply And.intro))
  all_goals first|(exact pF fun h=>by have:=h.1;omega)|(unfold gL;rw[Bool.eq_iff_iff,nJ,decide_eq_true_eq];exact ⟨fun h=>⟨⟨by omega,by omega,h⟩,fun i hi=>ha i (by omega)⟩,fun h=>h.1.2.2⟩)
theorem aAS:Con.Holds Tryz.prog gA:=aS aV (aI fD (aI eV aQ)) aVD aYC
def tA:Con:=⟨96,aJ,.bool,[.val ⟨true,aJ,[]⟩],[⟨false,.bool,[0]⟩],false,none,
 ((fun _=>True):(bE)→Prop),
 ((fun x=>kM x):(bE)→(Bool))⟩
def aFN:T :=
 .bRX (.bS0 55 aA) (aK aJ 1 (.Z 0)) <|
 .bRX (.cmp .lss .i64) (.bRY tI tI (.Z 1) (.ci .i64 1)) <|
 .ite (.Z 2) (
  .ret (.cb false)) (
  .bRX (.cmp .gtr .i64) (.bRY tI tI (.Z 1) (.ci .i64 4)) <|
  .ite (.Z 3) (
   .ret (.cb false)) (
   .bRX (.bS0 75 aN) (aK aJ 2 (.Z 0)) <|
   .bRX (.ar .sub .i64) (.bRY tI tI (.Z 1) (.ci .i64 1)) <|
   .bRX (.cmp .neq .i64) (.bRY tI tI (.Z 4) (.Z 5)) <|
   .ite (.Z 6) (
    .ret (.cb false)) (
    .bRX (.bS0 75 aN) (aP aJ 3 (.Z 0)) <|
    .bRX (.ar .sub .i64) (.bRY tI tI (.Z 1) (.ci .i64 1)) <|
    .bRX (.cmp .neq .i64) (.bRY tI tI (.Z 7) (.Z 8)) <|
    .ite (.Z 9) (
     .ret (.cb false)) (
     .bRX (.bS0 92 aO) (.p1 aG (.bRW (.slice 55 aA) (.bRW aM aM)) (.Z 0)) <|
     .bRX (.cmp .lss .i64) (.bRY tI tI (.Z 10) (.ci .i64 1)) <|
     .ite (.Z 11) (
      .ret (.cb false)) (
      .bRX (.bS0 92 aO) (.p1 aG (.bRW (.slice 55 aA) (.bRW aM aM)) (.Z 0)) <|
      .bRX (.cmp .gtr .i64) (.bRY tI tI (.Z 12) (.ci .i64 5)) <|
      .ite (.Z 13) (
       .ret (.cb false)) (
       .bRX (.bS0 92 aO) (.p1 aG (.bRW (.slice 55 aA) (.bRW aM aM)) (.Z 0)) <|
       .loop tI (.ci .i64 0) <|
        .bRX (.cmp .lss .i64) (.bRY tI tI (.Z 15) (.Z 14)) <|
        .ite (.Z 16) (
         .bRX (.bS1 92 aO) (.bRY aG tI (.p1 aG (.bRW (.slice 55 aA) (.bRW aM aM)) (.Z 0)) (.Z 15)) <|
         .call 0 (.p1 aB aB (.Z 17)) <|
         .bRX .not (.Z 18) <|
         .ite (.Z 19) (
          .ret (.cb false)) (
          .call 0 (aP aO 1 (.Z 17)) <|
          .bRX .not (.Z 20) <|
          .ite (.Z 21) (
           .ret (.cb false)) (
           .bRX (.ar .add .i64) (.bRY tI tI (.Z 15) (.ci .i64 1)) <|
           .bRZ 0 (.Z 22)))) (
         .bRX (.bS0 75 aN) (aK aJ 2 (.Z 0)) <|
         .loop tI (.ci .i64 0) <|
          .bRX (.cmp .lss .i64) (.bRY tI tI (.Z 18) (.Z 17)) <|
          .ite (.Z 19) (
           .bRX (.bS1 75 aN) (.bRY aM tI (aK aJ 2 (.Z 0)) (.Z 18)) <|
           .call 1 (.Z 20) <|
           .bRX .not (.Z 21) <|
           .ite (.Z 22) (
            .ret (.cb false)) (
            .bRX (.bS1 75 aN) (.bRY aM tI (aP aJ 3 (.Z 0)) (.Z 18)) <|
            .call 1 (.Z 23) <|
            .bRX .not (.Z 24) <|
            .ite (.Z 25) (
             .ret (.cb false)) (
             .bRX (.ar .add .i64) (.bRY tI tI (.Z 18) (.ci .i64 1)) <|
             .bRZ 0 (.Z 26)))) (
           .bRX (.bS0 55 aA) (aK aJ 1 (.Z 0)) <|
           .loop tI (.ci .i64 0) <|
            .bRX (.cmp .lss .i64) (.bRY tI tI (.Z 21) (.Z 20)) <|
            .ite (.Z 22) (
             .bRX (.bS1 55 aA) (.bRY (.slice 55 aA) tI (aK aJ 1 (.Z 0)) (.Z 21)) <|
             .call 2 (.Z 23) <|
             .bRX .not (.Z 24) <|
             .ite (.Z 25) (
              .ret (.cb false)) (
              .bRX (.ar .sub .i64) (.bRY tI tI (.Z 1) (.ci .i64 1)) <|
              .bRX (.cmp .eql .i64) (.bRY tI tI (.Z 21) (.Z 26)) <|
              .bRX (.eqv true .bool) (.bRY .bool .bool (aK aA 3 (.Z 23)) (.Z 27)) <|
              .ite (.Z 28) (
               .ret (.cb false)) (
               .bRX (.bS0 102 aD) (aK aA 1 (.Z 23)) <|
               .loop tI (.ci .i64 0) <|
                .bRX (.cmp .lss .i64) (.bRY tI tI (.Z 30) (.Z 29)) <|
                .ite (.Z 31) (
                 .bRX (.bS1 102 aD) (.bRY aU tI (aK aA 1 (.Z 23)) (.Z 30)) <|
                 .bRX (.cmp .lss .i64) (.bRY tI tI (aP aD 1 (.Z 32)) (.ci .i64 0)) <|
                 .ite (.Z 33) (
                  .ret (.cb false)) (
                  .bRX (.bS0 92 aO) (.p1 aG (.bRW (.slice 55 aA) (.bRW aM aM)) (.Z 0)) <|
                  .bRX (.cmp .geq .i64) (.bRY tI tI (aP aD 1 (.Z 32)) (.Z 34)) <|
                  .ite (.Z 35) (
                   .ret (.cb false)) (
                   .bRX (.ar .add .i64) (.bRY tI tI (.Z 30) (.ci .i64 1)) <|
                   .bRZ 0 (.Z 36)))) (
                 .bRX (.ar .add .i64) (.bRY tI tI (.Z 21) (.ci .i64 1)) <|
                 .bRZ 1 (.Z 32))))) (
             .ret (.cb true))))))))))
theorem aZU:bI Tryz.prog [dE,fZ,dZ] tA false 3000 ⟨[(2981,64015,gQ 46 11++[.dr 0,.tm 49 0]),(2971,128018,[.dr 65,.dr 64]++gQ 50 47++[.tm 67 0]),(2961,256021,[.dr 87]++gQ 68 66++[.tm 90 0]),(2943,2304030,[.tm 110 0])],[]⟩ = .ok aFN:=by kernel_rfl
theorem bCJ (x:bE) (hx:okD aJ x) (hp:(fun _=>True) x):aFN.wp [dE,fZ,dZ] [⟨aJ,x⟩] [] (fun v=>v.as .bool=(fun x=>kM x) x):=by
 obtain ⟨batch,stages,acts,backs⟩:=x
 have hm1:batch.length≤9223372036854775807:=hx.1.1
 have hm2:stages.length≤9223372036854775807:=hx.2.1.1
 have hm3:acts.length≤9223372036854775807:=hx.2.2.1.1
 have hm4:∀ k,k<stages.length→(stages.getD k (aW aA)).2.1.length≤9223372036854775807:=fun k hk=>by rw[aZ hk];exact (hx.2.1.2 _ (List.getElem_mem hk)).2.1.1
 delta aFN dE fZ dZ;refine cW ?_
 (refine dB ?_;try with_reducible exact True.intro)
 (repeat' first|intro _|(with_reducible apply And.intro))
 all_goals first|omega|(exact pF fun h=>by have:=h.1;dsimp only at this;omega)|skip
 refine ⟨fun s=>∃ k:Nat,k≤batch.length∧s=(k:Int)∧∀ i,i<k→iQ (batch.getD i (aW aO)).1=true∧iQ (batch.getD i (aW aO)).2=true,fun s=>batch.length - (s:Int).toNat,⟨0,by omega,rfl,by omega⟩,fun s _ hI=>?_⟩
 obtain ⟨k,hk,rfl,ha⟩:=hI
 refine dB ?_
 constructor
 ·intro hlt
  (repeat' first|intro _|(with_reducible apply And.intro))
  all_goals first|omega|(exact pF fun h=>by have:=h.2.1 k (by dsimp only;omega);dsimp only at this;simp_all)|(exact ⟨k+1,by omega,rfl,vS ha ⟨by assumption,by assumption⟩⟩)
 intro hge _
 have hb:∀ i,i<batch.length→iQ (batch.getD i (aW aO)).1=true∧iQ (batch.getD i (aW aO)).2=true:=fun i hi=>ha i (by omega)
 clear ha
 refine ⟨fun s=>∃ k:Nat,k≤acts.length∧s=(k:Int)∧∀ i,i<k→gL (acts.getD i (aW aN))=true∧gL (backs.getD i (aW aN))=true,fun s=>acts.length - (s:Int).toNat,⟨0,by omega,rfl,by omega⟩,fun s _ hI=>?_⟩
 obtain ⟨k2,hk2,rfl,ha⟩:=hI
 refine dB ?_
 constructor
 ·intro hlt
  (repeat' first|intro _|(with_reducible apply And.intro))
  all_goals first|omega|(exact pF fun h=>by have:=h.2.2.1 k2 (by dsimp only;omega);dsimp only at this;simp_all)|(exact ⟨k2+1,by omega,rfl,vS ha ⟨by assumption,by assumption⟩⟩)
 intro hge2 _
 have hq:∀ i,i<acts.length→gL (acts.getD i (aW aN))=true∧gL (backs.getD i (aW aN))=true:=fun i hi=>ha i (by omega)
 clear ha
 refine ⟨fun s=>∃ k:Nat,k≤stages.length∧s=(k:Int)∧∀ i,i<k→aDQ (batch,stages,acts,backs) i,fun s=>stages.length - (s:Int).toNat,⟨0,by omega,rfl,by omega⟩,fun s _ hI=>?_⟩
 obtain ⟨k3,hk3,rfl,ha⟩:=hI
 simp only[mG,bPW,bMB,bN3]
 have hm5:=hm4 k3
 constructor
 ·intro hlt
  have bad:¬ aDQ (batch,stages,acts,backs) k3→false=kM (batch,stages,acts,backs):=fun h=>pF fun hh=>h (hh.2.2.2 k3 (by dsimp only;omega))
  (repeat' first|intro _|(with_reducible apply And.intro))
  all_goals first|omega|(exact bad fun h=>absurd h.2.1 (by assumption))|(exact bad fun h=>Bool.noConfusion (h.1.symm.trans (by assumption:_=false)))|skip
  refine ⟨fun s=>∃ k:Nat,k≤(stages.getD k3 (aW aA)).2.1.length∧s=(k:Int)∧∀ i,i<k→0≤((stages.getD k3 (aW aA)).2.1.getD i (aW aD)).2∧((stages.getD k3 (aW aA)).2.1.getD i (aW aD)).2<(batch.length:Int),fun s=>(stages.getD k3 (aW aA)).2.1.length - (s:Int).toNat,⟨0,by omega,rfl,by omega⟩,fun s _ hI=>?_⟩
  obtain ⟨k4,hk4,rfl,hc⟩:=hI
  (refine dB ?_;try with_reducible exact True.intro)
  (repeat' first|intro _|(with_reducible apply And.intro))
  all_goals first|omega|(exact bad fun h=>by have h5:=h.2.2 k4 (by dsimp only;omega);dsimp only at h5;omega)|(exact ⟨k4+1,by omega,rfl,vS hc ⟨by omega,by omega⟩⟩)|(exact ⟨k3+1,by omega,rfl,vS ha ⟨by assumption,by assumption,fun i hi=>hc i (by dsimp only at hi;omega)⟩⟩)
 ·intro hge3
  exact pT ⟨⟨by dsimp only;omega,by dsimp only;omega,by dsimp only;omega,by dsimp only;omega,by dsimp only;omega,by dsimp only;omega⟩,hb,hq,fun i hi=>ha i (by dsimp only at hi;omega)⟩
theorem bA3:Con.Holds Tryz.prog tA:=aS aV (aI pS (aI aBH (aI vA aQ))) aZU bCJ
def tJ:Con:=⟨142,aJ,.bool,[.val ⟨true,aJ,[]⟩],[⟨false,.bool,[0]⟩],false,none,
 ((fun _=>True):(bE)→Prop),
 ((fun x=>kM x):(bE)→(Bool))⟩
def aFH:T :=
 .bRX (.bS0 55 aA) (aK aJ 1 (.Z 0)) <|
 .call 0 (bB (.bRW tI aD) [(.Z 1),(.ci .i64 1),(.ci .i64 4)]) <|
 .bRX .not (.Z 2) <|
 .ite (.Z 3) (
  .ret (.cb false)) (
  .bRX (.bS0 75 aN) (aK aJ 2 (.Z 0)) <|
  .bRX (.ar .sub .i64) (.bRY tI tI (.Z 1) (.ci .i64 1)) <|
  .bRX (.cmp .neq .i64) (.bRY tI tI (.Z 4) (.Z 5)) <|
  .ite (.Z 6) (
   .ret (.cb false)) (
   .bRX (.bS0 75 aN) (aP aJ 3 (.Z 0)) <|
   .bRX (.ar .sub .i64) (.bRY tI tI (.Z 1) (.ci .i64 1)) <|
   .bRX (.cmp .neq .i64) (.bRY tI tI (.Z 7) (.Z 8)) <|
   .ite (.Z 9) (
    .ret (.cb false)) (
    .bRX (.bS0 92 aO) (.p1 aG (.bRW (.slice 55 aA) (.bRW aM aM)) (.Z 0)) <|
    .call 0 (bB (.bRW tI aD) [(.Z 10),(.ci .i64 1),(.ci .i64 5)]) <|
    .bRX .not (.Z 11) <|
    .ite (.Z 12) (
     .ret (.cb false)) (
     .loop tI (.ci .i64 0) <|
      .bRX (.cmp .lss .i64) (.bRY tI tI (.Z 13) (.Z 1)) <|
      .ite (.Z 14) (
       .bRX (.bS1 55 aA) (.bRY (.slice 55 aA) tI (aK aJ 1 (.Z 0)) (.Z 13)) <|
       .call 1 (.Z 15) <|
       .bRX .not (.Z 16) <|
       .ite (.Z 17) (
        .ret (.cb false)) (
        .bRX (.ar .sub .i64) (.bRY tI tI (.Z 1) (.ci .i64 1)) <|
        .bRX (.cmp .eql .i64) (.bRY tI tI (.Z 13) (.Z 18)) <|
        .bRX (.eqv true .bool) (.bRY .bool .bool (aK aA 3 (.Z 15)) (.Z 19)) <|
        .ite (.Z 20) (
         .ret (.cb false)) (
         .loop tI (.ci .i64 0) <|
          .bRX (.bS0 102 aD) (aK aA 1 (.Z 15)) <|
          .bRX (.cmp .lss .i64) (.bRY tI tI (.Z 21) (.Z 22)) <|
          .ite (.Z 23) (
           .bRX (.bS1 102 aD) (.bRY aU tI (aK aA 1 (.Z 15)) (.Z 21)) <|
           .bRX (.bS0 92 aO) (.p1 aG (.bRW (.slice 55 aA) (.bRW aM aM)) (.Z 0)) <|
           .bRX (.ar .sub .i64) (.bRY tI tI (.Z 25) (.ci .i64 1)) <|
           .call 0 (bB (.bRW tI aD) [(aP aD 1 (.Z 24)),(.ci .i64 0),(.Z 26)]) <|
           .bRX .not (.Z 27) <|
           .ite (.Z 28) (
            .ret (.cb false)) (
            .bRX (.ar .add .i64) (.bRY tI tI (.Z 21) (.ci .i64 1)) <|
            .bRZ 0 (.Z 29))) (
           .bRX (.cmp .gtr .i64) (.bRY tI tI (.Z 13) (.ci .i64 0)) <|
           .ite (.Z 24) (
            .bRX (.ar .sub .i64) (.bRY tI tI (.Z 13) (.ci .i64 1)) <|
            .bRX (.bS1 75 aN) (.bRY aM tI (aK aJ 2 (.Z 0)) (.Z 25)) <|
            .call 2 (.Z 26) <|
            .bRX .not (.Z 27) <|
            .ite (.Z 28) (
             .ret (.cb false)) (
             .bRX (.ar .sub .i64) (.bRY tI tI (.Z 13) (.ci .i64 1)) <|
             .bRX (.bS1 75 aN) (.bRY aM tI (aP aJ 3 (.Z 0)) (.Z 29)) <|
             .call 2 (.Z 30) <|
             .bRX .not (.Z 31) <|
             .ite (.Z 32) (
              .ret (.cb false)) (
              .bRX (.ar .add .i64) (.bRY tI tI (.Z 13) (.ci .i64 1)) <|
              .bRZ 1 (.Z 33)))) (
            .bRX (.ar .add .i64) (.bRY tI tI (.Z 13) (.ci .i64 1)) <|
            .bRZ 1 (.Z 25)))))) (
       .loop tI (.ci .i64 0) <|
        .bRX (.bS0 92 aO) (.p1 aG (.bRW (.slice 55 aA) (.bRW aM aM)) (.Z 0)) <|
        .bRX (.cmp .lss .i64) (.bRY tI tI (.Z 15) (.Z 16)) <|
        .ite (.Z 17) (
         .bRX (.bS1 92 aO) (.bRY aG tI (.p1 aG (.bRW (.slice 55 aA) (.bRW aM aM)) (.Z 0)) (.Z 15)) <|
         .call 3 (.p1 aB aB (.Z 18)) <|
         .bRX .not (.Z 19) <|
         .ite (.Z 20) (
          .ret (.cb false)) (
          .bRX (.bS1 92 aO) (.bRY aG tI (.p1 aG (.bRW (.slice 55 aA) (.bRW aM aM)) (.Z 0)) (.Z 15)) <|
          .call 3 (aP aO 1 (.Z 21)) <|
          .bRX .not (.Z 22) <|
          .ite (.Z 23) (
           .ret (.cb false)) (
           .bRX (.ar .add .i64) (.bRY tI tI (.Z 15) (.ci .i64 1)) <|
           .bRZ 0 (.Z 24)))) (
         .ret (.cb true)))))))
theorem bC4:bI Tryz.prog [bL,eB,gA,bN] tJ false 3000 ⟨[(2986,16013,gQ 36 8++[.dr 0,.tm 4 0]),(2967,144021,[.tm 6 0]),(2976,32015,gQ 39 37++[.dr 4,.dr 3,.tm 7 0])],[]⟩ = .ok aFH:=by kernel_rfl
theorem bC5 (x:bE) (hx:okD aJ x) (hp:(fun _=>True) x):aFH.wp [bL,eB,gA,bN] [⟨aJ,x⟩] [] (fun v=>v.as .bool=(fun x=>kM x) x):=by
 obtain ⟨batch,stages,acts,backs⟩:=x
 have hm1:batch.length≤9223372036854775807:=hx.1.1
 have hm2:stages.length≤9223372036854775807:=hx.2.1.1
 have hm3:acts.length≤9223372036854775807:=hx.2.2.1.1
 have hm4:∀ k,k<stages.length→(stages.getD k (aW aA)).2.1.length≤9223372036854775807:=fun k hk=>by rw[aZ hk];exact (hx.2.1.2 _ (List.getElem_mem hk)).2.1.1
 delta aFH bL eB gA bN;refine cW ?_
 (refine dB ?_;try with_reducible exact True.intro)
 (repeat' first|intro _|(with_reducible apply And.intro))
 all_goals first|omega|(exact pF fun h=>by have:=h.1;dsimp only at this;omega)|skip
 refine ⟨fun s=>∃ k:Nat,k≤stages.length∧s=(k:Int)∧∀ i,i<k→aDQ (batch,stages,acts,backs) i∧(0<i→gL (acts.getD (i - 1) (aW aN))=true∧gL (backs.getD (i - 1) (aW aN))=true),fun s=>stages.length - (s:Int).toNat,⟨0,by omega,rfl,by omega⟩,fun s _ hI=>?_⟩
 obtain ⟨k3,hk3,rfl,ha⟩:=hI
 simp only[mG,bPW,bMB,bN3]
 have hm5:=hm4 k3
 constructor
 ·intro hlt
  have bad:¬ aDQ (batch,stages,acts,backs) k3→false=kM (batch,stages,acts,backs):=fun h=>pF fun hh=>h (hh.2.2.2 k3 (by dsimp only;omega))
  have bad2:0<k3→¬ (gL (acts.getD (k3 - 1) (aW aN))=true∧gL (backs.getD (k3 - 1) (aW aN))=true)→false=kM (batch,stages,acts,backs):=fun h0 h=>pF fun hh=>h (hh.2.2.1 (k3 - 1) (by have:=hh.1;dsimp only at this ⊢;omega))
  (repeat' first|intro _|(with_reducible apply And.intro))
  all_goals first|omega|(exact bad fun h=>absurd h.2.1 (by assumption))|(exact bad fun h=>Bool.noConfusion (h.1.symm.trans (by assumption:_=false)))|skip
  refine ⟨fun s=>∃ k:Nat,k≤(stages.getD k3 (aW aA)).2.1.length∧s=(k:Int)∧∀ i,i<k→0≤((stages.getD k3 (aW aA)).2.1.getD i (aW aD)).2∧((stages.getD k3 (aW aA)).2.1.getD i (aW aD)).2<(batch.length:Int),fun s=>(stages.getD k3 (aW aA)).2.1.length - (s:Int).toNat,⟨0,by omega,rfl,by omega⟩,fun s _ hI=>?_⟩
  obtain ⟨k4,hk4,rfl,hc⟩:=hI
  (refine dB ?_;try with_reducible exact True.intro)
  (repeat' first|intro _|(with_reducible apply And.intro))
  all_goals first|omega|(exact bad fun h=>by have h5:=h.2.2 k4 (by dsimp only;omega);dsimp only at h5;omega)|(exact ⟨k4+1,by omega,rfl,vS hc ⟨by omega,by omega⟩⟩)|(exact bad2 (by omega) fun h=>by simp_all;done)|(exact ⟨k3+1,by omega,rfl,vS ha ⟨⟨by assumption,by assumption,fun i hi=>hc i (by dsimp only at hi;omega)⟩,fun _=>⟨by first|assumption|omega,by first|assumption|omega⟩⟩⟩)
 intro hge3
 have hs:∀ i,i<stages.length→aDQ (batch,stages,acts,backs) i:=fun i hi=>(ha i (by omega)).1
 have hq:∀ i,i<acts.length→gL (acts.getD i (aW aN))=true∧gL (backs.getD i (aW aN))=true:=fun i hi=>(ha (i+1) (by omega)).2 (by omega)
 clear ha
 refine ⟨fun s=>∃ k:Nat,k≤batch.length∧s=(k:Int)∧∀ i,i<k→iQ (batch.getD i (aW aO)).1=true∧iQ (batch.getD i (aW aO)).2=true,fun s=>batch.length - (s:Int).toNat,⟨0,by omega,rfl,by omega⟩,fun s _ hI=>?_⟩
 obtain ⟨k,hk,rfl,ha⟩:=hI
 refine dB ?_
 intro _
 constructor
 ·intro hlt
  (repeat' first|intro _|(with_reducible apply And.intro))
  all_goals first|omega|(exact pF fun h=>by have:=h.2.1 k (by dsimp only;omega);dsimp only at this;simp_all)|(exact ⟨k+1,by omega,rfl,vS ha ⟨by assumption,by assumption⟩⟩)
 intro hge
 exact pT ⟨⟨by dsimp only;omega,by dsimp only;omega,by dsimp only;omega,by dsimp only;omega,by dsimp only;omega,by dsimp only;omega⟩,fun i hi=>ha i (by dsimp only at hi;omega),hq,hs⟩
theorem bBP:Con.Holds Tryz.prog tJ:=aS aV (aI eV (aI vC (aI aAS (aI fD aQ)))) bC4 bC5
end
end Go.Proofs.YtabamggdmdednaaGreat
