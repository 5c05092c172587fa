/- Pipe4: lemmas. No conditions. -/
import Derived.Test.YtiihghfoeinbbaaGreatStage3
namespace Go.Proofs.YtiihghfoeinbbaaGreat
noncomputable section
set_option maxRecDepth 100000
open Go.ChangeShapes Go.WideShapes Go.ChangeAt Go.RowKit Go.Deep
set_option linter.unusedVariables false
set_option linter.unusedSimpArgs false
def pB (P:Prop):Bool:=@decide P (Classical.propDecidable P)
theorem nX {P:Prop}:pB P=true↔P:=by unfold pB;rw[@decide_eq_true_eq]
theorem bLU {P:Prop}:pB P=false↔¬ P:=⟨fun h hp=>(by rw[nX.2 hp] at h;cases h),fun h=>Bool.eq_false_iff.2 fun h2=>h (nX.1 h2)⟩
theorem pF {P:Prop} (h:¬ P):false=pB P:=(bLU.2 h).symm
theorem pT {P:Prop} (h:P):true=pB P:=(nX.2 h).symm
theorem bKL {k n:Nat}:((k:Int)==(n:Int) - 1)=decide (k+1=n):=by rw[Bool.eq_iff_iff,beq_iff_eq,decide_eq_true_eq];omega
theorem bFG {x y:Bool}:aCT .bool x y=true↔x=y:=by cases x <;> cases y <;> simp[aCT]
theorem bGO {x y:Bool}:aCT .bool x y=false↔¬ x=y:=by cases x <;> cases y <;> simp[aCT]
def wU (x:cL):Bool:=iK x.2&&decide (0≤x.1∧x.1<5)
theorem kH (x:cL):wU x=true↔iK x.2=true∧0≤x.1∧x.1<5:=by unfold wU;rw[Bool.and_eq_true,decide_eq_true_eq]
def gJ (q:cE):Bool:=pB ((1≤q.1∧q.1≤5∧(q.2.length:Int)≤q.1)∧∀ i,i<q.2.length→wU (q.2.getD i (aX aF))=true)
theorem uH {P:Nat→Prop} {k:Nat} (h:∀ i,i<k→P i) (h2:P k):∀ i,i<k+1→P i:=fun i hi=>by
 rcases Nat.lt_or_eq_of_le (Nat.le_of_lt_succ hi) with h'|rfl
 ·exact h i h'
 ·exact h2
def aCA (p:bO) (i:Nat):Prop:=gS (p.2.1.getD i (aX aA))=true∧(p.2.1.getD i (aX aA)).2.2.2.1=decide (i+1=p.2.1.length) ∧
 ∀ k,k<(p.2.1.getD i (aX aA)).2.1.length→0≤((p.2.1.getD i (aX aA)).2.1.getD k (aX aO)).2∧((p.2.1.getD i (aX aA)).2.1.getD k (aX aO)).2<(p.1.length:Int)
def bLM (p:bO):Prop:=(1≤p.2.1.length∧p.2.1.length≤4∧p.2.2.1.length+1=p.2.1.length∧p.2.2.2.length+1=p.2.1.length∧1≤p.1.length∧p.1.length≤5) ∧
 (∀ i,i<p.1.length→iK (p.1.getD i (aX aI)).1=true∧iK (p.1.getD i (aX aI)).2=true) ∧
 (∀ i,i<p.2.2.1.length→gJ (p.2.2.1.getD i (aX aM))=true∧gJ (p.2.2.2.getD i (aX aM))=true)∧∀ i,i<p.2.1.length→aCA p i
def kK (p:bO):Bool:=pB (bLM p)
def lL:Con:=⟨245,aF,.bool,[.val ⟨true,aF,[]⟩],[⟨false,.bool,[0]⟩],false,none,
 ((fun _=>True):(cL)→Prop),
 ((fun x=>wU x):(cL)→(Bool))⟩
def aDH:T:=.call 0 (aQ aF 1 (.Z 0)) <|.ite (.Z 1) (
 .bMD (.cmp .geq .i64) (.bME tI tI (.p1 tI aB (.Z 0)) (.ci .i64 0)) <|
 .ite (.Z 2) (
  .bMD (.cmp .lss .i64) (.bME tI tI (.p1 tI aB (.Z 0)) (.ci .i64 5)) <|
  .ret (.Z 3)) (
  .ret (.cb false))) (
 .ret (.cb false))
theorem aZ1:bL Tryz.prog [cZ] lL false 3000 ⟨[],[]⟩ = .ok aDH:=by kernel_rfl
theorem aVR (x:cL) (hx:okD aF x) (hp:(fun _=>True) x):aDH.wp [cZ] [⟨aF,x⟩] [] (fun v=>v.as .bool=(fun x=>wU x) x):=by
 delta aDH cZ;refine dD ?_
 (refine eE ?_;try with_reducible exact True.intro)
 (repeat' first|intro _|(with_reducible apply And.intro))
 all_goals first|(first|(refine (Bool.eq_false_iff.2 ?_).symm;rw[ne_eq,kH];intro hh;omega)|(refine (kH.2 ?_).symm;omega))|(rw[Bool.eq_iff_iff,kH,decide_eq_true_eq];exact ⟨fun h=>⟨by assumption,by omega,h⟩,fun h=>h.2.2⟩)|(refine (Bool.eq_false_iff.2 fun h=>?_).symm;rw[kH] at h;simp_all)
theorem aJD:Con.Holds Tryz.prog lL:=aR aW (aG oF aS) aZ1 aVR
def fZ:Con:=⟨190,aM,.bool,[.val ⟨true,aM,[]⟩],[⟨false,.bool,[0]⟩],false,none,
 ((fun _=>True):(cE)→Prop),
 ((fun x=>gJ x):(cE)→(Bool))⟩
def zQ:T :=
 .bMD (.cmp .lss .i64) (.bME tI tI (.p1 tI (.slice 197 aF) (.Z 0)) (.ci .i64 1)) <|
 .ite (.Z 1) (
  .ret (.cb false)) (
  .bMD (.cmp .gtr .i64) (.bME tI tI (.p1 tI (.slice 197 aF) (.Z 0)) (.ci .i64 5)) <|
  .ite (.Z 2) (
   .ret (.cb false)) (
   .bMD (.bMG 197 aF) (aQ aM 1 (.Z 0)) <|
   .bMD (.cmp .gtr .i64) (.bME tI tI (.Z 3) (.p1 tI (.slice 197 aF) (.Z 0))) <|
   .ite (.Z 4) (
    .ret (.cb false)) (
    .bMD (.bMG 197 aF) (aQ aM 1 (.Z 0)) <|
    .loop tI (.ci .i64 0) <|
     .bMD (.cmp .lss .i64) (.bME tI tI (.Z 6) (.Z 5)) <|
     .ite (.Z 7) (
      .bMD (.bMH 197 aF) (.bME (.slice 197 aF) tI (aQ aM 1 (.Z 0)) (.Z 6)) <|
      .call 0 (.Z 8) <|
      .bMD .not (.Z 9) <|
      .ite (.Z 10) (
       .ret (.cb false)) (
       .bMD (.ar .add .i64) (.bME tI tI (.Z 6) (.ci .i64 1)) <|
       .bMF 0 (.Z 11))) (
      .ret (.cb true)))))
theorem aRB:bL Tryz.prog [lL] fZ false 3000 ⟨[(2988,8006,iQ 21 5++[.dr 1,.dr 0,.tm 24 0])],[]⟩ = .ok zQ:=by kernel_rfl
theorem aSJ (x:cE) (hx:okD aM x) (hp:(fun _=>True) x):zQ.wp [lL] [⟨aM,x⟩] [] (fun v=>v.as .bool=(fun x=>gJ x) x):=by
 have hm:List.length x.2≤9223372036854775807:=hx.2.1
 delta zQ lL;refine dD ?_
 (refine eE ?_;try with_reducible exact True.intro)
 (repeat' first|intro _|(with_reducible apply And.intro))
 all_goals first|omega|(exact pF fun h=>by have:=h.1;omega)|skip
 refine ⟨fun s=>∃ k:Nat,k≤x.2.length∧s=(k:Int)∧∀ i,i<k→wU (x.2.getD i (aX aF))=true,fun s=>x.2.length - (s:Int).toNat,⟨0,by omega,rfl,by omega⟩,fun s _ hI=>?_⟩
 obtain ⟨k,hk,rfl,ha⟩:=hI
 refine eE ?_
 constructor
 ·intro hlt
  (repeat' first|intro _|(with_reducible apply And.intro))
  all_goals first|omega|(exact pF fun h=>by have:=h.2 k (by omega);simp_all)|(exact ⟨k+1,by omega,rfl,uH ha (by assumption)⟩)
 ·intro hge
  exact pT ⟨⟨by omega,by omega,by omega⟩,fun i hi=>ha i (by omega)⟩
theorem aB9:Con.Holds Tryz.prog fZ:=aR aW (aG aJD aS) aRB aSJ
def gC:Con:=⟨185,aM,.bool,[.val ⟨true,aM,[]⟩],[⟨false,.bool,[0]⟩],false,none,
 ((fun _=>True):(cE)→Prop),
 ((fun x=>gJ x):(cE)→(Bool))⟩
def aBD:T:=.loop tI (.ci .i64 0) <|
 .bMD (.bMG 197 aF) (aQ aM 1 (.Z 0)) <|
 .bMD (.cmp .lss .i64) (.bME tI tI (.Z 1) (.Z 2)) <|
 .ite (.Z 3) (
  .bMD (.bMH 197 aF) (.bME (.slice 197 aF) tI (aQ aM 1 (.Z 0)) (.Z 1)) <|
  .call 0 (aQ aF 1 (.Z 4)) <|
  .bMD .not (.Z 5) <|
  .ite (.Z 6) (
   .ret (.cb false)) (
   .bMD (.bMH 197 aF) (.bME (.slice 197 aF) tI (aQ aM 1 (.Z 0)) (.Z 1)) <|
   .call 1 (bE (.bMC tI aO) [(.p1 tI aB (.Z 7)),(.ci .i64 0),(.ci .i64 4)]) <|
   .bMD .not (.Z 8) <|
   .ite (.Z 9) (
    .ret (.cb false)) (
    .bMD (.ar .add .i64) (.bME tI tI (.Z 1) (.ci .i64 1)) <|
    .bMF 0 (.Z 10)))) (
  .call 1 (bE (.bMC tI aO) [(.p1 tI (.slice 197 aF) (.Z 0)),(.ci .i64 1),(.ci .i64 5)]) <|
  .ite (.Z 4) (
   .bMD (.bMG 197 aF) (aQ aM 1 (.Z 0)) <|
   .bMD (.cmp .leq .i64) (.bME tI tI (.Z 5) (.p1 tI (.slice 197 aF) (.Z 0))) <|
   .ret (.Z 6)) (
   .ret (.cb false)))
theorem aSY:bL Tryz.prog [bI,bH] gC false 3000 ⟨[(2993,1001,[.dr 0,.tm 3 0])],[]⟩ = .ok aBD:=by kernel_rfl
theorem aTN (x:cE) (hx:okD aM x) (hp:(fun _=>True) x):aBD.wp [bI,bH] [⟨aM,x⟩] [] (fun v=>v.as .bool=(fun x=>gJ x) x):=by
 have hm:List.length x.2≤9223372036854775807:=hx.2.1
 delta aBD bI bH;refine dD ?_
 refine ⟨fun s=>∃ k:Nat,k≤x.2.length∧s=(k:Int)∧∀ i,i<k→wU (x.2.getD i (aX aF))=true,fun s=>x.2.length - (s:Int).toNat,⟨0,by omega,rfl,by omega⟩,fun s _ hI=>?_⟩
 obtain ⟨k,hk,rfl,ha⟩:=hI
 refine eE ?_
 intro _
 have hi:=kH (x.2.getD k (aX aF))
 constructor
 ·intro hlt
  (repeat' first|intro _|(with_reducible apply And.intro))
  all_goals first|omega|(exact pF fun h=>by have h5:=hi.1 (h.2 k (by omega));first|omega|simp_all)|(exact ⟨k+1,by omega,rfl,uH ha (hi.2 ⟨by assumption,by omega,by omega⟩)⟩)
 ·intro hge
  (repeat' first|intro _|(with_reducible apply And.intro))
  all_goals first|(exact pF fun h=>by have:=h.1;omega)|(unfold gJ;rw[Bool.eq_iff_iff,nX,decide_eq_true_eq];exact ⟨fun h=>⟨⟨by omega,by omega,h⟩,fun i hi=>ha i (by omega)⟩,fun h=>h.1.2.2⟩)
theorem zN:Con.Holds Tryz.prog gC:=aR aW (aG fD (aG eS aS)) aSY aTN
def tP:Con:=⟨106,aL,.bool,[.val ⟨true,aL,[]⟩],[⟨false,.bool,[0]⟩],false,none,
 ((fun _=>True):(bO)→Prop),
 ((fun x=>kK x):(bO)→(Bool))⟩
def aDO:T :=
 .bMD (.bMG 126 aA) (aJ aL 1 (.Z 0)) <|
 .bMD (.cmp .lss .i64) (.bME tI tI (.Z 1) (.ci .i64 1)) <|
 .ite (.Z 2) (
  .ret (.cb false)) (
  .bMD (.cmp .gtr .i64) (.bME tI tI (.Z 1) (.ci .i64 4)) <|
  .ite (.Z 3) (
   .ret (.cb false)) (
   .bMD (.bMG 170 aM) (aJ aL 2 (.Z 0)) <|
   .bMD (.ar .sub .i64) (.bME tI tI (.Z 1) (.ci .i64 1)) <|
   .bMD (.cmp .neq .i64) (.bME tI tI (.Z 4) (.Z 5)) <|
   .ite (.Z 6) (
    .ret (.cb false)) (
    .bMD (.bMG 170 aM) (aQ aL 3 (.Z 0)) <|
    .bMD (.ar .sub .i64) (.bME tI tI (.Z 1) (.ci .i64 1)) <|
    .bMD (.cmp .neq .i64) (.bME tI tI (.Z 7) (.Z 8)) <|
    .ite (.Z 9) (
     .ret (.cb false)) (
     .bMD (.bMG 130 aI) (.p1 aN (.bMC (.slice 126 aA) (.bMC aK aK)) (.Z 0)) <|
     .bMD (.cmp .lss .i64) (.bME tI tI (.Z 10) (.ci .i64 1)) <|
     .ite (.Z 11) (
      .ret (.cb false)) (
      .bMD (.bMG 130 aI) (.p1 aN (.bMC (.slice 126 aA) (.bMC aK aK)) (.Z 0)) <|
      .bMD (.cmp .gtr .i64) (.bME tI tI (.Z 12) (.ci .i64 5)) <|
      .ite (.Z 13) (
       .ret (.cb false)) (
       .bMD (.bMG 130 aI) (.p1 aN (.bMC (.slice 126 aA) (.bMC aK aK)) (.Z 0)) <|
       .loop tI (.ci .i64 0) <|
        .bMD (.cmp .lss .i64) (.bME tI tI (.Z 15) (.Z 14)) <|
        .ite (.Z 16) (
         .bMD (.bMH 130 aI) (.bME aN tI (.p1 aN (.bMC (.slice 126 aA) (.bMC aK aK)) (.Z 0)) (.Z 15)) <|
         .call 0 (.p1 aB aB (.Z 17)) <|
         .bMD .not (.Z 18) <|
         .ite (.Z 19) (
          .ret (.cb false)) (
          .call 0 (aQ aI 1 (.Z 17)) <|
          .bMD .not (.Z 20) <|
          .ite (.Z 21) (
           .ret (.cb false)) (
           .bMD (.ar .add .i64) (.bME tI tI (.Z 15) (.ci .i64 1)) <|
           .bMF 0 (.Z 22)))) (
         .bMD (.bMG 170 aM) (aJ aL 2 (.Z 0)) <|
         .loop tI (.ci .i64 0) <|
          .bMD (.cmp .lss .i64) (.bME tI tI (.Z 18) (.Z 17)) <|
          .ite (.Z 19) (
           .bMD (.bMH 170 aM) (.bME aK tI (aJ aL 2 (.Z 0)) (.Z 18)) <|
           .call 1 (.Z 20) <|
           .bMD .not (.Z 21) <|
           .ite (.Z 22) (
            .ret (.cb false)) (
            .bMD (.bMH 170 aM) (.bME aK tI (aQ aL 3 (.Z 0)) (.Z 18)) <|
            .call 1 (.Z 23) <|
            .bMD .not (.Z 24) <|
            .ite (.Z 25) (
             .ret (.cb false)) (
             .bMD (.ar .add .i64) (.bME tI tI (.Z 18) (.ci .i64 1)) <|
             .bMF 0 (.Z 26)))) (
           .bMD (.bMG 126 aA) (aJ aL 1 (.Z 0)) <|
           .loop tI (.ci .i64 0) <|
            .bMD (.cmp .lss .i64) (.bME tI tI (.Z 21) (.Z 20)) <|
            .ite (.Z 22) (
             .bMD (.bMH 126 aA) (.bME (.slice 126 aA) tI (aJ aL 1 (.Z 0)) (.Z 21)) <|
             .call 2 (.Z 23) <|
             .bMD .not (.Z 24) <|
             .ite (.Z 25) (
              .ret (.cb false)) (
              .bMD (.ar .sub .i64) (.bME tI tI (.Z 1) (.ci .i64 1)) <|
              .bMD (.cmp .eql .i64) (.bME tI tI (.Z 21) (.Z 26)) <|
              .bMD (.eqv true .bool) (.bME .bool .bool (aJ aA 3 (.Z 23)) (.Z 27)) <|
              .ite (.Z 28) (
               .ret (.cb false)) (
               .bMD (.bMG 194 aO) (aJ aA 1 (.Z 23)) <|
               .loop tI (.ci .i64 0) <|
                .bMD (.cmp .lss .i64) (.bME tI tI (.Z 30) (.Z 29)) <|
                .ite (.Z 31) (
                 .bMD (.bMH 194 aO) (.bME aT tI (aJ aA 1 (.Z 23)) (.Z 30)) <|
                 .bMD (.cmp .lss .i64) (.bME tI tI (aQ aO 1 (.Z 32)) (.ci .i64 0)) <|
                 .ite (.Z 33) (
                  .ret (.cb false)) (
                  .bMD (.bMG 130 aI) (.p1 aN (.bMC (.slice 126 aA) (.bMC aK aK)) (.Z 0)) <|
                  .bMD (.cmp .geq .i64) (.bME tI tI (aQ aO 1 (.Z 32)) (.Z 34)) <|
                  .ite (.Z 35) (
                   .ret (.cb false)) (
                   .bMD (.ar .add .i64) (.bME tI tI (.Z 30) (.ci .i64 1)) <|
                   .bMF 0 (.Z 36)))) (
                 .bMD (.ar .add .i64) (.bME tI tI (.Z 21) (.ci .i64 1)) <|
                 .bMF 1 (.Z 32))))) (
             .ret (.cb true))))))))))
theorem aVX:bL Tryz.prog [cZ,fZ,dW] tP false 3000 ⟨[(2981,64015,iQ 46 11++[.dr 0,.tm 49 0]),(2971,128018,[.dr 65,.dr 64]++iQ 50 47++[.tm 67 0]),(2961,256021,[.dr 87]++iQ 68 66++[.tm 90 0]),(2943,2304030,[.tm 110 0])],[]⟩ = .ok aDO:=by kernel_rfl
theorem aX3 (x:bO) (hx:okD aL x) (hp:(fun _=>True) x):aDO.wp [cZ,fZ,dW] [⟨aL,x⟩] [] (fun v=>v.as .bool=(fun x=>kK x) x):=by
 obtain ⟨batch,stages,acts,backs⟩:=x
 have hm1:batch.length≤9223372036854775807:=hx.1.1
 have hm2:stages.length≤9223372036854775807:=hx.2.1.1
 have hm3:acts.length≤9223372036854775807:=hx.2.2.1.1
 have hm4:∀ k,k<stages.length→(stages.getD k (aX aA)).2.1.length≤9223372036854775807:=fun k hk=>by rw[aZ hk];exact (hx.2.1.2 _ (List.getElem_mem hk)).2.1.1
 delta aDO cZ fZ dW;refine dD ?_
 (refine eE ?_;try with_reducible exact True.intro)
 (repeat' first|intro _|(with_reducible apply And.intro))
 all_goals first|omega|(exact pF fun h=>by have:=h.1;dsimp only at this;omega)|skip
 refine ⟨fun s=>∃ k:Nat,k≤batch.length∧s=(k:Int)∧∀ i,i<k→iK (batch.getD i (aX aI)).1=true∧iK (batch.getD i (aX aI)).2=true,fun s=>batch.length - (s:Int).toNat,⟨0,by omega,rfl,by omega⟩,fun s _ hI=>?_⟩
 obtain ⟨k,hk,rfl,ha⟩:=hI
 refine eE ?_
 constructor
 ·intro hlt
  (repeat' first|intro _|(with_reducible apply And.intro))
  all_goals first|omega|(exact pF fun h=>by have:=h.2.1 k (by dsimp only;omega);dsimp only at this;simp_all)|(exact ⟨k+1,by omega,rfl,uH ha ⟨by assumption,by assumption⟩⟩)
 intro hge _
 have hb:∀ i,i<batch.length→iK (batch.getD i (aX aI)).1=true∧iK (batch.getD i (aX aI)).2=true:=fun i hi=>ha i (by omega)
 clear ha
 refine ⟨fun s=>∃ k:Nat,k≤acts.length∧s=(k:Int)∧∀ i,i<k→gJ (acts.getD i (aX aM))=true∧gJ (backs.getD i (aX aM))=true,fun s=>acts.length - (s:Int).toNat,⟨0,by omega,rfl,by omega⟩,fun s _ hI=>?_⟩
 obtain ⟨k2,hk2,rfl,ha⟩:=hI
 refine eE ?_
 constructor
 ·intro hlt
  (repeat' first|intro _|(with_reducible apply And.intro))
  all_goals first|omega|(exact pF fun h=>by have:=h.2.2.1 k2 (by dsimp only;omega);dsimp only at this;simp_all)|(exact ⟨k2+1,by omega,rfl,uH ha ⟨by assumption,by assumption⟩⟩)
 intro hge2 _
 have hq:∀ i,i<acts.length→gJ (acts.getD i (aX aM))=true∧gJ (backs.getD i (aX aM))=true:=fun i hi=>ha i (by omega)
 clear ha
 refine ⟨fun s=>∃ k:Nat,k≤stages.length∧s=(k:Int)∧∀ i,i<k→aCA (batch,stages,acts,backs) i,fun s=>stages.length - (s:Int).toNat,⟨0,by omega,rfl,by omega⟩,fun s _ hI=>?_⟩
 obtain ⟨k3,hk3,rfl,ha⟩:=hI
 simp only[lU,bKL,bFG,bGO]
 have hm5:=hm4 k3
 constructor
 ·intro hlt
  have bad:¬ aCA (batch,stages,acts,backs) k3→false=kK (batch,stages,acts,backs):=fun h=>pF fun hh=>h (hh.2.2.2 k3 (by dsimp only;omega))
  (repeat' first|intro _|(with_reducible apply And.intro))
  all_goals first|omega|(exact bad fun h=>absurd h.2.1 (by assumption))|(exact bad fun h=>Bool.noConfusion (h.1.symm.trans (by assumption:_=false)))|skip
  refine ⟨fun s=>∃ k:Nat,k≤(stages.getD k3 (aX aA)).2.1.length∧s=(k:Int)∧∀ i,i<k→0≤((stages.getD k3 (aX aA)).2.1.getD i (aX aO)).2∧((stages.getD k3 (aX aA)).2.1.getD i (aX aO)).2<(batch.length:Int),fun s=>(stages.getD k3 (aX aA)).2.1.length - (s:Int).toNat,⟨0,by omega,rfl,by omega⟩,fun s _ hI=>?_⟩
  obtain ⟨k4,hk4,rfl,hc⟩:=hI
  (refine eE ?_;try with_reducible exact True.intro)
  (repeat' first|intro _|(with_reducible apply And.intro))
  all_goals first|omega|(exact bad fun h=>by have h5:=h.2.2 k4 (by dsimp only;omega);dsimp only at h5;omega)|(exact ⟨k4+1,by omega,rfl,uH hc ⟨by omega,by omega⟩⟩)|(exact ⟨k3+1,by omega,rfl,uH ha ⟨by assumption,by assumption,fun i hi=>hc i (by dsimp only at hi;omega)⟩⟩)
 ·intro hge3
  exact pT ⟨⟨by dsimp only;omega,by dsimp only;omega,by dsimp only;omega,by dsimp only;omega,by dsimp only;omega,by dsimp only;omega⟩,hb,hq,fun i hi=>ha i (by dsimp only at hi;omega)⟩
theorem aWT:Con.Holds Tryz.prog tP:=aR aW (aG oF (aG aB9 (aG uF aS))) aVX aX3
def sA:Con:=⟨104,aL,.bool,[.val ⟨true,aL,[]⟩],[⟨false,.bool,[0]⟩],false,none,
 ((fun _=>True):(bO)→Prop),
 ((fun x=>kK x):(bO)→(Bool))⟩
def aEF:T :=
 .bMD (.bMG 126 aA) (aJ aL 1 (.Z 0)) <|
 .call 0 (bE (.bMC tI aO) [(.Z 1),(.ci .i64 1),(.ci .i64 4)]) <|
 .bMD .not (.Z 2) <|
 .ite (.Z 3) (
  .ret (.cb false)) (
  .bMD (.bMG 170 aM) (aJ aL 2 (.Z 0)) <|
  .bMD (.ar .sub .i64) (.bME tI tI (.Z 1) (.ci .i64 1)) <|
  .bMD (.cmp .neq .i64) (.bME tI tI (.Z 4) (.Z 5)) <|
  .ite (.Z 6) (
   .ret (.cb false)) (
   .bMD (.bMG 170 aM) (aQ aL 3 (.Z 0)) <|
   .bMD (.ar .sub .i64) (.bME tI tI (.Z 1) (.ci .i64 1)) <|
   .bMD (.cmp .neq .i64) (.bME tI tI (.Z 7) (.Z 8)) <|
   .ite (.Z 9) (
    .ret (.cb false)) (
    .bMD (.bMG 130 aI) (.p1 aN (.bMC (.slice 126 aA) (.bMC aK aK)) (.Z 0)) <|
    .call 0 (bE (.bMC tI aO) [(.Z 10),(.ci .i64 1),(.ci .i64 5)]) <|
    .bMD .not (.Z 11) <|
    .ite (.Z 12) (
     .ret (.cb false)) (
     .loop tI (.ci .i64 0) <|
      .bMD (.cmp .lss .i64) (.bME tI tI (.Z 13) (.Z 1)) <|
      .ite (.Z 14) (
       .bMD (.bMH 126 aA) (.bME (.slice 126 aA) tI (aJ aL 1 (.Z 0)) (.Z 13)) <|
       .call 1 (.Z 15) <|
       .bMD .not (.Z 16) <|
       .ite (.Z 17) (
        .ret (.cb false)) (
        .bMD (.ar .sub .i64) (.bME tI tI (.Z 1) (.ci .i64 1)) <|
        .bMD (.cmp .eql .i64) (.bME tI tI (.Z 13) (.Z 18)) <|
        .bMD (.eqv true .bool) (.bME .bool .bool (aJ aA 3 (.Z 15)) (.Z 19)) <|
        .ite (.Z 20) (
         .ret (.cb false)) (
         .loop tI (.ci .i64 0) <|
          .bMD (.bMG 194 aO) (aJ aA 1 (.Z 15)) <|
          .bMD (.cmp .lss .i64) (.bME tI tI (.Z 21) (.Z 22)) <|
          .ite (.Z 23) (
           .bMD (.bMH 194 aO) (.bME aT tI (aJ aA 1 (.Z 15)) (.Z 21)) <|
           .bMD (.bMG 130 aI) (.p1 aN (.bMC (.slice 126 aA) (.bMC aK aK)) (.Z 0)) <|
           .bMD (.ar .sub .i64) (.bME tI tI (.Z 25) (.ci .i64 1)) <|
           .call 0 (bE (.bMC tI aO) [(aQ aO 1 (.Z 24)),(.ci .i64 0),(.Z 26)]) <|
           .bMD .not (.Z 27) <|
           .ite (.Z 28) (
            .ret (.cb false)) (
            .bMD (.ar .add .i64) (.bME tI tI (.Z 21) (.ci .i64 1)) <|
            .bMF 0 (.Z 29))) (
           .bMD (.cmp .gtr .i64) (.bME tI tI (.Z 13) (.ci .i64 0)) <|
           .ite (.Z 24) (
            .bMD (.ar .sub .i64) (.bME tI tI (.Z 13) (.ci .i64 1)) <|
            .bMD (.bMH 170 aM) (.bME aK tI (aJ aL 2 (.Z 0)) (.Z 25)) <|
            .call 2 (.Z 26) <|
            .bMD .not (.Z 27) <|
            .ite (.Z 28) (
             .ret (.cb false)) (
             .bMD (.ar .sub .i64) (.bME tI tI (.Z 13) (.ci .i64 1)) <|
             .bMD (.bMH 170 aM) (.bME aK tI (aQ aL 3 (.Z 0)) (.Z 29)) <|
             .call 2 (.Z 30) <|
             .bMD .not (.Z 31) <|
             .ite (.Z 32) (
              .ret (.cb false)) (
              .bMD (.ar .add .i64) (.bME tI tI (.Z 13) (.ci .i64 1)) <|
              .bMF 1 (.Z 33)))) (
            .bMD (.ar .add .i64) (.bME tI tI (.Z 13) (.ci .i64 1)) <|
            .bMF 1 (.Z 25)))))) (
       .loop tI (.ci .i64 0) <|
        .bMD (.bMG 130 aI) (.p1 aN (.bMC (.slice 126 aA) (.bMC aK aK)) (.Z 0)) <|
        .bMD (.cmp .lss .i64) (.bME tI tI (.Z 15) (.Z 16)) <|
        .ite (.Z 17) (
         .bMD (.bMH 130 aI) (.bME aN tI (.p1 aN (.bMC (.slice 126 aA) (.bMC aK aK)) (.Z 0)) (.Z 15)) <|
         .call 3 (.p1 aB aB (.Z 18)) <|
         .bMD .not (.Z 19) <|
         .ite (.Z 20) (
          .ret (.cb false)) (
          .bMD (.bMH 130 aI) (.bME aN tI (.p1 aN (.bMC (.slice 126 aA) (.bMC aK aK)) (.Z 0)) (.Z 15)) <|
          .call 3 (aQ aI 1 (.Z 21)) <|
          .bMD .not (.Z 22) <|
          .ite (.Z 23) (
           .ret (.cb false)) (
           .bMD (.ar .add .i64) (.bME tI tI (.Z 15) (.ci .i64 1)) <|
           .bMF 0 (.Z 24)))) (
         .ret (.cb true)))))))
theorem aZR:bL Tryz.prog [bH,dX,gC,bI] sA false 3000 ⟨[(2986,16013,iQ 36 8++[.dr 0,.tm 4 0]),(2967,144021,[.tm 6 0]),(2976,32015,iQ 39 37++[.dr 4,.dr 3,.tm 7 0])],[]⟩ = .ok aEF:=by kernel_rfl
theorem aWH (x:bO) (hx:okD aL x) (hp:(fun _=>True) x):aEF.wp [bH,dX,gC,bI] [⟨aL,x⟩] [] (fun v=>v.as .bool=(fun x=>kK x) x):=by
 obtain ⟨batch,stages,acts,backs⟩:=x
 have hm1:batch.length≤9223372036854775807:=hx.1.1
 have hm2:stages.length≤9223372036854775807:=hx.2.1.1
 have hm3:acts.length≤9223372036854775807:=hx.2.2.1.1
 have hm4:∀ k,k<stages.length→(stages.getD k (aX aA)).2.1.length≤9223372036854775807:=fun k hk=>by rw[aZ hk];exact (hx.2.1.2 _ (List.getElem_mem hk)).2.1.1
 delta aEF bH dX gC bI;refine dD ?_
 (refine eE ?_;try with_reducible exact True.intro)
 (repeat' first|intro _|(with_reducible apply And.intro))
 all_goals first|omega|(exact pF fun h=>by have:=h.1;dsimp only at this;omega)|skip
 refine ⟨fun s=>∃ k:Nat,k≤stages.length∧s=(k:Int)∧∀ i,i<k→aCA (batch,stages,acts,backs) i∧(0<i→gJ (acts.getD (i - 1) (aX aM))=true∧gJ (backs.getD (i - 1) (aX aM))=true),fun s=>stages.length - (s:Int).toNat,⟨0,by omega,rfl,by omega⟩,fun s _ hI=>?_⟩
 obtain ⟨k3,hk3,rfl,ha⟩:=hI
 simp only[lU,bKL,bFG,bGO]
 have hm5:=hm4 k3
 constructor
 ·intro hlt
  have bad:¬ aCA (batch,stages,acts,backs) k3→false=kK (batch,stages,acts,backs):=fun h=>pF fun hh=>h (hh.2.2.2 k3 (by dsimp only;omega))
  have bad2:0<k3→¬ (gJ (acts.getD (k3 - 1) (aX aM))=true∧gJ (backs.getD (k3 - 1) (aX aM))=true)→false=kK (batch,stages,acts,backs):=fun h0 h=>pF fun hh=>h (hh.2.2.1 (k3 - 1) (by have:=hh.1;dsimp only at this ⊢;omega))
  (repeat' first|intro _|(with_reducible apply And.intro))
  all_goals first|omega|(exact bad fun h=>absurd h.2.1 (by assumption))|(exact bad fun h=>Bool.noConfusion (h.1.symm.trans (by assumption:_=false)))|skip
  refine ⟨fun s=>∃ k:Nat,k≤(stages.getD k3 (aX aA)).2.1.length∧s=(k:Int)∧∀ i,i<k→0≤((stages.getD k3 (aX aA)).2.1.getD i (aX aO)).2∧((stages.getD k3 (aX aA)).2.1.getD i (aX aO)).2<(batch.length:Int),fun s=>(stages.getD k3 (aX aA)).2.1.length - (s:Int).toNat,⟨0,by omega,rfl,by omega⟩,fun s _ hI=>?_⟩
  obtain ⟨k4,hk4,rfl,hc⟩:=hI
  (refine eE ?_;try with_reducible exact True.intro)
  (repeat' first|intro _|(with_reducible apply And.intro))
  all_goals first|omega|(exact bad fun h=>by have h5:=h.2.2 k4 (by dsimp only;omega);dsimp only at h5;omega)|(exact ⟨k4+1,by omega,rfl,uH hc ⟨by omega,by omega⟩⟩)|(exact bad2 (by omega) fun h=>by simp_all;done)|(exact ⟨k3+1,by omega,rfl,uH ha ⟨⟨by assumption,by assumption,fun i hi=>hc i (by dsimp only at hi;omega)⟩,fun _=>⟨by first|assumption|omega,by first|assumption|omega⟩⟩⟩)
 intro hge3
 have hs:∀ i,i<stages.length→aCA (batch,stages,acts,backs) i:=fun i hi=>(ha i (by omega)).1
 have hq:∀ i,i<acts.length→gJ (acts.getD i (aX aM))=true∧gJ (backs.getD i (aX aM))=true:=fun i hi=>(ha (i+1) (by omega)).2 (by omega)
 clear ha
 refine ⟨fun s=>∃ k:Nat,k≤batch.length∧s=(k:Int)∧∀ i,i<k→iK (batch.getD i (aX aI)).1=true∧iK (batch.getD i (aX aI)).2=true,fun s=>batch.length - (s:Int).toNat,⟨0,by omega,rfl,by omega⟩,fun s _ hI=>?_⟩
 obtain ⟨k,hk,rfl,ha⟩:=hI
 refine eE ?_
 intro _
 constructor
 ·intro hlt
  (repeat' first|intro _|(with_reducible apply And.intro))
  all_goals first|omega|(exact pF fun h=>by have:=h.2.1 k (by dsimp only;omega);dsimp only at this;simp_all)|(exact ⟨k+1,by omega,rfl,uH ha ⟨by assumption,by assumption⟩⟩)
 intro hge
 exact pT ⟨⟨by dsimp only;omega,by dsimp only;omega,by dsimp only;omega,by dsimp only;omega,by dsimp only;omega,by dsimp only;omega⟩,fun i hi=>ha i (by dsimp only at hi;omega),hq,hs⟩
theorem aZA:Con.Holds Tryz.prog sA:=aR aW (aG eS (aG uD (aG zN (aG fD aS)))) aZR aWH
end
end Go.Proofs.YtiihghfoeinbbaaGreat
