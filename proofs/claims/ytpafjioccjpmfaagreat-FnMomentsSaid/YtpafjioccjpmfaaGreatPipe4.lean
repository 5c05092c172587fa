/- Pipe4: lemmas. No conditions. -/
import Derived.Test.YtpafjioccjpmfaaGreatStage3
namespace Go.Proofs.YtpafjioccjpmfaaGreat
noncomputable section
set_option maxRecDepth 100000
open Go.ChangeShapes Go.WideShapes Go.ChangeAt Go.RowKit Go.Deep
set_option linter.unusedVariables false
set_option linter.unusedSimpArgs false
def pB (P:Prop):Bool:=@decide P (Classical.propDecidable P)
theorem mJ {P:Prop}:pB P=true↔P:=by unfold pB;rw[@decide_eq_true_eq]
theorem bOP {P:Prop}:pB P=false↔¬ P:=⟨fun h hp=>(by rw[mJ.2 hp] at h;cases h),fun h=>Bool.eq_false_iff.2 fun h2=>h (mJ.1 h2)⟩
theorem pF {P:Prop} (h:¬ P):false=pB P:=(bOP.2 h).symm
theorem pT {P:Prop} (h:P):true=pB P:=(mJ.2 h).symm
theorem bP6 {k n:Nat}:((k:Int)==(n:Int) - 1)=decide (k+1=n):=by rw[Bool.eq_iff_iff,beq_iff_eq,decide_eq_true_eq];omega
theorem bO6 {x y:Bool}:aKC .bool x y=true↔x=y:=by cases x <;> cases y <;> simp[aKC]
theorem bNO {x y:Bool}:aKC .bool x y=false↔¬ x=y:=by cases x <;> cases y <;> simp[aKC]
def zJ (x:eS):Bool:=nE x.2&&decide (0≤x.1∧x.1<5)
theorem jR (x:eS):zJ x=true↔nE x.2=true∧0≤x.1∧x.1<5:=by unfold zJ;rw[Bool.and_eq_true,decide_eq_true_eq]
def jO (q:cY):Bool:=pB ((1≤q.1∧q.1≤5∧(q.2.length:Int)≤q.1)∧∀ i,i<q.2.length→zJ (q.2.getD i (aP aI))=true)
theorem aI1 {P:Nat→Prop} {k:Nat} (h:∀ i,i<k→P i) (h2:P k):∀ i,i<k+1→P i:=fun i hi=>by
 rcases Nat.lt_or_eq_of_le (Nat.le_of_lt_succ hi) with h'|rfl
 ·exact h i h'
 ·exact h2
def aS6 (p:bF) (i:Nat):Prop:=dP (p.2.1.getD i (aP aA))=true∧(p.2.1.getD i (aP aA)).2.2.2.1=decide (i+1=p.2.1.length) ∧
 ∀ k,k<(p.2.1.getD i (aP aA)).2.1.length→0≤((p.2.1.getD i (aP aA)).2.1.getD k (aP aD)).2∧((p.2.1.getD i (aP aA)).2.1.getD k (aP aD)).2<(p.1.length:Int)
def bOA (p:bF):Prop:=(1≤p.2.1.length∧p.2.1.length≤4∧p.2.2.1.length+1=p.2.1.length∧p.2.2.2.length+1=p.2.1.length∧1≤p.1.length∧p.1.length≤5) ∧
 (∀ i,i<p.1.length→nE (p.1.getD i (aP aQ)).1=true∧nE (p.1.getD i (aP aQ)).2=true) ∧
 (∀ i,i<p.2.2.1.length→jO (p.2.2.1.getD i (aP aM))=true∧jO (p.2.2.2.getD i (aP aM))=true)∧∀ i,i<p.2.1.length→aS6 p i
def mF (p:bF):Bool:=pB (bOA p)
def lL:Con:=⟨107,aI,.bool,[.val ⟨true,aI,[]⟩],[⟨false,.bool,[0]⟩],false,none,
 ((fun _=>True):(eS)→Prop),
 ((fun x=>zJ x):(eS)→(Bool))⟩
def aEC:T:=.call 0 (aS aI 1 (.Z 0)) <|.ite (.Z 1) (
 .bPX (.cmp .geq .i64) (.bPY tI tI (.p1 tI aB (.Z 0)) (.ci .i64 0)) <|
 .ite (.Z 2) (
  .bPX (.cmp .lss .i64) (.bPY tI tI (.p1 tI aB (.Z 0)) (.ci .i64 5)) <|
  .ret (.Z 3)) (
  .ret (.cb false))) (
 .ret (.cb false))
theorem bA2:bW Tryz.prog [dH] lL false 3000 ⟨[],[]⟩ = .ok aEC:=by kernel_rfl
theorem aZF (x:eS) (hx:okD aI x) (hp:(fun _=>True) x):aEC.wp [dH] [⟨aI,x⟩] [] (fun v=>v.as .bool=(fun x=>zJ x) x):=by
 delta aEC dH;refine dY ?_
 (refine eD ?_;try with_reducible exact True.intro)
 (repeat' first|intro _|(with_reducible apply And.intro))
 all_goals first|(first|(refine (Bool.eq_false_iff.2 ?_).symm;rw[ne_eq,jR];intro hh;omega)|(refine (jR.2 ?_).symm;omega))|(rw[Bool.eq_iff_iff,jR,decide_eq_true_eq];exact ⟨fun h=>⟨by assumption,by omega,h⟩,fun h=>h.2.2⟩)|(refine (Bool.eq_false_iff.2 fun h=>?_).symm;rw[jR] at h;simp_all)
theorem aJW:Con.Holds Tryz.prog lL:=aX aZ (aG pJ aT) bA2 aZF
def gC:Con:=⟨96,aM,.bool,[.val ⟨true,aM,[]⟩],[⟨false,.bool,[0]⟩],false,none,
 ((fun _=>True):(cY)→Prop),
 ((fun x=>jO x):(cY)→(Bool))⟩
def aBF:T :=
 .bPX (.cmp .lss .i64) (.bPY tI tI (.p1 tI (.slice 115 aI) (.Z 0)) (.ci .i64 1)) <|
 .ite (.Z 1) (
  .ret (.cb false)) (
  .bPX (.cmp .gtr .i64) (.bPY tI tI (.p1 tI (.slice 115 aI) (.Z 0)) (.ci .i64 5)) <|
  .ite (.Z 2) (
   .ret (.cb false)) (
   .bPX (.bQ0 115 aI) (aS aM 1 (.Z 0)) <|
   .bPX (.cmp .gtr .i64) (.bPY tI tI (.Z 3) (.p1 tI (.slice 115 aI) (.Z 0))) <|
   .ite (.Z 4) (
    .ret (.cb false)) (
    .bPX (.bQ0 115 aI) (aS aM 1 (.Z 0)) <|
    .loop tI (.ci .i64 0) <|
     .bPX (.cmp .lss .i64) (.bPY tI tI (.Z 6) (.Z 5)) <|
     .ite (.Z 7) (
      .bPX (.bQ1 115 aI) (.bPY (.slice 115 aI) tI (aS aM 1 (.Z 0)) (.Z 6)) <|
      .call 0 (.Z 8) <|
      .bPX .not (.Z 9) <|
      .ite (.Z 10) (
       .ret (.cb false)) (
       .bPX (.ar .add .i64) (.bPY tI tI (.Z 6) (.ci .i64 1)) <|
       .bPZ 0 (.Z 11))) (
      .ret (.cb true)))))
theorem aW1:bW Tryz.prog [lL] gC false 3000 ⟨[(2988,8006,jV 21 5++[.dr 1,.dr 0,.tm 24 0])],[]⟩ = .ok aBF:=by kernel_rfl
theorem aTL (x:cY) (hx:okD aM x) (hp:(fun _=>True) x):aBF.wp [lL] [⟨aM,x⟩] [] (fun v=>v.as .bool=(fun x=>jO x) x):=by
 have hm:List.length x.2≤9223372036854775807:=hx.2.1
 delta aBF lL;refine dY ?_
 (refine eD ?_;try with_reducible exact True.intro)
 (repeat' first|intro _|(with_reducible apply And.intro))
 all_goals first|omega|(exact pF fun h=>by have:=h.1;omega)|skip
 refine ⟨fun s=>∃ k:Nat,k≤x.2.length∧s=(k:Int)∧∀ i,i<k→zJ (x.2.getD i (aP aI))=true,fun s=>x.2.length - (s:Int).toNat,⟨0,by omega,rfl,by omega⟩,fun s _ hI=>?_⟩
 obtain ⟨k,hk,rfl,ha⟩:=hI
 refine eD ?_
 constructor
 ·intro hlt
  (repeat' first|intro _|(with_reducible apply And.intro))
  all_goals first|omega|(exact pF fun h=>by have:=h.2 k (by omega);simp_all)|(exact ⟨k+1,by omega,rfl,aI1 ha (by assumption)⟩)
 ·intro hge
  exact pT ⟨⟨by omega,by omega,by omega⟩,fun i hi=>ha i (by omega)⟩
theorem aB6:Con.Holds Tryz.prog gC:=aX aZ (aG aJW aT) aW1 aTL
def sX:Con:=⟨70,aK,.bool,[.val ⟨true,aK,[]⟩],[⟨false,.bool,[0]⟩],false,none,
 ((fun _=>True):(bF)→Prop),
 ((fun x=>mF x):(bF)→(Bool))⟩
def aES:T :=
 .bPX (.bQ0 66 aA) (aH aK 1 (.Z 0)) <|
 .bPX (.cmp .lss .i64) (.bPY tI tI (.Z 1) (.ci .i64 1)) <|
 .ite (.Z 2) (
  .ret (.cb false)) (
  .bPX (.cmp .gtr .i64) (.bPY tI tI (.Z 1) (.ci .i64 4)) <|
  .ite (.Z 3) (
   .ret (.cb false)) (
   .bPX (.bQ0 98 aM) (aH aK 2 (.Z 0)) <|
   .bPX (.ar .sub .i64) (.bPY tI tI (.Z 1) (.ci .i64 1)) <|
   .bPX (.cmp .neq .i64) (.bPY tI tI (.Z 4) (.Z 5)) <|
   .ite (.Z 6) (
    .ret (.cb false)) (
    .bPX (.bQ0 98 aM) (aS aK 3 (.Z 0)) <|
    .bPX (.ar .sub .i64) (.bPY tI tI (.Z 1) (.ci .i64 1)) <|
    .bPX (.cmp .neq .i64) (.bPY tI tI (.Z 7) (.Z 8)) <|
    .ite (.Z 9) (
     .ret (.cb false)) (
     .bPX (.bQ0 108 aQ) (.p1 aF (.bPW (.slice 66 aA) (.bPW aU aU)) (.Z 0)) <|
     .bPX (.cmp .lss .i64) (.bPY tI tI (.Z 10) (.ci .i64 1)) <|
     .ite (.Z 11) (
      .ret (.cb false)) (
      .bPX (.bQ0 108 aQ) (.p1 aF (.bPW (.slice 66 aA) (.bPW aU aU)) (.Z 0)) <|
      .bPX (.cmp .gtr .i64) (.bPY tI tI (.Z 12) (.ci .i64 5)) <|
      .ite (.Z 13) (
       .ret (.cb false)) (
       .bPX (.bQ0 108 aQ) (.p1 aF (.bPW (.slice 66 aA) (.bPW aU aU)) (.Z 0)) <|
       .loop tI (.ci .i64 0) <|
        .bPX (.cmp .lss .i64) (.bPY tI tI (.Z 15) (.Z 14)) <|
        .ite (.Z 16) (
         .bPX (.bQ1 108 aQ) (.bPY aF tI (.p1 aF (.bPW (.slice 66 aA) (.bPW aU aU)) (.Z 0)) (.Z 15)) <|
         .call 0 (.p1 aB aB (.Z 17)) <|
         .bPX .not (.Z 18) <|
         .ite (.Z 19) (
          .ret (.cb false)) (
          .call 0 (aS aQ 1 (.Z 17)) <|
          .bPX .not (.Z 20) <|
          .ite (.Z 21) (
           .ret (.cb false)) (
           .bPX (.ar .add .i64) (.bPY tI tI (.Z 15) (.ci .i64 1)) <|
           .bPZ 0 (.Z 22)))) (
         .bPX (.bQ0 98 aM) (aH aK 2 (.Z 0)) <|
         .loop tI (.ci .i64 0) <|
          .bPX (.cmp .lss .i64) (.bPY tI tI (.Z 18) (.Z 17)) <|
          .ite (.Z 19) (
           .bPX (.bQ1 98 aM) (.bPY aU tI (aH aK 2 (.Z 0)) (.Z 18)) <|
           .call 1 (.Z 20) <|
           .bPX .not (.Z 21) <|
           .ite (.Z 22) (
            .ret (.cb false)) (
            .bPX (.bQ1 98 aM) (.bPY aU tI (aS aK 3 (.Z 0)) (.Z 18)) <|
            .call 1 (.Z 23) <|
            .bPX .not (.Z 24) <|
            .ite (.Z 25) (
             .ret (.cb false)) (
             .bPX (.ar .add .i64) (.bPY tI tI (.Z 18) (.ci .i64 1)) <|
             .bPZ 0 (.Z 26)))) (
           .bPX (.bQ0 66 aA) (aH aK 1 (.Z 0)) <|
           .loop tI (.ci .i64 0) <|
            .bPX (.cmp .lss .i64) (.bPY tI tI (.Z 21) (.Z 20)) <|
            .ite (.Z 22) (
             .bPX (.bQ1 66 aA) (.bPY (.slice 66 aA) tI (aH aK 1 (.Z 0)) (.Z 21)) <|
             .call 2 (.Z 23) <|
             .bPX .not (.Z 24) <|
             .ite (.Z 25) (
              .ret (.cb false)) (
              .bPX (.ar .sub .i64) (.bPY tI tI (.Z 1) (.ci .i64 1)) <|
              .bPX (.cmp .eql .i64) (.bPY tI tI (.Z 21) (.Z 26)) <|
              .bPX (.eqv true .bool) (.bPY .bool .bool (aH aA 3 (.Z 23)) (.Z 27)) <|
              .ite (.Z 28) (
               .ret (.cb false)) (
               .bPX (.bQ0 76 aD) (aH aA 1 (.Z 23)) <|
               .loop tI (.ci .i64 0) <|
                .bPX (.cmp .lss .i64) (.bPY tI tI (.Z 30) (.Z 29)) <|
                .ite (.Z 31) (
                 .bPX (.bQ1 76 aD) (.bPY aR tI (aH aA 1 (.Z 23)) (.Z 30)) <|
                 .bPX (.cmp .lss .i64) (.bPY tI tI (aS aD 1 (.Z 32)) (.ci .i64 0)) <|
                 .ite (.Z 33) (
                  .ret (.cb false)) (
                  .bPX (.bQ0 108 aQ) (.p1 aF (.bPW (.slice 66 aA) (.bPW aU aU)) (.Z 0)) <|
                  .bPX (.cmp .geq .i64) (.bPY tI tI (aS aD 1 (.Z 32)) (.Z 34)) <|
                  .ite (.Z 35) (
                   .ret (.cb false)) (
                   .bPX (.ar .add .i64) (.bPY tI tI (.Z 30) (.ci .i64 1)) <|
                   .bPZ 0 (.Z 36)))) (
                 .bPX (.ar .add .i64) (.bPY tI tI (.Z 21) (.ci .i64 1)) <|
                 .bPZ 1 (.Z 32))))) (
             .ret (.cb true))))))))))
theorem bAP:bW Tryz.prog [dH,gC,eG] sX false 3000 ⟨[(2981,64015,jV 46 11++[.dr 0,.tm 49 0]),(2971,128018,[.dr 65,.dr 64]++jV 50 47++[.tm 67 0]),(2961,256021,[.dr 87]++jV 68 66++[.tm 90 0]),(2943,2304030,[.tm 110 0])],[]⟩ = .ok aES:=by kernel_rfl
theorem aZ7 (x:bF) (hx:okD aK x) (hp:(fun _=>True) x):aES.wp [dH,gC,eG] [⟨aK,x⟩] [] (fun v=>v.as .bool=(fun x=>mF x) x):=by
 obtain ⟨batch,stages,acts,backs⟩:=x
 have hm1:batch.length≤9223372036854775807:=hx.1.1
 have hm2:stages.length≤9223372036854775807:=hx.2.1.1
 have hm3:acts.length≤9223372036854775807:=hx.2.2.1.1
 have hm4:∀ k,k<stages.length→(stages.getD k (aP aA)).2.1.length≤9223372036854775807:=fun k hk=>by rw[aW hk];exact (hx.2.1.2 _ (List.getElem_mem hk)).2.1.1
 delta aES dH gC eG;refine dY ?_
 (refine eD ?_;try with_reducible exact True.intro)
 (repeat' first|intro _|(with_reducible apply And.intro))
 all_goals first|omega|(exact pF fun h=>by have:=h.1;dsimp only at this;omega)|skip
 refine ⟨fun s=>∃ k:Nat,k≤batch.length∧s=(k:Int)∧∀ i,i<k→nE (batch.getD i (aP aQ)).1=true∧nE (batch.getD i (aP aQ)).2=true,fun s=>batch.length - (s:Int).toNat,⟨0,by omega,rfl,by omega⟩,fun s _ hI=>?_⟩
 obtain ⟨k,hk,rfl,ha⟩:=hI
 refine eD ?_
 constructor
 ·intro hlt
  (repeat' first|intro _|(with_reducible apply And.intro))
  all_goals first|omega|(exact pF fun h=>by have:=h.2.1 k (by dsimp only;omega);dsimp only at this;simp_all)|(exact ⟨k+1,by omega,rfl,aI1 ha ⟨by assumption,by assumption⟩⟩)
 intro hge _
 have hb:∀ i,i<batch.length→nE (batch.getD i (aP aQ)).1=true∧nE (batch.getD i (aP aQ)).2=true:=fun i hi=>ha i (by omega)
 clear ha
 refine ⟨fun s=>∃ k:Nat,k≤acts.length∧s=(k:Int)∧∀ i,i<k→jO (acts.getD i (aP aM))=true∧jO (backs.getD i (aP aM))=true,fun s=>acts.length - (s:Int).toNat,⟨0,by omega,rfl,by omega⟩,fun s _ hI=>?_⟩
 obtain ⟨k2,hk2,rfl,ha⟩:=hI
 refine eD ?_
 constructor
 ·intro hlt
  (repeat' first|intro _|(with_reducible apply And.intro))
  all_goals first|omega|(exact pF fun h=>by have:=h.2.2.1 k2 (by dsimp only;omega);dsimp only at this;simp_all)|(exact ⟨k2+1,by omega,rfl,aI1 ha ⟨by assumption,by assumption⟩⟩)
 intro hge2 _
 have hq:∀ i,i<acts.length→jO (acts.getD i (aP aM))=true∧jO (backs.getD i (aP aM))=true:=fun i hi=>ha i (by omega)
 clear ha
 refine ⟨fun s=>∃ k:Nat,k≤stages.length∧s=(k:Int)∧∀ i,i<k→aS6 (batch,stages,acts,backs) i,fun s=>stages.length - (s:Int).toNat,⟨0,by omega,rfl,by omega⟩,fun s _ hI=>?_⟩
 obtain ⟨k3,hk3,rfl,ha⟩:=hI
 simp only[uP,bP6,bO6,bNO]
 have hm5:=hm4 k3
 constructor
 ·intro hlt
  have bad:¬ aS6 (batch,stages,acts,backs) k3→false=mF (batch,stages,acts,backs):=fun h=>pF fun hh=>h (hh.2.2.2 k3 (by dsimp only;omega))
  (repeat' first|intro _|(with_reducible apply And.intro))
  all_goals first|omega|(exact bad fun h=>absurd h.2.1 (by assumption))|(exact bad fun h=>Bool.noConfusion (h.1.symm.trans (by assumption:_=false)))|skip
  refine ⟨fun s=>∃ k:Nat,k≤(stages.getD k3 (aP aA)).2.1.length∧s=(k:Int)∧∀ i,i<k→0≤((stages.getD k3 (aP aA)).2.1.getD i (aP aD)).2∧((stages.getD k3 (aP aA)).2.1.getD i (aP aD)).2<(batch.length:Int),fun s=>(stages.getD k3 (aP aA)).2.1.length - (s:Int).toNat,⟨0,by omega,rfl,by omega⟩,fun s _ hI=>?_⟩
  obtain ⟨k4,hk4,rfl,hc⟩:=hI
  (refine eD ?_;try with_reducible exact True.intro)
  (repeat' first|intro _|(with_reducible apply And.intro))
  all_goals first|omega|(exact bad fun h=>by have h5:=h.2.2 k4 (by dsimp only;omega);dsimp only at h5;omega)|(exact ⟨k4+1,by omega,rfl,aI1 hc ⟨by omega,by omega⟩⟩)|(exact ⟨k3+1,by omega,rfl,aI1 ha ⟨by assumption,by assumption,fun i hi=>hc i (by dsimp only at hi;omega)⟩⟩)
 ·intro hge3
  exact pT ⟨⟨by dsimp only;omega,by dsimp only;omega,by dsimp only;omega,by dsimp only;omega,by dsimp only;omega,by dsimp only;omega⟩,hb,hq,fun i hi=>ha i (by dsimp only at hi;omega)⟩
theorem bA9:Con.Holds Tryz.prog sX:=aX aZ (aG pJ (aG aB6 (aG uK aT))) bAP aZ7
end
end Go.Proofs.YtpafjioccjpmfaaGreat
