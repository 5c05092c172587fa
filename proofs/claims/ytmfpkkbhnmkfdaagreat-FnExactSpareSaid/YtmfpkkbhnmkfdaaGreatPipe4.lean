/- Pipe4: lemmas. No conditions. -/
import Derived.Test.YtmfpkkbhnmkfdaaGreatStage3
namespace Go.Proofs.YtmfpkkbhnmkfdaaGreat
noncomputable section
set_option maxRecDepth 100000
open Go.ChangeShapes Go.WideShapes Go.ChangeAt Go.RowKit Go.Deep
set_option linter.unusedVariables false
set_option linter.unusedSimpArgs false
def pB (P:Prop):Bool:=@decide P (Classical.propDecidable P)
theorem nK {P:Prop}:pB P=true↔P:=by unfold pB;rw[@decide_eq_true_eq]
theorem bOU {P:Prop}:pB P=false↔¬ P:=⟨fun h hp=>(by rw[nK.2 hp] at h;cases h),fun h=>Bool.eq_false_iff.2 fun h2=>h (nK.1 h2)⟩
theorem pF {P:Prop} (h:¬ P):false=pB P:=(bOU.2 h).symm
theorem pT {P:Prop} (h:P):true=pB P:=(nK.2 h).symm
theorem bNG {k n:Nat}:((k:Int)==(n:Int) - 1)=decide (k+1=n):=by rw[Bool.eq_iff_iff,beq_iff_eq,decide_eq_true_eq];omega
theorem bJK {x y:Bool}:aFB .bool x y=true↔x=y:=by cases x <;> cases y <;> simp[aFB]
theorem bJC {x y:Bool}:aFB .bool x y=false↔¬ x=y:=by cases x <;> cases y <;> simp[aFB]
def xA (x:cM):Bool:=iZ x.2&&decide (0≤x.1∧x.1<5)
theorem kX (x:cM):xA x=true↔iZ x.2=true∧0≤x.1∧x.1<5:=by unfold xA;rw[Bool.and_eq_true,decide_eq_true_eq]
def gY (q:cH):Bool:=pB ((1≤q.1∧q.1≤5∧(q.2.length:Int)≤q.1)∧∀ i,i<q.2.length→xA (q.2.getD i (aX aF))=true)
theorem vG {P:Nat→Prop} {k:Nat} (h:∀ i,i<k→P i) (h2:P k):∀ i,i<k+1→P i:=fun i hi=>by
 rcases Nat.lt_or_eq_of_le (Nat.le_of_lt_succ hi) with h'|rfl
 ·exact h i h'
 ·exact h2
def aCZ (p:bF) (i:Nat):Prop:=hN (p.2.1.getD i (aX aA))=true∧(p.2.1.getD i (aX aA)).2.2.2.1=decide (i+1=p.2.1.length) ∧
 ∀ k,k<(p.2.1.getD i (aX aA)).2.1.length→0≤((p.2.1.getD i (aX aA)).2.1.getD k (aX aP)).2∧((p.2.1.getD i (aX aA)).2.1.getD k (aX aP)).2<(p.1.length:Int)
def bOC (p:bF):Prop:=(1≤p.2.1.length∧p.2.1.length≤4∧p.2.2.1.length+1=p.2.1.length∧p.2.2.2.length+1=p.2.1.length∧1≤p.1.length∧p.1.length≤5) ∧
 (∀ i,i<p.1.length→iZ (p.1.getD i (aX aI)).1=true∧iZ (p.1.getD i (aX aI)).2=true) ∧
 (∀ i,i<p.2.2.1.length→gY (p.2.2.1.getD i (aX aO))=true∧gY (p.2.2.2.getD i (aX aO))=true)∧∀ i,i<p.2.1.length→aCZ p i
def kV (p:bF):Bool:=pB (bOC p)
def lL:Con:=⟨215,aF,.bool,[.val ⟨true,aF,[]⟩],[⟨false,.bool,[0]⟩],false,none,
 ((fun _=>True):(cM)→Prop),
 ((fun x=>xA x):(cM)→(Bool))⟩
def aF1:T:=.call 0 (aQ aF 1 (.Z 0)) <|.ite (.Z 1) (
 .bPA (.cmp .geq .i64) (.bPB tI tI (.p1 tI aB (.Z 0)) (.ci .i64 0)) <|
 .ite (.Z 2) (
  .bPA (.cmp .lss .i64) (.bPB tI tI (.p1 tI aB (.Z 0)) (.ci .i64 5)) <|
  .ret (.Z 3)) (
  .ret (.cb false))) (
 .ret (.cb false))
theorem aYS:bN Tryz.prog [dF] lL false 3000 ⟨[],[]⟩ = .ok aF1:=by kernel_rfl
theorem aY4 (x:cM) (hx:okD aF x) (hp:(fun _=>True) x):aF1.wp [dF] [⟨aF,x⟩] [] (fun v=>v.as .bool=(fun x=>xA x) x):=by
 delta aF1 dF;refine dD ?_
 (refine dM ?_;try with_reducible exact True.intro)
 (repeat' first|intro _|(with_reducible apply And.intro))
 all_goals first|(first|(refine (Bool.eq_false_iff.2 ?_).symm;rw[ne_eq,kX];intro hh;omega)|(refine (kX.2 ?_).symm;omega))|(rw[Bool.eq_iff_iff,kX,decide_eq_true_eq];exact ⟨fun h=>⟨by assumption,by omega,h⟩,fun h=>h.2.2⟩)|(refine (Bool.eq_false_iff.2 fun h=>?_).symm;rw[kX] at h;simp_all)
theorem aKW:Con.Holds Tryz.prog lL:=aS aV (aH pJ aT) aYS aY4
def gM:Con:=⟨167,aO,.bool,[.val ⟨true,aO,[]⟩],[⟨false,.bool,[0]⟩],false,none,
 ((fun _=>True):(cH)→Prop),
 ((fun x=>gY x):(cH)→(Bool))⟩
def aCM:T :=
 .bPA (.cmp .lss .i64) (.bPB tI tI (.p1 tI (.slice 161 aF) (.Z 0)) (.ci .i64 1)) <|
 .ite (.Z 1) (
  .ret (.cb false)) (
  .bPA (.cmp .gtr .i64) (.bPB tI tI (.p1 tI (.slice 161 aF) (.Z 0)) (.ci .i64 5)) <|
  .ite (.Z 2) (
   .ret (.cb false)) (
   .bPA (.bPD 161 aF) (aQ aO 1 (.Z 0)) <|
   .bPA (.cmp .gtr .i64) (.bPB tI tI (.Z 3) (.p1 tI (.slice 161 aF) (.Z 0))) <|
   .ite (.Z 4) (
    .ret (.cb false)) (
    .bPA (.bPD 161 aF) (aQ aO 1 (.Z 0)) <|
    .loop tI (.ci .i64 0) <|
     .bPA (.cmp .lss .i64) (.bPB tI tI (.Z 6) (.Z 5)) <|
     .ite (.Z 7) (
      .bPA (.bPE 161 aF) (.bPB (.slice 161 aF) tI (aQ aO 1 (.Z 0)) (.Z 6)) <|
      .call 0 (.Z 8) <|
      .bPA .not (.Z 9) <|
      .ite (.Z 10) (
       .ret (.cb false)) (
       .bPA (.ar .add .i64) (.bPB tI tI (.Z 6) (.ci .i64 1)) <|
       .bPC 0 (.Z 11))) (
      .ret (.cb true)))))
theorem aTW:bN Tryz.prog [lL] gM false 3000 ⟨[(2988,8006,iL 21 5++[.dr 1,.dr 0,.tm 24 0])],[]⟩ = .ok aCM:=by kernel_rfl
theorem aWQ (x:cH) (hx:okD aO x) (hp:(fun _=>True) x):aCM.wp [lL] [⟨aO,x⟩] [] (fun v=>v.as .bool=(fun x=>gY x) x):=by
 have hm:List.length x.2≤9223372036854775807:=hx.2.1
 delta aCM lL;refine dD ?_
 (refine dM ?_;try with_reducible exact True.intro)
 (repeat' first|intro _|(with_reducible apply And.intro))
 all_goals first|omega|(exact pF fun h=>by have:=h.1;omega)|skip
 refine ⟨fun s=>∃ k:Nat,k≤x.2.length∧s=(k:Int)∧∀ i,i<k→xA (x.2.getD i (aX aF))=true,fun s=>x.2.length - (s:Int).toNat,⟨0,by omega,rfl,by omega⟩,fun s _ hI=>?_⟩
 obtain ⟨k,hk,rfl,ha⟩:=hI
 refine dM ?_
 constructor
 ·intro hlt
  (repeat' first|intro _|(with_reducible apply And.intro))
  all_goals first|omega|(exact pF fun h=>by have:=h.2 k (by omega);simp_all)|(exact ⟨k+1,by omega,rfl,vG ha (by assumption)⟩)
 ·intro hge
  exact pT ⟨⟨by omega,by omega,by omega⟩,fun i hi=>ha i (by omega)⟩
theorem aBW:Con.Holds Tryz.prog gM:=aS aV (aH aKW aT) aTW aWQ
def gQ:Con:=⟨161,aO,.bool,[.val ⟨true,aO,[]⟩],[⟨false,.bool,[0]⟩],false,none,
 ((fun _=>True):(cH)→Prop),
 ((fun x=>gY x):(cH)→(Bool))⟩
def aAZ:T:=.loop tI (.ci .i64 0) <|
 .bPA (.bPD 161 aF) (aQ aO 1 (.Z 0)) <|
 .bPA (.cmp .lss .i64) (.bPB tI tI (.Z 1) (.Z 2)) <|
 .ite (.Z 3) (
  .bPA (.bPE 161 aF) (.bPB (.slice 161 aF) tI (aQ aO 1 (.Z 0)) (.Z 1)) <|
  .call 0 (aQ aF 1 (.Z 4)) <|
  .bPA .not (.Z 5) <|
  .ite (.Z 6) (
   .ret (.cb false)) (
   .bPA (.bPE 161 aF) (.bPB (.slice 161 aF) tI (aQ aO 1 (.Z 0)) (.Z 1)) <|
   .call 1 (bG (.bP9 tI aP) [(.p1 tI aB (.Z 7)),(.ci .i64 0),(.ci .i64 4)]) <|
   .bPA .not (.Z 8) <|
   .ite (.Z 9) (
    .ret (.cb false)) (
    .bPA (.ar .add .i64) (.bPB tI tI (.Z 1) (.ci .i64 1)) <|
    .bPC 0 (.Z 10)))) (
  .call 1 (bG (.bP9 tI aP) [(.p1 tI (.slice 161 aF) (.Z 0)),(.ci .i64 1),(.ci .i64 5)]) <|
  .ite (.Z 4) (
   .bPA (.bPD 161 aF) (aQ aO 1 (.Z 0)) <|
   .bPA (.cmp .leq .i64) (.bPB tI tI (.Z 5) (.p1 tI (.slice 161 aF) (.Z 0))) <|
   .ret (.Z 6)) (
   .ret (.cb false)))
theorem aVW:bN Tryz.prog [bL,bK] gQ false 3000 ⟨[(2993,1001,[.dr 0,.tm 3 0])],[]⟩ = .ok aAZ:=by kernel_rfl
theorem aUJ (x:cH) (hx:okD aO x) (hp:(fun _=>True) x):aAZ.wp [bL,bK] [⟨aO,x⟩] [] (fun v=>v.as .bool=(fun x=>gY x) x):=by
 have hm:List.length x.2≤9223372036854775807:=hx.2.1
 delta aAZ bL bK;refine dD ?_
 refine ⟨fun s=>∃ k:Nat,k≤x.2.length∧s=(k:Int)∧∀ i,i<k→xA (x.2.getD i (aX aF))=true,fun s=>x.2.length - (s:Int).toNat,⟨0,by omega,rfl,by omega⟩,fun s _ hI=>?_⟩
 obtain ⟨k,hk,rfl,ha⟩:=hI
 refine dM ?_
 intro _
 have hi:=kX (x.2.getD k (aX aF))
 constructor
 ·intro hlt
  (repeat' first|intro _|(with_reducible apply And.intro))
  all_goals first|omega|(exact pF fun h=>by have h5:=hi.1 (h.2 k (by omega));first|omega|simp_all)|(exact ⟨k+1,by omega,rfl,vG ha (hi.2 ⟨by assumption,by omega,by omega⟩)⟩)
 ·intro hge
  (repeat' first|intro _|(with_reducible apply And.intro))
  all_goals first|(exact pF fun h=>by have:=h.1;omega)|(unfold gY;rw[Bool.eq_iff_iff,nK,decide_eq_true_eq];exact ⟨fun h=>⟨⟨by omega,by omega,h⟩,fun i hi=>ha i (by omega)⟩,fun h=>h.1.2.2⟩)
theorem aAM:Con.Holds Tryz.prog gQ:=aS aV (aH fT (aH fM aT)) aVW aUJ
def uO:Con:=⟨100,aG,.bool,[.val ⟨true,aG,[]⟩],[⟨false,.bool,[0]⟩],false,none,
 ((fun _=>True):(bF)→Prop),
 ((fun x=>kV x):(bF)→(Bool))⟩
def aEB:T :=
 .bPA (.bPD 121 aA) (aK aG 1 (.Z 0)) <|
 .bPA (.cmp .lss .i64) (.bPB tI tI (.Z 1) (.ci .i64 1)) <|
 .ite (.Z 2) (
  .ret (.cb false)) (
  .bPA (.cmp .gtr .i64) (.bPB tI tI (.Z 1) (.ci .i64 4)) <|
  .ite (.Z 3) (
   .ret (.cb false)) (
   .bPA (.bPD 157 aO) (aK aG 2 (.Z 0)) <|
   .bPA (.ar .sub .i64) (.bPB tI tI (.Z 1) (.ci .i64 1)) <|
   .bPA (.cmp .neq .i64) (.bPB tI tI (.Z 4) (.Z 5)) <|
   .ite (.Z 6) (
    .ret (.cb false)) (
    .bPA (.bPD 157 aO) (aQ aG 3 (.Z 0)) <|
    .bPA (.ar .sub .i64) (.bPB tI tI (.Z 1) (.ci .i64 1)) <|
    .bPA (.cmp .neq .i64) (.bPB tI tI (.Z 7) (.Z 8)) <|
    .ite (.Z 9) (
     .ret (.cb false)) (
     .bPA (.bPD 126 aI) (.p1 aM (.bP9 (.slice 121 aA) (.bP9 aL aL)) (.Z 0)) <|
     .bPA (.cmp .lss .i64) (.bPB tI tI (.Z 10) (.ci .i64 1)) <|
     .ite (.Z 11) (
      .ret (.cb false)) (
      .bPA (.bPD 126 aI) (.p1 aM (.bP9 (.slice 121 aA) (.bP9 aL aL)) (.Z 0)) <|
      .bPA (.cmp .gtr .i64) (.bPB tI tI (.Z 12) (.ci .i64 5)) <|
      .ite (.Z 13) (
       .ret (.cb false)) (
       .bPA (.bPD 126 aI) (.p1 aM (.bP9 (.slice 121 aA) (.bP9 aL aL)) (.Z 0)) <|
       .loop tI (.ci .i64 0) <|
        .bPA (.cmp .lss .i64) (.bPB tI tI (.Z 15) (.Z 14)) <|
        .ite (.Z 16) (
         .bPA (.bPE 126 aI) (.bPB aM tI (.p1 aM (.bP9 (.slice 121 aA) (.bP9 aL aL)) (.Z 0)) (.Z 15)) <|
         .call 0 (.p1 aB aB (.Z 17)) <|
         .bPA .not (.Z 18) <|
         .ite (.Z 19) (
          .ret (.cb false)) (
          .call 0 (aQ aI 1 (.Z 17)) <|
          .bPA .not (.Z 20) <|
          .ite (.Z 21) (
           .ret (.cb false)) (
           .bPA (.ar .add .i64) (.bPB tI tI (.Z 15) (.ci .i64 1)) <|
           .bPC 0 (.Z 22)))) (
         .bPA (.bPD 157 aO) (aK aG 2 (.Z 0)) <|
         .loop tI (.ci .i64 0) <|
          .bPA (.cmp .lss .i64) (.bPB tI tI (.Z 18) (.Z 17)) <|
          .ite (.Z 19) (
           .bPA (.bPE 157 aO) (.bPB aL tI (aK aG 2 (.Z 0)) (.Z 18)) <|
           .call 1 (.Z 20) <|
           .bPA .not (.Z 21) <|
           .ite (.Z 22) (
            .ret (.cb false)) (
            .bPA (.bPE 157 aO) (.bPB aL tI (aQ aG 3 (.Z 0)) (.Z 18)) <|
            .call 1 (.Z 23) <|
            .bPA .not (.Z 24) <|
            .ite (.Z 25) (
             .ret (.cb false)) (
             .bPA (.ar .add .i64) (.bPB tI tI (.Z 18) (.ci .i64 1)) <|
             .bPC 0 (.Z 26)))) (
           .bPA (.bPD 121 aA) (aK aG 1 (.Z 0)) <|
           .loop tI (.ci .i64 0) <|
            .bPA (.cmp .lss .i64) (.bPB tI tI (.Z 21) (.Z 20)) <|
            .ite (.Z 22) (
             .bPA (.bPE 121 aA) (.bPB (.slice 121 aA) tI (aK aG 1 (.Z 0)) (.Z 21)) <|
             .call 2 (.Z 23) <|
             .bPA .not (.Z 24) <|
             .ite (.Z 25) (
              .ret (.cb false)) (
              .bPA (.ar .sub .i64) (.bPB tI tI (.Z 1) (.ci .i64 1)) <|
              .bPA (.cmp .eql .i64) (.bPB tI tI (.Z 21) (.Z 26)) <|
              .bPA (.eqv true .bool) (.bPB .bool .bool (aK aA 3 (.Z 23)) (.Z 27)) <|
              .ite (.Z 28) (
               .ret (.cb false)) (
               .bPA (.bPD 95 aP) (aK aA 1 (.Z 23)) <|
               .loop tI (.ci .i64 0) <|
                .bPA (.cmp .lss .i64) (.bPB tI tI (.Z 30) (.Z 29)) <|
                .ite (.Z 31) (
                 .bPA (.bPE 95 aP) (.bPB aU tI (aK aA 1 (.Z 23)) (.Z 30)) <|
                 .bPA (.cmp .lss .i64) (.bPB tI tI (aQ aP 1 (.Z 32)) (.ci .i64 0)) <|
                 .ite (.Z 33) (
                  .ret (.cb false)) (
                  .bPA (.bPD 126 aI) (.p1 aM (.bP9 (.slice 121 aA) (.bP9 aL aL)) (.Z 0)) <|
                  .bPA (.cmp .geq .i64) (.bPB tI tI (aQ aP 1 (.Z 32)) (.Z 34)) <|
                  .ite (.Z 35) (
                   .ret (.cb false)) (
                   .bPA (.ar .add .i64) (.bPB tI tI (.Z 30) (.ci .i64 1)) <|
                   .bPC 0 (.Z 36)))) (
                 .bPA (.ar .add .i64) (.bPB tI tI (.Z 21) (.ci .i64 1)) <|
                 .bPC 1 (.Z 32))))) (
             .ret (.cb true))))))))))
theorem bBV:bN Tryz.prog [dF,gM,eE] uO false 3000 ⟨[(2981,64015,iL 46 11++[.dr 0,.tm 49 0]),(2971,128018,[.dr 65,.dr 64]++iL 50 47++[.tm 67 0]),(2961,256021,[.dr 87]++iL 68 66++[.tm 90 0]),(2943,2304030,[.tm 110 0])],[]⟩ = .ok aEB:=by kernel_rfl
theorem aZR (x:bF) (hx:okD aG x) (hp:(fun _=>True) x):aEB.wp [dF,gM,eE] [⟨aG,x⟩] [] (fun v=>v.as .bool=(fun x=>kV x) x):=by
 obtain ⟨batch,stages,acts,backs⟩:=x
 have hm1:batch.length≤9223372036854775807:=hx.1.1
 have hm2:stages.length≤9223372036854775807:=hx.2.1.1
 have hm3:acts.length≤9223372036854775807:=hx.2.2.1.1
 have hm4:∀ k,k<stages.length→(stages.getD k (aX aA)).2.1.length≤9223372036854775807:=fun k hk=>by rw[aZ hk];exact (hx.2.1.2 _ (List.getElem_mem hk)).2.1.1
 delta aEB dF gM eE;refine dD ?_
 (refine dM ?_;try with_reducible exact True.intro)
 (repeat' first|intro _|(with_reducible apply And.intro))
 all_goals first|omega|(exact pF fun h=>by have:=h.1;dsimp only at this;omega)|skip
 refine ⟨fun s=>∃ k:Nat,k≤batch.length∧s=(k:Int)∧∀ i,i<k→iZ (batch.getD i (aX aI)).1=true∧iZ (batch.getD i (aX aI)).2=true,fun s=>batch.length - (s:Int).toNat,⟨0,by omega,rfl,by omega⟩,fun s _ hI=>?_⟩
 obtain ⟨k,hk,rfl,ha⟩:=hI
 refine dM ?_
 constructor
 ·intro hlt
  (repeat' first|intro _|(with_reducible apply And.intro))
  all_goals first|omega|(exact pF fun h=>by have:=h.2.1 k (by dsimp only;omega);dsimp only at this;simp_all)|(exact ⟨k+1,by omega,rfl,vG ha ⟨by assumption,by assumption⟩⟩)
 intro hge _
 have hb:∀ i,i<batch.length→iZ (batch.getD i (aX aI)).1=true∧iZ (batch.getD i (aX aI)).2=true:=fun i hi=>ha i (by omega)
 clear ha
 refine ⟨fun s=>∃ k:Nat,k≤acts.length∧s=(k:Int)∧∀ i,i<k→gY (acts.getD i (aX aO))=true∧gY (backs.getD i (aX aO))=true,fun s=>acts.length - (s:Int).toNat,⟨0,by omega,rfl,by omega⟩,fun s _ hI=>?_⟩
 obtain ⟨k2,hk2,rfl,ha⟩:=hI
 refine dM ?_
 constructor
 ·intro hlt
  (repeat' first|intro _|(with_reducible apply And.intro))
  all_goals first|omega|(exact pF fun h=>by have:=h.2.2.1 k2 (by dsimp only;omega);dsimp only at this;simp_all)|(exact ⟨k2+1,by omega,rfl,vG ha ⟨by assumption,by assumption⟩⟩)
 intro hge2 _
 have hq:∀ i,i<acts.length→gY (acts.getD i (aX aO))=true∧gY (backs.getD i (aX aO))=true:=fun i hi=>ha i (by omega)
 clear ha
 refine ⟨fun s=>∃ k:Nat,k≤stages.length∧s=(k:Int)∧∀ i,i<k→aCZ (batch,stages,acts,backs) i,fun s=>stages.length - (s:Int).toNat,⟨0,by omega,rfl,by omega⟩,fun s _ hI=>?_⟩
 obtain ⟨k3,hk3,rfl,ha⟩:=hI
 simp only[mP,bNG,bJK,bJC]
 have hm5:=hm4 k3
 constructor
 ·intro hlt
  have bad:¬ aCZ (batch,stages,acts,backs) k3→false=kV (batch,stages,acts,backs):=fun h=>pF fun hh=>h (hh.2.2.2 k3 (by dsimp only;omega))
  (repeat' first|intro _|(with_reducible apply And.intro))
  all_goals first|omega|(exact bad fun h=>absurd h.2.1 (by assumption))|(exact bad fun h=>Bool.noConfusion (h.1.symm.trans (by assumption:_=false)))|skip
  refine ⟨fun s=>∃ k:Nat,k≤(stages.getD k3 (aX aA)).2.1.length∧s=(k:Int)∧∀ i,i<k→0≤((stages.getD k3 (aX aA)).2.1.getD i (aX aP)).2∧((stages.getD k3 (aX aA)).2.1.getD i (aX aP)).2<(batch.length:Int),fun s=>(stages.getD k3 (aX aA)).2.1.length - (s:Int).toNat,⟨0,by omega,rfl,by omega⟩,fun s _ hI=>?_⟩
  obtain ⟨k4,hk4,rfl,hc⟩:=hI
  (refine dM ?_;try with_reducible exact True.intro)
  (repeat' first|intro _|(with_reducible apply And.intro))
  all_goals first|omega|(exact bad fun h=>by have h5:=h.2.2 k4 (by dsimp only;omega);dsimp only at h5;omega)|(exact ⟨k4+1,by omega,rfl,vG hc ⟨by omega,by omega⟩⟩)|(exact ⟨k3+1,by omega,rfl,vG ha ⟨by assumption,by assumption,fun i hi=>hc i (by dsimp only at hi;omega)⟩⟩)
 ·intro hge3
  exact pT ⟨⟨by dsimp only;omega,by dsimp only;omega,by dsimp only;omega,by dsimp only;omega,by dsimp only;omega,by dsimp only;omega⟩,hb,hq,fun i hi=>ha i (by dsimp only at hi;omega)⟩
theorem aZN:Con.Holds Tryz.prog uO:=aS aV (aH pJ (aH aBW (aH vB aT))) bBV aZR
def sL:Con:=⟨98,aG,.bool,[.val ⟨true,aG,[]⟩],[⟨false,.bool,[0]⟩],false,none,
 ((fun _=>True):(bF)→Prop),
 ((fun x=>kV x):(bF)→(Bool))⟩
def aEV:T :=
 .bPA (.bPD 121 aA) (aK aG 1 (.Z 0)) <|
 .call 0 (bG (.bP9 tI aP) [(.Z 1),(.ci .i64 1),(.ci .i64 4)]) <|
 .bPA .not (.Z 2) <|
 .ite (.Z 3) (
  .ret (.cb false)) (
  .bPA (.bPD 157 aO) (aK aG 2 (.Z 0)) <|
  .bPA (.ar .sub .i64) (.bPB tI tI (.Z 1) (.ci .i64 1)) <|
  .bPA (.cmp .neq .i64) (.bPB tI tI (.Z 4) (.Z 5)) <|
  .ite (.Z 6) (
   .ret (.cb false)) (
   .bPA (.bPD 157 aO) (aQ aG 3 (.Z 0)) <|
   .bPA (.ar .sub .i64) (.bPB tI tI (.Z 1) (.ci .i64 1)) <|
   .bPA (.cmp .neq .i64) (.bPB tI tI (.Z 7) (.Z 8)) <|
   .ite (.Z 9) (
    .ret (.cb false)) (
    .bPA (.bPD 126 aI) (.p1 aM (.bP9 (.slice 121 aA) (.bP9 aL aL)) (.Z 0)) <|
    .call 0 (bG (.bP9 tI aP) [(.Z 10),(.ci .i64 1),(.ci .i64 5)]) <|
    .bPA .not (.Z 11) <|
    .ite (.Z 12) (
     .ret (.cb false)) (
     .loop tI (.ci .i64 0) <|
      .bPA (.cmp .lss .i64) (.bPB tI tI (.Z 13) (.Z 1)) <|
      .ite (.Z 14) (
       .bPA (.bPE 121 aA) (.bPB (.slice 121 aA) tI (aK aG 1 (.Z 0)) (.Z 13)) <|
       .call 1 (.Z 15) <|
       .bPA .not (.Z 16) <|
       .ite (.Z 17) (
        .ret (.cb false)) (
        .bPA (.ar .sub .i64) (.bPB tI tI (.Z 1) (.ci .i64 1)) <|
        .bPA (.cmp .eql .i64) (.bPB tI tI (.Z 13) (.Z 18)) <|
        .bPA (.eqv true .bool) (.bPB .bool .bool (aK aA 3 (.Z 15)) (.Z 19)) <|
        .ite (.Z 20) (
         .ret (.cb false)) (
         .loop tI (.ci .i64 0) <|
          .bPA (.bPD 95 aP) (aK aA 1 (.Z 15)) <|
          .bPA (.cmp .lss .i64) (.bPB tI tI (.Z 21) (.Z 22)) <|
          .ite (.Z 23) (
           .bPA (.bPE 95 aP) (.bPB aU tI (aK aA 1 (.Z 15)) (.Z 21)) <|
           .bPA (.bPD 126 aI) (.p1 aM (.bP9 (.slice 121 aA) (.bP9 aL aL)) (.Z 0)) <|
           .bPA (.ar .sub .i64) (.bPB tI tI (.Z 25) (.ci .i64 1)) <|
           .call 0 (bG (.bP9 tI aP) [(aQ aP 1 (.Z 24)),(.ci .i64 0),(.Z 26)]) <|
           .bPA .not (.Z 27) <|
           .ite (.Z 28) (
            .ret (.cb false)) (
            .bPA (.ar .add .i64) (.bPB tI tI (.Z 21) (.ci .i64 1)) <|
            .bPC 0 (.Z 29))) (
           .bPA (.cmp .gtr .i64) (.bPB tI tI (.Z 13) (.ci .i64 0)) <|
           .ite (.Z 24) (
            .bPA (.ar .sub .i64) (.bPB tI tI (.Z 13) (.ci .i64 1)) <|
            .bPA (.bPE 157 aO) (.bPB aL tI (aK aG 2 (.Z 0)) (.Z 25)) <|
            .call 2 (.Z 26) <|
            .bPA .not (.Z 27) <|
            .ite (.Z 28) (
             .ret (.cb false)) (
             .bPA (.ar .sub .i64) (.bPB tI tI (.Z 13) (.ci .i64 1)) <|
             .bPA (.bPE 157 aO) (.bPB aL tI (aQ aG 3 (.Z 0)) (.Z 29)) <|
             .call 2 (.Z 30) <|
             .bPA .not (.Z 31) <|
             .ite (.Z 32) (
              .ret (.cb false)) (
              .bPA (.ar .add .i64) (.bPB tI tI (.Z 13) (.ci .i64 1)) <|
              .bPC 1 (.Z 33)))) (
            .bPA (.ar .add .i64) (.bPB tI tI (.Z 13) (.ci .i64 1)) <|
            .bPC 1 (.Z 25)))))) (
       .loop tI (.ci .i64 0) <|
        .bPA (.bPD 126 aI) (.p1 aM (.bP9 (.slice 121 aA) (.bP9 aL aL)) (.Z 0)) <|
        .bPA (.cmp .lss .i64) (.bPB tI tI (.Z 15) (.Z 16)) <|
        .ite (.Z 17) (
         .bPA (.bPE 126 aI) (.bPB aM tI (.p1 aM (.bP9 (.slice 121 aA) (.bP9 aL aL)) (.Z 0)) (.Z 15)) <|
         .call 3 (.p1 aB aB (.Z 18)) <|
         .bPA .not (.Z 19) <|
         .ite (.Z 20) (
          .ret (.cb false)) (
          .bPA (.bPE 126 aI) (.bPB aM tI (.p1 aM (.bP9 (.slice 121 aA) (.bP9 aL aL)) (.Z 0)) (.Z 15)) <|
          .call 3 (aQ aI 1 (.Z 21)) <|
          .bPA .not (.Z 22) <|
          .ite (.Z 23) (
           .ret (.cb false)) (
           .bPA (.ar .add .i64) (.bPB tI tI (.Z 15) (.ci .i64 1)) <|
           .bPC 0 (.Z 24)))) (
         .ret (.cb true)))))))
theorem bAA:bN Tryz.prog [bK,eF,gQ,bL] sL false 3000 ⟨[(2986,16013,iL 36 8++[.dr 0,.tm 4 0]),(2967,144021,[.tm 6 0]),(2976,32015,iL 39 37++[.dr 4,.dr 3,.tm 7 0])],[]⟩ = .ok aEV:=by kernel_rfl
theorem bB0 (x:bF) (hx:okD aG x) (hp:(fun _=>True) x):aEV.wp [bK,eF,gQ,bL] [⟨aG,x⟩] [] (fun v=>v.as .bool=(fun x=>kV x) x):=by
 obtain ⟨batch,stages,acts,backs⟩:=x
 have hm1:batch.length≤9223372036854775807:=hx.1.1
 have hm2:stages.length≤9223372036854775807:=hx.2.1.1
 have hm3:acts.length≤9223372036854775807:=hx.2.2.1.1
 have hm4:∀ k,k<stages.length→(stages.getD k (aX aA)).2.1.length≤9223372036854775807:=fun k hk=>by rw[aZ hk];exact (hx.2.1.2 _ (List.getElem_mem hk)).2.1.1
 delta aEV bK eF gQ bL;refine dD ?_
 (refine dM ?_;try with_reducible exact True.intro)
 (repeat' first|intro _|(with_reducible apply And.intro))
 all_goals first|omega|(exact pF fun h=>by have:=h.1;dsimp only at this;omega)|skip
 refine ⟨fun s=>∃ k:Nat,k≤stages.length∧s=(k:Int)∧∀ i,i<k→aCZ (batch,stages,acts,backs) i∧(0<i→gY (acts.getD (i - 1) (aX aO))=true∧gY (backs.getD (i - 1) (aX aO))=true),fun s=>stages.length - (s:Int).toNat,⟨0,by omega,rfl,by omega⟩,fun s _ hI=>?_⟩
 obtain ⟨k3,hk3,rfl,ha⟩:=hI
 simp only[mP,bNG,bJK,bJC]
 have hm5:=hm4 k3
 constructor
 ·intro hlt
  have bad:¬ aCZ (batch,stages,acts,backs) k3→false=kV (batch,stages,acts,backs):=fun h=>pF fun hh=>h (hh.2.2.2 k3 (by dsimp only;omega))
  have bad2:0<k3→¬ (gY (acts.getD (k3 - 1) (aX aO))=true∧gY (backs.getD (k3 - 1) (aX aO))=true)→false=kV (batch,stages,acts,backs):=fun h0 h=>pF fun hh=>h (hh.2.2.1 (k3 - 1) (by have:=hh.1;dsimp only at this ⊢;omega))
  (repeat' first|intro _|(with_reducible apply And.intro))
  all_goals first|omega|(exact bad fun h=>absurd h.2.1 (by assumption))|(exact bad fun h=>Bool.noConfusion (h.1.symm.trans (by assumption:_=false)))|skip
  refine ⟨fun s=>∃ k:Nat,k≤(stages.getD k3 (aX aA)).2.1.length∧s=(k:Int)∧∀ i,i<k→0≤((stages.getD k3 (aX aA)).2.1.getD i (aX aP)).2∧((stages.getD k3 (aX aA)).2.1.getD i (aX aP)).2<(batch.length:Int),fun s=>(stages.getD k3 (aX aA)).2.1.length - (s:Int).toNat,⟨0,by omega,rfl,by omega⟩,fun s _ hI=>?_⟩
  obtain ⟨k4,hk4,rfl,hc⟩:=hI
  (refine dM ?_;try with_reducible exact True.intro)
  (repeat' first|intro _|(with_reducible apply And.intro))
  all_goals first|omega|(exact bad fun h=>by have h5:=h.2.2 k4 (by dsimp only;omega);dsimp only at h5;omega)|(exact ⟨k4+1,by omega,rfl,vG hc ⟨by omega,by omega⟩⟩)|(exact bad2 (by omega) fun h=>by simp_all;done)|(exact ⟨k3+1,by omega,rfl,vG ha ⟨⟨by assumption,by assumption,fun i hi=>hc i (by dsimp only at hi;omega)⟩,fun _=>⟨by first|assumption|omega,by first|assumption|omega⟩⟩⟩)
 intro hge3
 have hs:∀ i,i<stages.length→aCZ (batch,stages,acts,backs) i:=fun i hi=>(ha i (by omega)).1
 have hq:∀ i,i<acts.length→gY (acts.getD i (aX aO))=true∧gY (backs.getD i (aX aO))=true:=fun i hi=>(ha (i+1) (by omega)).2 (by omega)
 clear ha
 refine ⟨fun s=>∃ k:Nat,k≤batch.length∧s=(k:Int)∧∀ i,i<k→iZ (batch.getD i (aX aI)).1=true∧iZ (batch.getD i (aX aI)).2=true,fun s=>batch.length - (s:Int).toNat,⟨0,by omega,rfl,by omega⟩,fun s _ hI=>?_⟩
 obtain ⟨k,hk,rfl,ha⟩:=hI
 refine dM ?_
 intro _
 constructor
 ·intro hlt
  (repeat' first|intro _|(with_reducible apply And.intro))
  all_goals first|omega|(exact pF fun h=>by have:=h.2.1 k (by dsimp only;omega);dsimp only at this;simp_all)|(exact ⟨k+1,by omega,rfl,vG ha ⟨by assumption,by assumption⟩⟩)
 intro hge
 exact pT ⟨⟨by dsimp only;omega,by dsimp only;omega,by dsimp only;omega,by dsimp only;omega,by dsimp only;omega,by dsimp only;omega⟩,fun i hi=>ha i (by dsimp only at hi;omega),hq,hs⟩
theorem aYU:Con.Holds Tryz.prog sL:=aS aV (aH fM (aH vL (aH aAM (aH fT aT)))) bAA bB0
end
end Go.Proofs.YtmfpkkbhnmkfdaaGreat
