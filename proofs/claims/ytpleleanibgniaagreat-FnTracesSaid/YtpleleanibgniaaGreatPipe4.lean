/- Pipe4: lemmas. No conditions. -/
import Derived.Test.YtpleleanibgniaaGreatStage3
namespace Go.Proofs.YtpleleanibgniaaGreat
noncomputable section
set_option maxRecDepth 100000
open Go.ChangeShapes Go.WideShapes Go.ChangeAt Go.RowKit Go.Deep
set_option linter.unusedVariables false
set_option linter.unusedSimpArgs false
def pB (P:Prop):Bool:=@decide P (Classical.propDecidable P)
theorem nT {P:Prop}:pB P=true↔P:=by unfold pB;rw[@decide_eq_true_eq]
theorem bIM {P:Prop}:pB P=false↔¬ P:=⟨fun h hp=>(by rw[nT.2 hp] at h;cases h),fun h=>Bool.eq_false_iff.2 fun h2=>h (nT.1 h2)⟩
theorem pF {P:Prop} (h:¬ P):false=pB P:=(bIM.2 h).symm
theorem pT {P:Prop} (h:P):true=pB P:=(nT.2 h).symm
theorem bIO {k n:Nat}:((k:Int)==(n:Int) - 1)=decide (k+1=n):=by rw[Bool.eq_iff_iff,beq_iff_eq,decide_eq_true_eq];omega
theorem bHN {x y:Bool}:qQ .bool x y=true↔x=y:=by cases x <;> cases y <;> simp[qQ]
theorem bGS {x y:Bool}:qQ .bool x y=false↔¬ x=y:=by cases x <;> cases y <;> simp[qQ]
def vO (x:dW):Bool:=kO x.2&&decide (0≤x.1∧x.1<5)
theorem jW (x:dW):vO x=true↔kO x.2=true∧0≤x.1∧x.1<5:=by unfold vO;rw[Bool.and_eq_true,decide_eq_true_eq]
def iC (q:cS):Bool:=pB ((1≤q.1∧q.1≤5∧(q.2.length:Int)≤q.1)∧∀ i,i<q.2.length→vO (q.2.getD i (aS aI))=true)
theorem aIJ {P:Nat→Prop} {k:Nat} (h:∀ i,i<k→P i) (h2:P k):∀ i,i<k+1→P i:=fun i hi=>by
 rcases Nat.lt_or_eq_of_le (Nat.le_of_lt_succ hi) with h'|rfl
 ·exact h i h'
 ·exact h2
def aNA (p:bI) (i:Nat):Prop:=hZ (p.2.1.getD i (aS aA))=true∧(p.2.1.getD i (aS aA)).2.2.2.1=decide (i+1=p.2.1.length) ∧
 ∀ k,k<(p.2.1.getD i (aS aA)).2.1.length→0≤((p.2.1.getD i (aS aA)).2.1.getD k (aS aC)).2∧((p.2.1.getD i (aS aA)).2.1.getD k (aS aC)).2<(p.1.length:Int)
def bH4 (p:bI):Prop:=(1≤p.2.1.length∧p.2.1.length≤4∧p.2.2.1.length+1=p.2.1.length∧p.2.2.2.length+1=p.2.1.length∧1≤p.1.length∧p.1.length≤5) ∧
 (∀ i,i<p.1.length→kO (p.1.getD i (aS aQ)).1=true∧kO (p.1.getD i (aS aQ)).2=true) ∧
 (∀ i,i<p.2.2.1.length→iC (p.2.2.1.getD i (aS aN))=true∧iC (p.2.2.2.getD i (aS aN))=true)∧∀ i,i<p.2.1.length→aNA p i
def kW (p:bI):Bool:=pB (bH4 p)
def jP:Con:=⟨85,aI,.bool,[.val ⟨true,aI,[]⟩],[⟨false,.bool,[0]⟩],false,none,
 ((fun _=>True):(dW)→Prop),
 ((fun x=>vO x):(dW)→(Bool))⟩
def aB3:T:=.call 0 (aR aI 1 (.Z 0)) <|.ite (.Z 1) (
 .bJ3 (.cmp .geq .i64) (.bJ4 tI tI (.p1 tI aB (.Z 0)) (.ci .i64 0)) <|
 .ite (.Z 2) (
  .bJ3 (.cmp .lss .i64) (.bJ4 tI tI (.p1 tI aB (.Z 0)) (.ci .i64 5)) <|
  .ret (.Z 3)) (
  .ret (.cb false))) (
 .ret (.cb false))
theorem aSO:bV Tryz.prog [cR] jP false 3000 ⟨[],[]⟩ = .ok aB3:=by kernel_rfl
theorem aUA (x:dW) (hx:okD aI x) (hp:(fun _=>True) x):aB3.wp [cR] [⟨aI,x⟩] [] (fun v=>v.as .bool=(fun x=>vO x) x):=by
 delta aB3 cR;refine eE ?_
 (refine eL ?_;try with_reducible exact True.intro)
 (repeat' first|intro _|(with_reducible apply And.intro))
 all_goals first|(first|(refine (Bool.eq_false_iff.2 ?_).symm;rw[ne_eq,jW];intro hh;omega)|(refine (jW.2 ?_).symm;omega))|(rw[Bool.eq_iff_iff,jW,decide_eq_true_eq];exact ⟨fun h=>⟨by assumption,by omega,h⟩,fun h=>h.2.2⟩)|(refine (Bool.eq_false_iff.2 fun h=>?_).symm;rw[jW] at h;simp_all)
theorem aG0:Con.Holds Tryz.prog jP:=aV aX (aG mF aT) aSO aUA
def eY:Con:=⟨73,aN,.bool,[.val ⟨true,aN,[]⟩],[⟨false,.bool,[0]⟩],false,none,
 ((fun _=>True):(cS)→Prop),
 ((fun x=>iC x):(cS)→(Bool))⟩
def wB:T :=
 .bJ3 (.cmp .lss .i64) (.bJ4 tI tI (.p1 tI (.slice 105 aI) (.Z 0)) (.ci .i64 1)) <|
 .ite (.Z 1) (
  .ret (.cb false)) (
  .bJ3 (.cmp .gtr .i64) (.bJ4 tI tI (.p1 tI (.slice 105 aI) (.Z 0)) (.ci .i64 5)) <|
  .ite (.Z 2) (
   .ret (.cb false)) (
   .bJ3 (.bJ6 105 aI) (aR aN 1 (.Z 0)) <|
   .bJ3 (.cmp .gtr .i64) (.bJ4 tI tI (.Z 3) (.p1 tI (.slice 105 aI) (.Z 0))) <|
   .ite (.Z 4) (
    .ret (.cb false)) (
    .bJ3 (.bJ6 105 aI) (aR aN 1 (.Z 0)) <|
    .loop tI (.ci .i64 0) <|
     .bJ3 (.cmp .lss .i64) (.bJ4 tI tI (.Z 6) (.Z 5)) <|
     .ite (.Z 7) (
      .bJ3 (.bJ7 105 aI) (.bJ4 (.slice 105 aI) tI (aR aN 1 (.Z 0)) (.Z 6)) <|
      .call 0 (.Z 8) <|
      .bJ3 .not (.Z 9) <|
      .ite (.Z 10) (
       .ret (.cb false)) (
       .bJ3 (.ar .add .i64) (.bJ4 tI tI (.Z 6) (.ci .i64 1)) <|
       .bJ5 0 (.Z 11))) (
      .ret (.cb true)))))
theorem aPD:bV Tryz.prog [jP] eY false 3000 ⟨[(2988,8006,mW 21 5++[.dr 1,.dr 0,.tm 24 0])],[]⟩ = .ok wB:=by kernel_rfl
theorem aP6 (x:cS) (hx:okD aN x) (hp:(fun _=>True) x):wB.wp [jP] [⟨aN,x⟩] [] (fun v=>v.as .bool=(fun x=>iC x) x):=by
 have hm:List.length x.2≤9223372036854775807:=hx.2.1
 delta wB jP;refine eE ?_
 (refine eL ?_;try with_reducible exact True.intro)
 (repeat' first|intro _|(with_reducible apply And.intro))
 all_goals first|omega|(exact pF fun h=>by have:=h.1;omega)|skip
 refine ⟨fun s=>∃ k:Nat,k≤x.2.length∧s=(k:Int)∧∀ i,i<k→vO (x.2.getD i (aS aI))=true,fun s=>x.2.length - (s:Int).toNat,⟨0,by omega,rfl,by omega⟩,fun s _ hI=>?_⟩
 obtain ⟨k,hk,rfl,ha⟩:=hI
 refine eL ?_
 constructor
 ·intro hlt
  (repeat' first|intro _|(with_reducible apply And.intro))
  all_goals first|omega|(exact pF fun h=>by have:=h.2 k (by omega);simp_all)|(exact ⟨k+1,by omega,rfl,aIJ ha (by assumption)⟩)
 ·intro hge
  exact pT ⟨⟨by omega,by omega,by omega⟩,fun i hi=>ha i (by omega)⟩
theorem xH:Con.Holds Tryz.prog eY:=aV aX (aG aG0 aT) aPD aP6
def qE:Con:=⟨53,aO,.bool,[.val ⟨true,aO,[]⟩],[⟨false,.bool,[0]⟩],false,none,
 ((fun _=>True):(bI)→Prop),
 ((fun x=>kW x):(bI)→(Bool))⟩
def aBM:T :=
 .bJ3 (.bJ6 50 aA) (aJ aO 1 (.Z 0)) <|
 .bJ3 (.cmp .lss .i64) (.bJ4 tI tI (.Z 1) (.ci .i64 1)) <|
 .ite (.Z 2) (
  .ret (.cb false)) (
  .bJ3 (.cmp .gtr .i64) (.bJ4 tI tI (.Z 1) (.ci .i64 4)) <|
  .ite (.Z 3) (
   .ret (.cb false)) (
   .bJ3 (.bJ6 74 aN) (aJ aO 2 (.Z 0)) <|
   .bJ3 (.ar .sub .i64) (.bJ4 tI tI (.Z 1) (.ci .i64 1)) <|
   .bJ3 (.cmp .neq .i64) (.bJ4 tI tI (.Z 4) (.Z 5)) <|
   .ite (.Z 6) (
    .ret (.cb false)) (
    .bJ3 (.bJ6 74 aN) (aR aO 3 (.Z 0)) <|
    .bJ3 (.ar .sub .i64) (.bJ4 tI tI (.Z 1) (.ci .i64 1)) <|
    .bJ3 (.cmp .neq .i64) (.bJ4 tI tI (.Z 7) (.Z 8)) <|
    .ite (.Z 9) (
     .ret (.cb false)) (
     .bJ3 (.bJ6 67 aQ) (.p1 aF (.bJ2 (.slice 50 aA) (.bJ2 aH aH)) (.Z 0)) <|
     .bJ3 (.cmp .lss .i64) (.bJ4 tI tI (.Z 10) (.ci .i64 1)) <|
     .ite (.Z 11) (
      .ret (.cb false)) (
      .bJ3 (.bJ6 67 aQ) (.p1 aF (.bJ2 (.slice 50 aA) (.bJ2 aH aH)) (.Z 0)) <|
      .bJ3 (.cmp .gtr .i64) (.bJ4 tI tI (.Z 12) (.ci .i64 5)) <|
      .ite (.Z 13) (
       .ret (.cb false)) (
       .bJ3 (.bJ6 67 aQ) (.p1 aF (.bJ2 (.slice 50 aA) (.bJ2 aH aH)) (.Z 0)) <|
       .loop tI (.ci .i64 0) <|
        .bJ3 (.cmp .lss .i64) (.bJ4 tI tI (.Z 15) (.Z 14)) <|
        .ite (.Z 16) (
         .bJ3 (.bJ7 67 aQ) (.bJ4 aF tI (.p1 aF (.bJ2 (.slice 50 aA) (.bJ2 aH aH)) (.Z 0)) (.Z 15)) <|
         .call 0 (.p1 aB aB (.Z 17)) <|
         .bJ3 .not (.Z 18) <|
         .ite (.Z 19) (
          .ret (.cb false)) (
          .call 0 (aR aQ 1 (.Z 17)) <|
          .bJ3 .not (.Z 20) <|
          .ite (.Z 21) (
           .ret (.cb false)) (
           .bJ3 (.ar .add .i64) (.bJ4 tI tI (.Z 15) (.ci .i64 1)) <|
           .bJ5 0 (.Z 22)))) (
         .bJ3 (.bJ6 74 aN) (aJ aO 2 (.Z 0)) <|
         .loop tI (.ci .i64 0) <|
          .bJ3 (.cmp .lss .i64) (.bJ4 tI tI (.Z 18) (.Z 17)) <|
          .ite (.Z 19) (
           .bJ3 (.bJ7 74 aN) (.bJ4 aH tI (aJ aO 2 (.Z 0)) (.Z 18)) <|
           .call 1 (.Z 20) <|
           .bJ3 .not (.Z 21) <|
           .ite (.Z 22) (
            .ret (.cb false)) (
            .bJ3 (.bJ7 74 aN) (.bJ4 aH tI (aR aO 3 (.Z 0)) (.Z 18)) <|
            .call 1 (.Z 23) <|
            .bJ3 .not (.Z 24) <|
            .ite (.Z 25) (
             .ret (.cb false)) (
             .bJ3 (.ar .add .i64) (.bJ4 tI tI (.Z 18) (.ci .i64 1)) <|
             .bJ5 0 (.Z 26)))) (
           .bJ3 (.bJ6 50 aA) (aJ aO 1 (.Z 0)) <|
           .loop tI (.ci .i64 0) <|
            .bJ3 (.cmp .lss .i64) (.bJ4 tI tI (.Z 21) (.Z 20)) <|
            .ite (.Z 22) (
             .bJ3 (.bJ7 50 aA) (.bJ4 (.slice 50 aA) tI (aJ aO 1 (.Z 0)) (.Z 21)) <|
             .call 2 (.Z 23) <|
             .bJ3 .not (.Z 24) <|
             .ite (.Z 25) (
              .ret (.cb false)) (
              .bJ3 (.ar .sub .i64) (.bJ4 tI tI (.Z 1) (.ci .i64 1)) <|
              .bJ3 (.cmp .eql .i64) (.bJ4 tI tI (.Z 21) (.Z 26)) <|
              .bJ3 (.eqv true .bool) (.bJ4 .bool .bool (aJ aA 3 (.Z 23)) (.Z 27)) <|
              .ite (.Z 28) (
               .ret (.cb false)) (
               .bJ3 (.bJ6 52 aC) (aJ aA 1 (.Z 23)) <|
               .loop tI (.ci .i64 0) <|
                .bJ3 (.cmp .lss .i64) (.bJ4 tI tI (.Z 30) (.Z 29)) <|
                .ite (.Z 31) (
                 .bJ3 (.bJ7 52 aC) (.bJ4 aY tI (aJ aA 1 (.Z 23)) (.Z 30)) <|
                 .bJ3 (.cmp .lss .i64) (.bJ4 tI tI (aR aC 1 (.Z 32)) (.ci .i64 0)) <|
                 .ite (.Z 33) (
                  .ret (.cb false)) (
                  .bJ3 (.bJ6 67 aQ) (.p1 aF (.bJ2 (.slice 50 aA) (.bJ2 aH aH)) (.Z 0)) <|
                  .bJ3 (.cmp .geq .i64) (.bJ4 tI tI (aR aC 1 (.Z 32)) (.Z 34)) <|
                  .ite (.Z 35) (
                   .ret (.cb false)) (
                   .bJ3 (.ar .add .i64) (.bJ4 tI tI (.Z 30) (.ci .i64 1)) <|
                   .bJ5 0 (.Z 36)))) (
                 .bJ3 (.ar .add .i64) (.bJ4 tI tI (.Z 21) (.ci .i64 1)) <|
                 .bJ5 1 (.Z 32))))) (
             .ret (.cb true))))))))))
theorem aUR:bV Tryz.prog [cR,eY,dK] qE false 3000 ⟨[(2981,64015,mW 46 11++[.dr 0,.tm 49 0]),(2971,128018,[.dr 65,.dr 64]++mW 50 47++[.tm 67 0]),(2961,256021,[.dr 87]++mW 68 66++[.tm 90 0]),(2943,2304030,[.tm 110 0])],[]⟩ = .ok aBM:=by kernel_rfl
theorem aSX (x:bI) (hx:okD aO x) (hp:(fun _=>True) x):aBM.wp [cR,eY,dK] [⟨aO,x⟩] [] (fun v=>v.as .bool=(fun x=>kW x) x):=by
 obtain ⟨batch,stages,acts,backs⟩:=x
 have hm1:batch.length≤9223372036854775807:=hx.1.1
 have hm2:stages.length≤9223372036854775807:=hx.2.1.1
 have hm3:acts.length≤9223372036854775807:=hx.2.2.1.1
 have hm4:∀ k,k<stages.length→(stages.getD k (aS aA)).2.1.length≤9223372036854775807:=fun k hk=>by rw[bD hk];exact (hx.2.1.2 _ (List.getElem_mem hk)).2.1.1
 delta aBM cR eY dK;refine eE ?_
 (refine eL ?_;try with_reducible exact True.intro)
 (repeat' first|intro _|(with_reducible apply And.intro))
 all_goals first|omega|(exact pF fun h=>by have:=h.1;dsimp only at this;omega)|skip
 refine ⟨fun s=>∃ k:Nat,k≤batch.length∧s=(k:Int)∧∀ i,i<k→kO (batch.getD i (aS aQ)).1=true∧kO (batch.getD i (aS aQ)).2=true,fun s=>batch.length - (s:Int).toNat,⟨0,by omega,rfl,by omega⟩,fun s _ hI=>?_⟩
 obtain ⟨k,hk,rfl,ha⟩:=hI
 refine eL ?_
 constructor
 ·intro hlt
  (repeat' first|intro _|(with_reducible apply And.intro))
  all_goals first|omega|(exact pF fun h=>by have:=h.2.1 k (by dsimp only;omega);dsimp only at this;simp_all)|(exact ⟨k+1,by omega,rfl,aIJ ha ⟨by assumption,by assumption⟩⟩)
 intro hge _
 have hb:∀ i,i<batch.length→kO (batch.getD i (aS aQ)).1=true∧kO (batch.getD i (aS aQ)).2=true:=fun i hi=>ha i (by omega)
 clear ha
 refine ⟨fun s=>∃ k:Nat,k≤acts.length∧s=(k:Int)∧∀ i,i<k→iC (acts.getD i (aS aN))=true∧iC (backs.getD i (aS aN))=true,fun s=>acts.length - (s:Int).toNat,⟨0,by omega,rfl,by omega⟩,fun s _ hI=>?_⟩
 obtain ⟨k2,hk2,rfl,ha⟩:=hI
 refine eL ?_
 constructor
 ·intro hlt
  (repeat' first|intro _|(with_reducible apply And.intro))
  all_goals first|omega|(exact pF fun h=>by have:=h.2.2.1 k2 (by dsimp only;omega);dsimp only at this;simp_all)|(exact ⟨k2+1,by omega,rfl,aIJ ha ⟨by assumption,by assumption⟩⟩)
 intro hge2 _
 have hq:∀ i,i<acts.length→iC (acts.getD i (aS aN))=true∧iC (backs.getD i (aS aN))=true:=fun i hi=>ha i (by omega)
 clear ha
 refine ⟨fun s=>∃ k:Nat,k≤stages.length∧s=(k:Int)∧∀ i,i<k→aNA (batch,stages,acts,backs) i,fun s=>stages.length - (s:Int).toNat,⟨0,by omega,rfl,by omega⟩,fun s _ hI=>?_⟩
 obtain ⟨k3,hk3,rfl,ha⟩:=hI
 simp only[zO,bIO,bHN,bGS]
 have hm5:=hm4 k3
 constructor
 ·intro hlt
  have bad:¬ aNA (batch,stages,acts,backs) k3→false=kW (batch,stages,acts,backs):=fun h=>pF fun hh=>h (hh.2.2.2 k3 (by dsimp only;omega))
  (repeat' first|intro _|(with_reducible apply And.intro))
  all_goals first|omega|(exact bad fun h=>absurd h.2.1 (by assumption))|(exact bad fun h=>Bool.noConfusion (h.1.symm.trans (by assumption:_=false)))|skip
  refine ⟨fun s=>∃ k:Nat,k≤(stages.getD k3 (aS aA)).2.1.length∧s=(k:Int)∧∀ i,i<k→0≤((stages.getD k3 (aS aA)).2.1.getD i (aS aC)).2∧((stages.getD k3 (aS aA)).2.1.getD i (aS aC)).2<(batch.length:Int),fun s=>(stages.getD k3 (aS aA)).2.1.length - (s:Int).toNat,⟨0,by omega,rfl,by omega⟩,fun s _ hI=>?_⟩
  obtain ⟨k4,hk4,rfl,hc⟩:=hI
  (refine eL ?_;try with_reducible exact True.intro)
  (repeat' first|intro _|(with_reducible apply And.intro))
  all_goals first|omega|(exact bad fun h=>by have h5:=h.2.2 k4 (by dsimp only;omega);dsimp only at h5;omega)|(exact ⟨k4+1,by omega,rfl,aIJ hc ⟨by omega,by omega⟩⟩)|(exact ⟨k3+1,by omega,rfl,aIJ ha ⟨by assumption,by assumption,fun i hi=>hc i (by dsimp only at hi;omega)⟩⟩)
 ·intro hge3
  exact pT ⟨⟨by dsimp only;omega,by dsimp only;omega,by dsimp only;omega,by dsimp only;omega,by dsimp only;omega,by dsimp only;omega⟩,hb,hq,fun i hi=>ha i (by dsimp only at hi;omega)⟩
theorem aRW:Con.Holds Tryz.prog qE:=aV aX (aG mF (aG xH (aG qW aT))) aUR aSX
end
end Go.Proofs.YtpleleanibgniaaGreat
