/- Pipe4: lemmas. No conditions. -/
import Derived.Test.YtdeobhdbmehpgaaGreatStage3
namespace Go.Proofs.YtdeobhdbmehpgaaGreat
noncomputable section
set_option maxRecDepth 100000
open Go.ChangeShapes Go.WideShapes Go.ChangeAt Go.RowKit Go.Deep
set_option linter.unusedVariables false
set_option linter.unusedSimpArgs false
def pB (P:Prop):Bool:=@decide P (Classical.propDecidable P)
theorem mM {P:Prop}:pB P=true↔P:=by unfold pB;rw[@decide_eq_true_eq]
theorem bN4 {P:Prop}:pB P=false↔¬ P:=⟨fun h hp=>(by rw[mM.2 hp] at h;cases h),fun h=>Bool.eq_false_iff.2 fun h2=>h (mM.1 h2)⟩
theorem pF {P:Prop} (h:¬ P):false=pB P:=(bN4.2 h).symm
theorem pT {P:Prop} (h:P):true=pB P:=(mM.2 h).symm
theorem bLQ {k n:Nat}:((k:Int)==(n:Int) - 1)=decide (k+1=n):=by rw[Bool.eq_iff_iff,beq_iff_eq,decide_eq_true_eq];omega
theorem bI4 {x y:Bool}:vM .bool x y=true↔x=y:=by cases x <;> cases y <;> simp[vM]
theorem bFR {x y:Bool}:vM .bool x y=false↔¬ x=y:=by cases x <;> cases y <;> simp[vM]
def wD (x:cC):Bool:=iA x.2&&decide (0≤x.1∧x.1<5)
theorem jV (x:cC):wD x=true↔iA x.2=true∧0≤x.1∧x.1<5:=by unfold wD;rw[Bool.and_eq_true,decide_eq_true_eq]
def gD (q:bX):Bool:=pB ((1≤q.1∧q.1≤5∧(q.2.length:Int)≤q.1)∧∀ i,i<q.2.length→wD (q.2.getD i (aV aF))=true)
theorem vL {P:Nat→Prop} {k:Nat} (h:∀ i,i<k→P i) (h2:P k):∀ i,i<k+1→P i:=fun i hi=>by
 rcases Nat.lt_or_eq_of_le (Nat.le_of_lt_succ hi) with h'|rfl
 ·exact h i h'
 ·exact h2
def aBH (p:aY) (i:Nat):Prop:=gG (p.2.1.getD i (aV aA))=true∧(p.2.1.getD i (aV aA)).2.2.2.1=decide (i+1=p.2.1.length) ∧
 ∀ k,k<(p.2.1.getD i (aV aA)).2.1.length→0≤((p.2.1.getD i (aV aA)).2.1.getD k (aV aE)).2∧((p.2.1.getD i (aV aA)).2.1.getD k (aV aE)).2<(p.1.length:Int)
def bMF (p:aY):Prop:=(1≤p.2.1.length∧p.2.1.length≤4∧p.2.2.1.length+1=p.2.1.length∧p.2.2.2.length+1=p.2.1.length∧1≤p.1.length∧p.1.length≤5) ∧
 (∀ i,i<p.1.length→iA (p.1.getD i (aV aM)).1=true∧iA (p.1.getD i (aV aM)).2=true) ∧
 (∀ i,i<p.2.2.1.length→gD (p.2.2.1.getD i (aV aL))=true∧gD (p.2.2.2.getD i (aV aL))=true)∧∀ i,i<p.2.1.length→aBH p i
def jR (p:aY):Bool:=pB (bMF p)
def kF:Con:=⟨118,aF,.bool,[.val ⟨true,aF,[]⟩],[⟨false,.bool,[0]⟩],false,none,
 ((fun _=>True):(cC)→Prop),
 ((fun x=>wD x):(cC)→(Bool))⟩
def aDE:T:=.call 0 (aO aF 1 (.Z 0)) <|.ite (.Z 1) (
 .bNU (.cmp .geq .i64) (.bNV tI tI (.p1 tI aB (.Z 0)) (.ci .i64 0)) <|
 .ite (.Z 2) (
  .bNU (.cmp .lss .i64) (.bNV tI tI (.p1 tI aB (.Z 0)) (.ci .i64 5)) <|
  .ret (.Z 3)) (
  .ret (.cb false))) (
 .ret (.cb false))
theorem aXB:bM Tryz.prog [cX] kF false 3000 ⟨[],[]⟩ = .ok aDE:=by kernel_rfl
theorem aXX (x:cC) (hx:okD aF x) (hp:(fun _=>True) x):aDE.wp [cX] [⟨aF,x⟩] [] (fun v=>v.as .bool=(fun x=>wD x) x):=by
 delta aDE cX;refine dB ?_
 (refine dT ?_;try with_reducible exact True.intro)
 (repeat' first|intro _|(with_reducible apply And.intro))
 all_goals first|(first|(refine (Bool.eq_false_iff.2 ?_).symm;rw[ne_eq,jV];intro hh;omega)|(refine (jV.2 ?_).symm;omega))|(rw[Bool.eq_iff_iff,jV,decide_eq_true_eq];exact ⟨fun h=>⟨by assumption,by omega,h⟩,fun h=>h.2.2⟩)|(refine (Bool.eq_false_iff.2 fun h=>?_).symm;rw[jV] at h;simp_all)
theorem aJ1:Con.Holds Tryz.prog kF:=aS aW (aH oD aR) aXB aXX
def fQ:Con:=⟨113,aL,.bool,[.val ⟨true,aL,[]⟩],[⟨false,.bool,[0]⟩],false,none,
 ((fun _=>True):(bX)→Prop),
 ((fun x=>gD x):(bX)→(Bool))⟩
def zH:T :=
 .bNU (.cmp .lss .i64) (.bNV tI tI (.p1 tI (.slice 125 aF) (.Z 0)) (.ci .i64 1)) <|
 .ite (.Z 1) (
  .ret (.cb false)) (
  .bNU (.cmp .gtr .i64) (.bNV tI tI (.p1 tI (.slice 125 aF) (.Z 0)) (.ci .i64 5)) <|
  .ite (.Z 2) (
   .ret (.cb false)) (
   .bNU (.bNX 125 aF) (aO aL 1 (.Z 0)) <|
   .bNU (.cmp .gtr .i64) (.bNV tI tI (.Z 3) (.p1 tI (.slice 125 aF) (.Z 0))) <|
   .ite (.Z 4) (
    .ret (.cb false)) (
    .bNU (.bNX 125 aF) (aO aL 1 (.Z 0)) <|
    .loop tI (.ci .i64 0) <|
     .bNU (.cmp .lss .i64) (.bNV tI tI (.Z 6) (.Z 5)) <|
     .ite (.Z 7) (
      .bNU (.bNY 125 aF) (.bNV (.slice 125 aF) tI (aO aL 1 (.Z 0)) (.Z 6)) <|
      .call 0 (.Z 8) <|
      .bNU .not (.Z 9) <|
      .ite (.Z 10) (
       .ret (.cb false)) (
       .bNU (.ar .add .i64) (.bNV tI tI (.Z 6) (.ci .i64 1)) <|
       .bNW 0 (.Z 11))) (
      .ret (.cb true)))))
theorem aUR:bM Tryz.prog [kF] fQ false 3000 ⟨[(2988,8006,iT 21 5++[.dr 1,.dr 0,.tm 24 0])],[]⟩ = .ok zH:=by kernel_rfl
theorem aSV (x:bX) (hx:okD aL x) (hp:(fun _=>True) x):zH.wp [kF] [⟨aL,x⟩] [] (fun v=>v.as .bool=(fun x=>gD x) x):=by
 have hm:List.length x.2≤9223372036854775807:=hx.2.1
 delta zH kF;refine dB ?_
 (refine dT ?_;try with_reducible exact True.intro)
 (repeat' first|intro _|(with_reducible apply And.intro))
 all_goals first|omega|(exact pF fun h=>by have:=h.1;omega)|skip
 refine ⟨fun s=>∃ k:Nat,k≤x.2.length∧s=(k:Int)∧∀ i,i<k→wD (x.2.getD i (aV aF))=true,fun s=>x.2.length - (s:Int).toNat,⟨0,by omega,rfl,by omega⟩,fun s _ hI=>?_⟩
 obtain ⟨k,hk,rfl,ha⟩:=hI
 refine dT ?_
 constructor
 ·intro hlt
  (repeat' first|intro _|(with_reducible apply And.intro))
  all_goals first|omega|(exact pF fun h=>by have:=h.2 k (by omega);simp_all)|(exact ⟨k+1,by omega,rfl,vL ha (by assumption)⟩)
 ·intro hge
  exact pT ⟨⟨by omega,by omega,by omega⟩,fun i hi=>ha i (by omega)⟩
theorem yY:Con.Holds Tryz.prog fQ:=aS aW (aH aJ1 aR) aUR aSV
def fS:Con:=⟨122,aL,.bool,[.val ⟨true,aL,[]⟩],[⟨false,.bool,[0]⟩],false,none,
 ((fun _=>True):(bX)→Prop),
 ((fun x=>gD x):(bX)→(Bool))⟩
def yQ:T:=.loop tI (.ci .i64 0) <|
 .bNU (.bNX 125 aF) (aO aL 1 (.Z 0)) <|
 .bNU (.cmp .lss .i64) (.bNV tI tI (.Z 1) (.Z 2)) <|
 .ite (.Z 3) (
  .bNU (.bNY 125 aF) (.bNV (.slice 125 aF) tI (aO aL 1 (.Z 0)) (.Z 1)) <|
  .call 0 (aO aF 1 (.Z 4)) <|
  .bNU .not (.Z 5) <|
  .ite (.Z 6) (
   .ret (.cb false)) (
   .bNU (.bNY 125 aF) (.bNV (.slice 125 aF) tI (aO aL 1 (.Z 0)) (.Z 1)) <|
   .call 1 (bB (.bNT tI aE) [(.p1 tI aB (.Z 7)),(.ci .i64 0),(.ci .i64 4)]) <|
   .bNU .not (.Z 8) <|
   .ite (.Z 9) (
    .ret (.cb false)) (
    .bNU (.ar .add .i64) (.bNV tI tI (.Z 1) (.ci .i64 1)) <|
    .bNW 0 (.Z 10)))) (
  .call 1 (bB (.bNT tI aE) [(.p1 tI (.slice 125 aF) (.Z 0)),(.ci .i64 1),(.ci .i64 5)]) <|
  .ite (.Z 4) (
   .bNU (.bNX 125 aF) (aO aL 1 (.Z 0)) <|
   .bNU (.cmp .leq .i64) (.bNV tI tI (.Z 5) (.p1 tI (.slice 125 aF) (.Z 0))) <|
   .ret (.Z 6)) (
   .ret (.cb false)))
theorem aTH:bM Tryz.prog [bJ,bI] fS false 3000 ⟨[(2993,1001,[.dr 0,.tm 3 0])],[]⟩ = .ok yQ:=by kernel_rfl
theorem aUH (x:bX) (hx:okD aL x) (hp:(fun _=>True) x):yQ.wp [bJ,bI] [⟨aL,x⟩] [] (fun v=>v.as .bool=(fun x=>gD x) x):=by
 have hm:List.length x.2≤9223372036854775807:=hx.2.1
 delta yQ bJ bI;refine dB ?_
 refine ⟨fun s=>∃ k:Nat,k≤x.2.length∧s=(k:Int)∧∀ i,i<k→wD (x.2.getD i (aV aF))=true,fun s=>x.2.length - (s:Int).toNat,⟨0,by omega,rfl,by omega⟩,fun s _ hI=>?_⟩
 obtain ⟨k,hk,rfl,ha⟩:=hI
 refine dT ?_
 intro _
 have hi:=jV (x.2.getD k (aV aF))
 constructor
 ·intro hlt
  (repeat' first|intro _|(with_reducible apply And.intro))
  all_goals first|omega|(exact pF fun h=>by have h5:=hi.1 (h.2 k (by omega));first|omega|simp_all)|(exact ⟨k+1,by omega,rfl,vL ha (hi.2 ⟨by assumption,by omega,by omega⟩)⟩)
 ·intro hge
  (repeat' first|intro _|(with_reducible apply And.intro))
  all_goals first|(exact pF fun h=>by have:=h.1;omega)|(unfold gD;rw[Bool.eq_iff_iff,mM,decide_eq_true_eq];exact ⟨fun h=>⟨⟨by omega,by omega,h⟩,fun i hi=>ha i (by omega)⟩,fun h=>h.1.2.2⟩)
theorem aAN:Con.Holds Tryz.prog fS:=aS aW (aH fD (aH eY aR)) aTH aUH
def rJ:Con:=⟨107,aC,.bool,[.val ⟨true,aC,[]⟩],[⟨false,.bool,[0]⟩],false,none,
 ((fun _=>True):(aY)→Prop),
 ((fun x=>jR x):(aY)→(Bool))⟩
def aED:T :=
 .bNU (.bNX 38 aA) (aJ aC 1 (.Z 0)) <|
 .bNU (.cmp .lss .i64) (.bNV tI tI (.Z 1) (.ci .i64 1)) <|
 .ite (.Z 2) (
  .ret (.cb false)) (
  .bNU (.cmp .gtr .i64) (.bNV tI tI (.Z 1) (.ci .i64 4)) <|
  .ite (.Z 3) (
   .ret (.cb false)) (
   .bNU (.bNX 119 aL) (aJ aC 2 (.Z 0)) <|
   .bNU (.ar .sub .i64) (.bNV tI tI (.Z 1) (.ci .i64 1)) <|
   .bNU (.cmp .neq .i64) (.bNV tI tI (.Z 4) (.Z 5)) <|
   .ite (.Z 6) (
    .ret (.cb false)) (
    .bNU (.bNX 119 aL) (aO aC 3 (.Z 0)) <|
    .bNU (.ar .sub .i64) (.bNV tI tI (.Z 1) (.ci .i64 1)) <|
    .bNU (.cmp .neq .i64) (.bNV tI tI (.Z 7) (.Z 8)) <|
    .ite (.Z 9) (
     .ret (.cb false)) (
     .bNU (.bNX 94 aM) (.p1 aN (.bNT (.slice 38 aA) (.bNT aG aG)) (.Z 0)) <|
     .bNU (.cmp .lss .i64) (.bNV tI tI (.Z 10) (.ci .i64 1)) <|
     .ite (.Z 11) (
      .ret (.cb false)) (
      .bNU (.bNX 94 aM) (.p1 aN (.bNT (.slice 38 aA) (.bNT aG aG)) (.Z 0)) <|
      .bNU (.cmp .gtr .i64) (.bNV tI tI (.Z 12) (.ci .i64 5)) <|
      .ite (.Z 13) (
       .ret (.cb false)) (
       .bNU (.bNX 94 aM) (.p1 aN (.bNT (.slice 38 aA) (.bNT aG aG)) (.Z 0)) <|
       .loop tI (.ci .i64 0) <|
        .bNU (.cmp .lss .i64) (.bNV tI tI (.Z 15) (.Z 14)) <|
        .ite (.Z 16) (
         .bNU (.bNY 94 aM) (.bNV aN tI (.p1 aN (.bNT (.slice 38 aA) (.bNT aG aG)) (.Z 0)) (.Z 15)) <|
         .call 0 (.p1 aB aB (.Z 17)) <|
         .bNU .not (.Z 18) <|
         .ite (.Z 19) (
          .ret (.cb false)) (
          .call 0 (aO aM 1 (.Z 17)) <|
          .bNU .not (.Z 20) <|
          .ite (.Z 21) (
           .ret (.cb false)) (
           .bNU (.ar .add .i64) (.bNV tI tI (.Z 15) (.ci .i64 1)) <|
           .bNW 0 (.Z 22)))) (
         .bNU (.bNX 119 aL) (aJ aC 2 (.Z 0)) <|
         .loop tI (.ci .i64 0) <|
          .bNU (.cmp .lss .i64) (.bNV tI tI (.Z 18) (.Z 17)) <|
          .ite (.Z 19) (
           .bNU (.bNY 119 aL) (.bNV aG tI (aJ aC 2 (.Z 0)) (.Z 18)) <|
           .call 1 (.Z 20) <|
           .bNU .not (.Z 21) <|
           .ite (.Z 22) (
            .ret (.cb false)) (
            .bNU (.bNY 119 aL) (.bNV aG tI (aO aC 3 (.Z 0)) (.Z 18)) <|
            .call 1 (.Z 23) <|
            .bNU .not (.Z 24) <|
            .ite (.Z 25) (
             .ret (.cb false)) (
             .bNU (.ar .add .i64) (.bNV tI tI (.Z 18) (.ci .i64 1)) <|
             .bNW 0 (.Z 26)))) (
           .bNU (.bNX 38 aA) (aJ aC 1 (.Z 0)) <|
           .loop tI (.ci .i64 0) <|
            .bNU (.cmp .lss .i64) (.bNV tI tI (.Z 21) (.Z 20)) <|
            .ite (.Z 22) (
             .bNU (.bNY 38 aA) (.bNV (.slice 38 aA) tI (aJ aC 1 (.Z 0)) (.Z 21)) <|
             .call 2 (.Z 23) <|
             .bNU .not (.Z 24) <|
             .ite (.Z 25) (
              .ret (.cb false)) (
              .bNU (.ar .sub .i64) (.bNV tI tI (.Z 1) (.ci .i64 1)) <|
              .bNU (.cmp .eql .i64) (.bNV tI tI (.Z 21) (.Z 26)) <|
              .bNU (.eqv true .bool) (.bNV .bool .bool (aJ aA 3 (.Z 23)) (.Z 27)) <|
              .ite (.Z 28) (
               .ret (.cb false)) (
               .bNU (.bNX 76 aE) (aJ aA 1 (.Z 23)) <|
               .loop tI (.ci .i64 0) <|
                .bNU (.cmp .lss .i64) (.bNV tI tI (.Z 30) (.Z 29)) <|
                .ite (.Z 31) (
                 .bNU (.bNY 76 aE) (.bNV bC tI (aJ aA 1 (.Z 23)) (.Z 30)) <|
                 .bNU (.cmp .lss .i64) (.bNV tI tI (aO aE 1 (.Z 32)) (.ci .i64 0)) <|
                 .ite (.Z 33) (
                  .ret (.cb false)) (
                  .bNU (.bNX 94 aM) (.p1 aN (.bNT (.slice 38 aA) (.bNT aG aG)) (.Z 0)) <|
                  .bNU (.cmp .geq .i64) (.bNV tI tI (aO aE 1 (.Z 32)) (.Z 34)) <|
                  .ite (.Z 35) (
                   .ret (.cb false)) (
                   .bNU (.ar .add .i64) (.bNV tI tI (.Z 30) (.ci .i64 1)) <|
                   .bNW 0 (.Z 36)))) (
                 .bNU (.ar .add .i64) (.bNV tI tI (.Z 21) (.ci .i64 1)) <|
                 .bNW 1 (.Z 32))))) (
             .ret (.cb true))))))))))
theorem aWI:bM Tryz.prog [cX,fQ,dY] rJ false 3000 ⟨[(2981,64015,iT 46 11++[.dr 0,.tm 49 0]),(2971,128018,[.dr 65,.dr 64]++iT 50 47++[.tm 67 0]),(2961,256021,[.dr 87]++iT 68 66++[.tm 90 0]),(2943,2304030,[.tm 110 0])],[]⟩ = .ok aED:=by kernel_rfl
theorem aWR (x:aY) (hx:okD aC x) (hp:(fun _=>True) x):aED.wp [cX,fQ,dY] [⟨aC,x⟩] [] (fun v=>v.as .bool=(fun x=>jR x) x):=by
 obtain ⟨batch,stages,acts,backs⟩:=x
 have hm1:batch.length≤9223372036854775807:=hx.1.1
 have hm2:stages.length≤9223372036854775807:=hx.2.1.1
 have hm3:acts.length≤9223372036854775807:=hx.2.2.1.1
 have hm4:∀ k,k<stages.length→(stages.getD k (aV aA)).2.1.length≤9223372036854775807:=fun k hk=>by rw[aZ hk];exact (hx.2.1.2 _ (List.getElem_mem hk)).2.1.1
 delta aED cX fQ dY;refine dB ?_
 (refine dT ?_;try with_reducible exact True.intro)
 (repeat' first|intro _|(with_reducible apply And.intro))
 all_goals first|omega|(exact pF fun h=>by have:=h.1;dsimp only at this;omega)|skip
 refine ⟨fun s=>∃ k:Nat,k≤batch.length∧s=(k:Int)∧∀ i,i<k→iA (batch.getD i (aV aM)).1=true∧iA (batch.getD i (aV aM)).2=true,fun s=>batch.length - (s:Int).toNat,⟨0,by omega,rfl,by omega⟩,fun s _ hI=>?_⟩
 obtain ⟨k,hk,rfl,ha⟩:=hI
 refine dT ?_
 constructor
 ·intro hlt
  (repeat' first|intro _|(with_reducible apply And.intro))
  all_goals first|omega|(exact pF fun h=>by have:=h.2.1 k (by dsimp only;omega);dsimp only at this;simp_all)|(exact ⟨k+1,by omega,rfl,vL ha ⟨by assumption,by assumption⟩⟩)
 intro hge _
 have hb:∀ i,i<batch.length→iA (batch.getD i (aV aM)).1=true∧iA (batch.getD i (aV aM)).2=true:=fun i hi=>ha i (by omega)
 clear ha
 refine ⟨fun s=>∃ k:Nat,k≤acts.length∧s=(k:Int)∧∀ i,i<k→gD (acts.getD i (aV aL))=true∧gD (backs.getD i (aV aL))=true,fun s=>acts.length - (s:Int).toNat,⟨0,by omega,rfl,by omega⟩,fun s _ hI=>?_⟩
 obtain ⟨k2,hk2,rfl,ha⟩:=hI
 refine dT ?_
 constructor
 ·intro hlt
  (repeat' first|intro _|(with_reducible apply And.intro))
  all_goals first|omega|(exact pF fun h=>by have:=h.2.2.1 k2 (by dsimp only;omega);dsimp only at this;simp_all)|(exact ⟨k2+1,by omega,rfl,vL ha ⟨by assumption,by assumption⟩⟩)
 intro hge2 _
 have hq:∀ i,i<acts.length→gD (acts.getD i (aV aL))=true∧gD (backs.getD i (aV aL))=true:=fun i hi=>ha i (by omega)
 clear ha
 refine ⟨fun s=>∃ k:Nat,k≤stages.length∧s=(k:Int)∧∀ i,i<k→aBH (batch,stages,acts,backs) i,fun s=>stages.length - (s:Int).toNat,⟨0,by omega,rfl,by omega⟩,fun s _ hI=>?_⟩
 obtain ⟨k3,hk3,rfl,ha⟩:=hI
 simp only[nS,bLQ,bI4,bFR]
 have hm5:=hm4 k3
 constructor
 ·intro hlt
  have bad:¬ aBH (batch,stages,acts,backs) k3→false=jR (batch,stages,acts,backs):=fun h=>pF fun hh=>h (hh.2.2.2 k3 (by dsimp only;omega))
  (repeat' first|intro _|(with_reducible apply And.intro))
  all_goals first|omega|(exact bad fun h=>absurd h.2.1 (by assumption))|(exact bad fun h=>Bool.noConfusion (h.1.symm.trans (by assumption:_=false)))|skip
  refine ⟨fun s=>∃ k:Nat,k≤(stages.getD k3 (aV aA)).2.1.length∧s=(k:Int)∧∀ i,i<k→0≤((stages.getD k3 (aV aA)).2.1.getD i (aV aE)).2∧((stages.getD k3 (aV aA)).2.1.getD i (aV aE)).2<(batch.length:Int),fun s=>(stages.getD k3 (aV aA)).2.1.length - (s:Int).toNat,⟨0,by omega,rfl,by omega⟩,fun s _ hI=>?_⟩
  obtain ⟨k4,hk4,rfl,hc⟩:=hI
  (refine dT ?_;try with_reducible exact True.intro)
  (repeat' first|intro _|(with_reducible apply And.intro))
  all_goals first|omega|(exact bad fun h=>by have h5:=h.2.2 k4 (by dsimp only;omega);dsimp only at h5;omega)|(exact ⟨k4+1,by omega,rfl,vL hc ⟨by omega,by omega⟩⟩)|(exact ⟨k3+1,by omega,rfl,vL ha ⟨by assumption,by assumption,fun i hi=>hc i (by dsimp only at hi;omega)⟩⟩)
 ·intro hge3
  exact pT ⟨⟨by dsimp only;omega,by dsimp only;omega,by dsimp only;omega,by dsimp only;omega,by dsimp only;omega,by dsimp only;omega⟩,hb,hq,fun i hi=>ha i (by dsimp only at hi;omega)⟩
theorem aWG:Con.Holds Tryz.prog rJ:=aS aW (aH oD (aH yY (aH tK aR))) aWI aWR
def sW:Con:=⟨84,aC,.bool,[.val ⟨true,aC,[]⟩],[⟨false,.bool,[0]⟩],false,none,
 ((fun _=>True):(aY)→Prop),
 ((fun x=>jR x):(aY)→(Bool))⟩
def aCU:T :=
 .bNU (.bNX 38 aA) (aJ aC 1 (.Z 0)) <|
 .call 0 (bB (.bNT tI aE) [(.Z 1),(.ci .i64 1),(.ci .i64 4)]) <|
 .bNU .not (.Z 2) <|
 .ite (.Z 3) (
  .ret (.cb false)) (
  .bNU (.bNX 119 aL) (aJ aC 2 (.Z 0)) <|
  .bNU (.ar .sub .i64) (.bNV tI tI (.Z 1) (.ci .i64 1)) <|
  .bNU (.cmp .neq .i64) (.bNV tI tI (.Z 4) (.Z 5)) <|
  .ite (.Z 6) (
   .ret (.cb false)) (
   .bNU (.bNX 119 aL) (aO aC 3 (.Z 0)) <|
   .bNU (.ar .sub .i64) (.bNV tI tI (.Z 1) (.ci .i64 1)) <|
   .bNU (.cmp .neq .i64) (.bNV tI tI (.Z 7) (.Z 8)) <|
   .ite (.Z 9) (
    .ret (.cb false)) (
    .bNU (.bNX 94 aM) (.p1 aN (.bNT (.slice 38 aA) (.bNT aG aG)) (.Z 0)) <|
    .call 0 (bB (.bNT tI aE) [(.Z 10),(.ci .i64 1),(.ci .i64 5)]) <|
    .bNU .not (.Z 11) <|
    .ite (.Z 12) (
     .ret (.cb false)) (
     .loop tI (.ci .i64 0) <|
      .bNU (.cmp .lss .i64) (.bNV tI tI (.Z 13) (.Z 1)) <|
      .ite (.Z 14) (
       .bNU (.bNY 38 aA) (.bNV (.slice 38 aA) tI (aJ aC 1 (.Z 0)) (.Z 13)) <|
       .call 1 (.Z 15) <|
       .bNU .not (.Z 16) <|
       .ite (.Z 17) (
        .ret (.cb false)) (
        .bNU (.ar .sub .i64) (.bNV tI tI (.Z 1) (.ci .i64 1)) <|
        .bNU (.cmp .eql .i64) (.bNV tI tI (.Z 13) (.Z 18)) <|
        .bNU (.eqv true .bool) (.bNV .bool .bool (aJ aA 3 (.Z 15)) (.Z 19)) <|
        .ite (.Z 20) (
         .ret (.cb false)) (
         .loop tI (.ci .i64 0) <|
          .bNU (.bNX 76 aE) (aJ aA 1 (.Z 15)) <|
          .bNU (.cmp .lss .i64) (.bNV tI tI (.Z 21) (.Z 22)) <|
          .ite (.Z 23) (
           .bNU (.bNY 76 aE) (.bNV bC tI (aJ aA 1 (.Z 15)) (.Z 21)) <|
           .bNU (.bNX 94 aM) (.p1 aN (.bNT (.slice 38 aA) (.bNT aG aG)) (.Z 0)) <|
           .bNU (.ar .sub .i64) (.bNV tI tI (.Z 25) (.ci .i64 1)) <|
           .call 0 (bB (.bNT tI aE) [(aO aE 1 (.Z 24)),(.ci .i64 0),(.Z 26)]) <|
           .bNU .not (.Z 27) <|
           .ite (.Z 28) (
            .ret (.cb false)) (
            .bNU (.ar .add .i64) (.bNV tI tI (.Z 21) (.ci .i64 1)) <|
            .bNW 0 (.Z 29))) (
           .bNU (.cmp .gtr .i64) (.bNV tI tI (.Z 13) (.ci .i64 0)) <|
           .ite (.Z 24) (
            .bNU (.ar .sub .i64) (.bNV tI tI (.Z 13) (.ci .i64 1)) <|
            .bNU (.bNY 119 aL) (.bNV aG tI (aJ aC 2 (.Z 0)) (.Z 25)) <|
            .call 2 (.Z 26) <|
            .bNU .not (.Z 27) <|
            .ite (.Z 28) (
             .ret (.cb false)) (
             .bNU (.ar .sub .i64) (.bNV tI tI (.Z 13) (.ci .i64 1)) <|
             .bNU (.bNY 119 aL) (.bNV aG tI (aO aC 3 (.Z 0)) (.Z 29)) <|
             .call 2 (.Z 30) <|
             .bNU .not (.Z 31) <|
             .ite (.Z 32) (
              .ret (.cb false)) (
              .bNU (.ar .add .i64) (.bNV tI tI (.Z 13) (.ci .i64 1)) <|
              .bNW 1 (.Z 33)))) (
            .bNU (.ar .add .i64) (.bNV tI tI (.Z 13) (.ci .i64 1)) <|
            .bNW 1 (.Z 25)))))) (
       .loop tI (.ci .i64 0) <|
        .bNU (.bNX 94 aM) (.p1 aN (.bNT (.slice 38 aA) (.bNT aG aG)) (.Z 0)) <|
        .bNU (.cmp .lss .i64) (.bNV tI tI (.Z 15) (.Z 16)) <|
        .ite (.Z 17) (
         .bNU (.bNY 94 aM) (.bNV aN tI (.p1 aN (.bNT (.slice 38 aA) (.bNT aG aG)) (.Z 0)) (.Z 15)) <|
         .call 3 (.p1 aB aB (.Z 18)) <|
         .bNU .not (.Z 19) <|
         .ite (.Z 20) (
          .ret (.cb false)) (
          .bNU (.bNY 94 aM) (.bNV aN tI (.p1 aN (.bNT (.slice 38 aA) (.bNT aG aG)) (.Z 0)) (.Z 15)) <|
          .call 3 (aO aM 1 (.Z 21)) <|
          .bNU .not (.Z 22) <|
          .ite (.Z 23) (
           .ret (.cb false)) (
           .bNU (.ar .add .i64) (.bNV tI tI (.Z 15) (.ci .i64 1)) <|
           .bNW 0 (.Z 24)))) (
         .ret (.cb true)))))))
theorem bA6:bM Tryz.prog [bI,dX,fS,bJ] sW false 3000 ⟨[(2986,16013,iT 36 8++[.dr 0,.tm 4 0]),(2967,144021,[.tm 6 0]),(2976,32015,iT 39 37++[.dr 4,.dr 3,.tm 7 0])],[]⟩ = .ok aCU:=by kernel_rfl
theorem aYL (x:aY) (hx:okD aC x) (hp:(fun _=>True) x):aCU.wp [bI,dX,fS,bJ] [⟨aC,x⟩] [] (fun v=>v.as .bool=(fun x=>jR x) x):=by
 obtain ⟨batch,stages,acts,backs⟩:=x
 have hm1:batch.length≤9223372036854775807:=hx.1.1
 have hm2:stages.length≤9223372036854775807:=hx.2.1.1
 have hm3:acts.length≤9223372036854775807:=hx.2.2.1.1
 have hm4:∀ k,k<stages.length→(stages.getD k (aV aA)).2.1.length≤9223372036854775807:=fun k hk=>by rw[aZ hk];exact (hx.2.1.2 _ (List.getElem_mem hk)).2.1.1
 delta aCU bI dX fS bJ;refine dB ?_
 (refine dT ?_;try with_reducible exact True.intro)
 (repeat' first|intro _|(with_reducible apply And.intro))
 all_goals first|omega|(exact pF fun h=>by have:=h.1;dsimp only at this;omega)|skip
 refine ⟨fun s=>∃ k:Nat,k≤stages.length∧s=(k:Int)∧∀ i,i<k→aBH (batch,stages,acts,backs) i∧(0<i→gD (acts.getD (i - 1) (aV aL))=true∧gD (backs.getD (i - 1) (aV aL))=true),fun s=>stages.length - (s:Int).toNat,⟨0,by omega,rfl,by omega⟩,fun s _ hI=>?_⟩
 obtain ⟨k3,hk3,rfl,ha⟩:=hI
 simp only[nS,bLQ,bI4,bFR]
 have hm5:=hm4 k3
 constructor
 ·intro hlt
  have bad:¬ aBH (batch,stages,acts,backs) k3→false=jR (batch,stages,acts,backs):=fun h=>pF fun hh=>h (hh.2.2.2 k3 (by dsimp only;omega))
  have bad2:0<k3→¬ (gD (acts.getD (k3 - 1) (aV aL))=true∧gD (backs.getD (k3 - 1) (aV aL))=true)→false=jR (batch,stages,acts,backs):=fun h0 h=>pF fun hh=>h (hh.2.2.1 (k3 - 1) (by have:=hh.1;dsimp only at this ⊢;omega))
  (repeat' first|intro _|(with_reducible apply And.intro))
  all_goals first|omega|(exact bad fun h=>absurd h.2.1 (by assumption))|(exact bad fun h=>Bool.noConfusion (h.1.symm.trans (by assumption:_=false)))|skip
  refine ⟨fun s=>∃ k:Nat,k≤(stages.getD k3 (aV aA)).2.1.length∧s=(k:Int)∧∀ i,i<k→0≤((stages.getD k3 (aV aA)).2.1.getD i (aV aE)).2∧((stages.getD k3 (aV aA)).2.1.getD i (aV aE)).2<(batch.length:Int),fun s=>(stages.getD k3 (aV aA)).2.1.length - (s:Int).toNat,⟨0,by omega,rfl,by omega⟩,fun s _ hI=>?_⟩
  obtain ⟨k4,hk4,rfl,hc⟩:=hI
  (refine dT ?_;try with_reducible exact True.intro)
  (repeat' first|intro _|(with_reducible apply And.intro))
  all_goals first|omega|(exact bad fun h=>by have h5:=h.2.2 k4 (by dsimp only;omega);dsimp only at h5;omega)|(exact ⟨k4+1,by omega,rfl,vL hc ⟨by omega,by omega⟩⟩)|(exact bad2 (by omega) fun h=>by simp_all;done)|(exact ⟨k3+1,by omega,rfl,vL ha ⟨⟨by assumption,by assumption,fun i hi=>hc i (by dsimp only at hi;omega)⟩,fun _=>⟨by first|assumption|omega,by first|assumption|omega⟩⟩⟩)
 intro hge3
 have hs:∀ i,i<stages.length→aBH (batch,stages,acts,backs) i:=fun i hi=>(ha i (by omega)).1
 have hq:∀ i,i<acts.length→gD (acts.getD i (aV aL))=true∧gD (backs.getD i (aV aL))=true:=fun i hi=>(ha (i+1) (by omega)).2 (by omega)
 clear ha
 refine ⟨fun s=>∃ k:Nat,k≤batch.length∧s=(k:Int)∧∀ i,i<k→iA (batch.getD i (aV aM)).1=true∧iA (batch.getD i (aV aM)).2=true,fun s=>batch.length - (s:Int).toNat,⟨0,by omega,rfl,by omega⟩,fun s _ hI=>?_⟩
 obtain ⟨k,hk,rfl,ha⟩:=hI
 refine dT ?_
 intro _
 constructor
 ·intro hlt
  (repeat' first|intro _|(with_reducible apply And.intro))
  all_goals first|omega|(exact pF fun h=>by have:=h.2.1 k (by dsimp only;omega);dsimp only at this;simp_all)|(exact ⟨k+1,by omega,rfl,vL ha ⟨by assumption,by assumption⟩⟩)
 intro hge
 exact pT ⟨⟨by dsimp only;omega,by dsimp only;omega,by dsimp only;omega,by dsimp only;omega,by dsimp only;omega,by dsimp only;omega⟩,fun i hi=>ha i (by dsimp only at hi;omega),hq,hs⟩
theorem bAB:Con.Holds Tryz.prog sW:=aS aW (aH eY (aH tS (aH aAN (aH fD aR)))) bA6 aYL
end
end Go.Proofs.YtdeobhdbmehpgaaGreat
