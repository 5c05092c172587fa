/- Pipe4: trees, and what they say. -/
import Derived.Test.YtmfpkkbhnmkfdaaGreatStage3
namespace Go.Proofs.YtmfpkkbhnmkfdaaGreat
open Go.ChangeShapes Go.WideShapes Go.ChangeAt Go.RowKit Go.Deep
set_option linter.unusedVariables false
set_option linter.unusedSimpArgs false
noncomputable def pB (P:Prop):Bool:=@decide P (Classical.propDecidable P)
theorem mH {P:Prop}:pB P = true↔P:=by unfold pB;rw [@decide_eq_true_eq]
theorem bDZ {P:Prop}:pB P = false↔¬ P:=⟨fun h hp=>(by rw [mH.2 hp] at h;cases h),fun h=>Bool.eq_false_iff.2 fun h2=>h (mH.1 h2)⟩
theorem pF {P:Prop} (h:¬ P):false = pB P:=(bDZ.2 h).symm
theorem pT {P:Prop} (h:P):true = pB P:=(mH.2 h).symm
theorem bD0 {k n:Nat}:((k:Int) == (n:Int) - 1) = decide (k + 1 = n):=by rw [Bool.eq_iff_iff,beq_iff_eq,decide_eq_true_eq];omega
theorem aZB {x y:Bool}:zM .bool x y = true↔x = y:=by cases x <;> cases y <;> simp [zM]
theorem aYU {x y:Bool}:zM .bool x y = false↔¬ x = y:=by cases x <;> cases y <;> simp [zM]
def tK (x:cE):Bool:=iA x.2 && decide (0≤x.1∧x.1 < 5)
theorem jD (x:cE):tK x = true↔iA x.2 = true∧0≤x.1∧x.1 < 5:=by unfold tK;rw [Bool.and_eq_true,decide_eq_true_eq]
noncomputable def fS (q:bZ):Bool:=pB ((1≤q.1∧q.1≤5∧(q.2.length:Int)≤q.1)∧∀ i,i < q.2.length→tK (q.2.getD i (aS aD)) = true)
theorem xF {P:Nat→Prop} {k:Nat} (h:∀ i,i < k→P i) (h2:P k):∀ i,i < k + 1→P i:=fun i hi=>by
 rcases Nat.lt_or_eq_of_le (Nat.le_of_lt_succ hi) with h' | rfl
 ·exact h i h'
 ·exact h2
def yE (p:bL) (i:Nat):Prop:=fV (p.2.1.getD i (aS aA)) = true∧(p.2.1.getD i (aS aA)).2.2.2.1 = decide (i + 1 = p.2.1.length) ∧
 ∀ k,k < (p.2.1.getD i (aS aA)).2.1.length→0≤((p.2.1.getD i (aS aA)).2.1.getD k (aS aO)).2∧((p.2.1.getD i (aS aA)).2.1.getD k (aS aO)).2 < (p.1.length:Int)
def bD3 (p:bL):Prop:=(1≤p.2.1.length∧p.2.1.length≤4∧p.2.2.1.length + 1 = p.2.1.length∧p.2.2.2.length + 1 = p.2.1.length∧1≤p.1.length∧p.1.length≤5) ∧
 (∀ i,i < p.1.length→iA (p.1.getD i (aS aI)).1 = true∧iA (p.1.getD i (aS aI)).2 = true) ∧
 (∀ i,i < p.2.2.1.length→fS (p.2.2.1.getD i (aS aE)) = true∧fS (p.2.2.2.getD i (aS aE)) = true)∧∀ i,i < p.2.1.length→yE p i
noncomputable def jM (p:bL):Bool:=pB (bD3 p)
noncomputable def jU:Con:=⟨215,aD,.bool,[.val ⟨true,aD,[]⟩],[⟨false,.bool,[0]⟩],false,none,
 ((fun _=>True):(cE)→Prop),
 ((fun x=>tK x):(cE)→(Bool))⟩
def aAG:T :=
 .call 0 (aQ aD 1 (.vr 0)) <|
 .ite (.vr 1) (
  .prim (.cmp .geq .i64) (.mk2 tI tI (.p1 tI aB (.vr 0)) (.ci .i64 0)) <|
  .ite (.vr 2) (
   .prim (.cmp .lss .i64) (.mk2 tI tI (.p1 tI aB (.vr 0)) (.ci .i64 5)) <|
   .ret (.vr 3)) (
   .ret (.cb false))) (
  .ret (.cb false))
set_option maxRecDepth 100000 in
theorem aT8:bS Tryz.prog [cV] jU false 3000 ⟨[],[]⟩ = .ok aAG:=by kernel_rfl
theorem aRO (x:cE) (hx:okD aD x) (hp:(fun _=>True) x):aAG.wp [cV] [⟨aD,x⟩] [] (fun v=>v.as .bool = (fun x=>tK x) x):=by
 delta aAG cV;refine eS ?_;try with_reducible exact True.intro
 (refine gR ?_;try with_reducible exact True.intro)
 (repeat' first | intro _ | (with_reducible apply And.intro))
 all_goals first | (first | (refine (Bool.eq_false_iff.2 ?_).symm;rw [ne_eq,jD];intro hh;omega) | (refine (jD.2 ?_).symm;omega)) | (rw [Bool.eq_iff_iff,jD,decide_eq_true_eq];exact ⟨fun h=>⟨by assumption,by omega,h⟩,fun h=>h.2.2⟩) | (refine (Bool.eq_false_iff.2 fun h=>?_).symm;rw [jD] at h;simp_all)
theorem aGV:Con.Holds Tryz.prog jU:=aT aY (aK mP aU) aT8 fun x hx hp=>aRO x hx hp
noncomputable def fL:Con:=⟨167,aE,.bool,[.val ⟨true,aE,[]⟩],[⟨false,.bool,[0]⟩],false,none,
 ((fun _=>True):(bZ)→Prop),
 ((fun x=>fS x):(bZ)→(Bool))⟩
def xQ:T :=
 .prim (.cmp .lss .i64) (.mk2 tI tI (.p1 tI (.slice 161 aD) (.vr 0)) (.ci .i64 1)) <|
 .ite (.vr 1) (
  .ret (.cb false)) (
  .prim (.cmp .gtr .i64) (.mk2 tI tI (.p1 tI (.slice 161 aD) (.vr 0)) (.ci .i64 5)) <|
  .ite (.vr 2) (
   .ret (.cb false)) (
   .prim (.llen 161 aD) (aQ aE 1 (.vr 0)) <|
   .prim (.cmp .gtr .i64) (.mk2 tI tI (.vr 3) (.p1 tI (.slice 161 aD) (.vr 0))) <|
   .ite (.vr 4) (
    .ret (.cb false)) (
    .prim (.llen 161 aD) (aQ aE 1 (.vr 0)) <|
    .loop tI (.ci .i64 0) <|
     .prim (.cmp .lss .i64) (.mk2 tI tI (.vr 6) (.vr 5)) <|
     .ite (.vr 7) (
      .prim (.lidx 161 aD) (.mk2 (.slice 161 aD) tI (aQ aE 1 (.vr 0)) (.vr 6)) <|
      .call 0 (.vr 8) <|
      .prim .not (.vr 9) <|
      .ite (.vr 10) (
       .ret (.cb false)) (
       .prim (.ar .add .i64) (.mk2 tI tI (.vr 6) (.ci .i64 1)) <|
       .again 0 (.vr 11))) (
      .ret (.cb true)))))
set_option maxRecDepth 100000 in
theorem aO3:bS Tryz.prog [jU] fL false 3000 ⟨[(2988,8006,mL 21 5 ++ [.dr 1,.dr 0,.tm 24 0])],[]⟩ = .ok xQ:=by kernel_rfl
theorem aPI (x:bZ) (hx:okD aE x) (hp:(fun _=>True) x):xQ.wp [jU] [⟨aE,x⟩] [] (fun v=>v.as .bool = (fun x=>fS x) x):=by
 have hm:List.length x.2≤9223372036854775807:=hx.2.1
 delta xQ jU;refine eS ?_;try with_reducible exact True.intro
 (refine gR ?_;try with_reducible exact True.intro)
 (repeat' first | intro _ | (with_reducible apply And.intro))
 all_goals first | omega | (exact pF fun h=>by have:=h.1;omega) | skip
 refine ⟨fun s=>∃ k:Nat,k≤x.2.length∧s = (k:Int)∧∀ i,i < k→tK (x.2.getD i (aS aD)) = true,fun s=>x.2.length - (s:Int).toNat,⟨0,by omega,rfl,by omega⟩,fun s _ hI=>?_⟩
 obtain ⟨k,hk,rfl,ha⟩:=hI
 (refine gR ?_;try with_reducible exact True.intro)
 constructor
 ·intro hlt
  (repeat' first | intro _ | (with_reducible apply And.intro))
  all_goals first | omega | (exact pF fun h=>by have:=h.2 k (by omega);simp_all) | (exact ⟨k + 1,by omega,rfl,xF ha (by assumption)⟩)
 ·intro hge
  exact pT ⟨⟨by omega,by omega,by omega⟩,fun i hi=>ha i (by omega)⟩
theorem vJ:Con.Holds Tryz.prog fL:=aT aY (aK aGV aU) aO3 fun x hx hp=>aPI x hx hp
noncomputable def fK:Con:=⟨161,aE,.bool,[.val ⟨true,aE,[]⟩],[⟨false,.bool,[0]⟩],false,none,
 ((fun _=>True):(bZ)→Prop),
 ((fun x=>fS x):(bZ)→(Bool))⟩
def vY:T :=
 .loop tI (.ci .i64 0) <|
  .prim (.llen 161 aD) (aQ aE 1 (.vr 0)) <|
  .prim (.cmp .lss .i64) (.mk2 tI tI (.vr 1) (.vr 2)) <|
  .ite (.vr 3) (
   .prim (.lidx 161 aD) (.mk2 (.slice 161 aD) tI (aQ aE 1 (.vr 0)) (.vr 1)) <|
   .call 0 (aQ aD 1 (.vr 4)) <|
   .prim .not (.vr 5) <|
   .ite (.vr 6) (
    .ret (.cb false)) (
    .prim (.lidx 161 aD) (.mk2 (.slice 161 aD) tI (aQ aE 1 (.vr 0)) (.vr 1)) <|
    .call 1 (bF (.pair tI aO) [(.p1 tI aB (.vr 7)),(.ci .i64 0),(.ci .i64 4)]) <|
    .prim .not (.vr 8) <|
    .ite (.vr 9) (
     .ret (.cb false)) (
     .prim (.ar .add .i64) (.mk2 tI tI (.vr 1) (.ci .i64 1)) <|
     .again 0 (.vr 10)))) (
   .call 1 (bF (.pair tI aO) [(.p1 tI (.slice 161 aD) (.vr 0)),(.ci .i64 1),(.ci .i64 5)]) <|
   .ite (.vr 4) (
    .prim (.llen 161 aD) (aQ aE 1 (.vr 0)) <|
    .prim (.cmp .leq .i64) (.mk2 tI tI (.vr 5) (.p1 tI (.slice 161 aD) (.vr 0))) <|
    .ret (.vr 6)) (
    .ret (.cb false)))
set_option maxRecDepth 100000 in
theorem aPD:bS Tryz.prog [bJ,bU] fK false 3000 ⟨[(2993,1001,[.dr 0,.tm 3 0])],[]⟩ = .ok vY:=by kernel_rfl
theorem aOF (x:bZ) (hx:okD aE x) (hp:(fun _=>True) x):vY.wp [bJ,bU] [⟨aE,x⟩] [] (fun v=>v.as .bool = (fun x=>fS x) x):=by
 have hm:List.length x.2≤9223372036854775807:=hx.2.1
 delta vY bJ bU;refine eS ?_;try with_reducible exact True.intro
 refine ⟨fun s=>∃ k:Nat,k≤x.2.length∧s = (k:Int)∧∀ i,i < k→tK (x.2.getD i (aS aD)) = true,fun s=>x.2.length - (s:Int).toNat,⟨0,by omega,rfl,by omega⟩,fun s _ hI=>?_⟩
 obtain ⟨k,hk,rfl,ha⟩:=hI
 (refine gR ?_;try with_reducible exact True.intro)
 intro _
 have hi:=jD (x.2.getD k (aS aD))
 constructor
 ·intro hlt
  (repeat' first | intro _ | (with_reducible apply And.intro))
  all_goals first | omega | (exact pF fun h=>by have h5:=hi.1 (h.2 k (by omega));first | omega | simp_all) | (exact ⟨k + 1,by omega,rfl,xF ha (hi.2 ⟨by assumption,by omega,by omega⟩)⟩)
 ·intro hge
  (repeat' first | intro _ | (with_reducible apply And.intro))
  all_goals first | (exact pF fun h=>by have:=h.1;omega) | (unfold fS;rw [Bool.eq_iff_iff,mH,decide_eq_true_eq];exact ⟨fun h=>⟨⟨by omega,by omega,h⟩,fun i hi=>ha i (by omega)⟩,fun h=>h.1.2.2⟩)
theorem vI:Con.Holds Tryz.prog fK:=aT aY (aK fC (aK jB aU)) aPD fun x hx hp=>aOF x hx hp
noncomputable def pG:Con:=⟨100,aF,.bool,[.val ⟨true,aF,[]⟩],[⟨false,.bool,[0]⟩],false,none,
 ((fun _=>True):(bL)→Prop),
 ((fun x=>jM x):(bL)→(Bool))⟩
def zU:T :=
 .prim (.llen 121 aA) (aJ aF 1 (.vr 0)) <|
 .prim (.cmp .lss .i64) (.mk2 tI tI (.vr 1) (.ci .i64 1)) <|
 .ite (.vr 2) (
  .ret (.cb false)) (
  .prim (.cmp .gtr .i64) (.mk2 tI tI (.vr 1) (.ci .i64 4)) <|
  .ite (.vr 3) (
   .ret (.cb false)) (
   .prim (.llen 157 aE) (aJ aF 2 (.vr 0)) <|
   .prim (.ar .sub .i64) (.mk2 tI tI (.vr 1) (.ci .i64 1)) <|
   .prim (.cmp .neq .i64) (.mk2 tI tI (.vr 4) (.vr 5)) <|
   .ite (.vr 6) (
    .ret (.cb false)) (
    .prim (.llen 157 aE) (aQ aF 3 (.vr 0)) <|
    .prim (.ar .sub .i64) (.mk2 tI tI (.vr 1) (.ci .i64 1)) <|
    .prim (.cmp .neq .i64) (.mk2 tI tI (.vr 7) (.vr 8)) <|
    .ite (.vr 9) (
     .ret (.cb false)) (
     .prim (.llen 126 aI) (.p1 aX (.pair (.slice 121 aA) (.pair aH aH)) (.vr 0)) <|
     .prim (.cmp .lss .i64) (.mk2 tI tI (.vr 10) (.ci .i64 1)) <|
     .ite (.vr 11) (
      .ret (.cb false)) (
      .prim (.llen 126 aI) (.p1 aX (.pair (.slice 121 aA) (.pair aH aH)) (.vr 0)) <|
      .prim (.cmp .gtr .i64) (.mk2 tI tI (.vr 12) (.ci .i64 5)) <|
      .ite (.vr 13) (
       .ret (.cb false)) (
       .prim (.llen 126 aI) (.p1 aX (.pair (.slice 121 aA) (.pair aH aH)) (.vr 0)) <|
       .loop tI (.ci .i64 0) <|
        .prim (.cmp .lss .i64) (.mk2 tI tI (.vr 15) (.vr 14)) <|
        .ite (.vr 16) (
         .prim (.lidx 126 aI) (.mk2 aX tI (.p1 aX (.pair (.slice 121 aA) (.pair aH aH)) (.vr 0)) (.vr 15)) <|
         .call 0 (.p1 aB aB (.vr 17)) <|
         .prim .not (.vr 18) <|
         .ite (.vr 19) (
          .ret (.cb false)) (
          .call 0 (aQ aI 1 (.vr 17)) <|
          .prim .not (.vr 20) <|
          .ite (.vr 21) (
           .ret (.cb false)) (
           .prim (.ar .add .i64) (.mk2 tI tI (.vr 15) (.ci .i64 1)) <|
           .again 0 (.vr 22)))) (
         .prim (.llen 157 aE) (aJ aF 2 (.vr 0)) <|
         .loop tI (.ci .i64 0) <|
          .prim (.cmp .lss .i64) (.mk2 tI tI (.vr 18) (.vr 17)) <|
          .ite (.vr 19) (
           .prim (.lidx 157 aE) (.mk2 aH tI (aJ aF 2 (.vr 0)) (.vr 18)) <|
           .call 1 (.vr 20) <|
           .prim .not (.vr 21) <|
           .ite (.vr 22) (
            .ret (.cb false)) (
            .prim (.lidx 157 aE) (.mk2 aH tI (aQ aF 3 (.vr 0)) (.vr 18)) <|
            .call 1 (.vr 23) <|
            .prim .not (.vr 24) <|
            .ite (.vr 25) (
             .ret (.cb false)) (
             .prim (.ar .add .i64) (.mk2 tI tI (.vr 18) (.ci .i64 1)) <|
             .again 0 (.vr 26)))) (
           .prim (.llen 121 aA) (aJ aF 1 (.vr 0)) <|
           .loop tI (.ci .i64 0) <|
            .prim (.cmp .lss .i64) (.mk2 tI tI (.vr 21) (.vr 20)) <|
            .ite (.vr 22) (
             .prim (.lidx 121 aA) (.mk2 (.slice 121 aA) tI (aJ aF 1 (.vr 0)) (.vr 21)) <|
             .call 2 (.vr 23) <|
             .prim .not (.vr 24) <|
             .ite (.vr 25) (
              .ret (.cb false)) (
              .prim (.ar .sub .i64) (.mk2 tI tI (.vr 1) (.ci .i64 1)) <|
              .prim (.cmp .eql .i64) (.mk2 tI tI (.vr 21) (.vr 26)) <|
              .prim (.eqv true .bool) (.mk2 .bool .bool (aJ aA 3 (.vr 23)) (.vr 27)) <|
              .ite (.vr 28) (
               .ret (.cb false)) (
               .prim (.llen 95 aO) (aJ aA 1 (.vr 23)) <|
               .loop tI (.ci .i64 0) <|
                .prim (.cmp .lss .i64) (.mk2 tI tI (.vr 30) (.vr 29)) <|
                .ite (.vr 31) (
                 .prim (.lidx 95 aO) (.mk2 vK tI (aJ aA 1 (.vr 23)) (.vr 30)) <|
                 .prim (.cmp .lss .i64) (.mk2 tI tI (aQ aO 1 (.vr 32)) (.ci .i64 0)) <|
                 .ite (.vr 33) (
                  .ret (.cb false)) (
                  .prim (.llen 126 aI) (.p1 aX (.pair (.slice 121 aA) (.pair aH aH)) (.vr 0)) <|
                  .prim (.cmp .geq .i64) (.mk2 tI tI (aQ aO 1 (.vr 32)) (.vr 34)) <|
                  .ite (.vr 35) (
                   .ret (.cb false)) (
                   .prim (.ar .add .i64) (.mk2 tI tI (.vr 30) (.ci .i64 1)) <|
                   .again 0 (.vr 36)))) (
                 .prim (.ar .add .i64) (.mk2 tI tI (.vr 21) (.ci .i64 1)) <|
                 .again 1 (.vr 32))))) (
             .ret (.cb true))))))))))
set_option maxRecDepth 100000 in
theorem aSG:bS Tryz.prog [cV,fL,dX] pG false 3000 ⟨[(2981,64015,mL 46 11 ++ [.dr 0,.tm 49 0]),(2971,128018,[.dr 65,.dr 64] ++ mL 50 47 ++ [.tm 67 0]),(2961,256021,[.dr 87] ++ mL 68 66 ++ [.tm 90 0]),(2943,2304030,[.tm 110 0])],[]⟩ = .ok zU:=by kernel_rfl
theorem aRV (x:bL) (hx:okD aF x) (hp:(fun _=>True) x):zU.wp [cV,fL,dX] [⟨aF,x⟩] [] (fun v=>v.as .bool = (fun x=>jM x) x):=by
 obtain ⟨batch,stages,acts,backs⟩:=x
 have hm1:batch.length≤9223372036854775807:=hx.1.1
 have hm2:stages.length≤9223372036854775807:=hx.2.1.1
 have hm3:acts.length≤9223372036854775807:=hx.2.2.1.1
 have hm4:∀ k,k < stages.length→(stages.getD k (aS aA)).2.1.length≤9223372036854775807:=fun k hk=>by rw [bD hk];exact (hx.2.1.2 _ (List.getElem_mem hk)).2.1.1
 delta zU cV fL dX;refine eS ?_;try with_reducible exact True.intro
 (refine gR ?_;try with_reducible exact True.intro)
 (repeat' first | intro _ | (with_reducible apply And.intro))
 all_goals first | omega | (exact pF fun h=>by have:=h.1;dsimp only at this;omega) | skip
 refine ⟨fun s=>∃ k:Nat,k≤batch.length∧s = (k:Int)∧∀ i,i < k→iA (batch.getD i (aS aI)).1 = true∧iA (batch.getD i (aS aI)).2 = true,fun s=>batch.length - (s:Int).toNat,⟨0,by omega,rfl,by omega⟩,fun s _ hI=>?_⟩
 obtain ⟨k,hk,rfl,ha⟩:=hI
 (refine gR ?_;try with_reducible exact True.intro)
 constructor
 ·intro hlt
  (repeat' first | intro _ | (with_reducible apply And.intro))
  all_goals first | omega | (exact pF fun h=>by have:=h.2.1 k (by dsimp only;omega);dsimp only at this;simp_all) | (exact ⟨k + 1,by omega,rfl,xF ha ⟨by assumption,by assumption⟩⟩)
 intro hge _
 have hb:∀ i,i < batch.length→iA (batch.getD i (aS aI)).1 = true∧iA (batch.getD i (aS aI)).2 = true:=fun i hi=>ha i (by omega)
 clear ha
 refine ⟨fun s=>∃ k:Nat,k≤acts.length∧s = (k:Int)∧∀ i,i < k→fS (acts.getD i (aS aE)) = true∧fS (backs.getD i (aS aE)) = true,fun s=>acts.length - (s:Int).toNat,⟨0,by omega,rfl,by omega⟩,fun s _ hI=>?_⟩
 obtain ⟨k2,hk2,rfl,ha⟩:=hI
 (refine gR ?_;try with_reducible exact True.intro)
 constructor
 ·intro hlt
  (repeat' first | intro _ | (with_reducible apply And.intro))
  all_goals first | omega | (exact pF fun h=>by have:=h.2.2.1 k2 (by dsimp only;omega);dsimp only at this;simp_all) | (exact ⟨k2 + 1,by omega,rfl,xF ha ⟨by assumption,by assumption⟩⟩)
 intro hge2 _
 have hq:∀ i,i < acts.length→fS (acts.getD i (aS aE)) = true∧fS (backs.getD i (aS aE)) = true:=fun i hi=>ha i (by omega)
 clear ha
 refine ⟨fun s=>∃ k:Nat,k≤stages.length∧s = (k:Int)∧∀ i,i < k→yE (batch,stages,acts,backs) i,fun s=>stages.length - (s:Int).toNat,⟨0,by omega,rfl,by omega⟩,fun s _ hI=>?_⟩
 obtain ⟨k3,hk3,rfl,ha⟩:=hI
 simp only [oL,bD0,aZB,aYU]
 have hm5:=hm4 k3
 constructor
 ·intro hlt
  have bad:¬ yE (batch,stages,acts,backs) k3→false = jM (batch,stages,acts,backs):=fun h=>pF fun hh=>h (hh.2.2.2 k3 (by dsimp only;omega))
  (repeat' first | intro _ | (with_reducible apply And.intro))
  all_goals first | omega | (exact bad fun h=>absurd h.2.1 (by assumption)) | (exact bad fun h=>Bool.noConfusion (h.1.symm.trans (by assumption:_ = false))) | skip
  refine ⟨fun s=>∃ k:Nat,k≤(stages.getD k3 (aS aA)).2.1.length∧s = (k:Int)∧∀ i,i < k→0≤((stages.getD k3 (aS aA)).2.1.getD i (aS aO)).2∧((stages.getD k3 (aS aA)).2.1.getD i (aS aO)).2 < (batch.length:Int),fun s=>(stages.getD k3 (aS aA)).2.1.length - (s:Int).toNat,⟨0,by omega,rfl,by omega⟩,fun s _ hI=>?_⟩
  obtain ⟨k4,hk4,rfl,hc⟩:=hI
  (refine gR ?_;try with_reducible exact True.intro)
  (repeat' first | intro _ | (with_reducible apply And.intro))
  all_goals first | omega | (exact bad fun h=>by have h5:=h.2.2 k4 (by dsimp only;omega);dsimp only at h5;omega) | (exact ⟨k4 + 1,by omega,rfl,xF hc ⟨by omega,by omega⟩⟩) | (exact ⟨k3 + 1,by omega,rfl,xF ha ⟨by assumption,by assumption,fun i hi=>hc i (by dsimp only at hi;omega)⟩⟩)
 ·intro hge3
  exact pT ⟨⟨by dsimp only;omega,by dsimp only;omega,by dsimp only;omega,by dsimp only;omega,by dsimp only;omega,by dsimp only;omega⟩,hb,hq,fun i hi=>ha i (by dsimp only at hi;omega)⟩
theorem aSH:Con.Holds Tryz.prog pG:=aT aY (aK mP (aK vJ (aK rI aU))) aSG fun x hx hp=>aRV x hx hp
noncomputable def qD:Con:=⟨98,aF,.bool,[.val ⟨true,aF,[]⟩],[⟨false,.bool,[0]⟩],false,none,
 ((fun _=>True):(bL)→Prop),
 ((fun x=>jM x):(bL)→(Bool))⟩
def zX:T :=
 .prim (.llen 121 aA) (aJ aF 1 (.vr 0)) <|
 .call 0 (bF (.pair tI aO) [(.vr 1),(.ci .i64 1),(.ci .i64 4)]) <|
 .prim .not (.vr 2) <|
 .ite (.vr 3) (
  .ret (.cb false)) (
  .prim (.llen 157 aE) (aJ aF 2 (.vr 0)) <|
  .prim (.ar .sub .i64) (.mk2 tI tI (.vr 1) (.ci .i64 1)) <|
  .prim (.cmp .neq .i64) (.mk2 tI tI (.vr 4) (.vr 5)) <|
  .ite (.vr 6) (
   .ret (.cb false)) (
   .prim (.llen 157 aE) (aQ aF 3 (.vr 0)) <|
   .prim (.ar .sub .i64) (.mk2 tI tI (.vr 1) (.ci .i64 1)) <|
   .prim (.cmp .neq .i64) (.mk2 tI tI (.vr 7) (.vr 8)) <|
   .ite (.vr 9) (
    .ret (.cb false)) (
    .prim (.llen 126 aI) (.p1 aX (.pair (.slice 121 aA) (.pair aH aH)) (.vr 0)) <|
    .call 0 (bF (.pair tI aO) [(.vr 10),(.ci .i64 1),(.ci .i64 5)]) <|
    .prim .not (.vr 11) <|
    .ite (.vr 12) (
     .ret (.cb false)) (
     .loop tI (.ci .i64 0) <|
      .prim (.cmp .lss .i64) (.mk2 tI tI (.vr 13) (.vr 1)) <|
      .ite (.vr 14) (
       .prim (.lidx 121 aA) (.mk2 (.slice 121 aA) tI (aJ aF 1 (.vr 0)) (.vr 13)) <|
       .call 1 (.vr 15) <|
       .prim .not (.vr 16) <|
       .ite (.vr 17) (
        .ret (.cb false)) (
        .prim (.ar .sub .i64) (.mk2 tI tI (.vr 1) (.ci .i64 1)) <|
        .prim (.cmp .eql .i64) (.mk2 tI tI (.vr 13) (.vr 18)) <|
        .prim (.eqv true .bool) (.mk2 .bool .bool (aJ aA 3 (.vr 15)) (.vr 19)) <|
        .ite (.vr 20) (
         .ret (.cb false)) (
         .loop tI (.ci .i64 0) <|
          .prim (.llen 95 aO) (aJ aA 1 (.vr 15)) <|
          .prim (.cmp .lss .i64) (.mk2 tI tI (.vr 21) (.vr 22)) <|
          .ite (.vr 23) (
           .prim (.lidx 95 aO) (.mk2 vK tI (aJ aA 1 (.vr 15)) (.vr 21)) <|
           .prim (.llen 126 aI) (.p1 aX (.pair (.slice 121 aA) (.pair aH aH)) (.vr 0)) <|
           .prim (.ar .sub .i64) (.mk2 tI tI (.vr 25) (.ci .i64 1)) <|
           .call 0 (bF (.pair tI aO) [(aQ aO 1 (.vr 24)),(.ci .i64 0),(.vr 26)]) <|
           .prim .not (.vr 27) <|
           .ite (.vr 28) (
            .ret (.cb false)) (
            .prim (.ar .add .i64) (.mk2 tI tI (.vr 21) (.ci .i64 1)) <|
            .again 0 (.vr 29))) (
           .prim (.cmp .gtr .i64) (.mk2 tI tI (.vr 13) (.ci .i64 0)) <|
           .ite (.vr 24) (
            .prim (.ar .sub .i64) (.mk2 tI tI (.vr 13) (.ci .i64 1)) <|
            .prim (.lidx 157 aE) (.mk2 aH tI (aJ aF 2 (.vr 0)) (.vr 25)) <|
            .call 2 (.vr 26) <|
            .prim .not (.vr 27) <|
            .ite (.vr 28) (
             .ret (.cb false)) (
             .prim (.ar .sub .i64) (.mk2 tI tI (.vr 13) (.ci .i64 1)) <|
             .prim (.lidx 157 aE) (.mk2 aH tI (aQ aF 3 (.vr 0)) (.vr 29)) <|
             .call 2 (.vr 30) <|
             .prim .not (.vr 31) <|
             .ite (.vr 32) (
              .ret (.cb false)) (
              .prim (.ar .add .i64) (.mk2 tI tI (.vr 13) (.ci .i64 1)) <|
              .again 1 (.vr 33)))) (
            .prim (.ar .add .i64) (.mk2 tI tI (.vr 13) (.ci .i64 1)) <|
            .again 1 (.vr 25)))))) (
       .loop tI (.ci .i64 0) <|
        .prim (.llen 126 aI) (.p1 aX (.pair (.slice 121 aA) (.pair aH aH)) (.vr 0)) <|
        .prim (.cmp .lss .i64) (.mk2 tI tI (.vr 15) (.vr 16)) <|
        .ite (.vr 17) (
         .prim (.lidx 126 aI) (.mk2 aX tI (.p1 aX (.pair (.slice 121 aA) (.pair aH aH)) (.vr 0)) (.vr 15)) <|
         .call 3 (.p1 aB aB (.vr 18)) <|
         .prim .not (.vr 19) <|
         .ite (.vr 20) (
          .ret (.cb false)) (
          .prim (.lidx 126 aI) (.mk2 aX tI (.p1 aX (.pair (.slice 121 aA) (.pair aH aH)) (.vr 0)) (.vr 15)) <|
          .call 3 (aQ aI 1 (.vr 21)) <|
          .prim .not (.vr 22) <|
          .ite (.vr 23) (
           .ret (.cb false)) (
           .prim (.ar .add .i64) (.mk2 tI tI (.vr 15) (.ci .i64 1)) <|
           .again 0 (.vr 24)))) (
         .ret (.cb true)))))))
set_option maxRecDepth 100000 in
theorem aSS:bS Tryz.prog [bU,dT,fK,bJ] qD false 3000 ⟨[(2986,16013,mL 36 8 ++ [.dr 0,.tm 4 0]),(2967,144021,[.tm 6 0]),(2976,32015,mL 39 37 ++ [.dr 4,.dr 3,.tm 7 0])],[]⟩ = .ok zX:=by kernel_rfl
theorem aT6 (x:bL) (hx:okD aF x) (hp:(fun _=>True) x):zX.wp [bU,dT,fK,bJ] [⟨aF,x⟩] [] (fun v=>v.as .bool = (fun x=>jM x) x):=by
 obtain ⟨batch,stages,acts,backs⟩:=x
 have hm1:batch.length≤9223372036854775807:=hx.1.1
 have hm2:stages.length≤9223372036854775807:=hx.2.1.1
 have hm3:acts.length≤9223372036854775807:=hx.2.2.1.1
 have hm4:∀ k,k < stages.length→(stages.getD k (aS aA)).2.1.length≤9223372036854775807:=fun k hk=>by rw [bD hk];exact (hx.2.1.2 _ (List.getElem_mem hk)).2.1.1
 delta zX bU dT fK bJ;refine eS ?_;try with_reducible exact True.intro
 (refine gR ?_;try with_reducible exact True.intro)
 (repeat' first | intro _ | (with_reducible apply And.intro))
 all_goals first | omega | (exact pF fun h=>by have:=h.1;dsimp only at this;omega) | skip
 refine ⟨fun s=>∃ k:Nat,k≤stages.length∧s = (k:Int)∧∀ i,i < k→yE (batch,stages,acts,backs) i∧(0 < i→fS (acts.getD (i - 1) (aS aE)) = true∧fS (backs.getD (i - 1) (aS aE)) = true),fun s=>stages.length - (s:Int).toNat,⟨0,by omega,rfl,by omega⟩,fun s _ hI=>?_⟩
 obtain ⟨k3,hk3,rfl,ha⟩:=hI
 simp only [oL,bD0,aZB,aYU]
 have hm5:=hm4 k3
 constructor
 ·intro hlt
  have bad:¬ yE (batch,stages,acts,backs) k3→false = jM (batch,stages,acts,backs):=fun h=>pF fun hh=>h (hh.2.2.2 k3 (by dsimp only;omega))
  have bad2:0 < k3→¬ (fS (acts.getD (k3 - 1) (aS aE)) = true∧fS (backs.getD (k3 - 1) (aS aE)) = true)→false = jM (batch,stages,acts,backs):=fun h0 h=>pF fun hh=>h (hh.2.2.1 (k3 - 1) (by have:=hh.1;dsimp only at this ⊢;omega))
  (repeat' first | intro _ | (with_reducible apply And.intro))
  all_goals first | omega | (exact bad fun h=>absurd h.2.1 (by assumption)) | (exact bad fun h=>Bool.noConfusion (h.1.symm.trans (by assumption:_ = false))) | skip
  refine ⟨fun s=>∃ k:Nat,k≤(stages.getD k3 (aS aA)).2.1.length∧s = (k:Int)∧∀ i,i < k→0≤((stages.getD k3 (aS aA)).2.1.getD i (aS aO)).2∧((stages.getD k3 (aS aA)).2.1.getD i (aS aO)).2 < (batch.length:Int),fun s=>(stages.getD k3 (aS aA)).2.1.length - (s:Int).toNat,⟨0,by omega,rfl,by omega⟩,fun s _ hI=>?_⟩
  obtain ⟨k4,hk4,rfl,hc⟩:=hI
  (refine gR ?_;try with_reducible exact True.intro)
  (repeat' first | intro _ | (with_reducible apply And.intro))
  all_goals first | omega | (exact bad fun h=>by have h5:=h.2.2 k4 (by dsimp only;omega);dsimp only at h5;omega) | (exact ⟨k4 + 1,by omega,rfl,xF hc ⟨by omega,by omega⟩⟩) | (exact bad2 (by omega) fun h=>by simp_all;done) | (exact ⟨k3 + 1,by omega,rfl,xF ha ⟨⟨by assumption,by assumption,fun i hi=>hc i (by dsimp only at hi;omega)⟩,fun _=>⟨by first | assumption | omega,by first | assumption | omega⟩⟩⟩)
 intro hge3
 have hs:∀ i,i < stages.length→yE (batch,stages,acts,backs) i:=fun i hi=>(ha i (by omega)).1
 have hq:∀ i,i < acts.length→fS (acts.getD i (aS aE)) = true∧fS (backs.getD i (aS aE)) = true:=fun i hi=>(ha (i + 1) (by omega)).2 (by omega)
 clear ha
 refine ⟨fun s=>∃ k:Nat,k≤batch.length∧s = (k:Int)∧∀ i,i < k→iA (batch.getD i (aS aI)).1 = true∧iA (batch.getD i (aS aI)).2 = true,fun s=>batch.length - (s:Int).toNat,⟨0,by omega,rfl,by omega⟩,fun s _ hI=>?_⟩
 obtain ⟨k,hk,rfl,ha⟩:=hI
 (refine gR ?_;try with_reducible exact True.intro)
 intro _
 constructor
 ·intro hlt
  (repeat' first | intro _ | (with_reducible apply And.intro))
  all_goals first | omega | (exact pF fun h=>by have:=h.2.1 k (by dsimp only;omega);dsimp only at this;simp_all) | (exact ⟨k + 1,by omega,rfl,xF ha ⟨by assumption,by assumption⟩⟩)
 intro hge
 exact pT ⟨⟨by dsimp only;omega,by dsimp only;omega,by dsimp only;omega,by dsimp only;omega,by dsimp only;omega,by dsimp only;omega⟩,fun i hi=>ha i (by dsimp only at hi;omega),hq,hs⟩
theorem aR9:Con.Holds Tryz.prog qD:=aT aY (aK jB (aK qZ (aK vI (aK fC aU)))) aSS fun x hx hp=>aT6 x hx hp
end Go.Proofs.YtmfpkkbhnmkfdaaGreat
