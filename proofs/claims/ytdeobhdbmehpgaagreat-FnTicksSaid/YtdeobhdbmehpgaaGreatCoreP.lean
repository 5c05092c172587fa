/- CoreP: lemmas. No conditions. -/
import Derived.Test.YtdeobhdbmehpgaaGreatCore9
namespace Go.Proofs.YtdeobhdbmehpgaaGreat
set_option maxRecDepth 100000
open Go.ChangeShapes Go.WideShapes Go.ChangeAt Go.RowKit Go.Deep
set_option linter.unusedVariables false
set_option linter.unusedSimpArgs false
theorem bBE {p:aY} {s:Int} (h:dQ p s=false):p=eR p s:=by unfold eR;rw[if_neg (by rw[h];simp)]
theorem aII {p:aY} {s:Int} (h:dQ p s=true):jR p=true∧0≤s∧s<(p.2.1.length:Int):=by
 unfold dQ at h;split at h
 ·assumption
 ·cases h
theorem aPM {p:aY} {s:Int} (h:dQ p s=true):((bL p s).1=1→0<s)∧((bL p s).1=3→s<(p.2.1.length:Int) - 1)∧((bL p s).1=4→s<(p.2.1.length:Int) - 1)∧((bL p s).1=7→0<s)∧¬ (bL p s).1=0:=by
 obtain ⟨h1,h2,h3⟩:=aII h
 refine ⟨fun k=>?_,fun k=>?_,fun k=>?_,fun k=>?_,fun k=>?_⟩
 ·rw[bMM h1 h2 h3 k,Bool.and_eq_true,decide_eq_true_eq] at h;exact h.1
 ·rw[bMO h1 h2 h3 k,Bool.and_eq_true,decide_eq_true_eq] at h;exact h.1
 ·rw[bM0 h1 h2 h3 k,Bool.and_eq_true,decide_eq_true_eq] at h;exact h.1
 ·rw[bMG h1 h2 h3 k,Bool.and_eq_true,decide_eq_true_eq] at h;exact h.1
 ·rw[← bLZ (p:=p) (s:=s) (by omega)] at h;cases h
theorem bN3 {p:aY} {s:Int} (h:dQ p s=true):0≤(bL p s).2∧(bL p s).2<(p.1.length:Int):=by
 obtain ⟨h1,h2,h3⟩:=aII h
 have hk:=(aPM h).2.2.2.2
 have hs:=(mM.1 h1).2.2.2 s.toNat (by omega)
 unfold bL at hk ⊢
 split at hk
 ·rename_i hh
  rw[if_pos hh]
  exact hs.2.2 _ (by omega)
 ·exact absurd rfl hk
theorem bBJ (s:bA) (m:Int) (x t:List Int):(yU s m x t).1=s.1:=by unfold yU;split <;> rfl
theorem aSJ (s:bA) (m:Int):(rH s m).1=s.1:=by unfold rH;split <;> rfl
theorem bBO (s:bA) (m:Int) (t:List Int):(uH s m t).1=s.1:=by unfold uH;split <;> rfl
theorem bHN {p:aY} {s:Int} (h:dQ p s=true) (k:(bL p s).1=1):(p.1,List.set p.2.1 s.toNat (wA (bJ1 (hZ p s) (wJ (p.2.2.1.getD (s - 1).toNat (aV aL))).2.1.2) ((hZ p s).1+1)),List.set p.2.2.1 (s - 1).toNat (wJ (p.2.2.1.getD (s - 1).toNat (aV aL))).1,p.2.2.2)=eR p s:=by
 unfold eR;rw[if_pos h];unfold jM wG wL;rw[k];rfl
theorem bID {p:aY} {s:Int} (h:dQ p s=true) (k:(bL p s).1=2) (h0:s=0) :
  (p.1,List.set p.2.1 s.toNat (wA (yU (hZ p s) (bL p s).2 (p.1.getD (bL p s).2.toNat (aV aM)).1 (p.1.getD (bL p s).2.toNat (aV aM)).2) ((yU (hZ p s) (bL p s).2 (p.1.getD (bL p s).2.toNat (aV aM)).1 (p.1.getD (bL p s).2.toNat (aV aM)).2).1+1)),p.2.2.1,p.2.2.2)=eR p s:=by
 unfold eR;rw[if_pos h];unfold jM wG wL;rw[k,if_pos h0];rfl
theorem bC2 {p:aY} {s:Int} (h:dQ p s=true) (k:(bL p s).1=2) (h0:¬ s=0) :
  (p.1,List.set p.2.1 s.toNat (wA (yU (hZ p s) (bL p s).2 (hZ p s).2.2.2.2.2.2.2.1 (p.1.getD (bL p s).2.toNat (aV aM)).2) ((yU (hZ p s) (bL p s).2 (hZ p s).2.2.2.2.2.2.2.1 (p.1.getD (bL p s).2.toNat (aV aM)).2).1+1)),p.2.2.1,p.2.2.2)=eR p s:=by
 unfold eR;rw[if_pos h];unfold jM wG wL;rw[k,if_neg h0];rfl
theorem bGE {p:aY} {s:Int} (h:dQ p s=true) (k:(bL p s).1=3):(p.1,List.set p.2.1 s.toNat (wA (bJN (hZ p s) []) ((hZ p s).1+1)),List.set p.2.2.1 s.toNat (tV (p.2.2.1.getD s.toNat (aV aL)) ((bL p s).2,(hZ p s).2.2.2.2.2.2.2.2.1)).1,p.2.2.2)=eR p s:=by
 unfold eR;rw[if_pos h];unfold jM wG wL;rw[k];rfl
theorem bIW {p:aY} {s:Int} (h:dQ p s=true) (k:(bL p s).1=4):(p.1,List.set p.2.1 s.toNat (wA (bK4 (hZ p s) (wJ (p.2.2.2.getD s.toNat (aV aL))).2.1.2) ((hZ p s).1+1)),p.2.2.1,List.set p.2.2.2 s.toNat (wJ (p.2.2.2.getD s.toNat (aV aL))).1)=eR p s:=by
 unfold eR;rw[if_pos h];unfold jM wG wL;rw[k];rfl
theorem bGF {p:aY} {s:Int} (h:dQ p s=true) (k:(bL p s).1=5):(p.1,List.set p.2.1 s.toNat (wA (rH (hZ p s) (bL p s).2) ((rH (hZ p s) (bL p s).2).1+1)),p.2.2.1,p.2.2.2)=eR p s:=by
 unfold eR;rw[if_pos h];unfold jM wG wL;rw[k];rfl
theorem bG6 {p:aY} {s:Int} (h:dQ p s=true) (k:(bL p s).1=6) (h0:s=0) :
  (p.1,List.set p.2.1 s.toNat (wA (aO6 (uH (hZ p s) (bL p s).2 (p.1.getD (bL p s).2.toNat (aV aM)).2) []) ((uH (hZ p s) (bL p s).2 (p.1.getD (bL p s).2.toNat (aV aM)).2).1+1)),p.2.2.1,p.2.2.2)=eR p s:=by
 unfold eR;rw[if_pos h];unfold jM wG wL;simp only[k,if_pos h0];rfl
theorem bB9 {p:aY} {s:Int} (h:dQ p s=true) (k:(bL p s).1=6) (h0:¬ s=0) :
  (p.1,List.set p.2.1 s.toNat (wA (uH (hZ p s) (bL p s).2 (p.1.getD (bL p s).2.toNat (aV aM)).2) ((uH (hZ p s) (bL p s).2 (p.1.getD (bL p s).2.toNat (aV aM)).2).1+1)),p.2.2.1,p.2.2.2)=eR p s:=by
 unfold eR;rw[if_pos h];unfold jM wG wL;simp only[k,if_neg h0];rfl
theorem bIY {p:aY} {s:Int} (h:dQ p s=true) (k:(bL p s).1=7):(p.1,List.set p.2.1 s.toNat (wA (aO6 (hZ p s) []) ((hZ p s).1+1)),p.2.2.1,List.set p.2.2.2 (s - 1).toNat (tV (p.2.2.2.getD (s - 1).toNat (aV aL)) ((bL p s).2,(hZ p s).2.2.2.2.2.2.2.2.2.2.1)).1)=eR p s:=by
 unfold eR;rw[if_pos h];unfold jM wG wL;rw[k];rfl
theorem bGJ {p:aY} {s:Int} (h:dQ p s=true) (h1:¬ (bL p s).1=1) (h2:¬ (bL p s).1=2) (h3:¬ (bL p s).1=3) (h4:¬ (bL p s).1=4) (h5:¬ (bL p s).1=5) (h6:¬ (bL p s).1=6) (h7:¬ (bL p s).1=7) :
  (p.1,List.set p.2.1 s.toNat (wA (hZ p s) ((hZ p s).1+1)),p.2.2.1,p.2.2.2)=eR p s:=by
 unfold eR;rw[if_pos h];unfold jM wG wL;simp only[if_neg h1,if_neg h2,if_neg h3,if_neg h4,if_neg h5,if_neg h6,if_neg h7]
noncomputable def pR:Con:=⟨46,(.bNT aC tI),aC,[.val ⟨true,aC,[]⟩,.val ⟨false,tI,[]⟩],[⟨true,aC,[0,0,0,0]⟩],false,none,
 ((fun x=>bQ aC x.1≤1000000000):(aY × Int)→Prop),
 ((fun x=>eR x.1 x.2):(aY × Int)→(aY))⟩
def aJZ:T:=.call 0 (.p1 aC tI (.Z 0)) <|.call 1 (.Z 0) <|
 .bNU .not (.Z 2) <|
 .ite (.Z 3) (
  .ret (.Z 1)) (
  .bNU (.bNY 38 aA) (.bNV (.slice 38 aA) tI (aJ aC 1 (.Z 1)) (aO (.bNT aC tI) 1 (.Z 0))) <|
  .bNU (.bNY 38 aA) (.bNV (.slice 38 aA) tI (aJ aC 1 (.Z 1)) (aO (.bNT aC tI) 1 (.Z 0))) <|
  .call 2 (.Z 0) <|
  .bNU (.cmp .eql .i64) (.bNV tI tI (.p1 tI tI (.Z 6)) (.ci .i64 1)) <|
  .ite (.Z 7) (
   .bNU (.ar .sub .i64) (.bNV tI tI (aO (.bNT aC tI) 1 (.Z 0)) (.ci .i64 1)) <|
   .bNU (.bNY 119 aL) (.bNV aG tI (aJ aC 2 (.Z 1)) (.Z 8)) <|
   .bNU (.bNY 119 aL) (.bNV aG tI (aJ aC 2 (.Z 1)) (.Z 8)) <|
   .call 3 (.Z 10) <|
   .bNU (.ar .sub .i64) (.bNV tI tI (aO (.bNT aC tI) 1 (.Z 0)) (.ci .i64 1)) <|
   .bNU (.bNY 119 aL) (.bNV aG tI (aJ aC 2 (.Z 1)) (.Z 12)) <|
   .bNU (.bO1 119 aL) (bB (.bNT aG (.bNT tI aL)) [(aJ aC 2 (.Z 1)),(.Z 12),(.p1 aL (.bNT aF .bool) (.Z 11))]) <|
   .bNU (.ar .add .i64) (.bNV tI tI (.p1 tI cU (.Z 5)) (.ci .i64 1)) <|
   .bNU (.bNY 38 aA) (.bNV (.slice 38 aA) tI (aJ aC 1 (.Z 1)) (aO (.bNT aC tI) 1 (.Z 0))) <|
   .bNU (.bO1 38 aA) (bB (.bNT (.slice 38 aA) (.bNT tI aA)) [(aJ aC 1 (.Z 1)),(aO (.bNT aC tI) 1 (.Z 0)),(.Z 15),(aJ aA 1 (.Z 5)),(aJ aA 2 (.Z 5)),(aJ aA 3 (.Z 5)),(aJ aA 4 (.Z 5)),(aJ aA 5 (.Z 5)),(aJ aA 6 (.Z 5)),(aO aF 1 (aJ (.bNT aL (.bNT aF .bool)) 1 (.Z 11))),(aO aA 8 (.Z 5))]) <|
   .ret (bB aC [(.p1 aN (.bNT (.slice 38 aA) (.bNT aG aG)) (.Z 1)),(.Z 17),(.Z 14),(aO aC 3 (.Z 1))])) (
   .bNU (.cmp .eql .i64) (.bNV tI tI (.p1 tI tI (.Z 6)) (.ci .i64 2)) <|
   .ite (.Z 8) (
    .bNU (.cmp .eql .i64) (.bNV tI tI (aO (.bNT aC tI) 1 (.Z 0)) (.ci .i64 0)) <|
    .ite (.Z 9) (
     .bNU (.bNY 94 aM) (.bNV aN tI (.p1 aN (.bNT (.slice 38 aA) (.bNT aG aG)) (.Z 1)) (aO aE 1 (.Z 6))) <|
     .bNU (.bNY 94 aM) (.bNV aN tI (.p1 aN (.bNT (.slice 38 aA) (.bNT aG aG)) (.Z 1)) (aO aE 1 (.Z 6))) <|
     .bNU (.bNY 94 aM) (.bNV aN tI (.p1 aN (.bNT (.slice 38 aA) (.bNT aG aG)) (.Z 1)) (aO aE 1 (.Z 6))) <|
     .bNU (.bNY 94 aM) (.bNV aN tI (.p1 aN (.bNT (.slice 38 aA) (.bNT aG aG)) (.Z 1)) (aO aE 1 (.Z 6))) <|
     .call 4 (bB (.bNT aA (.bNT tI aM)) [(.Z 5),(aO aE 1 (.Z 6)),(.p1 aB aB (.Z 11)),(aO aM 1 (.Z 13))]) <|
     .bNU (.ar .add .i64) (.bNV tI tI (.p1 tI cU (.Z 14)) (.ci .i64 1)) <|
     .bNU (.bNY 38 aA) (.bNV (.slice 38 aA) tI (aJ aC 1 (.Z 1)) (aO (.bNT aC tI) 1 (.Z 0))) <|
     .bNU (.bO1 38 aA) (bB (.bNT (.slice 38 aA) (.bNT tI aA)) [(aJ aC 1 (.Z 1)),(aO (.bNT aC tI) 1 (.Z 0)),(.Z 15),(aO aA 1 (.Z 14))]) <|
     .ret (bB aC [(.p1 aN (.bNT (.slice 38 aA) (.bNT aG aG)) (.Z 1)),(.Z 17),(aO aC 2 (.Z 1))])) (
     .bNU (.bNY 94 aM) (.bNV aN tI (.p1 aN (.bNT (.slice 38 aA) (.bNT aG aG)) (.Z 1)) (aO aE 1 (.Z 6))) <|
     .bNU (.bNY 94 aM) (.bNV aN tI (.p1 aN (.bNT (.slice 38 aA) (.bNT aG aG)) (.Z 1)) (aO aE 1 (.Z 6))) <|
     .call 4 (bB (.bNT aA (.bNT tI aM)) [(.Z 5),(aO aE 1 (.Z 6)),(aJ aA 7 (.Z 5)),(aO aM 1 (.Z 11))]) <|
     .bNU (.ar .add .i64) (.bNV tI tI (.p1 tI cU (.Z 12)) (.ci .i64 1)) <|
     .bNU (.bNY 38 aA) (.bNV (.slice 38 aA) tI (aJ aC 1 (.Z 1)) (aO (.bNT aC tI) 1 (.Z 0))) <|
     .bNU (.bO1 38 aA) (bB (.bNT (.slice 38 aA) (.bNT tI aA)) [(aJ aC 1 (.Z 1)),(aO (.bNT aC tI) 1 (.Z 0)),(.Z 13),(aO aA 1 (.Z 12))]) <|
     .ret (bB aC [(.p1 aN (.bNT (.slice 38 aA) (.bNT aG aG)) (.Z 1)),(.Z 15),(aO aC 2 (.Z 1))]))) (
    .bNU (.cmp .eql .i64) (.bNV tI tI (.p1 tI tI (.Z 6)) (.ci .i64 3)) <|
    .ite (.Z 9) (
     .bNU (.bNY 119 aL) (.bNV aG tI (aJ aC 2 (.Z 1)) (aO (.bNT aC tI) 1 (.Z 0))) <|
     .bNU (.bNY 119 aL) (.bNV aG tI (aJ aC 2 (.Z 1)) (aO (.bNT aC tI) 1 (.Z 0))) <|
     .call 5 (bB (.bNT aL aF) [(.Z 11),(aO aE 1 (.Z 6)),(aJ aA 8 (.Z 5))]) <|
     .bNU (.bNY 119 aL) (.bNV aG tI (aJ aC 2 (.Z 1)) (aO (.bNT aC tI) 1 (.Z 0))) <|
     .bNU (.bO1 119 aL) (bB (.bNT aG (.bNT tI aL)) [(aJ aC 2 (.Z 1)),(aO (.bNT aC tI) 1 (.Z 0)),(.p1 aL .bool (.Z 12))]) <|
     .bNU (.ar .add .i64) (.bNV tI tI (.p1 tI cU (.Z 5)) (.ci .i64 1)) <|
     .bNU (.bNY 38 aA) (.bNV (.slice 38 aA) tI (aJ aC 1 (.Z 1)) (aO (.bNT aC tI) 1 (.Z 0))) <|
     .bNU (.bO1 38 aA) (bB (.bNT (.slice 38 aA) (.bNT tI aA)) [(aJ aC 1 (.Z 1)),(aO (.bNT aC tI) 1 (.Z 0)),(.Z 15),(aJ aA 1 (.Z 5)),(aJ aA 2 (.Z 5)),(aJ aA 3 (.Z 5)),(aJ aA 4 (.Z 5)),(aJ aA 5 (.Z 5)),(aJ aA 6 (.Z 5)),(aJ aA 7 (.Z 5)),(.nl 3 tI),(aO aA 9 (.Z 5))]) <|
     .ret (bB aC [(.p1 aN (.bNT (.slice 38 aA) (.bNT aG aG)) (.Z 1)),(.Z 17),(.Z 14),(aO aC 3 (.Z 1))])) (
     .bNU (.cmp .eql .i64) (.bNV tI tI (.p1 tI tI (.Z 6)) (.ci .i64 4)) <|
     .ite (.Z 10) (
      .bNU (.bNY 119 aL) (.bNV aG tI (aO aC 3 (.Z 1)) (aO (.bNT aC tI) 1 (.Z 0))) <|
      .bNU (.bNY 119 aL) (.bNV aG tI (aO aC 3 (.Z 1)) (aO (.bNT aC tI) 1 (.Z 0))) <|
      .call 3 (.Z 12) <|
      .bNU (.bNY 119 aL) (.bNV aG tI (aO aC 3 (.Z 1)) (aO (.bNT aC tI) 1 (.Z 0))) <|
      .bNU (.bO1 119 aL) (bB (.bNT aG (.bNT tI aL)) [(aO aC 3 (.Z 1)),(aO (.bNT aC tI) 1 (.Z 0)),(.p1 aL (.bNT aF .bool) (.Z 13))]) <|
      .bNU (.ar .add .i64) (.bNV tI tI (.p1 tI cU (.Z 5)) (.ci .i64 1)) <|
      .bNU (.bNY 38 aA) (.bNV (.slice 38 aA) tI (aJ aC 1 (.Z 1)) (aO (.bNT aC tI) 1 (.Z 0))) <|
      .bNU (.bO1 38 aA) (bB (.bNT (.slice 38 aA) (.bNT tI aA)) [(aJ aC 1 (.Z 1)),(aO (.bNT aC tI) 1 (.Z 0)),(.Z 16),(aJ aA 1 (.Z 5)),(aJ aA 2 (.Z 5)),(aJ aA 3 (.Z 5)),(aJ aA 4 (.Z 5)),(aJ aA 5 (.Z 5)),(aJ aA 6 (.Z 5)),(aJ aA 7 (.Z 5)),(aJ aA 8 (.Z 5)),(aO aF 1 (aJ (.bNT aL (.bNT aF .bool)) 1 (.Z 13))),(aO aA 10 (.Z 5))]) <|
      .ret (bB aC [(.p1 aN (.bNT (.slice 38 aA) (.bNT aG aG)) (.Z 1)),(.Z 18),(aJ aC 2 (.Z 1)),(.Z 15)])) (
      .bNU (.cmp .eql .i64) (.bNV tI tI (.p1 tI tI (.Z 6)) (.ci .i64 5)) <|
      .ite (.Z 11) (
       .call 6 (.bNV aA tI (.Z 5) (aO aE 1 (.Z 6))) <|
       .bNU (.ar .add .i64) (.bNV tI tI (.p1 tI cU (.Z 12)) (.ci .i64 1)) <|
       .bNU (.bNY 38 aA) (.bNV (.slice 38 aA) tI (aJ aC 1 (.Z 1)) (aO (.bNT aC tI) 1 (.Z 0))) <|
       .bNU (.bO1 38 aA) (bB (.bNT (.slice 38 aA) (.bNT tI aA)) [(aJ aC 1 (.Z 1)),(aO (.bNT aC tI) 1 (.Z 0)),(.Z 13),(aO aA 1 (.Z 12))]) <|
       .ret (bB aC [(.p1 aN (.bNT (.slice 38 aA) (.bNT aG aG)) (.Z 1)),(.Z 15),(aO aC 2 (.Z 1))])) (
       .bNU (.cmp .eql .i64) (.bNV tI tI (.p1 tI tI (.Z 6)) (.ci .i64 6)) <|
       .ite (.Z 12) (
        .bNU (.bNY 94 aM) (.bNV aN tI (.p1 aN (.bNT (.slice 38 aA) (.bNT aG aG)) (.Z 1)) (aO aE 1 (.Z 6))) <|
        .bNU (.bNY 94 aM) (.bNV aN tI (.p1 aN (.bNT (.slice 38 aA) (.bNT aG aG)) (.Z 1)) (aO aE 1 (.Z 6))) <|
        .call 7 (bB (.bNT aA aF) [(.Z 5),(aO aE 1 (.Z 6)),(aO aM 1 (.Z 14))]) <|
        .bNU (.cmp .eql .i64) (.bNV tI tI (aO (.bNT aC tI) 1 (.Z 0)) (.ci .i64 0)) <|
        .ite (.Z 16) (
         .bNU (.ar .add .i64) (.bNV tI tI (.p1 tI cU (.Z 15)) (.ci .i64 1)) <|
         .bNU (.bNY 38 aA) (.bNV (.slice 38 aA) tI (aJ aC 1 (.Z 1)) (aO (.bNT aC tI) 1 (.Z 0))) <|
         .bNU (.bO1 38 aA) (bB (.bNT (.slice 38 aA) (.bNT tI aA)) [(aJ aC 1 (.Z 1)),(aO (.bNT aC tI) 1 (.Z 0)),(.Z 17),(aJ aA 1 (.Z 15)),(aJ aA 2 (.Z 15)),(aJ aA 3 (.Z 15)),(aJ aA 4 (.Z 15)),(aJ aA 5 (.Z 15)),(aJ aA 6 (.Z 15)),(aJ aA 7 (.Z 15)),(aJ aA 8 (.Z 15)),(aJ aA 9 (.Z 15)),(.nl 3 tI),(aO aA 11 (.Z 15))]) <|
         .ret (bB aC [(.p1 aN (.bNT (.slice 38 aA) (.bNT aG aG)) (.Z 1)),(.Z 19),(aO aC 2 (.Z 1))])) (
         .bNU (.ar .add .i64) (.bNV tI tI (.p1 tI cU (.Z 15)) (.ci .i64 1)) <|
         .bNU (.bNY 38 aA) (.bNV (.slice 38 aA) tI (aJ aC 1 (.Z 1)) (aO (.bNT aC tI) 1 (.Z 0))) <|
         .bNU (.bO1 38 aA) (bB (.bNT (.slice 38 aA) (.bNT tI aA)) [(aJ aC 1 (.Z 1)),(aO (.bNT aC tI) 1 (.Z 0)),(.Z 17),(aO aA 1 (.Z 15))]) <|
         .ret (bB aC [(.p1 aN (.bNT (.slice 38 aA) (.bNT aG aG)) (.Z 1)),(.Z 19),(aO aC 2 (.Z 1))]))) (
        .bNU (.cmp .eql .i64) (.bNV tI tI (.p1 tI tI (.Z 6)) (.ci .i64 7)) <|
        .ite (.Z 13) (
         .bNU (.ar .sub .i64) (.bNV tI tI (aO (.bNT aC tI) 1 (.Z 0)) (.ci .i64 1)) <|
         .bNU (.ar .sub .i64) (.bNV tI tI (aO (.bNT aC tI) 1 (.Z 0)) (.ci .i64 1)) <|
         .bNU (.bNY 119 aL) (.bNV aG tI (aO aC 3 (.Z 1)) (.Z 15)) <|
         .bNU (.bNY 119 aL) (.bNV aG tI (aO aC 3 (.Z 1)) (.Z 15)) <|
         .call 5 (bB (.bNT aL aF) [(.Z 17),(aO aE 1 (.Z 6)),(aJ aA 10 (.Z 5))]) <|
         .bNU (.bNY 119 aL) (.bNV aG tI (aO aC 3 (.Z 1)) (.Z 14)) <|
         .bNU (.bO1 119 aL) (bB (.bNT aG (.bNT tI aL)) [(aO aC 3 (.Z 1)),(.Z 14),(.p1 aL .bool (.Z 18))]) <|
         .bNU (.ar .add .i64) (.bNV tI tI (.p1 tI cU (.Z 5)) (.ci .i64 1)) <|
         .bNU (.bNY 38 aA) (.bNV (.slice 38 aA) tI (aJ aC 1 (.Z 1)) (aO (.bNT aC tI) 1 (.Z 0))) <|
         .bNU (.bO1 38 aA) (bB (.bNT (.slice 38 aA) (.bNT tI aA)) [(aJ aC 1 (.Z 1)),(aO (.bNT aC tI) 1 (.Z 0)),(.Z 21),(aJ aA 1 (.Z 5)),(aJ aA 2 (.Z 5)),(aJ aA 3 (.Z 5)),(aJ aA 4 (.Z 5)),(aJ aA 5 (.Z 5)),(aJ aA 6 (.Z 5)),(aJ aA 7 (.Z 5)),(aJ aA 8 (.Z 5)),(aJ aA 9 (.Z 5)),(.nl 3 tI),(aO aA 11 (.Z 5))]) <|
         .ret (bB aC [(.p1 aN (.bNT (.slice 38 aA) (.bNT aG aG)) (.Z 1)),(.Z 23),(aJ aC 2 (.Z 1)),(.Z 20)])) (
         .bNU (.ar .add .i64) (.bNV tI tI (.p1 tI cU (.Z 5)) (.ci .i64 1)) <|
         .bNU (.bNY 38 aA) (.bNV (.slice 38 aA) tI (aJ aC 1 (.Z 1)) (aO (.bNT aC tI) 1 (.Z 0))) <|
         .bNU (.bO1 38 aA) (bB (.bNT (.slice 38 aA) (.bNT tI aA)) [(aJ aC 1 (.Z 1)),(aO (.bNT aC tI) 1 (.Z 0)),(.Z 14),(aO aA 1 (.Z 5))]) <|
         .ret (bB aC [(.p1 aN (.bNT (.slice 38 aA) (.bNT aG aG)) (.Z 1)),(.Z 16),(aO aC 2 (.Z 1))])))))))))
theorem bHZ:bM Tryz.prog [eW,jG,pP,aES,nH,aAS,mC,nE] pR false 3000 ⟨[],[(2964,28016,[],[27,28,29,30,31,32,33,34,35]),(2964,20014,[],[27,28,29,30,31,32,33,34,35]),(2972,24010,[95],[]),(2966,24016,[],[28]),(2962,96014,[],[27,28,29,30,31,32,33,34,35]),(2954,448018,[],[36]),(2960,384014,[160],[]),(2954,384022,[],[28])]⟩ = .ok aJZ:=by kernel_rfl
set_option maxHeartbeats 2000000 in
theorem bIL (x:aY × Int) (hx:okD (.bNT aC tI) x) (hp:(fun x=>bQ aC x.1≤1000000000) x):aJZ.wp [eW,jG,pP,aES,nH,aAS,mC,nE] [⟨(.bNT aC tI),x⟩] [] (fun v=>v.as aC=(fun x=>eR x.1 x.2) x):=by
 obtain ⟨p,s⟩:=x
 delta aJZ eW jG pP aES nH aAS mC nE;refine dB ?_
 refine dT ?_
 refine ⟨hp,fun _=>⟨fun h=>bBE h,fun h=>?_⟩⟩
 obtain ⟨z1,z1s,z2,z2m,z3,z3m,z4,z4m⟩:=aET (b:=p.1) (st:=p.2.1) (a:=p.2.2.1) (r:=p.2.2.2) hp
 obtain ⟨h1,h2,h3⟩:=aII h
 have hk:=aPM h
 have hm:=bN3 h
 have hpo:=(mM.1 h1).1
 have hst:=(mM.1 h1).2.2.2 s.toNat (by omega)
 have zs:bQ aA (List.getD p.2.1 s.toNat (aV aA))≤1000000000:=by rw[aZ (show s.toNat<p.2.1.length by omega)];exact z2m _ (List.getElem_mem _)
 have za:∀ k,k<p.2.2.1.length→bQ aL (List.getD p.2.2.1 k (aV aL))≤1000000000:=fun k hk=>by rw[aZ hk];exact z3m _ (List.getElem_mem _)
 have zr:∀ k,k<p.2.2.2.length→bQ aL (List.getD p.2.2.2 k (aV aL))≤1000000000:=fun k hk=>by rw[aZ hk];exact z4m _ (List.getElem_mem _)
 have hpc:=((eI _).1 hst.1).2.1
 have hpl:List.length (List.getD p.2.1 s.toNat (aV aA)).2.1≤1000000000:=(kA (t:=aA) zs).2.1.1
 (repeat' first|intro _|(with_reducible apply And.intro))
 all_goals first|omega|exact zs|exact za _ (by omega)|exact zr _ (by omega)|(rw[bBJ];omega)|(rw[aSJ];omega)|(rw[bBO];omega)|skip
 all_goals first|exact bHN h (by assumption)|exact bGE h (by assumption)|exact bIW h (by assumption)|exact bGF h (by assumption)|exact bIY h (by assumption)|exact bID h (by assumption) (by assumption)|exact bC2 h (by assumption) (by assumption)|exact bG6 h (by assumption) (by assumption)|exact bB9 h (by assumption) (by assumption)|exact bGJ h (by assumption) (by assumption) (by assumption) (by assumption) (by assumption) (by assumption) (by assumption)|skip
set_option maxHeartbeats 2000000 in
theorem aT7:Con.Holds Tryz.prog pR:=aS aW (aH xI (aH aHO (aH aS0 (aH bKE (aH aQN (aH bH3 (aH aNC (aH aPK aR)))))))) bHZ bIL
noncomputable def aBC:Con:=⟨106,(.bNT aC tI),aC,[.val ⟨true,aC,[]⟩,.val ⟨false,tI,[]⟩],[⟨true,aC,[2,3,3,3]⟩],true,none,
 ((fun x=>bQ aC x.1≤1000000000):(aY × Int)→Prop),
 ((fun x=>eR x.1 x.2):(aY × Int)→(aY))⟩
def aIZ:T:=.call 0 (.p1 aC tI (.Z 0)) <|.call 1 (.Z 0) <|
 .bNU .not (.Z 2) <|
 .ite (.Z 3) (
  .ret (.Z 1)) (
  .call 2 (.Z 0) <|
  .bNU (.bNY 38 aA) (.bNV (.slice 38 aA) tI (aJ aC 1 (.Z 1)) (aO (.bNT aC tI) 1 (.Z 0))) <|
  .bNU (.bNY 38 aA) (.bNV (.slice 38 aA) tI (aJ aC 1 (.Z 1)) (aO (.bNT aC tI) 1 (.Z 0))) <|
  .bNU (.cmp .eql .i64) (.bNV tI tI (.p1 tI tI (.Z 4)) (.ci .i64 1)) <|
  .ite (.Z 7) (
   .bNU (.ar .sub .i64) (.bNV tI tI (aO (.bNT aC tI) 1 (.Z 0)) (.ci .i64 1)) <|
   .bNU (.bNY 119 aL) (.bNV aG tI (aJ aC 2 (.p1 aC tI (.Z 0))) (.Z 8)) <|
   .call 3 (.Z 9) <|
   .bNU (.ar .sub .i64) (.bNV tI tI (aO (.bNT aC tI) 1 (.Z 0)) (.ci .i64 1)) <|
   .bNU (.bNY 119 aL) (.bNV aG tI (aJ aC 2 (.Z 1)) (.Z 11)) <|
   .bNU (.bO1 119 aL) (bB (.bNT aG (.bNT tI aL)) [(aJ aC 2 (.Z 1)),(.Z 11),(.p1 aL (.bNT aF .bool) (.Z 10))]) <|
   .bNU (.ar .add .i64) (.bNV tI tI (.p1 tI cU (.Z 6)) (.ci .i64 1)) <|
   .bNU (.bNY 38 aA) (.bNV (.slice 38 aA) tI (aJ aC 1 (.Z 1)) (aO (.bNT aC tI) 1 (.Z 0))) <|
   .bNU (.bO1 38 aA) (bB (.bNT (.slice 38 aA) (.bNT tI aA)) [(aJ aC 1 (.Z 1)),(aO (.bNT aC tI) 1 (.Z 0)),(.Z 14),(aJ aA 1 (.Z 6)),(aJ aA 2 (.Z 6)),(aJ aA 3 (.Z 6)),(aJ aA 4 (.Z 6)),(aJ aA 5 (.Z 6)),(aJ aA 6 (.Z 6)),(aO aF 1 (aJ (.bNT aL (.bNT aF .bool)) 1 (.Z 10))),(aO aA 8 (.Z 6))]) <|
   .ret (bB aC [(.p1 aN (.bNT (.slice 38 aA) (.bNT aG aG)) (.Z 1)),(.Z 16),(.Z 13),(aO aC 3 (.Z 1))])) (
   .bNU (.cmp .eql .i64) (.bNV tI tI (.p1 tI tI (.Z 4)) (.ci .i64 2)) <|
   .ite (.Z 8) (
    .bNU (.cmp .eql .i64) (.bNV tI tI (aO (.bNT aC tI) 1 (.Z 0)) (.ci .i64 0)) <|
    .ite (.Z 9) (
     .bNU (.bNY 94 aM) (.bNV aN tI (.p1 aN (.bNT (.slice 38 aA) (.bNT aG aG)) (.p1 aC tI (.Z 0))) (aO aE 1 (.Z 4))) <|
     .bNU (.bNY 94 aM) (.bNV aN tI (.p1 aN (.bNT (.slice 38 aA) (.bNT aG aG)) (.p1 aC tI (.Z 0))) (aO aE 1 (.Z 4))) <|
     .call 4 (bB (.bNT aA (.bNT tI aM)) [(.Z 6),(aO aE 1 (.Z 4)),(.p1 aB aB (.Z 10)),(aO aM 1 (.Z 11))]) <|
     .bNU (.ar .add .i64) (.bNV tI tI (.p1 tI cU (.Z 12)) (.ci .i64 1)) <|
     .bNU (.bNY 38 aA) (.bNV (.slice 38 aA) tI (aJ aC 1 (.Z 1)) (aO (.bNT aC tI) 1 (.Z 0))) <|
     .bNU (.bO1 38 aA) (bB (.bNT (.slice 38 aA) (.bNT tI aA)) [(aJ aC 1 (.Z 1)),(aO (.bNT aC tI) 1 (.Z 0)),(.Z 13),(aO aA 1 (.Z 12))]) <|
     .ret (bB aC [(.p1 aN (.bNT (.slice 38 aA) (.bNT aG aG)) (.Z 1)),(.Z 15),(aO aC 2 (.Z 1))])) (
     .bNU (.bNY 94 aM) (.bNV aN tI (.p1 aN (.bNT (.slice 38 aA) (.bNT aG aG)) (.p1 aC tI (.Z 0))) (aO aE 1 (.Z 4))) <|
     .call 4 (bB (.bNT aA (.bNT tI aM)) [(.Z 6),(aO aE 1 (.Z 4)),(aJ aA 7 (.Z 6)),(aO aM 1 (.Z 10))]) <|
     .bNU (.ar .add .i64) (.bNV tI tI (.p1 tI cU (.Z 11)) (.ci .i64 1)) <|
     .bNU (.bNY 38 aA) (.bNV (.slice 38 aA) tI (aJ aC 1 (.Z 1)) (aO (.bNT aC tI) 1 (.Z 0))) <|
     .bNU (.bO1 38 aA) (bB (.bNT (.slice 38 aA) (.bNT tI aA)) [(aJ aC 1 (.Z 1)),(aO (.bNT aC tI) 1 (.Z 0)),(.Z 12),(aO aA 1 (.Z 11))]) <|
     .ret (bB aC [(.p1 aN (.bNT (.slice 38 aA) (.bNT aG aG)) (.Z 1)),(.Z 14),(aO aC 2 (.Z 1))]))) (
    .bNU (.cmp .eql .i64) (.bNV tI tI (.p1 tI tI (.Z 4)) (.ci .i64 3)) <|
    .ite (.Z 9) (
     .bNU (.bNY 119 aL) (.bNV aG tI (aJ aC 2 (.p1 aC tI (.Z 0))) (aO (.bNT aC tI) 1 (.Z 0))) <|
     .call 5 (bB (.bNT aL aF) [(.Z 10),(aO aE 1 (.Z 4)),(aJ aA 8 (.Z 6))]) <|
     .bNU (.bNY 119 aL) (.bNV aG tI (aJ aC 2 (.Z 1)) (aO (.bNT aC tI) 1 (.Z 0))) <|
     .bNU (.bO1 119 aL) (bB (.bNT aG (.bNT tI aL)) [(aJ aC 2 (.Z 1)),(aO (.bNT aC tI) 1 (.Z 0)),(.p1 aL .bool (.Z 11))]) <|
     .bNU (.ar .add .i64) (.bNV tI tI (.p1 tI cU (.Z 6)) (.ci .i64 1)) <|
     .bNU (.bNY 38 aA) (.bNV (.slice 38 aA) tI (aJ aC 1 (.Z 1)) (aO (.bNT aC tI) 1 (.Z 0))) <|
     .bNU (.bO1 38 aA) (bB (.bNT (.slice 38 aA) (.bNT tI aA)) [(aJ aC 1 (.Z 1)),(aO (.bNT aC tI) 1 (.Z 0)),(.Z 14),(aJ aA 1 (.Z 6)),(aJ aA 2 (.Z 6)),(aJ aA 3 (.Z 6)),(aJ aA 4 (.Z 6)),(aJ aA 5 (.Z 6)),(aJ aA 6 (.Z 6)),(aJ aA 7 (.Z 6)),(.nl 3 tI),(aO aA 9 (.Z 6))]) <|
     .ret (bB aC [(.p1 aN (.bNT (.slice 38 aA) (.bNT aG aG)) (.Z 1)),(.Z 16),(.Z 13),(aO aC 3 (.Z 1))])) (
     .bNU (.cmp .eql .i64) (.bNV tI tI (.p1 tI tI (.Z 4)) (.ci .i64 4)) <|
     .ite (.Z 10) (
      .bNU (.bNY 119 aL) (.bNV aG tI (aO aC 3 (.p1 aC tI (.Z 0))) (aO (.bNT aC tI) 1 (.Z 0))) <|
      .call 3 (.Z 11) <|
      .bNU (.bNY 119 aL) (.bNV aG tI (aO aC 3 (.Z 1)) (aO (.bNT aC tI) 1 (.Z 0))) <|
      .bNU (.bO1 119 aL) (bB (.bNT aG (.bNT tI aL)) [(aO aC 3 (.Z 1)),(aO (.bNT aC tI) 1 (.Z 0)),(.p1 aL (.bNT aF .bool) (.Z 12))]) <|
      .bNU (.ar .add .i64) (.bNV tI tI (.p1 tI cU (.Z 6)) (.ci .i64 1)) <|
      .bNU (.bNY 38 aA) (.bNV (.slice 38 aA) tI (aJ aC 1 (.Z 1)) (aO (.bNT aC tI) 1 (.Z 0))) <|
      .bNU (.bO1 38 aA) (bB (.bNT (.slice 38 aA) (.bNT tI aA)) [(aJ aC 1 (.Z 1)),(aO (.bNT aC tI) 1 (.Z 0)),(.Z 15),(aJ aA 1 (.Z 6)),(aJ aA 2 (.Z 6)),(aJ aA 3 (.Z 6)),(aJ aA 4 (.Z 6)),(aJ aA 5 (.Z 6)),(aJ aA 6 (.Z 6)),(aJ aA 7 (.Z 6)),(aJ aA 8 (.Z 6)),(aO aF 1 (aJ (.bNT aL (.bNT aF .bool)) 1 (.Z 12))),(aO aA 10 (.Z 6))]) <|
      .ret (bB aC [(.p1 aN (.bNT (.slice 38 aA) (.bNT aG aG)) (.Z 1)),(.Z 17),(aJ aC 2 (.Z 1)),(.Z 14)])) (
      .bNU (.cmp .eql .i64) (.bNV tI tI (.p1 tI tI (.Z 4)) (.ci .i64 5)) <|
      .ite (.Z 11) (
       .call 6 (.bNV aA tI (.Z 6) (aO aE 1 (.Z 4))) <|
       .bNU (.ar .add .i64) (.bNV tI tI (.p1 tI cU (.Z 12)) (.ci .i64 1)) <|
       .bNU (.bNY 38 aA) (.bNV (.slice 38 aA) tI (aJ aC 1 (.Z 1)) (aO (.bNT aC tI) 1 (.Z 0))) <|
       .bNU (.bO1 38 aA) (bB (.bNT (.slice 38 aA) (.bNT tI aA)) [(aJ aC 1 (.Z 1)),(aO (.bNT aC tI) 1 (.Z 0)),(.Z 13),(aO aA 1 (.Z 12))]) <|
       .ret (bB aC [(.p1 aN (.bNT (.slice 38 aA) (.bNT aG aG)) (.Z 1)),(.Z 15),(aO aC 2 (.Z 1))])) (
       .bNU (.cmp .eql .i64) (.bNV tI tI (.p1 tI tI (.Z 4)) (.ci .i64 6)) <|
       .ite (.Z 12) (
        .bNU (.bNY 94 aM) (.bNV aN tI (.p1 aN (.bNT (.slice 38 aA) (.bNT aG aG)) (.p1 aC tI (.Z 0))) (aO aE 1 (.Z 4))) <|
        .call 7 (bB (.bNT aA aF) [(.Z 6),(aO aE 1 (.Z 4)),(aO aM 1 (.Z 13))]) <|
        .bNU (.cmp .eql .i64) (.bNV tI tI (aO (.bNT aC tI) 1 (.Z 0)) (.ci .i64 0)) <|
        .ite (.Z 15) (
         .bNU (.ar .add .i64) (.bNV tI tI (.p1 tI cU (.Z 14)) (.ci .i64 1)) <|
         .bNU (.bNY 38 aA) (.bNV (.slice 38 aA) tI (aJ aC 1 (.Z 1)) (aO (.bNT aC tI) 1 (.Z 0))) <|
         .bNU (.bO1 38 aA) (bB (.bNT (.slice 38 aA) (.bNT tI aA)) [(aJ aC 1 (.Z 1)),(aO (.bNT aC tI) 1 (.Z 0)),(.Z 16),(aJ aA 1 (.Z 14)),(aJ aA 2 (.Z 14)),(aJ aA 3 (.Z 14)),(aJ aA 4 (.Z 14)),(aJ aA 5 (.Z 14)),(aJ aA 6 (.Z 14)),(aJ aA 7 (.Z 14)),(aJ aA 8 (.Z 14)),(aJ aA 9 (.Z 14)),(.nl 3 tI),(aO aA 11 (.Z 14))]) <|
         .ret (bB aC [(.p1 aN (.bNT (.slice 38 aA) (.bNT aG aG)) (.Z 1)),(.Z 18),(aO aC 2 (.Z 1))])) (
         .bNU (.ar .add .i64) (.bNV tI tI (.p1 tI cU (.Z 14)) (.ci .i64 1)) <|
         .bNU (.bNY 38 aA) (.bNV (.slice 38 aA) tI (aJ aC 1 (.Z 1)) (aO (.bNT aC tI) 1 (.Z 0))) <|
         .bNU (.bO1 38 aA) (bB (.bNT (.slice 38 aA) (.bNT tI aA)) [(aJ aC 1 (.Z 1)),(aO (.bNT aC tI) 1 (.Z 0)),(.Z 16),(aO aA 1 (.Z 14))]) <|
         .ret (bB aC [(.p1 aN (.bNT (.slice 38 aA) (.bNT aG aG)) (.Z 1)),(.Z 18),(aO aC 2 (.Z 1))]))) (
        .bNU (.cmp .eql .i64) (.bNV tI tI (.p1 tI tI (.Z 4)) (.ci .i64 7)) <|
        .ite (.Z 13) (
         .bNU (.ar .sub .i64) (.bNV tI tI (aO (.bNT aC tI) 1 (.Z 0)) (.ci .i64 1)) <|
         .bNU (.bNY 119 aL) (.bNV aG tI (aO aC 3 (.p1 aC tI (.Z 0))) (.Z 14)) <|
         .call 5 (bB (.bNT aL aF) [(.Z 15),(aO aE 1 (.Z 4)),(aJ aA 10 (.Z 6))]) <|
         .bNU (.ar .sub .i64) (.bNV tI tI (aO (.bNT aC tI) 1 (.Z 0)) (.ci .i64 1)) <|
         .bNU (.bNY 119 aL) (.bNV aG tI (aO aC 3 (.Z 1)) (.Z 17)) <|
         .bNU (.bO1 119 aL) (bB (.bNT aG (.bNT tI aL)) [(aO aC 3 (.Z 1)),(.Z 17),(.p1 aL .bool (.Z 16))]) <|
         .bNU (.ar .add .i64) (.bNV tI tI (.p1 tI cU (.Z 6)) (.ci .i64 1)) <|
         .bNU (.bNY 38 aA) (.bNV (.slice 38 aA) tI (aJ aC 1 (.Z 1)) (aO (.bNT aC tI) 1 (.Z 0))) <|
         .bNU (.bO1 38 aA) (bB (.bNT (.slice 38 aA) (.bNT tI aA)) [(aJ aC 1 (.Z 1)),(aO (.bNT aC tI) 1 (.Z 0)),(.Z 20),(aJ aA 1 (.Z 6)),(aJ aA 2 (.Z 6)),(aJ aA 3 (.Z 6)),(aJ aA 4 (.Z 6)),(aJ aA 5 (.Z 6)),(aJ aA 6 (.Z 6)),(aJ aA 7 (.Z 6)),(aJ aA 8 (.Z 6)),(aJ aA 9 (.Z 6)),(.nl 3 tI),(aO aA 11 (.Z 6))]) <|
         .ret (bB aC [(.p1 aN (.bNT (.slice 38 aA) (.bNT aG aG)) (.Z 1)),(.Z 22),(aJ aC 2 (.Z 1)),(.Z 19)])) (
         .bNU (.ar .add .i64) (.bNV tI tI (.p1 tI cU (.Z 6)) (.ci .i64 1)) <|
         .bNU (.bNY 38 aA) (.bNV (.slice 38 aA) tI (aJ aC 1 (.Z 1)) (aO (.bNT aC tI) 1 (.Z 0))) <|
         .bNU (.bO1 38 aA) (bB (.bNT (.slice 38 aA) (.bNT tI aA)) [(aJ aC 1 (.Z 1)),(aO (.bNT aC tI) 1 (.Z 0)),(.Z 14),(aO aA 1 (.Z 6))]) <|
         .ret (bB aC [(.p1 aN (.bNT (.slice 38 aA) (.bNT aG aG)) (.Z 1)),(.Z 16),(aO aC 2 (.Z 1))])))))))))
theorem bI9:bM Tryz.prog [pW,jK,oY,aEL,nL,aAD,lS,nJ] aBC false 3000 ⟨[],[(2970,24012,[],[29]),(2964,24015,[],[30]),(2962,96014,[],[27,28,29,30,31,32,33,34,35]),(2954,448017,[],[27]),(2958,384017,[],[29]),(2952,384021,[],[30])]⟩ = .ok aIZ:=by kernel_rfl
set_option maxHeartbeats 2000000 in
theorem bHY (x:aY × Int) (hx:okD (.bNT aC tI) x) (hp:(fun x=>bQ aC x.1≤1000000000) x):aIZ.wp [pW,jK,oY,aEL,nL,aAD,lS,nJ] [⟨(.bNT aC tI),x⟩] [] (fun v=>v.as aC=(fun x=>eR x.1 x.2) x):=by
 obtain ⟨p,s⟩:=x
 delta aIZ pW jK oY aEL nL aAD lS nJ;refine dB ?_
 refine dT ?_
 refine ⟨hp,fun _=>⟨fun h=>bBE h,fun h=>?_⟩⟩
 obtain ⟨z1,z1s,z2,z2m,z3,z3m,z4,z4m⟩:=aET (b:=p.1) (st:=p.2.1) (a:=p.2.2.1) (r:=p.2.2.2) hp
 obtain ⟨h1,h2,h3⟩:=aII h
 have hk:=aPM h
 have hm:=bN3 h
 have hpo:=(mM.1 h1).1
 have hst:=(mM.1 h1).2.2.2 s.toNat (by omega)
 have zs:bQ aA (List.getD p.2.1 s.toNat (aV aA))≤1000000000:=by rw[aZ (show s.toNat<p.2.1.length by omega)];exact z2m _ (List.getElem_mem _)
 have za:∀ k,k<p.2.2.1.length→bQ aL (List.getD p.2.2.1 k (aV aL))≤1000000000:=fun k hk=>by rw[aZ hk];exact z3m _ (List.getElem_mem _)
 have zr:∀ k,k<p.2.2.2.length→bQ aL (List.getD p.2.2.2 k (aV aL))≤1000000000:=fun k hk=>by rw[aZ hk];exact z4m _ (List.getElem_mem _)
 have hpc:=((eI _).1 hst.1).2.1
 have hpl:List.length (List.getD p.2.1 s.toNat (aV aA)).2.1≤1000000000:=(kA (t:=aA) zs).2.1.1
 (repeat' first|intro _|(with_reducible apply And.intro))
 all_goals first|omega|exact zs|exact za _ (by omega)|exact zr _ (by omega)|(rw[bBJ];omega)|(rw[aSJ];omega)|(rw[bBO];omega)|skip
 all_goals first|exact bHN h (by assumption)|exact bGE h (by assumption)|exact bIW h (by assumption)|exact bGF h (by assumption)|exact bIY h (by assumption)|exact bID h (by assumption) (by assumption)|exact bC2 h (by assumption) (by assumption)|exact bG6 h (by assumption) (by assumption)|exact bB9 h (by assumption) (by assumption)|exact bGJ h (by assumption) (by assumption) (by assumption) (by assumption) (by assumption) (by assumption) (by assumption)|skip
set_option maxHeartbeats 2000000 in
theorem bFA:Con.Holds Tryz.prog aBC:=aS aW (aH aTU (aH aI0 (aH aTD (aH bJ5 (aH aRW (aH bHV (aH aM5 (aH aQ5 aR)))))))) bI9 bHY
end Go.Proofs.YtdeobhdbmehpgaaGreat
