/- CoreP: lemmas. No conditions. -/
import Derived.Test.YtiihghfoeinbbaaGreatCore9
namespace Go.Proofs.YtiihghfoeinbbaaGreat
set_option maxRecDepth 100000
open Go.ChangeShapes Go.WideShapes Go.ChangeAt Go.RowKit Go.Deep
set_option linter.unusedVariables false
set_option linter.unusedSimpArgs false
theorem aID {p:bO} {s:Int} (h:dJ p s=false):p=dQ p s:=by unfold dQ;rw[if_neg (by rw[h];simp)]
theorem aBT {p:bO} {s:Int} (h:dJ p s=true):kK p=true∧0≤s∧s<(p.2.1.length:Int):=by
 unfold dJ at h;split at h
 ·assumption
 ·cases h
theorem aOH {p:bO} {s:Int} (h:dJ p s=true):((bJ p s).1=1→0<s)∧((bJ p s).1=3→s<(p.2.1.length:Int) - 1)∧((bJ p s).1=4→s<(p.2.1.length:Int) - 1)∧((bJ p s).1=7→0<s)∧¬ (bJ p s).1=0:=by
 obtain ⟨h1,h2,h3⟩:=aBT h
 refine ⟨fun k=>?_,fun k=>?_,fun k=>?_,fun k=>?_,fun k=>?_⟩
 ·rw[bLC h1 h2 h3 k,Bool.and_eq_true,decide_eq_true_eq] at h;exact h.1
 ·rw[bLE h1 h2 h3 k,Bool.and_eq_true,decide_eq_true_eq] at h;exact h.1
 ·rw[bKW h1 h2 h3 k,Bool.and_eq_true,decide_eq_true_eq] at h;exact h.1
 ·rw[bL1 h1 h2 h3 k,Bool.and_eq_true,decide_eq_true_eq] at h;exact h.1
 ·rw[← bKY (p:=p) (s:=s) (by omega)] at h;cases h
theorem bLP {p:bO} {s:Int} (h:dJ p s=true):0≤(bJ p s).2∧(bJ p s).2<(p.1.length:Int):=by
 obtain ⟨h1,h2,h3⟩:=aBT h
 have hk:=(aOH h).2.2.2.2
 have hs:=(nX.1 h1).2.2.2 s.toNat (by omega)
 unfold bJ at hk ⊢
 split at hk
 ·rename_i hh
  rw[if_pos hh]
  exact hs.2.2 _ (by omega)
 ·exact absurd rfl hk
theorem bA5 (s:bC) (m:Int) (x t:List Int):(zX s m x t).1=s.1:=by unfold zX;split <;> rfl
theorem aTG (s:bC) (m:Int):(sH s m).1=s.1:=by unfold sH;split <;> rfl
theorem bAI (s:bC) (m:Int) (t:List Int):(vB s m t).1=s.1:=by unfold vB;split <;> rfl
theorem bEJ {p:bO} {s:Int} (h:dJ p s=true) (k:(bJ p s).1=1):(p.1,List.set p.2.1 s.toNat (wG (bJF (iL p s) (wF (p.2.2.1.getD (s - 1).toNat (aX aM))).2.1.2) ((iL p s).1+1)),List.set p.2.2.1 (s - 1).toNat (wF (p.2.2.1.getD (s - 1).toNat (aX aM))).1,p.2.2.2)=dQ p s:=by
 unfold dQ;rw[if_pos h];unfold kB wK wS;rw[k];rfl
theorem bHF {p:bO} {s:Int} (h:dJ p s=true) (k:(bJ p s).1=2) (h0:s=0) :
  (p.1,List.set p.2.1 s.toNat (wG (zX (iL p s) (bJ p s).2 (p.1.getD (bJ p s).2.toNat (aX aI)).1 (p.1.getD (bJ p s).2.toNat (aX aI)).2) ((zX (iL p s) (bJ p s).2 (p.1.getD (bJ p s).2.toNat (aX aI)).1 (p.1.getD (bJ p s).2.toNat (aX aI)).2).1+1)),p.2.2.1,p.2.2.2)=dQ p s:=by
 unfold dQ;rw[if_pos h];unfold kB wK wS;rw[k,if_pos h0];rfl
theorem bAY {p:bO} {s:Int} (h:dJ p s=true) (k:(bJ p s).1=2) (h0:¬ s=0) :
  (p.1,List.set p.2.1 s.toNat (wG (zX (iL p s) (bJ p s).2 (iL p s).2.2.2.2.2.2.2.1 (p.1.getD (bJ p s).2.toNat (aX aI)).2) ((zX (iL p s) (bJ p s).2 (iL p s).2.2.2.2.2.2.2.1 (p.1.getD (bJ p s).2.toNat (aX aI)).2).1+1)),p.2.2.1,p.2.2.2)=dQ p s:=by
 unfold dQ;rw[if_pos h];unfold kB wK wS;rw[k,if_neg h0];rfl
theorem bFQ {p:bO} {s:Int} (h:dJ p s=true) (k:(bJ p s).1=3):(p.1,List.set p.2.1 s.toNat (wG (bK7 (iL p s) []) ((iL p s).1+1)),List.set p.2.2.1 s.toNat (uQ (p.2.2.1.getD s.toNat (aX aM)) ((bJ p s).2,(iL p s).2.2.2.2.2.2.2.2.1)).1,p.2.2.2)=dQ p s:=by
 unfold dQ;rw[if_pos h];unfold kB wK wS;rw[k];rfl
theorem bH7 {p:bO} {s:Int} (h:dJ p s=true) (k:(bJ p s).1=4):(p.1,List.set p.2.1 s.toNat (wG (bJW (iL p s) (wF (p.2.2.2.getD s.toNat (aX aM))).2.1.2) ((iL p s).1+1)),p.2.2.1,List.set p.2.2.2 s.toNat (wF (p.2.2.2.getD s.toNat (aX aM))).1)=dQ p s:=by
 unfold dQ;rw[if_pos h];unfold kB wK wS;rw[k];rfl
theorem bG6 {p:bO} {s:Int} (h:dJ p s=true) (k:(bJ p s).1=5):(p.1,List.set p.2.1 s.toNat (wG (sH (iL p s) (bJ p s).2) ((sH (iL p s) (bJ p s).2).1+1)),p.2.2.1,p.2.2.2)=dQ p s:=by
 unfold dQ;rw[if_pos h];unfold kB wK wS;rw[k];rfl
theorem bHS {p:bO} {s:Int} (h:dJ p s=true) (k:(bJ p s).1=6) (h0:s=0) :
  (p.1,List.set p.2.1 s.toNat (wG (aOB (vB (iL p s) (bJ p s).2 (p.1.getD (bJ p s).2.toNat (aX aI)).2) []) ((vB (iL p s) (bJ p s).2 (p.1.getD (bJ p s).2.toNat (aX aI)).2).1+1)),p.2.2.1,p.2.2.2)=dQ p s:=by
 unfold dQ;rw[if_pos h];unfold kB wK wS;simp only[k,if_pos h0];rfl
theorem bAP {p:bO} {s:Int} (h:dJ p s=true) (k:(bJ p s).1=6) (h0:¬ s=0) :
  (p.1,List.set p.2.1 s.toNat (wG (vB (iL p s) (bJ p s).2 (p.1.getD (bJ p s).2.toNat (aX aI)).2) ((vB (iL p s) (bJ p s).2 (p.1.getD (bJ p s).2.toNat (aX aI)).2).1+1)),p.2.2.1,p.2.2.2)=dQ p s:=by
 unfold dQ;rw[if_pos h];unfold kB wK wS;simp only[k,if_neg h0];rfl
theorem bEX {p:bO} {s:Int} (h:dJ p s=true) (k:(bJ p s).1=7):(p.1,List.set p.2.1 s.toNat (wG (aOB (iL p s) []) ((iL p s).1+1)),p.2.2.1,List.set p.2.2.2 (s - 1).toNat (uQ (p.2.2.2.getD (s - 1).toNat (aX aM)) ((bJ p s).2,(iL p s).2.2.2.2.2.2.2.2.2.2.1)).1)=dQ p s:=by
 unfold dQ;rw[if_pos h];unfold kB wK wS;rw[k];rfl
theorem bHB {p:bO} {s:Int} (h:dJ p s=true) (h1:¬ (bJ p s).1=1) (h2:¬ (bJ p s).1=2) (h3:¬ (bJ p s).1=3) (h4:¬ (bJ p s).1=4) (h5:¬ (bJ p s).1=5) (h6:¬ (bJ p s).1=6) (h7:¬ (bJ p s).1=7) :
  (p.1,List.set p.2.1 s.toNat (wG (iL p s) ((iL p s).1+1)),p.2.2.1,p.2.2.2)=dQ p s:=by
 unfold dQ;rw[if_pos h];unfold kB wK wS;simp only[if_neg h1,if_neg h2,if_neg h3,if_neg h4,if_neg h5,if_neg h6,if_neg h7]
noncomputable def zL:Con:=⟨90,(.bMC aL tI),aL,[.val ⟨true,aL,[]⟩,.val ⟨false,tI,[]⟩],[⟨true,aL,[0,0,0,0]⟩],false,none,
 ((fun x=>bD aL x.1≤1000000000):(bO × Int)→Prop),
 ((fun x=>dQ x.1 x.2):(bO × Int)→(bO))⟩
def aIU:T:=.call 0 (.p1 aL tI (.Z 0)) <|.call 1 (.Z 0) <|
 .bMD .not (.Z 2) <|
 .ite (.Z 3) (
  .ret (.Z 1)) (
  .bMD (.bMH 126 aA) (.bME (.slice 126 aA) tI (aJ aL 1 (.Z 1)) (aQ (.bMC aL tI) 1 (.Z 0))) <|
  .bMD (.bMH 126 aA) (.bME (.slice 126 aA) tI (aJ aL 1 (.Z 1)) (aQ (.bMC aL tI) 1 (.Z 0))) <|
  .call 2 (.Z 0) <|
  .bMD (.cmp .eql .i64) (.bME tI tI (.p1 tI tI (.Z 6)) (.ci .i64 1)) <|
  .ite (.Z 7) (
   .bMD (.ar .sub .i64) (.bME tI tI (aQ (.bMC aL tI) 1 (.Z 0)) (.ci .i64 1)) <|
   .bMD (.bMH 170 aM) (.bME aK tI (aJ aL 2 (.Z 1)) (.Z 8)) <|
   .bMD (.bMH 170 aM) (.bME aK tI (aJ aL 2 (.Z 1)) (.Z 8)) <|
   .call 3 (.Z 10) <|
   .bMD (.ar .sub .i64) (.bME tI tI (aQ (.bMC aL tI) 1 (.Z 0)) (.ci .i64 1)) <|
   .bMD (.bMH 170 aM) (.bME aK tI (aJ aL 2 (.Z 1)) (.Z 12)) <|
   .bMD (.bMK 170 aM) (bE (.bMC aK (.bMC tI aM)) [(aJ aL 2 (.Z 1)),(.Z 12),(.p1 aM (.bMC aF .bool) (.Z 11))]) <|
   .bMD (.ar .add .i64) (.bME tI tI (.p1 tI cY (.Z 5)) (.ci .i64 1)) <|
   .bMD (.bMH 126 aA) (.bME (.slice 126 aA) tI (aJ aL 1 (.Z 1)) (aQ (.bMC aL tI) 1 (.Z 0))) <|
   .bMD (.bMK 126 aA) (bE (.bMC (.slice 126 aA) (.bMC tI aA)) [(aJ aL 1 (.Z 1)),(aQ (.bMC aL tI) 1 (.Z 0)),(.Z 15),(aJ aA 1 (.Z 5)),(aJ aA 2 (.Z 5)),(aJ aA 3 (.Z 5)),(aJ aA 4 (.Z 5)),(aJ aA 5 (.Z 5)),(aJ aA 6 (.Z 5)),(aQ aF 1 (aJ (.bMC aM (.bMC aF .bool)) 1 (.Z 11))),(aQ aA 8 (.Z 5))]) <|
   .ret (bE aL [(.p1 aN (.bMC (.slice 126 aA) (.bMC aK aK)) (.Z 1)),(.Z 17),(.Z 14),(aQ aL 3 (.Z 1))])) (
   .bMD (.cmp .eql .i64) (.bME tI tI (.p1 tI tI (.Z 6)) (.ci .i64 2)) <|
   .ite (.Z 8) (
    .bMD (.cmp .eql .i64) (.bME tI tI (aQ (.bMC aL tI) 1 (.Z 0)) (.ci .i64 0)) <|
    .ite (.Z 9) (
     .bMD (.bMH 130 aI) (.bME aN tI (.p1 aN (.bMC (.slice 126 aA) (.bMC aK aK)) (.Z 1)) (aQ aO 1 (.Z 6))) <|
     .bMD (.bMH 130 aI) (.bME aN tI (.p1 aN (.bMC (.slice 126 aA) (.bMC aK aK)) (.Z 1)) (aQ aO 1 (.Z 6))) <|
     .bMD (.bMH 130 aI) (.bME aN tI (.p1 aN (.bMC (.slice 126 aA) (.bMC aK aK)) (.Z 1)) (aQ aO 1 (.Z 6))) <|
     .bMD (.bMH 130 aI) (.bME aN tI (.p1 aN (.bMC (.slice 126 aA) (.bMC aK aK)) (.Z 1)) (aQ aO 1 (.Z 6))) <|
     .call 4 (bE (.bMC aA (.bMC tI aI)) [(.Z 5),(aQ aO 1 (.Z 6)),(.p1 aB aB (.Z 11)),(aQ aI 1 (.Z 13))]) <|
     .bMD (.ar .add .i64) (.bME tI tI (.p1 tI cY (.Z 14)) (.ci .i64 1)) <|
     .bMD (.bMH 126 aA) (.bME (.slice 126 aA) tI (aJ aL 1 (.Z 1)) (aQ (.bMC aL tI) 1 (.Z 0))) <|
     .bMD (.bMK 126 aA) (bE (.bMC (.slice 126 aA) (.bMC tI aA)) [(aJ aL 1 (.Z 1)),(aQ (.bMC aL tI) 1 (.Z 0)),(.Z 15),(aQ aA 1 (.Z 14))]) <|
     .ret (bE aL [(.p1 aN (.bMC (.slice 126 aA) (.bMC aK aK)) (.Z 1)),(.Z 17),(aQ aL 2 (.Z 1))])) (
     .bMD (.bMH 130 aI) (.bME aN tI (.p1 aN (.bMC (.slice 126 aA) (.bMC aK aK)) (.Z 1)) (aQ aO 1 (.Z 6))) <|
     .bMD (.bMH 130 aI) (.bME aN tI (.p1 aN (.bMC (.slice 126 aA) (.bMC aK aK)) (.Z 1)) (aQ aO 1 (.Z 6))) <|
     .call 4 (bE (.bMC aA (.bMC tI aI)) [(.Z 5),(aQ aO 1 (.Z 6)),(aJ aA 7 (.Z 5)),(aQ aI 1 (.Z 11))]) <|
     .bMD (.ar .add .i64) (.bME tI tI (.p1 tI cY (.Z 12)) (.ci .i64 1)) <|
     .bMD (.bMH 126 aA) (.bME (.slice 126 aA) tI (aJ aL 1 (.Z 1)) (aQ (.bMC aL tI) 1 (.Z 0))) <|
     .bMD (.bMK 126 aA) (bE (.bMC (.slice 126 aA) (.bMC tI aA)) [(aJ aL 1 (.Z 1)),(aQ (.bMC aL tI) 1 (.Z 0)),(.Z 13),(aQ aA 1 (.Z 12))]) <|
     .ret (bE aL [(.p1 aN (.bMC (.slice 126 aA) (.bMC aK aK)) (.Z 1)),(.Z 15),(aQ aL 2 (.Z 1))]))) (
    .bMD (.cmp .eql .i64) (.bME tI tI (.p1 tI tI (.Z 6)) (.ci .i64 3)) <|
    .ite (.Z 9) (
     .bMD (.bMH 170 aM) (.bME aK tI (aJ aL 2 (.Z 1)) (aQ (.bMC aL tI) 1 (.Z 0))) <|
     .bMD (.bMH 170 aM) (.bME aK tI (aJ aL 2 (.Z 1)) (aQ (.bMC aL tI) 1 (.Z 0))) <|
     .call 5 (bE (.bMC aM aF) [(.Z 11),(aQ aO 1 (.Z 6)),(aJ aA 8 (.Z 5))]) <|
     .bMD (.bMH 170 aM) (.bME aK tI (aJ aL 2 (.Z 1)) (aQ (.bMC aL tI) 1 (.Z 0))) <|
     .bMD (.bMK 170 aM) (bE (.bMC aK (.bMC tI aM)) [(aJ aL 2 (.Z 1)),(aQ (.bMC aL tI) 1 (.Z 0)),(.p1 aM .bool (.Z 12))]) <|
     .bMD (.ar .add .i64) (.bME tI tI (.p1 tI cY (.Z 5)) (.ci .i64 1)) <|
     .bMD (.bMH 126 aA) (.bME (.slice 126 aA) tI (aJ aL 1 (.Z 1)) (aQ (.bMC aL tI) 1 (.Z 0))) <|
     .bMD (.bMK 126 aA) (bE (.bMC (.slice 126 aA) (.bMC tI aA)) [(aJ aL 1 (.Z 1)),(aQ (.bMC aL tI) 1 (.Z 0)),(.Z 15),(aJ aA 1 (.Z 5)),(aJ aA 2 (.Z 5)),(aJ aA 3 (.Z 5)),(aJ aA 4 (.Z 5)),(aJ aA 5 (.Z 5)),(aJ aA 6 (.Z 5)),(aJ aA 7 (.Z 5)),(.nl 3 tI),(aQ aA 9 (.Z 5))]) <|
     .ret (bE aL [(.p1 aN (.bMC (.slice 126 aA) (.bMC aK aK)) (.Z 1)),(.Z 17),(.Z 14),(aQ aL 3 (.Z 1))])) (
     .bMD (.cmp .eql .i64) (.bME tI tI (.p1 tI tI (.Z 6)) (.ci .i64 4)) <|
     .ite (.Z 10) (
      .bMD (.bMH 170 aM) (.bME aK tI (aQ aL 3 (.Z 1)) (aQ (.bMC aL tI) 1 (.Z 0))) <|
      .bMD (.bMH 170 aM) (.bME aK tI (aQ aL 3 (.Z 1)) (aQ (.bMC aL tI) 1 (.Z 0))) <|
      .call 3 (.Z 12) <|
      .bMD (.bMH 170 aM) (.bME aK tI (aQ aL 3 (.Z 1)) (aQ (.bMC aL tI) 1 (.Z 0))) <|
      .bMD (.bMK 170 aM) (bE (.bMC aK (.bMC tI aM)) [(aQ aL 3 (.Z 1)),(aQ (.bMC aL tI) 1 (.Z 0)),(.p1 aM (.bMC aF .bool) (.Z 13))]) <|
      .bMD (.ar .add .i64) (.bME tI tI (.p1 tI cY (.Z 5)) (.ci .i64 1)) <|
      .bMD (.bMH 126 aA) (.bME (.slice 126 aA) tI (aJ aL 1 (.Z 1)) (aQ (.bMC aL tI) 1 (.Z 0))) <|
      .bMD (.bMK 126 aA) (bE (.bMC (.slice 126 aA) (.bMC tI aA)) [(aJ aL 1 (.Z 1)),(aQ (.bMC aL tI) 1 (.Z 0)),(.Z 16),(aJ aA 1 (.Z 5)),(aJ aA 2 (.Z 5)),(aJ aA 3 (.Z 5)),(aJ aA 4 (.Z 5)),(aJ aA 5 (.Z 5)),(aJ aA 6 (.Z 5)),(aJ aA 7 (.Z 5)),(aJ aA 8 (.Z 5)),(aQ aF 1 (aJ (.bMC aM (.bMC aF .bool)) 1 (.Z 13))),(aQ aA 10 (.Z 5))]) <|
      .ret (bE aL [(.p1 aN (.bMC (.slice 126 aA) (.bMC aK aK)) (.Z 1)),(.Z 18),(aJ aL 2 (.Z 1)),(.Z 15)])) (
      .bMD (.cmp .eql .i64) (.bME tI tI (.p1 tI tI (.Z 6)) (.ci .i64 5)) <|
      .ite (.Z 11) (
       .call 6 (.bME aA tI (.Z 5) (aQ aO 1 (.Z 6))) <|
       .bMD (.ar .add .i64) (.bME tI tI (.p1 tI cY (.Z 12)) (.ci .i64 1)) <|
       .bMD (.bMH 126 aA) (.bME (.slice 126 aA) tI (aJ aL 1 (.Z 1)) (aQ (.bMC aL tI) 1 (.Z 0))) <|
       .bMD (.bMK 126 aA) (bE (.bMC (.slice 126 aA) (.bMC tI aA)) [(aJ aL 1 (.Z 1)),(aQ (.bMC aL tI) 1 (.Z 0)),(.Z 13),(aQ aA 1 (.Z 12))]) <|
       .ret (bE aL [(.p1 aN (.bMC (.slice 126 aA) (.bMC aK aK)) (.Z 1)),(.Z 15),(aQ aL 2 (.Z 1))])) (
       .bMD (.cmp .eql .i64) (.bME tI tI (.p1 tI tI (.Z 6)) (.ci .i64 6)) <|
       .ite (.Z 12) (
        .bMD (.bMH 130 aI) (.bME aN tI (.p1 aN (.bMC (.slice 126 aA) (.bMC aK aK)) (.Z 1)) (aQ aO 1 (.Z 6))) <|
        .bMD (.bMH 130 aI) (.bME aN tI (.p1 aN (.bMC (.slice 126 aA) (.bMC aK aK)) (.Z 1)) (aQ aO 1 (.Z 6))) <|
        .call 7 (bE (.bMC aA aF) [(.Z 5),(aQ aO 1 (.Z 6)),(aQ aI 1 (.Z 14))]) <|
        .bMD (.cmp .eql .i64) (.bME tI tI (aQ (.bMC aL tI) 1 (.Z 0)) (.ci .i64 0)) <|
        .ite (.Z 16) (
         .bMD (.ar .add .i64) (.bME tI tI (.p1 tI cY (.Z 15)) (.ci .i64 1)) <|
         .bMD (.bMH 126 aA) (.bME (.slice 126 aA) tI (aJ aL 1 (.Z 1)) (aQ (.bMC aL tI) 1 (.Z 0))) <|
         .bMD (.bMK 126 aA) (bE (.bMC (.slice 126 aA) (.bMC tI aA)) [(aJ aL 1 (.Z 1)),(aQ (.bMC aL tI) 1 (.Z 0)),(.Z 17),(aJ aA 1 (.Z 15)),(aJ aA 2 (.Z 15)),(aJ aA 3 (.Z 15)),(aJ aA 4 (.Z 15)),(aJ aA 5 (.Z 15)),(aJ aA 6 (.Z 15)),(aJ aA 7 (.Z 15)),(aJ aA 8 (.Z 15)),(aJ aA 9 (.Z 15)),(.nl 3 tI),(aQ aA 11 (.Z 15))]) <|
         .ret (bE aL [(.p1 aN (.bMC (.slice 126 aA) (.bMC aK aK)) (.Z 1)),(.Z 19),(aQ aL 2 (.Z 1))])) (
         .bMD (.ar .add .i64) (.bME tI tI (.p1 tI cY (.Z 15)) (.ci .i64 1)) <|
         .bMD (.bMH 126 aA) (.bME (.slice 126 aA) tI (aJ aL 1 (.Z 1)) (aQ (.bMC aL tI) 1 (.Z 0))) <|
         .bMD (.bMK 126 aA) (bE (.bMC (.slice 126 aA) (.bMC tI aA)) [(aJ aL 1 (.Z 1)),(aQ (.bMC aL tI) 1 (.Z 0)),(.Z 17),(aQ aA 1 (.Z 15))]) <|
         .ret (bE aL [(.p1 aN (.bMC (.slice 126 aA) (.bMC aK aK)) (.Z 1)),(.Z 19),(aQ aL 2 (.Z 1))]))) (
        .bMD (.cmp .eql .i64) (.bME tI tI (.p1 tI tI (.Z 6)) (.ci .i64 7)) <|
        .ite (.Z 13) (
         .bMD (.ar .sub .i64) (.bME tI tI (aQ (.bMC aL tI) 1 (.Z 0)) (.ci .i64 1)) <|
         .bMD (.ar .sub .i64) (.bME tI tI (aQ (.bMC aL tI) 1 (.Z 0)) (.ci .i64 1)) <|
         .bMD (.bMH 170 aM) (.bME aK tI (aQ aL 3 (.Z 1)) (.Z 15)) <|
         .bMD (.bMH 170 aM) (.bME aK tI (aQ aL 3 (.Z 1)) (.Z 15)) <|
         .call 5 (bE (.bMC aM aF) [(.Z 17),(aQ aO 1 (.Z 6)),(aJ aA 10 (.Z 5))]) <|
         .bMD (.bMH 170 aM) (.bME aK tI (aQ aL 3 (.Z 1)) (.Z 14)) <|
         .bMD (.bMK 170 aM) (bE (.bMC aK (.bMC tI aM)) [(aQ aL 3 (.Z 1)),(.Z 14),(.p1 aM .bool (.Z 18))]) <|
         .bMD (.ar .add .i64) (.bME tI tI (.p1 tI cY (.Z 5)) (.ci .i64 1)) <|
         .bMD (.bMH 126 aA) (.bME (.slice 126 aA) tI (aJ aL 1 (.Z 1)) (aQ (.bMC aL tI) 1 (.Z 0))) <|
         .bMD (.bMK 126 aA) (bE (.bMC (.slice 126 aA) (.bMC tI aA)) [(aJ aL 1 (.Z 1)),(aQ (.bMC aL tI) 1 (.Z 0)),(.Z 21),(aJ aA 1 (.Z 5)),(aJ aA 2 (.Z 5)),(aJ aA 3 (.Z 5)),(aJ aA 4 (.Z 5)),(aJ aA 5 (.Z 5)),(aJ aA 6 (.Z 5)),(aJ aA 7 (.Z 5)),(aJ aA 8 (.Z 5)),(aJ aA 9 (.Z 5)),(.nl 3 tI),(aQ aA 11 (.Z 5))]) <|
         .ret (bE aL [(.p1 aN (.bMC (.slice 126 aA) (.bMC aK aK)) (.Z 1)),(.Z 23),(aJ aL 2 (.Z 1)),(.Z 20)])) (
         .bMD (.ar .add .i64) (.bME tI tI (.p1 tI cY (.Z 5)) (.ci .i64 1)) <|
         .bMD (.bMH 126 aA) (.bME (.slice 126 aA) tI (aJ aL 1 (.Z 1)) (aQ (.bMC aL tI) 1 (.Z 0))) <|
         .bMD (.bMK 126 aA) (bE (.bMC (.slice 126 aA) (.bMC tI aA)) [(aJ aL 1 (.Z 1)),(aQ (.bMC aL tI) 1 (.Z 0)),(.Z 14),(aQ aA 1 (.Z 5))]) <|
         .ret (bE aL [(.p1 aN (.bMC (.slice 126 aA) (.bMC aK aK)) (.Z 1)),(.Z 16),(aQ aL 2 (.Z 1))])))))))))
theorem bES:bL Tryz.prog [nS,jS,pJ,aEM,nK,aBF,mK,nC] zL false 3000 ⟨[],[(2964,28016,[],[27,28,29,30,31,32,33,34,35]),(2964,20014,[],[27,28,29,30,31,32,33,34,35]),(2972,24010,[95],[]),(2966,24016,[],[28]),(2962,96014,[],[27,28,29,30,31,32,33,34,35]),(2954,448018,[],[27]),(2960,384014,[160],[]),(2954,384022,[],[28])]⟩ = .ok aIU:=by kernel_rfl
set_option maxHeartbeats 2000000 in
theorem bHV (x:bO × Int) (hx:okD (.bMC aL tI) x) (hp:(fun x=>bD aL x.1≤1000000000) x):aIU.wp [nS,jS,pJ,aEM,nK,aBF,mK,nC] [⟨(.bMC aL tI),x⟩] [] (fun v=>v.as aL=(fun x=>dQ x.1 x.2) x):=by
 obtain ⟨p,s⟩:=x
 delta aIU nS jS pJ aEM nK aBF mK nC;refine dD ?_
 refine eE ?_
 refine ⟨hp,fun _=>⟨fun h=>aID h,fun h=>?_⟩⟩
 obtain ⟨z1,z1s,z2,z2m,z3,z3m,z4,z4m⟩:=aFF (b:=p.1) (st:=p.2.1) (a:=p.2.2.1) (r:=p.2.2.2) hp
 obtain ⟨h1,h2,h3⟩:=aBT h
 have hk:=aOH h
 have hm:=bLP h
 have hpo:=(nX.1 h1).1
 have hst:=(nX.1 h1).2.2.2 s.toNat (by omega)
 have zs:bD aA (List.getD p.2.1 s.toNat (aX aA))≤1000000000:=by rw[aZ (show s.toNat<p.2.1.length by omega)];exact z2m _ (List.getElem_mem _)
 have za:∀ k,k<p.2.2.1.length→bD aM (List.getD p.2.2.1 k (aX aM))≤1000000000:=fun k hk=>by rw[aZ hk];exact z3m _ (List.getElem_mem _)
 have zr:∀ k,k<p.2.2.2.length→bD aM (List.getD p.2.2.2 k (aX aM))≤1000000000:=fun k hk=>by rw[aZ hk];exact z4m _ (List.getElem_mem _)
 have hpc:=((eJ _).1 hst.1).2.1
 have hpl:List.length (List.getD p.2.1 s.toNat (aX aA)).2.1≤1000000000:=(gX (t:=aA) zs).2.1.1
 (repeat' first|intro _|(with_reducible apply And.intro))
 all_goals first|omega|exact zs|exact za _ (by omega)|exact zr _ (by omega)|(rw[bA5];omega)|(rw[aTG];omega)|(rw[bAI];omega)|skip
 all_goals first|exact bEJ h (by assumption)|exact bFQ h (by assumption)|exact bH7 h (by assumption)|exact bG6 h (by assumption)|exact bEX h (by assumption)|exact bHF h (by assumption) (by assumption)|exact bAY h (by assumption) (by assumption)|exact bHS h (by assumption) (by assumption)|exact bAP h (by assumption) (by assumption)|exact bHB h (by assumption) (by assumption) (by assumption) (by assumption) (by assumption) (by assumption) (by assumption)|skip
set_option maxHeartbeats 2000000 in
theorem bHX:Con.Holds Tryz.prog zL:=aR aW (aG aPH (aG aHK (aG aTJ (aG bJ0 (aG aOY (aG bGQ (aG aM5 (aG aP6 aS)))))))) bES bHV
noncomputable def aBL:Con:=⟨83,(.bMC aL tI),aL,[.val ⟨true,aL,[]⟩,.val ⟨false,tI,[]⟩],[⟨true,aL,[0,0,0,0]⟩],true,none,
 ((fun x=>bD aL x.1≤1000000000):(bO × Int)→Prop),
 ((fun x=>dQ x.1 x.2):(bO × Int)→(bO))⟩
def aJL:T:=.call 0 (.p1 aL tI (.Z 0)) <|.call 1 (.Z 0) <|
 .bMD .not (.Z 2) <|
 .ite (.Z 3) (
  .ret (.Z 1)) (
  .call 2 (.Z 0) <|
  .bMD (.bMH 126 aA) (.bME (.slice 126 aA) tI (aJ aL 1 (.Z 1)) (aQ (.bMC aL tI) 1 (.Z 0))) <|
  .bMD (.bMH 126 aA) (.bME (.slice 126 aA) tI (aJ aL 1 (.Z 1)) (aQ (.bMC aL tI) 1 (.Z 0))) <|
  .bMD (.cmp .eql .i64) (.bME tI tI (.p1 tI tI (.Z 4)) (.ci .i64 1)) <|
  .ite (.Z 7) (
   .bMD (.ar .sub .i64) (.bME tI tI (aQ (.bMC aL tI) 1 (.Z 0)) (.ci .i64 1)) <|
   .bMD (.bMH 170 aM) (.bME aK tI (aJ aL 2 (.p1 aL tI (.Z 0))) (.Z 8)) <|
   .call 3 (.Z 9) <|
   .bMD (.ar .sub .i64) (.bME tI tI (aQ (.bMC aL tI) 1 (.Z 0)) (.ci .i64 1)) <|
   .bMD (.bMH 170 aM) (.bME aK tI (aJ aL 2 (.Z 1)) (.Z 11)) <|
   .bMD (.bMK 170 aM) (bE (.bMC aK (.bMC tI aM)) [(aJ aL 2 (.Z 1)),(.Z 11),(.p1 aM (.bMC aF .bool) (.Z 10))]) <|
   .bMD (.ar .add .i64) (.bME tI tI (.p1 tI cY (.Z 6)) (.ci .i64 1)) <|
   .bMD (.bMH 126 aA) (.bME (.slice 126 aA) tI (aJ aL 1 (.Z 1)) (aQ (.bMC aL tI) 1 (.Z 0))) <|
   .bMD (.bMK 126 aA) (bE (.bMC (.slice 126 aA) (.bMC tI aA)) [(aJ aL 1 (.Z 1)),(aQ (.bMC aL tI) 1 (.Z 0)),(.Z 14),(aJ aA 1 (.Z 6)),(aJ aA 2 (.Z 6)),(aJ aA 3 (.Z 6)),(aJ aA 4 (.Z 6)),(aJ aA 5 (.Z 6)),(aJ aA 6 (.Z 6)),(aQ aF 1 (aJ (.bMC aM (.bMC aF .bool)) 1 (.Z 10))),(aQ aA 8 (.Z 6))]) <|
   .ret (bE aL [(.p1 aN (.bMC (.slice 126 aA) (.bMC aK aK)) (.Z 1)),(.Z 16),(.Z 13),(aQ aL 3 (.Z 1))])) (
   .bMD (.cmp .eql .i64) (.bME tI tI (.p1 tI tI (.Z 4)) (.ci .i64 2)) <|
   .ite (.Z 8) (
    .bMD (.cmp .eql .i64) (.bME tI tI (aQ (.bMC aL tI) 1 (.Z 0)) (.ci .i64 0)) <|
    .ite (.Z 9) (
     .bMD (.bMH 130 aI) (.bME aN tI (.p1 aN (.bMC (.slice 126 aA) (.bMC aK aK)) (.p1 aL tI (.Z 0))) (aQ aO 1 (.Z 4))) <|
     .bMD (.bMH 130 aI) (.bME aN tI (.p1 aN (.bMC (.slice 126 aA) (.bMC aK aK)) (.p1 aL tI (.Z 0))) (aQ aO 1 (.Z 4))) <|
     .call 4 (bE (.bMC aA (.bMC tI aI)) [(.Z 6),(aQ aO 1 (.Z 4)),(.p1 aB aB (.Z 10)),(aQ aI 1 (.Z 11))]) <|
     .bMD (.ar .add .i64) (.bME tI tI (.p1 tI cY (.Z 12)) (.ci .i64 1)) <|
     .bMD (.bMH 126 aA) (.bME (.slice 126 aA) tI (aJ aL 1 (.Z 1)) (aQ (.bMC aL tI) 1 (.Z 0))) <|
     .bMD (.bMK 126 aA) (bE (.bMC (.slice 126 aA) (.bMC tI aA)) [(aJ aL 1 (.Z 1)),(aQ (.bMC aL tI) 1 (.Z 0)),(.Z 13),(aQ aA 1 (.Z 12))]) <|
     .ret (bE aL [(.p1 aN (.bMC (.slice 126 aA) (.bMC aK aK)) (.Z 1)),(.Z 15),(aQ aL 2 (.Z 1))])) (
     .bMD (.bMH 130 aI) (.bME aN tI (.p1 aN (.bMC (.slice 126 aA) (.bMC aK aK)) (.p1 aL tI (.Z 0))) (aQ aO 1 (.Z 4))) <|
     .call 4 (bE (.bMC aA (.bMC tI aI)) [(.Z 6),(aQ aO 1 (.Z 4)),(aJ aA 7 (.Z 6)),(aQ aI 1 (.Z 10))]) <|
     .bMD (.ar .add .i64) (.bME tI tI (.p1 tI cY (.Z 11)) (.ci .i64 1)) <|
     .bMD (.bMH 126 aA) (.bME (.slice 126 aA) tI (aJ aL 1 (.Z 1)) (aQ (.bMC aL tI) 1 (.Z 0))) <|
     .bMD (.bMK 126 aA) (bE (.bMC (.slice 126 aA) (.bMC tI aA)) [(aJ aL 1 (.Z 1)),(aQ (.bMC aL tI) 1 (.Z 0)),(.Z 12),(aQ aA 1 (.Z 11))]) <|
     .ret (bE aL [(.p1 aN (.bMC (.slice 126 aA) (.bMC aK aK)) (.Z 1)),(.Z 14),(aQ aL 2 (.Z 1))]))) (
    .bMD (.cmp .eql .i64) (.bME tI tI (.p1 tI tI (.Z 4)) (.ci .i64 3)) <|
    .ite (.Z 9) (
     .bMD (.bMH 170 aM) (.bME aK tI (aJ aL 2 (.p1 aL tI (.Z 0))) (aQ (.bMC aL tI) 1 (.Z 0))) <|
     .call 5 (bE (.bMC aM aF) [(.Z 10),(aQ aO 1 (.Z 4)),(aJ aA 8 (.Z 6))]) <|
     .bMD (.bMH 170 aM) (.bME aK tI (aJ aL 2 (.Z 1)) (aQ (.bMC aL tI) 1 (.Z 0))) <|
     .bMD (.bMK 170 aM) (bE (.bMC aK (.bMC tI aM)) [(aJ aL 2 (.Z 1)),(aQ (.bMC aL tI) 1 (.Z 0)),(.p1 aM .bool (.Z 11))]) <|
     .bMD (.ar .add .i64) (.bME tI tI (.p1 tI cY (.Z 6)) (.ci .i64 1)) <|
     .bMD (.bMH 126 aA) (.bME (.slice 126 aA) tI (aJ aL 1 (.Z 1)) (aQ (.bMC aL tI) 1 (.Z 0))) <|
     .bMD (.bMK 126 aA) (bE (.bMC (.slice 126 aA) (.bMC tI aA)) [(aJ aL 1 (.Z 1)),(aQ (.bMC aL tI) 1 (.Z 0)),(.Z 14),(aJ aA 1 (.Z 6)),(aJ aA 2 (.Z 6)),(aJ aA 3 (.Z 6)),(aJ aA 4 (.Z 6)),(aJ aA 5 (.Z 6)),(aJ aA 6 (.Z 6)),(aJ aA 7 (.Z 6)),(.nl 3 tI),(aQ aA 9 (.Z 6))]) <|
     .ret (bE aL [(.p1 aN (.bMC (.slice 126 aA) (.bMC aK aK)) (.Z 1)),(.Z 16),(.Z 13),(aQ aL 3 (.Z 1))])) (
     .bMD (.cmp .eql .i64) (.bME tI tI (.p1 tI tI (.Z 4)) (.ci .i64 4)) <|
     .ite (.Z 10) (
      .bMD (.bMH 170 aM) (.bME aK tI (aQ aL 3 (.p1 aL tI (.Z 0))) (aQ (.bMC aL tI) 1 (.Z 0))) <|
      .call 3 (.Z 11) <|
      .bMD (.bMH 170 aM) (.bME aK tI (aQ aL 3 (.Z 1)) (aQ (.bMC aL tI) 1 (.Z 0))) <|
      .bMD (.bMK 170 aM) (bE (.bMC aK (.bMC tI aM)) [(aQ aL 3 (.Z 1)),(aQ (.bMC aL tI) 1 (.Z 0)),(.p1 aM (.bMC aF .bool) (.Z 12))]) <|
      .bMD (.ar .add .i64) (.bME tI tI (.p1 tI cY (.Z 6)) (.ci .i64 1)) <|
      .bMD (.bMH 126 aA) (.bME (.slice 126 aA) tI (aJ aL 1 (.Z 1)) (aQ (.bMC aL tI) 1 (.Z 0))) <|
      .bMD (.bMK 126 aA) (bE (.bMC (.slice 126 aA) (.bMC tI aA)) [(aJ aL 1 (.Z 1)),(aQ (.bMC aL tI) 1 (.Z 0)),(.Z 15),(aJ aA 1 (.Z 6)),(aJ aA 2 (.Z 6)),(aJ aA 3 (.Z 6)),(aJ aA 4 (.Z 6)),(aJ aA 5 (.Z 6)),(aJ aA 6 (.Z 6)),(aJ aA 7 (.Z 6)),(aJ aA 8 (.Z 6)),(aQ aF 1 (aJ (.bMC aM (.bMC aF .bool)) 1 (.Z 12))),(aQ aA 10 (.Z 6))]) <|
      .ret (bE aL [(.p1 aN (.bMC (.slice 126 aA) (.bMC aK aK)) (.Z 1)),(.Z 17),(aJ aL 2 (.Z 1)),(.Z 14)])) (
      .bMD (.cmp .eql .i64) (.bME tI tI (.p1 tI tI (.Z 4)) (.ci .i64 5)) <|
      .ite (.Z 11) (
       .call 6 (.bME aA tI (.Z 6) (aQ aO 1 (.Z 4))) <|
       .bMD (.ar .add .i64) (.bME tI tI (.p1 tI cY (.Z 12)) (.ci .i64 1)) <|
       .bMD (.bMH 126 aA) (.bME (.slice 126 aA) tI (aJ aL 1 (.Z 1)) (aQ (.bMC aL tI) 1 (.Z 0))) <|
       .bMD (.bMK 126 aA) (bE (.bMC (.slice 126 aA) (.bMC tI aA)) [(aJ aL 1 (.Z 1)),(aQ (.bMC aL tI) 1 (.Z 0)),(.Z 13),(aQ aA 1 (.Z 12))]) <|
       .ret (bE aL [(.p1 aN (.bMC (.slice 126 aA) (.bMC aK aK)) (.Z 1)),(.Z 15),(aQ aL 2 (.Z 1))])) (
       .bMD (.cmp .eql .i64) (.bME tI tI (.p1 tI tI (.Z 4)) (.ci .i64 6)) <|
       .ite (.Z 12) (
        .bMD (.bMH 130 aI) (.bME aN tI (.p1 aN (.bMC (.slice 126 aA) (.bMC aK aK)) (.p1 aL tI (.Z 0))) (aQ aO 1 (.Z 4))) <|
        .call 7 (bE (.bMC aA aF) [(.Z 6),(aQ aO 1 (.Z 4)),(aQ aI 1 (.Z 13))]) <|
        .bMD (.cmp .eql .i64) (.bME tI tI (aQ (.bMC aL tI) 1 (.Z 0)) (.ci .i64 0)) <|
        .ite (.Z 15) (
         .bMD (.ar .add .i64) (.bME tI tI (.p1 tI cY (.Z 14)) (.ci .i64 1)) <|
         .bMD (.bMH 126 aA) (.bME (.slice 126 aA) tI (aJ aL 1 (.Z 1)) (aQ (.bMC aL tI) 1 (.Z 0))) <|
         .bMD (.bMK 126 aA) (bE (.bMC (.slice 126 aA) (.bMC tI aA)) [(aJ aL 1 (.Z 1)),(aQ (.bMC aL tI) 1 (.Z 0)),(.Z 16),(aJ aA 1 (.Z 14)),(aJ aA 2 (.Z 14)),(aJ aA 3 (.Z 14)),(aJ aA 4 (.Z 14)),(aJ aA 5 (.Z 14)),(aJ aA 6 (.Z 14)),(aJ aA 7 (.Z 14)),(aJ aA 8 (.Z 14)),(aJ aA 9 (.Z 14)),(.nl 3 tI),(aQ aA 11 (.Z 14))]) <|
         .ret (bE aL [(.p1 aN (.bMC (.slice 126 aA) (.bMC aK aK)) (.Z 1)),(.Z 18),(aQ aL 2 (.Z 1))])) (
         .bMD (.ar .add .i64) (.bME tI tI (.p1 tI cY (.Z 14)) (.ci .i64 1)) <|
         .bMD (.bMH 126 aA) (.bME (.slice 126 aA) tI (aJ aL 1 (.Z 1)) (aQ (.bMC aL tI) 1 (.Z 0))) <|
         .bMD (.bMK 126 aA) (bE (.bMC (.slice 126 aA) (.bMC tI aA)) [(aJ aL 1 (.Z 1)),(aQ (.bMC aL tI) 1 (.Z 0)),(.Z 16),(aQ aA 1 (.Z 14))]) <|
         .ret (bE aL [(.p1 aN (.bMC (.slice 126 aA) (.bMC aK aK)) (.Z 1)),(.Z 18),(aQ aL 2 (.Z 1))]))) (
        .bMD (.cmp .eql .i64) (.bME tI tI (.p1 tI tI (.Z 4)) (.ci .i64 7)) <|
        .ite (.Z 13) (
         .bMD (.ar .sub .i64) (.bME tI tI (aQ (.bMC aL tI) 1 (.Z 0)) (.ci .i64 1)) <|
         .bMD (.bMH 170 aM) (.bME aK tI (aQ aL 3 (.p1 aL tI (.Z 0))) (.Z 14)) <|
         .call 5 (bE (.bMC aM aF) [(.Z 15),(aQ aO 1 (.Z 4)),(aJ aA 10 (.Z 6))]) <|
         .bMD (.ar .sub .i64) (.bME tI tI (aQ (.bMC aL tI) 1 (.Z 0)) (.ci .i64 1)) <|
         .bMD (.bMH 170 aM) (.bME aK tI (aQ aL 3 (.Z 1)) (.Z 17)) <|
         .bMD (.bMK 170 aM) (bE (.bMC aK (.bMC tI aM)) [(aQ aL 3 (.Z 1)),(.Z 17),(.p1 aM .bool (.Z 16))]) <|
         .bMD (.ar .add .i64) (.bME tI tI (.p1 tI cY (.Z 6)) (.ci .i64 1)) <|
         .bMD (.bMH 126 aA) (.bME (.slice 126 aA) tI (aJ aL 1 (.Z 1)) (aQ (.bMC aL tI) 1 (.Z 0))) <|
         .bMD (.bMK 126 aA) (bE (.bMC (.slice 126 aA) (.bMC tI aA)) [(aJ aL 1 (.Z 1)),(aQ (.bMC aL tI) 1 (.Z 0)),(.Z 20),(aJ aA 1 (.Z 6)),(aJ aA 2 (.Z 6)),(aJ aA 3 (.Z 6)),(aJ aA 4 (.Z 6)),(aJ aA 5 (.Z 6)),(aJ aA 6 (.Z 6)),(aJ aA 7 (.Z 6)),(aJ aA 8 (.Z 6)),(aJ aA 9 (.Z 6)),(.nl 3 tI),(aQ aA 11 (.Z 6))]) <|
         .ret (bE aL [(.p1 aN (.bMC (.slice 126 aA) (.bMC aK aK)) (.Z 1)),(.Z 22),(aJ aL 2 (.Z 1)),(.Z 19)])) (
         .bMD (.ar .add .i64) (.bME tI tI (.p1 tI cY (.Z 6)) (.ci .i64 1)) <|
         .bMD (.bMH 126 aA) (.bME (.slice 126 aA) tI (aJ aL 1 (.Z 1)) (aQ (.bMC aL tI) 1 (.Z 0))) <|
         .bMD (.bMK 126 aA) (bE (.bMC (.slice 126 aA) (.bMC tI aA)) [(aJ aL 1 (.Z 1)),(aQ (.bMC aL tI) 1 (.Z 0)),(.Z 14),(aQ aA 1 (.Z 6))]) <|
         .ret (bE aL [(.p1 aN (.bMC (.slice 126 aA) (.bMC aK aK)) (.Z 1)),(.Z 16),(aQ aL 2 (.Z 1))])))))))))
theorem bET:bL Tryz.prog [pL,jX,pZ,aEP,nH,aB3,mI,nD] aBL false 3000 ⟨[],[(2970,24012,[],[27]),(2964,24015,[],[30]),(2962,96014,[],[27,28,29,30,31,32,33,34,35]),(2954,448017,[],[27]),(2958,384017,[],[27]),(2952,384021,[],[30])]⟩ = .ok aJL:=by kernel_rfl
set_option maxHeartbeats 2000000 in
theorem bEO (x:bO × Int) (hx:okD (.bMC aL tI) x) (hp:(fun x=>bD aL x.1≤1000000000) x):aJL.wp [pL,jX,pZ,aEP,nH,aB3,mI,nD] [⟨(.bMC aL tI),x⟩] [] (fun v=>v.as aL=(fun x=>dQ x.1 x.2) x):=by
 obtain ⟨p,s⟩:=x
 delta aJL pL jX pZ aEP nH aB3 mI nD;refine dD ?_
 refine eE ?_
 refine ⟨hp,fun _=>⟨fun h=>aID h,fun h=>?_⟩⟩
 obtain ⟨z1,z1s,z2,z2m,z3,z3m,z4,z4m⟩:=aFF (b:=p.1) (st:=p.2.1) (a:=p.2.2.1) (r:=p.2.2.2) hp
 obtain ⟨h1,h2,h3⟩:=aBT h
 have hk:=aOH h
 have hm:=bLP h
 have hpo:=(nX.1 h1).1
 have hst:=(nX.1 h1).2.2.2 s.toNat (by omega)
 have zs:bD aA (List.getD p.2.1 s.toNat (aX aA))≤1000000000:=by rw[aZ (show s.toNat<p.2.1.length by omega)];exact z2m _ (List.getElem_mem _)
 have za:∀ k,k<p.2.2.1.length→bD aM (List.getD p.2.2.1 k (aX aM))≤1000000000:=fun k hk=>by rw[aZ hk];exact z3m _ (List.getElem_mem _)
 have zr:∀ k,k<p.2.2.2.length→bD aM (List.getD p.2.2.2 k (aX aM))≤1000000000:=fun k hk=>by rw[aZ hk];exact z4m _ (List.getElem_mem _)
 have hpc:=((eJ _).1 hst.1).2.1
 have hpl:List.length (List.getD p.2.1 s.toNat (aX aA)).2.1≤1000000000:=(gX (t:=aA) zs).2.1.1
 (repeat' first|intro _|(with_reducible apply And.intro))
 all_goals first|omega|exact zs|exact za _ (by omega)|exact zr _ (by omega)|(rw[bA5];omega)|(rw[aTG];omega)|(rw[bAI];omega)|skip
 all_goals first|exact bEJ h (by assumption)|exact bFQ h (by assumption)|exact bH7 h (by assumption)|exact bG6 h (by assumption)|exact bEX h (by assumption)|exact bHF h (by assumption) (by assumption)|exact bAY h (by assumption) (by assumption)|exact bHS h (by assumption) (by assumption)|exact bAP h (by assumption) (by assumption)|exact bHB h (by assumption) (by assumption) (by assumption) (by assumption) (by assumption) (by assumption) (by assumption)|skip
set_option maxHeartbeats 2000000 in
theorem bH2:Con.Holds Tryz.prog aBL:=aR aW (aG aUB (aG aHO (aG aRN (aG bJM (aG aQZ (aG bEZ (aG aMJ (aG aPB aS)))))))) bET bEO
end Go.Proofs.YtiihghfoeinbbaaGreat
