/- CoreP: trees, and what they say. -/
import Derived.Test.YtmfpkkbhnmkfdaaGreatCore9
namespace Go.Proofs.YtmfpkkbhnmkfdaaGreat
open Go.ChangeShapes Go.WideShapes Go.ChangeAt Go.RowKit Go.Deep
set_option linter.unusedVariables false
set_option linter.unusedSimpArgs false
theorem aTZ {p:bL} {s:Int} (h:dJ p s = false):p = eT p s:=by unfold eT;rw [if_neg (by rw [h];simp)]
theorem aEB {p:bL} {s:Int} (h:dJ p s = true):jM p = true∧0≤s∧s < (p.2.1.length:Int):=by
 unfold dJ at h;split at h
 ·assumption
 ·cases h
theorem aJT {p:bL} {s:Int} (h:dJ p s = true):((bE p s).1 = 1→0 < s)∧((bE p s).1 = 3→s < (p.2.1.length:Int) - 1)∧((bE p s).1 = 4→s < (p.2.1.length:Int) - 1)∧((bE p s).1 = 7→0 < s)∧¬ (bE p s).1 = 0:=by
 obtain ⟨h1,h2,h3⟩:=aEB h
 refine ⟨fun k=>?_,fun k=>?_,fun k=>?_,fun k=>?_,fun k=>?_⟩
 ·rw [bDB h1 h2 h3 k,Bool.and_eq_true,decide_eq_true_eq] at h;exact h.1
 ·rw [bDO h1 h2 h3 k,Bool.and_eq_true,decide_eq_true_eq] at h;exact h.1
 ·rw [bD2 h1 h2 h3 k,Bool.and_eq_true,decide_eq_true_eq] at h;exact h.1
 ·rw [bDE h1 h2 h3 k,Bool.and_eq_true,decide_eq_true_eq] at h;exact h.1
 ·rw [← bD6 (p:=p) (s:=s) (by omega)] at h;cases h
theorem bDW {p:bL} {s:Int} (h:dJ p s = true):0≤(bE p s).2∧(bE p s).2 < (p.1.length:Int):=by
 obtain ⟨h1,h2,h3⟩:=aEB h
 have hk:=(aJT h).2.2.2.2
 have hs:=(mH.1 h1).2.2.2 s.toNat (by omega)
 unfold bE at hk ⊢
 split at hk
 ·rename_i hh
  rw [if_pos hh]
  exact hs.2.2 _ (by omega)
 ·exact absurd rfl hk
theorem aU9 (s:bA) (m:Int) (x t:List Int):(xE s m x t).1 = s.1:=by unfold xE;split <;> rfl
theorem aNG (s:bA) (m:Int):(qL s m).1 = s.1:=by unfold qL;split <;> rfl
theorem aUE (s:bA) (m:Int) (t:List Int):(sD s m t).1 = s.1:=by unfold sD;split <;> rfl
theorem aZ7 {p:bL} {s:Int} (h:dJ p s = true) (k:(bE p s).1 = 1):(p.1,List.set p.2.1 s.toNat (tE (bC0 (gN p s) (sN (p.2.2.1.getD (s - 1).toNat (aS aE))).2.1.2) ((gN p s).1 + 1)),List.set p.2.2.1 (s - 1).toNat (sN (p.2.2.1.getD (s - 1).toNat (aS aE))).1,p.2.2.2) = eT p s:=by
 unfold eT;rw [if_pos h];unfold iU tF sQ;rw [k];rfl
theorem aZ5 {p:bL} {s:Int} (h:dJ p s = true) (k:(bE p s).1 = 2) (h0:s = 0) :
  (p.1,List.set p.2.1 s.toNat (tE (xE (gN p s) (bE p s).2 (p.1.getD (bE p s).2.toNat (aS aI)).1 (p.1.getD (bE p s).2.toNat (aS aI)).2) ((xE (gN p s) (bE p s).2 (p.1.getD (bE p s).2.toNat (aS aI)).1 (p.1.getD (bE p s).2.toNat (aS aI)).2).1 + 1)),p.2.2.1,p.2.2.2) = eT p s:=by
 unfold eT;rw [if_pos h];unfold iU tF sQ;rw [k,if_pos h0];rfl
theorem aUI {p:bL} {s:Int} (h:dJ p s = true) (k:(bE p s).1 = 2) (h0:¬ s = 0) :
  (p.1,List.set p.2.1 s.toNat (tE (xE (gN p s) (bE p s).2 (gN p s).2.2.2.2.2.2.2.1 (p.1.getD (bE p s).2.toNat (aS aI)).2) ((xE (gN p s) (bE p s).2 (gN p s).2.2.2.2.2.2.2.1 (p.1.getD (bE p s).2.toNat (aS aI)).2).1 + 1)),p.2.2.1,p.2.2.2) = eT p s:=by
 unfold eT;rw [if_pos h];unfold iU tF sQ;rw [k,if_neg h0];rfl
theorem aXR {p:bL} {s:Int} (h:dJ p s = true) (k:(bE p s).1 = 3):(p.1,List.set p.2.1 s.toNat (tE (bC3 (gN p s) []) ((gN p s).1 + 1)),List.set p.2.2.1 s.toNat (qV (p.2.2.1.getD s.toNat (aS aE)) ((bE p s).2,(gN p s).2.2.2.2.2.2.2.2.1)).1,p.2.2.2) = eT p s:=by
 unfold eT;rw [if_pos h];unfold iU tF sQ;rw [k];rfl
theorem aZX {p:bL} {s:Int} (h:dJ p s = true) (k:(bE p s).1 = 4):(p.1,List.set p.2.1 s.toNat (tE (bB7 (gN p s) (sN (p.2.2.2.getD s.toNat (aS aE))).2.1.2) ((gN p s).1 + 1)),p.2.2.1,List.set p.2.2.2 s.toNat (sN (p.2.2.2.getD s.toNat (aS aE))).1) = eT p s:=by
 unfold eT;rw [if_pos h];unfold iU tF sQ;rw [k];rfl
theorem aYL {p:bL} {s:Int} (h:dJ p s = true) (k:(bE p s).1 = 5):(p.1,List.set p.2.1 s.toNat (tE (qL (gN p s) (bE p s).2) ((qL (gN p s) (bE p s).2).1 + 1)),p.2.2.1,p.2.2.2) = eT p s:=by
 unfold eT;rw [if_pos h];unfold iU tF sQ;rw [k];rfl
theorem aYO {p:bL} {s:Int} (h:dJ p s = true) (k:(bE p s).1 = 6) (h0:s = 0) :
  (p.1,List.set p.2.1 s.toNat (tE (aJ9 (sD (gN p s) (bE p s).2 (p.1.getD (bE p s).2.toNat (aS aI)).2) []) ((sD (gN p s) (bE p s).2 (p.1.getD (bE p s).2.toNat (aS aI)).2).1 + 1)),p.2.2.1,p.2.2.2) = eT p s:=by
 unfold eT;rw [if_pos h];unfold iU tF sQ;simp only [k,if_pos h0];rfl
theorem aVB {p:bL} {s:Int} (h:dJ p s = true) (k:(bE p s).1 = 6) (h0:¬ s = 0) :
  (p.1,List.set p.2.1 s.toNat (tE (sD (gN p s) (bE p s).2 (p.1.getD (bE p s).2.toNat (aS aI)).2) ((sD (gN p s) (bE p s).2 (p.1.getD (bE p s).2.toNat (aS aI)).2).1 + 1)),p.2.2.1,p.2.2.2) = eT p s:=by
 unfold eT;rw [if_pos h];unfold iU tF sQ;simp only [k,if_neg h0];rfl
theorem bA1 {p:bL} {s:Int} (h:dJ p s = true) (k:(bE p s).1 = 7):(p.1,List.set p.2.1 s.toNat (tE (aJ9 (gN p s) []) ((gN p s).1 + 1)),p.2.2.1,List.set p.2.2.2 (s - 1).toNat (qV (p.2.2.2.getD (s - 1).toNat (aS aE)) ((bE p s).2,(gN p s).2.2.2.2.2.2.2.2.2.2.1)).1) = eT p s:=by
 unfold eT;rw [if_pos h];unfold iU tF sQ;rw [k];rfl
theorem aYF {p:bL} {s:Int} (h:dJ p s = true) (h1:¬ (bE p s).1 = 1) (h2:¬ (bE p s).1 = 2) (h3:¬ (bE p s).1 = 3) (h4:¬ (bE p s).1 = 4) (h5:¬ (bE p s).1 = 5) (h6:¬ (bE p s).1 = 6) (h7:¬ (bE p s).1 = 7) :
  (p.1,List.set p.2.1 s.toNat (tE (gN p s) ((gN p s).1 + 1)),p.2.2.1,p.2.2.2) = eT p s:=by
 unfold eT;rw [if_pos h];unfold iU tF sQ;simp only [if_neg h1,if_neg h2,if_neg h3,if_neg h4,if_neg h5,if_neg h6,if_neg h7]
noncomputable def wS:Con:=⟨70,(.pair aF tI),aF,[.val ⟨true,aF,[]⟩,.val ⟨false,tI,[]⟩],[⟨true,aF,[0,0,0,0]⟩],false,none,
 ((fun x=>aW aF x.1≤1000000000):(bL × Int)→Prop),
 ((fun x=>eT x.1 x.2):(bL × Int)→(bL))⟩
def aFY:T :=
 .call 0 (.p1 aF tI (.vr 0)) <|
 .call 1 (.vr 0) <|
 .prim .not (.vr 2) <|
 .ite (.vr 3) (
  .ret (.vr 1)) (
  .prim (.lidx 121 aA) (.mk2 (.slice 121 aA) tI (aJ aF 1 (.vr 1)) (aQ (.pair aF tI) 1 (.vr 0))) <|
  .prim (.lidx 121 aA) (.mk2 (.slice 121 aA) tI (aJ aF 1 (.vr 1)) (aQ (.pair aF tI) 1 (.vr 0))) <|
  .call 2 (.vr 0) <|
  .prim (.cmp .eql .i64) (.mk2 tI tI (.p1 tI tI (.vr 6)) (.ci .i64 1)) <|
  .ite (.vr 7) (
   .prim (.ar .sub .i64) (.mk2 tI tI (aQ (.pair aF tI) 1 (.vr 0)) (.ci .i64 1)) <|
   .prim (.lidx 157 aE) (.mk2 aH tI (aJ aF 2 (.vr 1)) (.vr 8)) <|
   .prim (.lidx 157 aE) (.mk2 aH tI (aJ aF 2 (.vr 1)) (.vr 8)) <|
   .call 3 (.vr 10) <|
   .prim (.ar .sub .i64) (.mk2 tI tI (aQ (.pair aF tI) 1 (.vr 0)) (.ci .i64 1)) <|
   .prim (.lidx 157 aE) (.mk2 aH tI (aJ aF 2 (.vr 1)) (.vr 12)) <|
   .prim (.lset 157 aE) (bF (.pair aH (.pair tI aE)) [(aJ aF 2 (.vr 1)),(.vr 12),(.p1 aE (.pair aD .bool) (.vr 11))]) <|
   .prim (.ar .add .i64) (.mk2 tI tI (.p1 tI cT (.vr 5)) (.ci .i64 1)) <|
   .prim (.lidx 121 aA) (.mk2 (.slice 121 aA) tI (aJ aF 1 (.vr 1)) (aQ (.pair aF tI) 1 (.vr 0))) <|
   .prim (.lset 121 aA) (bF (.pair (.slice 121 aA) (.pair tI aA)) [(aJ aF 1 (.vr 1)),(aQ (.pair aF tI) 1 (.vr 0)),(.vr 15),(aJ aA 1 (.vr 5)),(aJ aA 2 (.vr 5)),(aJ aA 3 (.vr 5)),(aJ aA 4 (.vr 5)),(aJ aA 5 (.vr 5)),(aJ aA 6 (.vr 5)),(aQ aD 1 (aJ (.pair aE (.pair aD .bool)) 1 (.vr 11))),(aQ aA 8 (.vr 5))]) <|
   .ret (bF aF [(.p1 aX (.pair (.slice 121 aA) (.pair aH aH)) (.vr 1)),(.vr 17),(.vr 14),(aQ aF 3 (.vr 1))])) (
   .prim (.cmp .eql .i64) (.mk2 tI tI (.p1 tI tI (.vr 6)) (.ci .i64 2)) <|
   .ite (.vr 8) (
    .prim (.cmp .eql .i64) (.mk2 tI tI (aQ (.pair aF tI) 1 (.vr 0)) (.ci .i64 0)) <|
    .ite (.vr 9) (
     .prim (.lidx 126 aI) (.mk2 aX tI (.p1 aX (.pair (.slice 121 aA) (.pair aH aH)) (.vr 1)) (aQ aO 1 (.vr 6))) <|
     .prim (.lidx 126 aI) (.mk2 aX tI (.p1 aX (.pair (.slice 121 aA) (.pair aH aH)) (.vr 1)) (aQ aO 1 (.vr 6))) <|
     .prim (.lidx 126 aI) (.mk2 aX tI (.p1 aX (.pair (.slice 121 aA) (.pair aH aH)) (.vr 1)) (aQ aO 1 (.vr 6))) <|
     .prim (.lidx 126 aI) (.mk2 aX tI (.p1 aX (.pair (.slice 121 aA) (.pair aH aH)) (.vr 1)) (aQ aO 1 (.vr 6))) <|
     .call 4 (bF (.pair aA (.pair tI aI)) [(.vr 5),(aQ aO 1 (.vr 6)),(.p1 aB aB (.vr 11)),(aQ aI 1 (.vr 13))]) <|
     .prim (.ar .add .i64) (.mk2 tI tI (.p1 tI cT (.vr 14)) (.ci .i64 1)) <|
     .prim (.lidx 121 aA) (.mk2 (.slice 121 aA) tI (aJ aF 1 (.vr 1)) (aQ (.pair aF tI) 1 (.vr 0))) <|
     .prim (.lset 121 aA) (bF (.pair (.slice 121 aA) (.pair tI aA)) [(aJ aF 1 (.vr 1)),(aQ (.pair aF tI) 1 (.vr 0)),(.vr 15),(aQ aA 1 (.vr 14))]) <|
     .ret (bF aF [(.p1 aX (.pair (.slice 121 aA) (.pair aH aH)) (.vr 1)),(.vr 17),(aQ aF 2 (.vr 1))])) (
     .prim (.lidx 126 aI) (.mk2 aX tI (.p1 aX (.pair (.slice 121 aA) (.pair aH aH)) (.vr 1)) (aQ aO 1 (.vr 6))) <|
     .prim (.lidx 126 aI) (.mk2 aX tI (.p1 aX (.pair (.slice 121 aA) (.pair aH aH)) (.vr 1)) (aQ aO 1 (.vr 6))) <|
     .call 4 (bF (.pair aA (.pair tI aI)) [(.vr 5),(aQ aO 1 (.vr 6)),(aJ aA 7 (.vr 5)),(aQ aI 1 (.vr 11))]) <|
     .prim (.ar .add .i64) (.mk2 tI tI (.p1 tI cT (.vr 12)) (.ci .i64 1)) <|
     .prim (.lidx 121 aA) (.mk2 (.slice 121 aA) tI (aJ aF 1 (.vr 1)) (aQ (.pair aF tI) 1 (.vr 0))) <|
     .prim (.lset 121 aA) (bF (.pair (.slice 121 aA) (.pair tI aA)) [(aJ aF 1 (.vr 1)),(aQ (.pair aF tI) 1 (.vr 0)),(.vr 13),(aQ aA 1 (.vr 12))]) <|
     .ret (bF aF [(.p1 aX (.pair (.slice 121 aA) (.pair aH aH)) (.vr 1)),(.vr 15),(aQ aF 2 (.vr 1))]))) (
    .prim (.cmp .eql .i64) (.mk2 tI tI (.p1 tI tI (.vr 6)) (.ci .i64 3)) <|
    .ite (.vr 9) (
     .prim (.lidx 157 aE) (.mk2 aH tI (aJ aF 2 (.vr 1)) (aQ (.pair aF tI) 1 (.vr 0))) <|
     .prim (.lidx 157 aE) (.mk2 aH tI (aJ aF 2 (.vr 1)) (aQ (.pair aF tI) 1 (.vr 0))) <|
     .call 5 (bF (.pair aE aD) [(.vr 11),(aQ aO 1 (.vr 6)),(aJ aA 8 (.vr 5))]) <|
     .prim (.lidx 157 aE) (.mk2 aH tI (aJ aF 2 (.vr 1)) (aQ (.pair aF tI) 1 (.vr 0))) <|
     .prim (.lset 157 aE) (bF (.pair aH (.pair tI aE)) [(aJ aF 2 (.vr 1)),(aQ (.pair aF tI) 1 (.vr 0)),(.p1 aE .bool (.vr 12))]) <|
     .prim (.ar .add .i64) (.mk2 tI tI (.p1 tI cT (.vr 5)) (.ci .i64 1)) <|
     .prim (.lidx 121 aA) (.mk2 (.slice 121 aA) tI (aJ aF 1 (.vr 1)) (aQ (.pair aF tI) 1 (.vr 0))) <|
     .prim (.lset 121 aA) (bF (.pair (.slice 121 aA) (.pair tI aA)) [(aJ aF 1 (.vr 1)),(aQ (.pair aF tI) 1 (.vr 0)),(.vr 15),(aJ aA 1 (.vr 5)),(aJ aA 2 (.vr 5)),(aJ aA 3 (.vr 5)),(aJ aA 4 (.vr 5)),(aJ aA 5 (.vr 5)),(aJ aA 6 (.vr 5)),(aJ aA 7 (.vr 5)),(.nl 3 tI),(aQ aA 9 (.vr 5))]) <|
     .ret (bF aF [(.p1 aX (.pair (.slice 121 aA) (.pair aH aH)) (.vr 1)),(.vr 17),(.vr 14),(aQ aF 3 (.vr 1))])) (
     .prim (.cmp .eql .i64) (.mk2 tI tI (.p1 tI tI (.vr 6)) (.ci .i64 4)) <|
     .ite (.vr 10) (
      .prim (.lidx 157 aE) (.mk2 aH tI (aQ aF 3 (.vr 1)) (aQ (.pair aF tI) 1 (.vr 0))) <|
      .prim (.lidx 157 aE) (.mk2 aH tI (aQ aF 3 (.vr 1)) (aQ (.pair aF tI) 1 (.vr 0))) <|
      .call 3 (.vr 12) <|
      .prim (.lidx 157 aE) (.mk2 aH tI (aQ aF 3 (.vr 1)) (aQ (.pair aF tI) 1 (.vr 0))) <|
      .prim (.lset 157 aE) (bF (.pair aH (.pair tI aE)) [(aQ aF 3 (.vr 1)),(aQ (.pair aF tI) 1 (.vr 0)),(.p1 aE (.pair aD .bool) (.vr 13))]) <|
      .prim (.ar .add .i64) (.mk2 tI tI (.p1 tI cT (.vr 5)) (.ci .i64 1)) <|
      .prim (.lidx 121 aA) (.mk2 (.slice 121 aA) tI (aJ aF 1 (.vr 1)) (aQ (.pair aF tI) 1 (.vr 0))) <|
      .prim (.lset 121 aA) (bF (.pair (.slice 121 aA) (.pair tI aA)) [(aJ aF 1 (.vr 1)),(aQ (.pair aF tI) 1 (.vr 0)),(.vr 16),(aJ aA 1 (.vr 5)),(aJ aA 2 (.vr 5)),(aJ aA 3 (.vr 5)),(aJ aA 4 (.vr 5)),(aJ aA 5 (.vr 5)),(aJ aA 6 (.vr 5)),(aJ aA 7 (.vr 5)),(aJ aA 8 (.vr 5)),(aQ aD 1 (aJ (.pair aE (.pair aD .bool)) 1 (.vr 13))),(aQ aA 10 (.vr 5))]) <|
      .ret (bF aF [(.p1 aX (.pair (.slice 121 aA) (.pair aH aH)) (.vr 1)),(.vr 18),(aJ aF 2 (.vr 1)),(.vr 15)])) (
      .prim (.cmp .eql .i64) (.mk2 tI tI (.p1 tI tI (.vr 6)) (.ci .i64 5)) <|
      .ite (.vr 11) (
       .call 6 (.mk2 aA tI (.vr 5) (aQ aO 1 (.vr 6))) <|
       .prim (.ar .add .i64) (.mk2 tI tI (.p1 tI cT (.vr 12)) (.ci .i64 1)) <|
       .prim (.lidx 121 aA) (.mk2 (.slice 121 aA) tI (aJ aF 1 (.vr 1)) (aQ (.pair aF tI) 1 (.vr 0))) <|
       .prim (.lset 121 aA) (bF (.pair (.slice 121 aA) (.pair tI aA)) [(aJ aF 1 (.vr 1)),(aQ (.pair aF tI) 1 (.vr 0)),(.vr 13),(aQ aA 1 (.vr 12))]) <|
       .ret (bF aF [(.p1 aX (.pair (.slice 121 aA) (.pair aH aH)) (.vr 1)),(.vr 15),(aQ aF 2 (.vr 1))])) (
       .prim (.cmp .eql .i64) (.mk2 tI tI (.p1 tI tI (.vr 6)) (.ci .i64 6)) <|
       .ite (.vr 12) (
        .prim (.lidx 126 aI) (.mk2 aX tI (.p1 aX (.pair (.slice 121 aA) (.pair aH aH)) (.vr 1)) (aQ aO 1 (.vr 6))) <|
        .prim (.lidx 126 aI) (.mk2 aX tI (.p1 aX (.pair (.slice 121 aA) (.pair aH aH)) (.vr 1)) (aQ aO 1 (.vr 6))) <|
        .call 7 (bF (.pair aA aD) [(.vr 5),(aQ aO 1 (.vr 6)),(aQ aI 1 (.vr 14))]) <|
        .prim (.cmp .eql .i64) (.mk2 tI tI (aQ (.pair aF tI) 1 (.vr 0)) (.ci .i64 0)) <|
        .ite (.vr 16) (
         .prim (.ar .add .i64) (.mk2 tI tI (.p1 tI cT (.vr 15)) (.ci .i64 1)) <|
         .prim (.lidx 121 aA) (.mk2 (.slice 121 aA) tI (aJ aF 1 (.vr 1)) (aQ (.pair aF tI) 1 (.vr 0))) <|
         .prim (.lset 121 aA) (bF (.pair (.slice 121 aA) (.pair tI aA)) [(aJ aF 1 (.vr 1)),(aQ (.pair aF tI) 1 (.vr 0)),(.vr 17),(aJ aA 1 (.vr 15)),(aJ aA 2 (.vr 15)),(aJ aA 3 (.vr 15)),(aJ aA 4 (.vr 15)),(aJ aA 5 (.vr 15)),(aJ aA 6 (.vr 15)),(aJ aA 7 (.vr 15)),(aJ aA 8 (.vr 15)),(aJ aA 9 (.vr 15)),(.nl 3 tI),(aQ aA 11 (.vr 15))]) <|
         .ret (bF aF [(.p1 aX (.pair (.slice 121 aA) (.pair aH aH)) (.vr 1)),(.vr 19),(aQ aF 2 (.vr 1))])) (
         .prim (.ar .add .i64) (.mk2 tI tI (.p1 tI cT (.vr 15)) (.ci .i64 1)) <|
         .prim (.lidx 121 aA) (.mk2 (.slice 121 aA) tI (aJ aF 1 (.vr 1)) (aQ (.pair aF tI) 1 (.vr 0))) <|
         .prim (.lset 121 aA) (bF (.pair (.slice 121 aA) (.pair tI aA)) [(aJ aF 1 (.vr 1)),(aQ (.pair aF tI) 1 (.vr 0)),(.vr 17),(aQ aA 1 (.vr 15))]) <|
         .ret (bF aF [(.p1 aX (.pair (.slice 121 aA) (.pair aH aH)) (.vr 1)),(.vr 19),(aQ aF 2 (.vr 1))]))) (
        .prim (.cmp .eql .i64) (.mk2 tI tI (.p1 tI tI (.vr 6)) (.ci .i64 7)) <|
        .ite (.vr 13) (
         .prim (.ar .sub .i64) (.mk2 tI tI (aQ (.pair aF tI) 1 (.vr 0)) (.ci .i64 1)) <|
         .prim (.ar .sub .i64) (.mk2 tI tI (aQ (.pair aF tI) 1 (.vr 0)) (.ci .i64 1)) <|
         .prim (.lidx 157 aE) (.mk2 aH tI (aQ aF 3 (.vr 1)) (.vr 15)) <|
         .prim (.lidx 157 aE) (.mk2 aH tI (aQ aF 3 (.vr 1)) (.vr 15)) <|
         .call 5 (bF (.pair aE aD) [(.vr 17),(aQ aO 1 (.vr 6)),(aJ aA 10 (.vr 5))]) <|
         .prim (.lidx 157 aE) (.mk2 aH tI (aQ aF 3 (.vr 1)) (.vr 14)) <|
         .prim (.lset 157 aE) (bF (.pair aH (.pair tI aE)) [(aQ aF 3 (.vr 1)),(.vr 14),(.p1 aE .bool (.vr 18))]) <|
         .prim (.ar .add .i64) (.mk2 tI tI (.p1 tI cT (.vr 5)) (.ci .i64 1)) <|
         .prim (.lidx 121 aA) (.mk2 (.slice 121 aA) tI (aJ aF 1 (.vr 1)) (aQ (.pair aF tI) 1 (.vr 0))) <|
         .prim (.lset 121 aA) (bF (.pair (.slice 121 aA) (.pair tI aA)) [(aJ aF 1 (.vr 1)),(aQ (.pair aF tI) 1 (.vr 0)),(.vr 21),(aJ aA 1 (.vr 5)),(aJ aA 2 (.vr 5)),(aJ aA 3 (.vr 5)),(aJ aA 4 (.vr 5)),(aJ aA 5 (.vr 5)),(aJ aA 6 (.vr 5)),(aJ aA 7 (.vr 5)),(aJ aA 8 (.vr 5)),(aJ aA 9 (.vr 5)),(.nl 3 tI),(aQ aA 11 (.vr 5))]) <|
         .ret (bF aF [(.p1 aX (.pair (.slice 121 aA) (.pair aH aH)) (.vr 1)),(.vr 23),(aJ aF 2 (.vr 1)),(.vr 20)])) (
         .prim (.ar .add .i64) (.mk2 tI tI (.p1 tI cT (.vr 5)) (.ci .i64 1)) <|
         .prim (.lidx 121 aA) (.mk2 (.slice 121 aA) tI (aJ aF 1 (.vr 1)) (aQ (.pair aF tI) 1 (.vr 0))) <|
         .prim (.lset 121 aA) (bF (.pair (.slice 121 aA) (.pair tI aA)) [(aJ aF 1 (.vr 1)),(aQ (.pair aF tI) 1 (.vr 0)),(.vr 14),(aQ aA 1 (.vr 5))]) <|
         .ret (bF aF [(.p1 aX (.pair (.slice 121 aA) (.pair aH aH)) (.vr 1)),(.vr 16),(aQ aF 2 (.vr 1))])))))))))
set_option maxRecDepth 100000 in
theorem bA6:bS Tryz.prog [lW,iQ,jX,aBA,mJ,xW,kY,mE] wS false 3000 ⟨[],[(2964,28016,[],[27,28,29,30,31,32,33,34,35]),(2964,20014,[],[27,28,29,30,31,32,33,34,35]),(2972,24010,[95],[]),(2966,24016,[],[28]),(2962,96014,[],[27,28,29,30,31,32,33,34,35]),(2954,448018,[],[27]),(2960,384014,[160],[]),(2954,384022,[],[28])]⟩ = .ok aFY:=by kernel_rfl
set_option maxHeartbeats 2000000 in
theorem bAM (x:bL × Int) (hx:okD (.pair aF tI) x) (hp:(fun x=>aW aF x.1≤1000000000) x):aFY.wp [lW,iQ,jX,aBA,mJ,xW,kY,mE] [⟨(.pair aF tI),x⟩] [] (fun v=>v.as aF = (fun x=>eT x.1 x.2) x):=by
 obtain ⟨p,s⟩:=x
 delta aFY lW iQ jX aBA mJ xW kY mE;refine eS ?_;try with_reducible exact True.intro
 (refine gR ?_;try with_reducible exact True.intro)
 refine ⟨hp,fun _=>⟨fun h=>aTZ h,fun h=>?_⟩⟩
 obtain ⟨z1,z1s,z2,z2m,z3,z3m,z4,z4m⟩:=aB2 (b:=p.1) (st:=p.2.1) (a:=p.2.2.1) (r:=p.2.2.2) hp
 obtain ⟨h1,h2,h3⟩:=aEB h
 have hk:=aJT h
 have hm:=bDW h
 have hpo:=(mH.1 h1).1
 have hst:=(mH.1 h1).2.2.2 s.toNat (by omega)
 have zs:aW aA (List.getD p.2.1 s.toNat (aS aA))≤1000000000:=by rw [bD (show s.toNat < p.2.1.length by omega)];exact z2m _ (List.getElem_mem _)
 have za:∀ k,k < p.2.2.1.length→aW aE (List.getD p.2.2.1 k (aS aE))≤1000000000:=fun k hk=>by rw [bD hk];exact z3m _ (List.getElem_mem _)
 have zr:∀ k,k < p.2.2.2.length→aW aE (List.getD p.2.2.2 k (aS aE))≤1000000000:=fun k hk=>by rw [bD hk];exact z4m _ (List.getElem_mem _)
 have hpc:=((eF _).1 hst.1).2.1
 have hpl:List.length (List.getD p.2.1 s.toNat (aS aA)).2.1≤1000000000:=(lN (t:=aA) zs).2.1.1
 (repeat' first | intro _ | (with_reducible apply And.intro))
 all_goals first | omega | exact zs | exact za _ (by omega) | exact zr _ (by omega) | (rw [aU9];omega) | (rw [aNG];omega) | (rw [aUE];omega) | skip
 all_goals first | exact aZ7 h (by assumption) | exact aXR h (by assumption) | exact aZX h (by assumption) | exact aYL h (by assumption) | exact bA1 h (by assumption) | exact aZ5 h (by assumption) (by assumption) | exact aUI h (by assumption) (by assumption) | exact aYO h (by assumption) (by assumption) | exact aVB h (by assumption) (by assumption) | exact aYF h (by assumption) (by assumption) (by assumption) (by assumption) (by assumption) (by assumption) (by assumption) | skip
set_option maxHeartbeats 2000000 in
theorem aYC:Con.Holds Tryz.prog wS:=aT aY (aK aJS (aK aDL (aK aFV (aK bB6 (aK aJU (aK aXT (aK aHY (aK aKP aU)))))))) bA6 fun x hx hp=>bAM x hx hp
noncomputable def xO:Con:=⟨64,(.pair aF tI),aF,[.val ⟨true,aF,[]⟩,.val ⟨false,tI,[]⟩],[⟨true,aF,[0,0,0,0]⟩],true,none,
 ((fun x=>aW aF x.1≤1000000000):(bL × Int)→Prop),
 ((fun x=>eT x.1 x.2):(bL × Int)→(bL))⟩
def aF0:T :=
 .call 0 (.p1 aF tI (.vr 0)) <|
 .call 1 (.vr 0) <|
 .prim .not (.vr 2) <|
 .ite (.vr 3) (
  .ret (.vr 1)) (
  .call 2 (.vr 0) <|
  .prim (.lidx 121 aA) (.mk2 (.slice 121 aA) tI (aJ aF 1 (.vr 1)) (aQ (.pair aF tI) 1 (.vr 0))) <|
  .prim (.lidx 121 aA) (.mk2 (.slice 121 aA) tI (aJ aF 1 (.vr 1)) (aQ (.pair aF tI) 1 (.vr 0))) <|
  .prim (.cmp .eql .i64) (.mk2 tI tI (.p1 tI tI (.vr 4)) (.ci .i64 1)) <|
  .ite (.vr 7) (
   .prim (.ar .sub .i64) (.mk2 tI tI (aQ (.pair aF tI) 1 (.vr 0)) (.ci .i64 1)) <|
   .prim (.lidx 157 aE) (.mk2 aH tI (aJ aF 2 (.p1 aF tI (.vr 0))) (.vr 8)) <|
   .call 3 (.vr 9) <|
   .prim (.ar .sub .i64) (.mk2 tI tI (aQ (.pair aF tI) 1 (.vr 0)) (.ci .i64 1)) <|
   .prim (.lidx 157 aE) (.mk2 aH tI (aJ aF 2 (.vr 1)) (.vr 11)) <|
   .prim (.lset 157 aE) (bF (.pair aH (.pair tI aE)) [(aJ aF 2 (.vr 1)),(.vr 11),(.p1 aE (.pair aD .bool) (.vr 10))]) <|
   .prim (.ar .add .i64) (.mk2 tI tI (.p1 tI cT (.vr 6)) (.ci .i64 1)) <|
   .prim (.lidx 121 aA) (.mk2 (.slice 121 aA) tI (aJ aF 1 (.vr 1)) (aQ (.pair aF tI) 1 (.vr 0))) <|
   .prim (.lset 121 aA) (bF (.pair (.slice 121 aA) (.pair tI aA)) [(aJ aF 1 (.vr 1)),(aQ (.pair aF tI) 1 (.vr 0)),(.vr 14),(aJ aA 1 (.vr 6)),(aJ aA 2 (.vr 6)),(aJ aA 3 (.vr 6)),(aJ aA 4 (.vr 6)),(aJ aA 5 (.vr 6)),(aJ aA 6 (.vr 6)),(aQ aD 1 (aJ (.pair aE (.pair aD .bool)) 1 (.vr 10))),(aQ aA 8 (.vr 6))]) <|
   .ret (bF aF [(.p1 aX (.pair (.slice 121 aA) (.pair aH aH)) (.vr 1)),(.vr 16),(.vr 13),(aQ aF 3 (.vr 1))])) (
   .prim (.cmp .eql .i64) (.mk2 tI tI (.p1 tI tI (.vr 4)) (.ci .i64 2)) <|
   .ite (.vr 8) (
    .prim (.cmp .eql .i64) (.mk2 tI tI (aQ (.pair aF tI) 1 (.vr 0)) (.ci .i64 0)) <|
    .ite (.vr 9) (
     .prim (.lidx 126 aI) (.mk2 aX tI (.p1 aX (.pair (.slice 121 aA) (.pair aH aH)) (.p1 aF tI (.vr 0))) (aQ aO 1 (.vr 4))) <|
     .prim (.lidx 126 aI) (.mk2 aX tI (.p1 aX (.pair (.slice 121 aA) (.pair aH aH)) (.p1 aF tI (.vr 0))) (aQ aO 1 (.vr 4))) <|
     .call 4 (bF (.pair aA (.pair tI aI)) [(.vr 6),(aQ aO 1 (.vr 4)),(.p1 aB aB (.vr 10)),(aQ aI 1 (.vr 11))]) <|
     .prim (.ar .add .i64) (.mk2 tI tI (.p1 tI cT (.vr 12)) (.ci .i64 1)) <|
     .prim (.lidx 121 aA) (.mk2 (.slice 121 aA) tI (aJ aF 1 (.vr 1)) (aQ (.pair aF tI) 1 (.vr 0))) <|
     .prim (.lset 121 aA) (bF (.pair (.slice 121 aA) (.pair tI aA)) [(aJ aF 1 (.vr 1)),(aQ (.pair aF tI) 1 (.vr 0)),(.vr 13),(aQ aA 1 (.vr 12))]) <|
     .ret (bF aF [(.p1 aX (.pair (.slice 121 aA) (.pair aH aH)) (.vr 1)),(.vr 15),(aQ aF 2 (.vr 1))])) (
     .prim (.lidx 126 aI) (.mk2 aX tI (.p1 aX (.pair (.slice 121 aA) (.pair aH aH)) (.p1 aF tI (.vr 0))) (aQ aO 1 (.vr 4))) <|
     .call 4 (bF (.pair aA (.pair tI aI)) [(.vr 6),(aQ aO 1 (.vr 4)),(aJ aA 7 (.vr 6)),(aQ aI 1 (.vr 10))]) <|
     .prim (.ar .add .i64) (.mk2 tI tI (.p1 tI cT (.vr 11)) (.ci .i64 1)) <|
     .prim (.lidx 121 aA) (.mk2 (.slice 121 aA) tI (aJ aF 1 (.vr 1)) (aQ (.pair aF tI) 1 (.vr 0))) <|
     .prim (.lset 121 aA) (bF (.pair (.slice 121 aA) (.pair tI aA)) [(aJ aF 1 (.vr 1)),(aQ (.pair aF tI) 1 (.vr 0)),(.vr 12),(aQ aA 1 (.vr 11))]) <|
     .ret (bF aF [(.p1 aX (.pair (.slice 121 aA) (.pair aH aH)) (.vr 1)),(.vr 14),(aQ aF 2 (.vr 1))]))) (
    .prim (.cmp .eql .i64) (.mk2 tI tI (.p1 tI tI (.vr 4)) (.ci .i64 3)) <|
    .ite (.vr 9) (
     .prim (.lidx 157 aE) (.mk2 aH tI (aJ aF 2 (.p1 aF tI (.vr 0))) (aQ (.pair aF tI) 1 (.vr 0))) <|
     .call 5 (bF (.pair aE aD) [(.vr 10),(aQ aO 1 (.vr 4)),(aJ aA 8 (.vr 6))]) <|
     .prim (.lidx 157 aE) (.mk2 aH tI (aJ aF 2 (.vr 1)) (aQ (.pair aF tI) 1 (.vr 0))) <|
     .prim (.lset 157 aE) (bF (.pair aH (.pair tI aE)) [(aJ aF 2 (.vr 1)),(aQ (.pair aF tI) 1 (.vr 0)),(.p1 aE .bool (.vr 11))]) <|
     .prim (.ar .add .i64) (.mk2 tI tI (.p1 tI cT (.vr 6)) (.ci .i64 1)) <|
     .prim (.lidx 121 aA) (.mk2 (.slice 121 aA) tI (aJ aF 1 (.vr 1)) (aQ (.pair aF tI) 1 (.vr 0))) <|
     .prim (.lset 121 aA) (bF (.pair (.slice 121 aA) (.pair tI aA)) [(aJ aF 1 (.vr 1)),(aQ (.pair aF tI) 1 (.vr 0)),(.vr 14),(aJ aA 1 (.vr 6)),(aJ aA 2 (.vr 6)),(aJ aA 3 (.vr 6)),(aJ aA 4 (.vr 6)),(aJ aA 5 (.vr 6)),(aJ aA 6 (.vr 6)),(aJ aA 7 (.vr 6)),(.nl 3 tI),(aQ aA 9 (.vr 6))]) <|
     .ret (bF aF [(.p1 aX (.pair (.slice 121 aA) (.pair aH aH)) (.vr 1)),(.vr 16),(.vr 13),(aQ aF 3 (.vr 1))])) (
     .prim (.cmp .eql .i64) (.mk2 tI tI (.p1 tI tI (.vr 4)) (.ci .i64 4)) <|
     .ite (.vr 10) (
      .prim (.lidx 157 aE) (.mk2 aH tI (aQ aF 3 (.p1 aF tI (.vr 0))) (aQ (.pair aF tI) 1 (.vr 0))) <|
      .call 3 (.vr 11) <|
      .prim (.lidx 157 aE) (.mk2 aH tI (aQ aF 3 (.vr 1)) (aQ (.pair aF tI) 1 (.vr 0))) <|
      .prim (.lset 157 aE) (bF (.pair aH (.pair tI aE)) [(aQ aF 3 (.vr 1)),(aQ (.pair aF tI) 1 (.vr 0)),(.p1 aE (.pair aD .bool) (.vr 12))]) <|
      .prim (.ar .add .i64) (.mk2 tI tI (.p1 tI cT (.vr 6)) (.ci .i64 1)) <|
      .prim (.lidx 121 aA) (.mk2 (.slice 121 aA) tI (aJ aF 1 (.vr 1)) (aQ (.pair aF tI) 1 (.vr 0))) <|
      .prim (.lset 121 aA) (bF (.pair (.slice 121 aA) (.pair tI aA)) [(aJ aF 1 (.vr 1)),(aQ (.pair aF tI) 1 (.vr 0)),(.vr 15),(aJ aA 1 (.vr 6)),(aJ aA 2 (.vr 6)),(aJ aA 3 (.vr 6)),(aJ aA 4 (.vr 6)),(aJ aA 5 (.vr 6)),(aJ aA 6 (.vr 6)),(aJ aA 7 (.vr 6)),(aJ aA 8 (.vr 6)),(aQ aD 1 (aJ (.pair aE (.pair aD .bool)) 1 (.vr 12))),(aQ aA 10 (.vr 6))]) <|
      .ret (bF aF [(.p1 aX (.pair (.slice 121 aA) (.pair aH aH)) (.vr 1)),(.vr 17),(aJ aF 2 (.vr 1)),(.vr 14)])) (
      .prim (.cmp .eql .i64) (.mk2 tI tI (.p1 tI tI (.vr 4)) (.ci .i64 5)) <|
      .ite (.vr 11) (
       .call 6 (.mk2 aA tI (.vr 6) (aQ aO 1 (.vr 4))) <|
       .prim (.ar .add .i64) (.mk2 tI tI (.p1 tI cT (.vr 12)) (.ci .i64 1)) <|
       .prim (.lidx 121 aA) (.mk2 (.slice 121 aA) tI (aJ aF 1 (.vr 1)) (aQ (.pair aF tI) 1 (.vr 0))) <|
       .prim (.lset 121 aA) (bF (.pair (.slice 121 aA) (.pair tI aA)) [(aJ aF 1 (.vr 1)),(aQ (.pair aF tI) 1 (.vr 0)),(.vr 13),(aQ aA 1 (.vr 12))]) <|
       .ret (bF aF [(.p1 aX (.pair (.slice 121 aA) (.pair aH aH)) (.vr 1)),(.vr 15),(aQ aF 2 (.vr 1))])) (
       .prim (.cmp .eql .i64) (.mk2 tI tI (.p1 tI tI (.vr 4)) (.ci .i64 6)) <|
       .ite (.vr 12) (
        .prim (.lidx 126 aI) (.mk2 aX tI (.p1 aX (.pair (.slice 121 aA) (.pair aH aH)) (.p1 aF tI (.vr 0))) (aQ aO 1 (.vr 4))) <|
        .call 7 (bF (.pair aA aD) [(.vr 6),(aQ aO 1 (.vr 4)),(aQ aI 1 (.vr 13))]) <|
        .prim (.cmp .eql .i64) (.mk2 tI tI (aQ (.pair aF tI) 1 (.vr 0)) (.ci .i64 0)) <|
        .ite (.vr 15) (
         .prim (.ar .add .i64) (.mk2 tI tI (.p1 tI cT (.vr 14)) (.ci .i64 1)) <|
         .prim (.lidx 121 aA) (.mk2 (.slice 121 aA) tI (aJ aF 1 (.vr 1)) (aQ (.pair aF tI) 1 (.vr 0))) <|
         .prim (.lset 121 aA) (bF (.pair (.slice 121 aA) (.pair tI aA)) [(aJ aF 1 (.vr 1)),(aQ (.pair aF tI) 1 (.vr 0)),(.vr 16),(aJ aA 1 (.vr 14)),(aJ aA 2 (.vr 14)),(aJ aA 3 (.vr 14)),(aJ aA 4 (.vr 14)),(aJ aA 5 (.vr 14)),(aJ aA 6 (.vr 14)),(aJ aA 7 (.vr 14)),(aJ aA 8 (.vr 14)),(aJ aA 9 (.vr 14)),(.nl 3 tI),(aQ aA 11 (.vr 14))]) <|
         .ret (bF aF [(.p1 aX (.pair (.slice 121 aA) (.pair aH aH)) (.vr 1)),(.vr 18),(aQ aF 2 (.vr 1))])) (
         .prim (.ar .add .i64) (.mk2 tI tI (.p1 tI cT (.vr 14)) (.ci .i64 1)) <|
         .prim (.lidx 121 aA) (.mk2 (.slice 121 aA) tI (aJ aF 1 (.vr 1)) (aQ (.pair aF tI) 1 (.vr 0))) <|
         .prim (.lset 121 aA) (bF (.pair (.slice 121 aA) (.pair tI aA)) [(aJ aF 1 (.vr 1)),(aQ (.pair aF tI) 1 (.vr 0)),(.vr 16),(aQ aA 1 (.vr 14))]) <|
         .ret (bF aF [(.p1 aX (.pair (.slice 121 aA) (.pair aH aH)) (.vr 1)),(.vr 18),(aQ aF 2 (.vr 1))]))) (
        .prim (.cmp .eql .i64) (.mk2 tI tI (.p1 tI tI (.vr 4)) (.ci .i64 7)) <|
        .ite (.vr 13) (
         .prim (.ar .sub .i64) (.mk2 tI tI (aQ (.pair aF tI) 1 (.vr 0)) (.ci .i64 1)) <|
         .prim (.lidx 157 aE) (.mk2 aH tI (aQ aF 3 (.p1 aF tI (.vr 0))) (.vr 14)) <|
         .call 5 (bF (.pair aE aD) [(.vr 15),(aQ aO 1 (.vr 4)),(aJ aA 10 (.vr 6))]) <|
         .prim (.ar .sub .i64) (.mk2 tI tI (aQ (.pair aF tI) 1 (.vr 0)) (.ci .i64 1)) <|
         .prim (.lidx 157 aE) (.mk2 aH tI (aQ aF 3 (.vr 1)) (.vr 17)) <|
         .prim (.lset 157 aE) (bF (.pair aH (.pair tI aE)) [(aQ aF 3 (.vr 1)),(.vr 17),(.p1 aE .bool (.vr 16))]) <|
         .prim (.ar .add .i64) (.mk2 tI tI (.p1 tI cT (.vr 6)) (.ci .i64 1)) <|
         .prim (.lidx 121 aA) (.mk2 (.slice 121 aA) tI (aJ aF 1 (.vr 1)) (aQ (.pair aF tI) 1 (.vr 0))) <|
         .prim (.lset 121 aA) (bF (.pair (.slice 121 aA) (.pair tI aA)) [(aJ aF 1 (.vr 1)),(aQ (.pair aF tI) 1 (.vr 0)),(.vr 20),(aJ aA 1 (.vr 6)),(aJ aA 2 (.vr 6)),(aJ aA 3 (.vr 6)),(aJ aA 4 (.vr 6)),(aJ aA 5 (.vr 6)),(aJ aA 6 (.vr 6)),(aJ aA 7 (.vr 6)),(aJ aA 8 (.vr 6)),(aJ aA 9 (.vr 6)),(.nl 3 tI),(aQ aA 11 (.vr 6))]) <|
         .ret (bF aF [(.p1 aX (.pair (.slice 121 aA) (.pair aH aH)) (.vr 1)),(.vr 22),(aJ aF 2 (.vr 1)),(.vr 19)])) (
         .prim (.ar .add .i64) (.mk2 tI tI (.p1 tI cT (.vr 6)) (.ci .i64 1)) <|
         .prim (.lidx 121 aA) (.mk2 (.slice 121 aA) tI (aJ aF 1 (.vr 1)) (aQ (.pair aF tI) 1 (.vr 0))) <|
         .prim (.lset 121 aA) (bF (.pair (.slice 121 aA) (.pair tI aA)) [(aJ aF 1 (.vr 1)),(aQ (.pair aF tI) 1 (.vr 0)),(.vr 14),(aQ aA 1 (.vr 6))]) <|
         .ret (bF aF [(.p1 aX (.pair (.slice 121 aA) (.pair aH aH)) (.vr 1)),(.vr 16),(aQ aF 2 (.vr 1))])))))))))
set_option maxRecDepth 100000 in
theorem aZ4:bS Tryz.prog [iP,iS,kC,aB9,lX,vP,kW,lU] xO false 3000 ⟨[],[(2970,24012,[],[27]),(2964,24015,[],[30]),(2962,96014,[],[27,28,29,30,31,32,33,34,35]),(2954,448017,[],[27]),(2958,384017,[],[27]),(2952,384021,[],[30])]⟩ = .ok aF0:=by kernel_rfl
set_option maxHeartbeats 2000000 in
theorem aZW (x:bL × Int) (hx:okD (.pair aF tI) x) (hp:(fun x=>aW aF x.1≤1000000000) x):aF0.wp [iP,iS,kC,aB9,lX,vP,kW,lU] [⟨(.pair aF tI),x⟩] [] (fun v=>v.as aF = (fun x=>eT x.1 x.2) x):=by
 obtain ⟨p,s⟩:=x
 delta aF0 iP iS kC aB9 lX vP kW lU;refine eS ?_;try with_reducible exact True.intro
 (refine gR ?_;try with_reducible exact True.intro)
 refine ⟨hp,fun _=>⟨fun h=>aTZ h,fun h=>?_⟩⟩
 obtain ⟨z1,z1s,z2,z2m,z3,z3m,z4,z4m⟩:=aB2 (b:=p.1) (st:=p.2.1) (a:=p.2.2.1) (r:=p.2.2.2) hp
 obtain ⟨h1,h2,h3⟩:=aEB h
 have hk:=aJT h
 have hm:=bDW h
 have hpo:=(mH.1 h1).1
 have hst:=(mH.1 h1).2.2.2 s.toNat (by omega)
 have zs:aW aA (List.getD p.2.1 s.toNat (aS aA))≤1000000000:=by rw [bD (show s.toNat < p.2.1.length by omega)];exact z2m _ (List.getElem_mem _)
 have za:∀ k,k < p.2.2.1.length→aW aE (List.getD p.2.2.1 k (aS aE))≤1000000000:=fun k hk=>by rw [bD hk];exact z3m _ (List.getElem_mem _)
 have zr:∀ k,k < p.2.2.2.length→aW aE (List.getD p.2.2.2 k (aS aE))≤1000000000:=fun k hk=>by rw [bD hk];exact z4m _ (List.getElem_mem _)
 have hpc:=((eF _).1 hst.1).2.1
 have hpl:List.length (List.getD p.2.1 s.toNat (aS aA)).2.1≤1000000000:=(lN (t:=aA) zs).2.1.1
 (repeat' first | intro _ | (with_reducible apply And.intro))
 all_goals first | omega | exact zs | exact za _ (by omega) | exact zr _ (by omega) | (rw [aU9];omega) | (rw [aNG];omega) | (rw [aUE];omega) | skip
 all_goals first | exact aZ7 h (by assumption) | exact aXR h (by assumption) | exact aZX h (by assumption) | exact aYL h (by assumption) | exact bA1 h (by assumption) | exact aZ5 h (by assumption) (by assumption) | exact aUI h (by assumption) (by assumption) | exact aYO h (by assumption) (by assumption) | exact aVB h (by assumption) (by assumption) | exact aYF h (by assumption) (by assumption) (by assumption) (by assumption) (by assumption) (by assumption) (by assumption) | skip
set_option maxHeartbeats 2000000 in
theorem aZU:Con.Holds Tryz.prog xO:=aT aY (aK aDT (aK aDY (aK aH7 (aK bBS (aK aKW (aK bAO (aK aID (aK aKT aU)))))))) aZ4 fun x hx hp=>aZW x hx hp
end Go.Proofs.YtmfpkkbhnmkfdaaGreat
