/- CoreP: lemmas. No conditions. -/
import Derived.Test.YtpleleanibgniaaGreatCore9
namespace Go.Proofs.YtpleleanibgniaaGreat
open Go.ChangeShapes Go.WideShapes Go.ChangeAt Go.RowKit Go.Deep
set_option linter.unusedVariables false
set_option linter.unusedSimpArgs false
theorem bE2 {p:bI} {s:Int} (h:cZ p s=false):p=dP p s:=by unfold dP;rw[if_neg (by rw[h];simp)]
theorem yT {p:bI} {s:Int} (h:cZ p s=true):kW p=true∧0≤s∧s<(p.2.1.length:Int):=by
 unfold cZ at h;split at h
 ·assumption
 ·cases h
theorem aBX {p:bI} {s:Int} (h:cZ p s=true):((aZ p s).1=1→0<s)∧((aZ p s).1=3→s<(p.2.1.length:Int) - 1)∧((aZ p s).1=4→s<(p.2.1.length:Int) - 1)∧((aZ p s).1=7→0<s)∧¬ (aZ p s).1=0:=by
 obtain ⟨h1,h2,h3⟩:=yT h
 refine ⟨fun k=>?_,fun k=>?_,fun k=>?_,fun k=>?_,fun k=>?_⟩
 ·rw[bA1 h1 h2 h3 k,Bool.and_eq_true,decide_eq_true_eq] at h;exact h.1
 ·rw[bGD h1 h2 h3 k,Bool.and_eq_true,decide_eq_true_eq] at h;exact h.1
 ·rw[bAD h1 h2 h3 k,Bool.and_eq_true,decide_eq_true_eq] at h;exact h.1
 ·rw[bH3 h1 h2 h3 k,Bool.and_eq_true,decide_eq_true_eq] at h;exact h.1
 ·rw[← bI7 (p:=p) (s:=s) (by omega)] at h;cases h
theorem bIY {p:bI} {s:Int} (h:cZ p s=true):0≤(aZ p s).2∧(aZ p s).2<(p.1.length:Int):=by
 obtain ⟨h1,h2,h3⟩:=yT h
 have hk:=(aBX h).2.2.2.2
 have hs:=(nT.1 h1).2.2.2 s.toNat (by omega)
 unfold aZ at hk ⊢
 split at hk
 ·rename_i hh
  rw[if_pos hh]
  exact hs.2.2 _ (by omega)
 ·exact absurd rfl hk
theorem aVC (s:bC) (m:Int) (x t:List Int):(yH s m x t).1=s.1:=by unfold yH;split <;> rfl
theorem aOT (s:bC) (m:Int):(oW s m).1=s.1:=by unfold oW;split <;> rfl
theorem aM9 (s:bC) (m:Int) (t:List Int):(uT s m t).1=s.1:=by unfold uT;split <;> rfl
theorem bGR {p:bI} {s:Int} (h:cZ p s=true) (k:(aZ p s).1=1):(p.1,List.set p.2.1 s.toNat (rE (bF0 (fA p s) (uG (p.2.2.1.getD (s - 1).toNat (aS aN))).2.1.2) ((fA p s).1+1)),List.set p.2.2.1 (s - 1).toNat (uG (p.2.2.1.getD (s - 1).toNat (aS aN))).1,p.2.2.2)=dP p s:=by
 unfold dP;rw[if_pos h];unfold eR nC nM;rw[k];rfl
theorem bHU {p:bI} {s:Int} (h:cZ p s=true) (k:(aZ p s).1=2) (h0:s=0) :
  (p.1,List.set p.2.1 s.toNat (rE (yH (fA p s) (aZ p s).2 (p.1.getD (aZ p s).2.toNat (aS aQ)).1 (p.1.getD (aZ p s).2.toNat (aS aQ)).2) ((yH (fA p s) (aZ p s).2 (p.1.getD (aZ p s).2.toNat (aS aQ)).1 (p.1.getD (aZ p s).2.toNat (aS aQ)).2).1+1)),p.2.2.1,p.2.2.2)=dP p s:=by
 unfold dP;rw[if_pos h];unfold eR nC nM;rw[k,if_pos h0];rfl
theorem bDX {p:bI} {s:Int} (h:cZ p s=true) (k:(aZ p s).1=2) (h0:¬ s=0) :
  (p.1,List.set p.2.1 s.toNat (rE (yH (fA p s) (aZ p s).2 (fA p s).2.2.2.2.2.2.2.1 (p.1.getD (aZ p s).2.toNat (aS aQ)).2) ((yH (fA p s) (aZ p s).2 (fA p s).2.2.2.2.2.2.2.1 (p.1.getD (aZ p s).2.toNat (aS aQ)).2).1+1)),p.2.2.1,p.2.2.2)=dP p s:=by
 unfold dP;rw[if_pos h];unfold eR nC nM;rw[k,if_neg h0];rfl
theorem bGK {p:bI} {s:Int} (h:cZ p s=true) (k:(aZ p s).1=3):(p.1,List.set p.2.1 s.toNat (rE (bDT (fA p s) []) ((fA p s).1+1)),List.set p.2.2.1 s.toNat (qS (p.2.2.1.getD s.toNat (aS aN)) ((aZ p s).2,(fA p s).2.2.2.2.2.2.2.2.1)).1,p.2.2.2)=dP p s:=by
 unfold dP;rw[if_pos h];unfold eR nC nM;rw[k];rfl
theorem bGU {p:bI} {s:Int} (h:cZ p s=true) (k:(aZ p s).1=4):(p.1,List.set p.2.1 s.toNat (rE (bDN (fA p s) (uG (p.2.2.2.getD s.toNat (aS aN))).2.1.2) ((fA p s).1+1)),p.2.2.1,List.set p.2.2.2 s.toNat (uG (p.2.2.2.getD s.toNat (aS aN))).1)=dP p s:=by
 unfold dP;rw[if_pos h];unfold eR nC nM;rw[k];rfl
theorem bHE {p:bI} {s:Int} (h:cZ p s=true) (k:(aZ p s).1=5):(p.1,List.set p.2.1 s.toNat (rE (oW (fA p s) (aZ p s).2) ((oW (fA p s) (aZ p s).2).1+1)),p.2.2.1,p.2.2.2)=dP p s:=by
 unfold dP;rw[if_pos h];unfold eR nC nM;rw[k];rfl
theorem bGZ {p:bI} {s:Int} (h:cZ p s=true) (k:(aZ p s).1=6) (h0:s=0) :
  (p.1,List.set p.2.1 s.toNat (rE (aLP (uT (fA p s) (aZ p s).2 (p.1.getD (aZ p s).2.toNat (aS aQ)).2) []) ((uT (fA p s) (aZ p s).2 (p.1.getD (aZ p s).2.toNat (aS aQ)).2).1+1)),p.2.2.1,p.2.2.2)=dP p s:=by
 unfold dP;rw[if_pos h];unfold eR nC nM;simp only[k,if_pos h0];rfl
theorem bF2 {p:bI} {s:Int} (h:cZ p s=true) (k:(aZ p s).1=6) (h0:¬ s=0) :
  (p.1,List.set p.2.1 s.toNat (rE (uT (fA p s) (aZ p s).2 (p.1.getD (aZ p s).2.toNat (aS aQ)).2) ((uT (fA p s) (aZ p s).2 (p.1.getD (aZ p s).2.toNat (aS aQ)).2).1+1)),p.2.2.1,p.2.2.2)=dP p s:=by
 unfold dP;rw[if_pos h];unfold eR nC nM;simp only[k,if_neg h0];rfl
theorem bHA {p:bI} {s:Int} (h:cZ p s=true) (k:(aZ p s).1=7):(p.1,List.set p.2.1 s.toNat (rE (aLP (fA p s) []) ((fA p s).1+1)),p.2.2.1,List.set p.2.2.2 (s - 1).toNat (qS (p.2.2.2.getD (s - 1).toNat (aS aN)) ((aZ p s).2,(fA p s).2.2.2.2.2.2.2.2.2.2.1)).1)=dP p s:=by
 unfold dP;rw[if_pos h];unfold eR nC nM;rw[k];rfl
theorem bHS {p:bI} {s:Int} (h:cZ p s=true) (h1:¬ (aZ p s).1=1) (h2:¬ (aZ p s).1=2) (h3:¬ (aZ p s).1=3) (h4:¬ (aZ p s).1=4) (h5:¬ (aZ p s).1=5) (h6:¬ (aZ p s).1=6) (h7:¬ (aZ p s).1=7) :
  (p.1,List.set p.2.1 s.toNat (rE (fA p s) ((fA p s).1+1)),p.2.2.1,p.2.2.2)=dP p s:=by
 unfold dP;rw[if_pos h];unfold eR nC nM;simp only[if_neg h1,if_neg h2,if_neg h3,if_neg h4,if_neg h5,if_neg h6,if_neg h7]
noncomputable def nH:Con:=⟨31,(.bJ2 aO tI),aO,[.val ⟨true,aO,[]⟩,.val ⟨false,tI,[]⟩],[⟨true,aO,[0,0,0,0]⟩],false,none,
 ((fun x=>bW aO x.1≤1000000000):(bI × Int)→Prop),
 ((fun x=>dP x.1 x.2):(bI × Int)→(bI))⟩
def aHZ:T:=.call 0 (.p1 aO tI (.Z 0)) <|.call 1 (.Z 0) <|
 .bJ3 .not (.Z 2) <|
 .ite (.Z 3) (
  .ret (.Z 1)) (
  .bJ3 (.bJ7 50 aA) (.bJ4 (.slice 50 aA) tI (aJ aO 1 (.Z 1)) (aR (.bJ2 aO tI) 1 (.Z 0))) <|
  .bJ3 (.bJ7 50 aA) (.bJ4 (.slice 50 aA) tI (aJ aO 1 (.Z 1)) (aR (.bJ2 aO tI) 1 (.Z 0))) <|
  .call 2 (.Z 0) <|
  .bJ3 (.cmp .eql .i64) (.bJ4 tI tI (.p1 tI tI (.Z 6)) (.ci .i64 1)) <|
  .ite (.Z 7) (
   .bJ3 (.ar .sub .i64) (.bJ4 tI tI (aR (.bJ2 aO tI) 1 (.Z 0)) (.ci .i64 1)) <|
   .bJ3 (.bJ7 74 aN) (.bJ4 aH tI (aJ aO 2 (.Z 1)) (.Z 8)) <|
   .bJ3 (.bJ7 74 aN) (.bJ4 aH tI (aJ aO 2 (.Z 1)) (.Z 8)) <|
   .call 3 (.Z 10) <|
   .bJ3 (.ar .sub .i64) (.bJ4 tI tI (aR (.bJ2 aO tI) 1 (.Z 0)) (.ci .i64 1)) <|
   .bJ3 (.bJ7 74 aN) (.bJ4 aH tI (aJ aO 2 (.Z 1)) (.Z 12)) <|
   .bJ3 (.bJA 74 aN) (bJ (.bJ2 aH (.bJ2 tI aN)) [(aJ aO 2 (.Z 1)),(.Z 12),(.p1 aN (.bJ2 aI .bool) (.Z 11))]) <|
   .bJ3 (.ar .add .i64) (.bJ4 tI tI (.p1 tI fJ (.Z 5)) (.ci .i64 1)) <|
   .bJ3 (.bJ7 50 aA) (.bJ4 (.slice 50 aA) tI (aJ aO 1 (.Z 1)) (aR (.bJ2 aO tI) 1 (.Z 0))) <|
   .bJ3 (.bJA 50 aA) (bJ (.bJ2 (.slice 50 aA) (.bJ2 tI aA)) [(aJ aO 1 (.Z 1)),(aR (.bJ2 aO tI) 1 (.Z 0)),(.Z 15),(aJ aA 1 (.Z 5)),(aJ aA 2 (.Z 5)),(aJ aA 3 (.Z 5)),(aJ aA 4 (.Z 5)),(aJ aA 5 (.Z 5)),(aJ aA 6 (.Z 5)),(aR aI 1 (aJ (.bJ2 aN (.bJ2 aI .bool)) 1 (.Z 11))),(aR aA 8 (.Z 5))]) <|
   .ret (bJ aO [(.p1 aF (.bJ2 (.slice 50 aA) (.bJ2 aH aH)) (.Z 1)),(.Z 17),(.Z 14),(aR aO 3 (.Z 1))])) (
   .bJ3 (.cmp .eql .i64) (.bJ4 tI tI (.p1 tI tI (.Z 6)) (.ci .i64 2)) <|
   .ite (.Z 8) (
    .bJ3 (.cmp .eql .i64) (.bJ4 tI tI (aR (.bJ2 aO tI) 1 (.Z 0)) (.ci .i64 0)) <|
    .ite (.Z 9) (
     .bJ3 (.bJ7 67 aQ) (.bJ4 aF tI (.p1 aF (.bJ2 (.slice 50 aA) (.bJ2 aH aH)) (.Z 1)) (aR aC 1 (.Z 6))) <|
     .bJ3 (.bJ7 67 aQ) (.bJ4 aF tI (.p1 aF (.bJ2 (.slice 50 aA) (.bJ2 aH aH)) (.Z 1)) (aR aC 1 (.Z 6))) <|
     .bJ3 (.bJ7 67 aQ) (.bJ4 aF tI (.p1 aF (.bJ2 (.slice 50 aA) (.bJ2 aH aH)) (.Z 1)) (aR aC 1 (.Z 6))) <|
     .bJ3 (.bJ7 67 aQ) (.bJ4 aF tI (.p1 aF (.bJ2 (.slice 50 aA) (.bJ2 aH aH)) (.Z 1)) (aR aC 1 (.Z 6))) <|
     .call 4 (bJ (.bJ2 aA (.bJ2 tI aQ)) [(.Z 5),(aR aC 1 (.Z 6)),(.p1 aB aB (.Z 11)),(aR aQ 1 (.Z 13))]) <|
     .bJ3 (.ar .add .i64) (.bJ4 tI tI (.p1 tI fJ (.Z 14)) (.ci .i64 1)) <|
     .bJ3 (.bJ7 50 aA) (.bJ4 (.slice 50 aA) tI (aJ aO 1 (.Z 1)) (aR (.bJ2 aO tI) 1 (.Z 0))) <|
     .bJ3 (.bJA 50 aA) (bJ (.bJ2 (.slice 50 aA) (.bJ2 tI aA)) [(aJ aO 1 (.Z 1)),(aR (.bJ2 aO tI) 1 (.Z 0)),(.Z 15),(aR aA 1 (.Z 14))]) <|
     .ret (bJ aO [(.p1 aF (.bJ2 (.slice 50 aA) (.bJ2 aH aH)) (.Z 1)),(.Z 17),(aR aO 2 (.Z 1))])) (
     .bJ3 (.bJ7 67 aQ) (.bJ4 aF tI (.p1 aF (.bJ2 (.slice 50 aA) (.bJ2 aH aH)) (.Z 1)) (aR aC 1 (.Z 6))) <|
     .bJ3 (.bJ7 67 aQ) (.bJ4 aF tI (.p1 aF (.bJ2 (.slice 50 aA) (.bJ2 aH aH)) (.Z 1)) (aR aC 1 (.Z 6))) <|
     .call 4 (bJ (.bJ2 aA (.bJ2 tI aQ)) [(.Z 5),(aR aC 1 (.Z 6)),(aJ aA 7 (.Z 5)),(aR aQ 1 (.Z 11))]) <|
     .bJ3 (.ar .add .i64) (.bJ4 tI tI (.p1 tI fJ (.Z 12)) (.ci .i64 1)) <|
     .bJ3 (.bJ7 50 aA) (.bJ4 (.slice 50 aA) tI (aJ aO 1 (.Z 1)) (aR (.bJ2 aO tI) 1 (.Z 0))) <|
     .bJ3 (.bJA 50 aA) (bJ (.bJ2 (.slice 50 aA) (.bJ2 tI aA)) [(aJ aO 1 (.Z 1)),(aR (.bJ2 aO tI) 1 (.Z 0)),(.Z 13),(aR aA 1 (.Z 12))]) <|
     .ret (bJ aO [(.p1 aF (.bJ2 (.slice 50 aA) (.bJ2 aH aH)) (.Z 1)),(.Z 15),(aR aO 2 (.Z 1))]))) (
    .bJ3 (.cmp .eql .i64) (.bJ4 tI tI (.p1 tI tI (.Z 6)) (.ci .i64 3)) <|
    .ite (.Z 9) (
     .bJ3 (.bJ7 74 aN) (.bJ4 aH tI (aJ aO 2 (.Z 1)) (aR (.bJ2 aO tI) 1 (.Z 0))) <|
     .bJ3 (.bJ7 74 aN) (.bJ4 aH tI (aJ aO 2 (.Z 1)) (aR (.bJ2 aO tI) 1 (.Z 0))) <|
     .call 5 (bJ (.bJ2 aN aI) [(.Z 11),(aR aC 1 (.Z 6)),(aJ aA 8 (.Z 5))]) <|
     .bJ3 (.bJ7 74 aN) (.bJ4 aH tI (aJ aO 2 (.Z 1)) (aR (.bJ2 aO tI) 1 (.Z 0))) <|
     .bJ3 (.bJA 74 aN) (bJ (.bJ2 aH (.bJ2 tI aN)) [(aJ aO 2 (.Z 1)),(aR (.bJ2 aO tI) 1 (.Z 0)),(.p1 aN .bool (.Z 12))]) <|
     .bJ3 (.ar .add .i64) (.bJ4 tI tI (.p1 tI fJ (.Z 5)) (.ci .i64 1)) <|
     .bJ3 (.bJ7 50 aA) (.bJ4 (.slice 50 aA) tI (aJ aO 1 (.Z 1)) (aR (.bJ2 aO tI) 1 (.Z 0))) <|
     .bJ3 (.bJA 50 aA) (bJ (.bJ2 (.slice 50 aA) (.bJ2 tI aA)) [(aJ aO 1 (.Z 1)),(aR (.bJ2 aO tI) 1 (.Z 0)),(.Z 15),(aJ aA 1 (.Z 5)),(aJ aA 2 (.Z 5)),(aJ aA 3 (.Z 5)),(aJ aA 4 (.Z 5)),(aJ aA 5 (.Z 5)),(aJ aA 6 (.Z 5)),(aJ aA 7 (.Z 5)),(.nl 3 tI),(aR aA 9 (.Z 5))]) <|
     .ret (bJ aO [(.p1 aF (.bJ2 (.slice 50 aA) (.bJ2 aH aH)) (.Z 1)),(.Z 17),(.Z 14),(aR aO 3 (.Z 1))])) (
     .bJ3 (.cmp .eql .i64) (.bJ4 tI tI (.p1 tI tI (.Z 6)) (.ci .i64 4)) <|
     .ite (.Z 10) (
      .bJ3 (.bJ7 74 aN) (.bJ4 aH tI (aR aO 3 (.Z 1)) (aR (.bJ2 aO tI) 1 (.Z 0))) <|
      .bJ3 (.bJ7 74 aN) (.bJ4 aH tI (aR aO 3 (.Z 1)) (aR (.bJ2 aO tI) 1 (.Z 0))) <|
      .call 3 (.Z 12) <|
      .bJ3 (.bJ7 74 aN) (.bJ4 aH tI (aR aO 3 (.Z 1)) (aR (.bJ2 aO tI) 1 (.Z 0))) <|
      .bJ3 (.bJA 74 aN) (bJ (.bJ2 aH (.bJ2 tI aN)) [(aR aO 3 (.Z 1)),(aR (.bJ2 aO tI) 1 (.Z 0)),(.p1 aN (.bJ2 aI .bool) (.Z 13))]) <|
      .bJ3 (.ar .add .i64) (.bJ4 tI tI (.p1 tI fJ (.Z 5)) (.ci .i64 1)) <|
      .bJ3 (.bJ7 50 aA) (.bJ4 (.slice 50 aA) tI (aJ aO 1 (.Z 1)) (aR (.bJ2 aO tI) 1 (.Z 0))) <|
      .bJ3 (.bJA 50 aA) (bJ (.bJ2 (.slice 50 aA) (.bJ2 tI aA)) [(aJ aO 1 (.Z 1)),(aR (.bJ2 aO tI) 1 (.Z 0)),(.Z 16),(aJ aA 1 (.Z 5)),(aJ aA 2 (.Z 5)),(aJ aA 3 (.Z 5)),(aJ aA 4 (.Z 5)),(aJ aA 5 (.Z 5)),(aJ aA 6 (.Z 5)),(aJ aA 7 (.Z 5)),(aJ aA 8 (.Z 5)),(aR aI 1 (aJ (.bJ2 aN (.bJ2 aI .bool)) 1 (.Z 13))),(aR aA 10 (.Z 5))]) <|
      .ret (bJ aO [(.p1 aF (.bJ2 (.slice 50 aA) (.bJ2 aH aH)) (.Z 1)),(.Z 18),(aJ aO 2 (.Z 1)),(.Z 15)])) (
      .bJ3 (.cmp .eql .i64) (.bJ4 tI tI (.p1 tI tI (.Z 6)) (.ci .i64 5)) <|
      .ite (.Z 11) (
       .call 6 (.bJ4 aA tI (.Z 5) (aR aC 1 (.Z 6))) <|
       .bJ3 (.ar .add .i64) (.bJ4 tI tI (.p1 tI fJ (.Z 12)) (.ci .i64 1)) <|
       .bJ3 (.bJ7 50 aA) (.bJ4 (.slice 50 aA) tI (aJ aO 1 (.Z 1)) (aR (.bJ2 aO tI) 1 (.Z 0))) <|
       .bJ3 (.bJA 50 aA) (bJ (.bJ2 (.slice 50 aA) (.bJ2 tI aA)) [(aJ aO 1 (.Z 1)),(aR (.bJ2 aO tI) 1 (.Z 0)),(.Z 13),(aR aA 1 (.Z 12))]) <|
       .ret (bJ aO [(.p1 aF (.bJ2 (.slice 50 aA) (.bJ2 aH aH)) (.Z 1)),(.Z 15),(aR aO 2 (.Z 1))])) (
       .bJ3 (.cmp .eql .i64) (.bJ4 tI tI (.p1 tI tI (.Z 6)) (.ci .i64 6)) <|
       .ite (.Z 12) (
        .bJ3 (.bJ7 67 aQ) (.bJ4 aF tI (.p1 aF (.bJ2 (.slice 50 aA) (.bJ2 aH aH)) (.Z 1)) (aR aC 1 (.Z 6))) <|
        .bJ3 (.bJ7 67 aQ) (.bJ4 aF tI (.p1 aF (.bJ2 (.slice 50 aA) (.bJ2 aH aH)) (.Z 1)) (aR aC 1 (.Z 6))) <|
        .call 7 (bJ (.bJ2 aA aI) [(.Z 5),(aR aC 1 (.Z 6)),(aR aQ 1 (.Z 14))]) <|
        .bJ3 (.cmp .eql .i64) (.bJ4 tI tI (aR (.bJ2 aO tI) 1 (.Z 0)) (.ci .i64 0)) <|
        .ite (.Z 16) (
         .bJ3 (.ar .add .i64) (.bJ4 tI tI (.p1 tI fJ (.Z 15)) (.ci .i64 1)) <|
         .bJ3 (.bJ7 50 aA) (.bJ4 (.slice 50 aA) tI (aJ aO 1 (.Z 1)) (aR (.bJ2 aO tI) 1 (.Z 0))) <|
         .bJ3 (.bJA 50 aA) (bJ (.bJ2 (.slice 50 aA) (.bJ2 tI aA)) [(aJ aO 1 (.Z 1)),(aR (.bJ2 aO tI) 1 (.Z 0)),(.Z 17),(aJ aA 1 (.Z 15)),(aJ aA 2 (.Z 15)),(aJ aA 3 (.Z 15)),(aJ aA 4 (.Z 15)),(aJ aA 5 (.Z 15)),(aJ aA 6 (.Z 15)),(aJ aA 7 (.Z 15)),(aJ aA 8 (.Z 15)),(aJ aA 9 (.Z 15)),(.nl 3 tI),(aR aA 11 (.Z 15))]) <|
         .ret (bJ aO [(.p1 aF (.bJ2 (.slice 50 aA) (.bJ2 aH aH)) (.Z 1)),(.Z 19),(aR aO 2 (.Z 1))])) (
         .bJ3 (.ar .add .i64) (.bJ4 tI tI (.p1 tI fJ (.Z 15)) (.ci .i64 1)) <|
         .bJ3 (.bJ7 50 aA) (.bJ4 (.slice 50 aA) tI (aJ aO 1 (.Z 1)) (aR (.bJ2 aO tI) 1 (.Z 0))) <|
         .bJ3 (.bJA 50 aA) (bJ (.bJ2 (.slice 50 aA) (.bJ2 tI aA)) [(aJ aO 1 (.Z 1)),(aR (.bJ2 aO tI) 1 (.Z 0)),(.Z 17),(aR aA 1 (.Z 15))]) <|
         .ret (bJ aO [(.p1 aF (.bJ2 (.slice 50 aA) (.bJ2 aH aH)) (.Z 1)),(.Z 19),(aR aO 2 (.Z 1))]))) (
        .bJ3 (.cmp .eql .i64) (.bJ4 tI tI (.p1 tI tI (.Z 6)) (.ci .i64 7)) <|
        .ite (.Z 13) (
         .bJ3 (.ar .sub .i64) (.bJ4 tI tI (aR (.bJ2 aO tI) 1 (.Z 0)) (.ci .i64 1)) <|
         .bJ3 (.ar .sub .i64) (.bJ4 tI tI (aR (.bJ2 aO tI) 1 (.Z 0)) (.ci .i64 1)) <|
         .bJ3 (.bJ7 74 aN) (.bJ4 aH tI (aR aO 3 (.Z 1)) (.Z 15)) <|
         .bJ3 (.bJ7 74 aN) (.bJ4 aH tI (aR aO 3 (.Z 1)) (.Z 15)) <|
         .call 5 (bJ (.bJ2 aN aI) [(.Z 17),(aR aC 1 (.Z 6)),(aJ aA 10 (.Z 5))]) <|
         .bJ3 (.bJ7 74 aN) (.bJ4 aH tI (aR aO 3 (.Z 1)) (.Z 14)) <|
         .bJ3 (.bJA 74 aN) (bJ (.bJ2 aH (.bJ2 tI aN)) [(aR aO 3 (.Z 1)),(.Z 14),(.p1 aN .bool (.Z 18))]) <|
         .bJ3 (.ar .add .i64) (.bJ4 tI tI (.p1 tI fJ (.Z 5)) (.ci .i64 1)) <|
         .bJ3 (.bJ7 50 aA) (.bJ4 (.slice 50 aA) tI (aJ aO 1 (.Z 1)) (aR (.bJ2 aO tI) 1 (.Z 0))) <|
         .bJ3 (.bJA 50 aA) (bJ (.bJ2 (.slice 50 aA) (.bJ2 tI aA)) [(aJ aO 1 (.Z 1)),(aR (.bJ2 aO tI) 1 (.Z 0)),(.Z 21),(aJ aA 1 (.Z 5)),(aJ aA 2 (.Z 5)),(aJ aA 3 (.Z 5)),(aJ aA 4 (.Z 5)),(aJ aA 5 (.Z 5)),(aJ aA 6 (.Z 5)),(aJ aA 7 (.Z 5)),(aJ aA 8 (.Z 5)),(aJ aA 9 (.Z 5)),(.nl 3 tI),(aR aA 11 (.Z 5))]) <|
         .ret (bJ aO [(.p1 aF (.bJ2 (.slice 50 aA) (.bJ2 aH aH)) (.Z 1)),(.Z 23),(aJ aO 2 (.Z 1)),(.Z 20)])) (
         .bJ3 (.ar .add .i64) (.bJ4 tI tI (.p1 tI fJ (.Z 5)) (.ci .i64 1)) <|
         .bJ3 (.bJ7 50 aA) (.bJ4 (.slice 50 aA) tI (aJ aO 1 (.Z 1)) (aR (.bJ2 aO tI) 1 (.Z 0))) <|
         .bJ3 (.bJA 50 aA) (bJ (.bJ2 (.slice 50 aA) (.bJ2 tI aA)) [(aJ aO 1 (.Z 1)),(aR (.bJ2 aO tI) 1 (.Z 0)),(.Z 14),(aR aA 1 (.Z 5))]) <|
         .ret (bJ aO [(.p1 aF (.bJ2 (.slice 50 aA) (.bJ2 aH aH)) (.Z 1)),(.Z 16),(aR aO 2 (.Z 1))])))))))))
set_option maxRecDepth 100000 in
theorem bBO:bV Tryz.prog [gH,iB,iS,aCN,lQ,wI,kG,lT] nH false 3000 ⟨[],[(2964,28016,[],[27,28,29,30,31,32,33,34,35]),(2964,20014,[],[27,28,29,30,31,32,33,34,35]),(2972,24010,[95],[]),(2966,24016,[],[28]),(2962,96014,[],[27,28,29,30,31,32,33,34,35]),(2954,448018,[],[36]),(2960,384014,[160],[]),(2954,384022,[],[28])]⟩ = .ok aHZ:=by kernel_rfl
set_option maxHeartbeats 2000000 in
theorem bAQ (x:bI × Int) (hx:okD (.bJ2 aO tI) x) (hp:(fun x=>bW aO x.1≤1000000000) x):aHZ.wp [gH,iB,iS,aCN,lQ,wI,kG,lT] [⟨(.bJ2 aO tI),x⟩] [] (fun v=>v.as aO=(fun x=>dP x.1 x.2) x):=by
 obtain ⟨p,s⟩:=x
 delta aHZ gH iB iS aCN lQ wI kG lT;refine eE ?_
 refine eL ?_
 refine ⟨hp,fun _=>⟨fun h=>bE2 h,fun h=>?_⟩⟩
 obtain ⟨z1,z1s,z2,z2m,z3,z3m,z4,z4m⟩:=aRR (b:=p.1) (st:=p.2.1) (a:=p.2.2.1) (r:=p.2.2.2) hp
 obtain ⟨h1,h2,h3⟩:=yT h
 have hk:=aBX h
 have hm:=bIY h
 have hpo:=(nT.1 h1).1
 have hst:=(nT.1 h1).2.2.2 s.toNat (by omega)
 have zs:bW aA (List.getD p.2.1 s.toNat (aS aA))≤1000000000:=by rw[bD (show s.toNat<p.2.1.length by omega)];exact z2m _ (List.getElem_mem _)
 have za:∀ k,k<p.2.2.1.length→bW aN (List.getD p.2.2.1 k (aS aN))≤1000000000:=fun k hk=>by rw[bD hk];exact z3m _ (List.getElem_mem _)
 have zr:∀ k,k<p.2.2.2.length→bW aN (List.getD p.2.2.2 k (aS aN))≤1000000000:=fun k hk=>by rw[bD hk];exact z4m _ (List.getElem_mem _)
 have hpc:=((fY _).1 hst.1).2.1
 have hpl:List.length (List.getD p.2.1 s.toNat (aS aA)).2.1≤1000000000:=(qL (t:=aA) zs).2.1.1
 (repeat' first|intro _|(with_reducible apply And.intro))
 all_goals first|omega|exact zs|exact za _ (by omega)|exact zr _ (by omega)|(rw[aVC];omega)|(rw[aOT];omega)|(rw[aM9];omega)|skip
 all_goals first|exact bGR h (by assumption)|exact bGK h (by assumption)|exact bGU h (by assumption)|exact bHE h (by assumption)|exact bHA h (by assumption)|exact bHU h (by assumption) (by assumption)|exact bDX h (by assumption) (by assumption)|exact bGZ h (by assumption) (by assumption)|exact bF2 h (by assumption) (by assumption)|exact bHS h (by assumption) (by assumption) (by assumption) (by assumption) (by assumption) (by assumption) (by assumption)|skip
set_option maxHeartbeats 2000000 in
theorem aPW:Con.Holds Tryz.prog nH:=aV aX (aG aCJ (aG aFA (aG aI1 (aG bEO (aG aM7 (aG bAY (aG aJP (aG aMX aT)))))))) bBO bAQ
end Go.Proofs.YtpleleanibgniaaGreat
