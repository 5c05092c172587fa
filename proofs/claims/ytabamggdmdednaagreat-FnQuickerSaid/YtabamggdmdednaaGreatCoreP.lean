/- CoreP: lemmas. No conditions. -/
import Derived.Test.YtabamggdmdednaaGreatCore9
namespace Go.Proofs.YtabamggdmdednaaGreat
set_option maxRecDepth 100000
open Go.ChangeShapes Go.WideShapes Go.ChangeAt Go.RowKit Go.Deep
set_option linter.unusedVariables false
set_option linter.unusedSimpArgs false
theorem bEP {p:bE} {s:Int} (h:dV p s=false):p=fI p s:=by unfold fI;rw[if_neg (by rw[h];simp)]
theorem aL0 {p:bE} {s:Int} (h:dV p s=true):kM p=true∧0≤s∧s<(p.2.1.length:Int):=by
 unfold dV at h;split at h
 ·assumption
 ·cases h
theorem aU0 {p:bE} {s:Int} (h:dV p s=true):((bQ p s).1=1→0<s)∧((bQ p s).1=3→s<(p.2.1.length:Int) - 1)∧((bQ p s).1=4→s<(p.2.1.length:Int) - 1)∧((bQ p s).1=7→0<s)∧¬ (bQ p s).1=0:=by
 obtain ⟨h1,h2,h3⟩:=aL0 h
 refine ⟨fun k=>?_,fun k=>?_,fun k=>?_,fun k=>?_,fun k=>?_⟩
 ·rw[bQZ h1 h2 h3 k,Bool.and_eq_true,decide_eq_true_eq] at h;exact h.1
 ·rw[bQD h1 h2 h3 k,Bool.and_eq_true,decide_eq_true_eq] at h;exact h.1
 ·rw[bQW h1 h2 h3 k,Bool.and_eq_true,decide_eq_true_eq] at h;exact h.1
 ·rw[bQH h1 h2 h3 k,Bool.and_eq_true,decide_eq_true_eq] at h;exact h.1
 ·rw[← bQR (p:=p) (s:=s) (by omega)] at h;cases h
theorem bR7 {p:bE} {s:Int} (h:dV p s=true):0≤(bQ p s).2∧(bQ p s).2<(p.1.length:Int):=by
 obtain ⟨h1,h2,h3⟩:=aL0 h
 have hk:=(aU0 h).2.2.2.2
 have hs:=(nJ.1 h1).2.2.2 s.toNat (by omega)
 unfold bQ at hk ⊢
 split at hk
 ·rename_i hh
  rw[if_pos hh]
  exact hs.2.2 _ (by omega)
 ·exact absurd rfl hk
theorem bG0 (s:bC) (m:Int) (x t:List Int):(aCQ s m x t).1=s.1:=by unfold aCQ;split <;> rfl
theorem aX6 (s:bC) (m:Int):(uQ s m).1=s.1:=by unfold uQ;split <;> rfl
theorem bGE (s:bC) (m:Int) (t:List Int):(xC s m t).1=s.1:=by unfold xC;split <;> rfl
theorem bMT {p:bE} {s:Int} (h:dV p s=true) (k:(bQ p s).1=1):(p.1,List.set p.2.1 s.toNat (yL (bP8 (iR p s) (yG (p.2.2.1.getD (s - 1).toNat (aW aN))).2.1.2) ((iR p s).1+1)),List.set p.2.2.1 (s - 1).toNat (yG (p.2.2.1.getD (s - 1).toNat (aW aN))).1,p.2.2.2)=fI p s:=by
 unfold fI;rw[if_pos h];unfold kI yC xS;rw[k];rfl
theorem bJG {p:bE} {s:Int} (h:dV p s=true) (k:(bQ p s).1=2) (h0:s=0) :
  (p.1,List.set p.2.1 s.toNat (yL (aCQ (iR p s) (bQ p s).2 (p.1.getD (bQ p s).2.toNat (aW aO)).1 (p.1.getD (bQ p s).2.toNat (aW aO)).2) ((aCQ (iR p s) (bQ p s).2 (p.1.getD (bQ p s).2.toNat (aW aO)).1 (p.1.getD (bQ p s).2.toNat (aW aO)).2).1+1)),p.2.2.1,p.2.2.2)=fI p s:=by
 unfold fI;rw[if_pos h];unfold kI yC xS;rw[k,if_pos h0];rfl
theorem bFF {p:bE} {s:Int} (h:dV p s=true) (k:(bQ p s).1=2) (h0:¬ s=0) :
  (p.1,List.set p.2.1 s.toNat (yL (aCQ (iR p s) (bQ p s).2 (iR p s).2.2.2.2.2.2.2.1 (p.1.getD (bQ p s).2.toNat (aW aO)).2) ((aCQ (iR p s) (bQ p s).2 (iR p s).2.2.2.2.2.2.2.1 (p.1.getD (bQ p s).2.toNat (aW aO)).2).1+1)),p.2.2.1,p.2.2.2)=fI p s:=by
 unfold fI;rw[if_pos h];unfold kI yC xS;rw[k,if_neg h0];rfl
theorem bN2 {p:bE} {s:Int} (h:dV p s=true) (k:(bQ p s).1=3):(p.1,List.set p.2.1 s.toNat (yL (bOW (iR p s) []) ((iR p s).1+1)),List.set p.2.2.1 s.toNat (vH (p.2.2.1.getD s.toNat (aW aN)) ((bQ p s).2,(iR p s).2.2.2.2.2.2.2.2.1)).1,p.2.2.2)=fI p s:=by
 unfold fI;rw[if_pos h];unfold kI yC xS;rw[k];rfl
theorem bJM {p:bE} {s:Int} (h:dV p s=true) (k:(bQ p s).1=4):(p.1,List.set p.2.1 s.toNat (yL (bOU (iR p s) (yG (p.2.2.2.getD s.toNat (aW aN))).2.1.2) ((iR p s).1+1)),p.2.2.1,List.set p.2.2.2 s.toNat (yG (p.2.2.2.getD s.toNat (aW aN))).1)=fI p s:=by
 unfold fI;rw[if_pos h];unfold kI yC xS;rw[k];rfl
theorem bMX {p:bE} {s:Int} (h:dV p s=true) (k:(bQ p s).1=5):(p.1,List.set p.2.1 s.toNat (yL (uQ (iR p s) (bQ p s).2) ((uQ (iR p s) (bQ p s).2).1+1)),p.2.2.1,p.2.2.2)=fI p s:=by
 unfold fI;rw[if_pos h];unfold kI yC xS;rw[k];rfl
theorem bJJ {p:bE} {s:Int} (h:dV p s=true) (k:(bQ p s).1=6) (h0:s=0) :
  (p.1,List.set p.2.1 s.toNat (yL (aRC (xC (iR p s) (bQ p s).2 (p.1.getD (bQ p s).2.toNat (aW aO)).2) []) ((xC (iR p s) (bQ p s).2 (p.1.getD (bQ p s).2.toNat (aW aO)).2).1+1)),p.2.2.1,p.2.2.2)=fI p s:=by
 unfold fI;rw[if_pos h];unfold kI yC xS;simp only[k,if_pos h0];rfl
theorem bFX {p:bE} {s:Int} (h:dV p s=true) (k:(bQ p s).1=6) (h0:¬ s=0) :
  (p.1,List.set p.2.1 s.toNat (yL (xC (iR p s) (bQ p s).2 (p.1.getD (bQ p s).2.toNat (aW aO)).2) ((xC (iR p s) (bQ p s).2 (p.1.getD (bQ p s).2.toNat (aW aO)).2).1+1)),p.2.2.1,p.2.2.2)=fI p s:=by
 unfold fI;rw[if_pos h];unfold kI yC xS;simp only[k,if_neg h0];rfl
theorem bNE {p:bE} {s:Int} (h:dV p s=true) (k:(bQ p s).1=7):(p.1,List.set p.2.1 s.toNat (yL (aRC (iR p s) []) ((iR p s).1+1)),p.2.2.1,List.set p.2.2.2 (s - 1).toNat (vH (p.2.2.2.getD (s - 1).toNat (aW aN)) ((bQ p s).2,(iR p s).2.2.2.2.2.2.2.2.2.2.1)).1)=fI p s:=by
 unfold fI;rw[if_pos h];unfold kI yC xS;rw[k];rfl
theorem bKO {p:bE} {s:Int} (h:dV p s=true) (h1:¬ (bQ p s).1=1) (h2:¬ (bQ p s).1=2) (h3:¬ (bQ p s).1=3) (h4:¬ (bQ p s).1=4) (h5:¬ (bQ p s).1=5) (h6:¬ (bQ p s).1=6) (h7:¬ (bQ p s).1=7) :
  (p.1,List.set p.2.1 s.toNat (yL (iR p s) ((iR p s).1+1)),p.2.2.1,p.2.2.2)=fI p s:=by
 unfold fI;rw[if_pos h];unfold kI yC xS;simp only[if_neg h1,if_neg h2,if_neg h3,if_neg h4,if_neg h5,if_neg h6,if_neg h7]
noncomputable def aAT:Con:=⟨34,(.bRW aJ tI),aJ,[.val ⟨true,aJ,[]⟩,.val ⟨false,tI,[]⟩],[⟨true,aJ,[0,0,0,0]⟩],false,none,
 ((fun x=>bM aJ x.1≤1000000000):(bE × Int)→Prop),
 ((fun x=>fI x.1 x.2):(bE × Int)→(bE))⟩
def aNZ:T:=.call 0 (.p1 aJ tI (.Z 0)) <|.call 1 (.Z 0) <|
 .bRX .not (.Z 2) <|
 .ite (.Z 3) (
  .ret (.Z 1)) (
  .bRX (.bS1 55 aA) (.bRY (.slice 55 aA) tI (aK aJ 1 (.Z 1)) (aP (.bRW aJ tI) 1 (.Z 0))) <|
  .bRX (.bS1 55 aA) (.bRY (.slice 55 aA) tI (aK aJ 1 (.Z 1)) (aP (.bRW aJ tI) 1 (.Z 0))) <|
  .call 2 (.Z 0) <|
  .bRX (.cmp .eql .i64) (.bRY tI tI (.p1 tI tI (.Z 6)) (.ci .i64 1)) <|
  .ite (.Z 7) (
   .bRX (.ar .sub .i64) (.bRY tI tI (aP (.bRW aJ tI) 1 (.Z 0)) (.ci .i64 1)) <|
   .bRX (.bS1 75 aN) (.bRY aM tI (aK aJ 2 (.Z 1)) (.Z 8)) <|
   .bRX (.bS1 75 aN) (.bRY aM tI (aK aJ 2 (.Z 1)) (.Z 8)) <|
   .call 3 (.Z 10) <|
   .bRX (.ar .sub .i64) (.bRY tI tI (aP (.bRW aJ tI) 1 (.Z 0)) (.ci .i64 1)) <|
   .bRX (.bS1 75 aN) (.bRY aM tI (aK aJ 2 (.Z 1)) (.Z 12)) <|
   .bRX (.bS4 75 aN) (bB (.bRW aM (.bRW tI aN)) [(aK aJ 2 (.Z 1)),(.Z 12),(.p1 aN (.bRW aH .bool) (.Z 11))]) <|
   .bRX (.ar .add .i64) (.bRY tI tI (.p1 tI dA (.Z 5)) (.ci .i64 1)) <|
   .bRX (.bS1 55 aA) (.bRY (.slice 55 aA) tI (aK aJ 1 (.Z 1)) (aP (.bRW aJ tI) 1 (.Z 0))) <|
   .bRX (.bS4 55 aA) (bB (.bRW (.slice 55 aA) (.bRW tI aA)) [(aK aJ 1 (.Z 1)),(aP (.bRW aJ tI) 1 (.Z 0)),(.Z 15),(aK aA 1 (.Z 5)),(aK aA 2 (.Z 5)),(aK aA 3 (.Z 5)),(aK aA 4 (.Z 5)),(aK aA 5 (.Z 5)),(aK aA 6 (.Z 5)),(aP aH 1 (aK (.bRW aN (.bRW aH .bool)) 1 (.Z 11))),(aP aA 8 (.Z 5))]) <|
   .ret (bB aJ [(.p1 aG (.bRW (.slice 55 aA) (.bRW aM aM)) (.Z 1)),(.Z 17),(.Z 14),(aP aJ 3 (.Z 1))])) (
   .bRX (.cmp .eql .i64) (.bRY tI tI (.p1 tI tI (.Z 6)) (.ci .i64 2)) <|
   .ite (.Z 8) (
    .bRX (.cmp .eql .i64) (.bRY tI tI (aP (.bRW aJ tI) 1 (.Z 0)) (.ci .i64 0)) <|
    .ite (.Z 9) (
     .bRX (.bS1 92 aO) (.bRY aG tI (.p1 aG (.bRW (.slice 55 aA) (.bRW aM aM)) (.Z 1)) (aP aD 1 (.Z 6))) <|
     .bRX (.bS1 92 aO) (.bRY aG tI (.p1 aG (.bRW (.slice 55 aA) (.bRW aM aM)) (.Z 1)) (aP aD 1 (.Z 6))) <|
     .bRX (.bS1 92 aO) (.bRY aG tI (.p1 aG (.bRW (.slice 55 aA) (.bRW aM aM)) (.Z 1)) (aP aD 1 (.Z 6))) <|
     .bRX (.bS1 92 aO) (.bRY aG tI (.p1 aG (.bRW (.slice 55 aA) (.bRW aM aM)) (.Z 1)) (aP aD 1 (.Z 6))) <|
     .call 4 (bB (.bRW aA (.bRW tI aO)) [(.Z 5),(aP aD 1 (.Z 6)),(.p1 aB aB (.Z 11)),(aP aO 1 (.Z 13))]) <|
     .bRX (.ar .add .i64) (.bRY tI tI (.p1 tI dA (.Z 14)) (.ci .i64 1)) <|
     .bRX (.bS1 55 aA) (.bRY (.slice 55 aA) tI (aK aJ 1 (.Z 1)) (aP (.bRW aJ tI) 1 (.Z 0))) <|
     .bRX (.bS4 55 aA) (bB (.bRW (.slice 55 aA) (.bRW tI aA)) [(aK aJ 1 (.Z 1)),(aP (.bRW aJ tI) 1 (.Z 0)),(.Z 15),(aP aA 1 (.Z 14))]) <|
     .ret (bB aJ [(.p1 aG (.bRW (.slice 55 aA) (.bRW aM aM)) (.Z 1)),(.Z 17),(aP aJ 2 (.Z 1))])) (
     .bRX (.bS1 92 aO) (.bRY aG tI (.p1 aG (.bRW (.slice 55 aA) (.bRW aM aM)) (.Z 1)) (aP aD 1 (.Z 6))) <|
     .bRX (.bS1 92 aO) (.bRY aG tI (.p1 aG (.bRW (.slice 55 aA) (.bRW aM aM)) (.Z 1)) (aP aD 1 (.Z 6))) <|
     .call 4 (bB (.bRW aA (.bRW tI aO)) [(.Z 5),(aP aD 1 (.Z 6)),(aK aA 7 (.Z 5)),(aP aO 1 (.Z 11))]) <|
     .bRX (.ar .add .i64) (.bRY tI tI (.p1 tI dA (.Z 12)) (.ci .i64 1)) <|
     .bRX (.bS1 55 aA) (.bRY (.slice 55 aA) tI (aK aJ 1 (.Z 1)) (aP (.bRW aJ tI) 1 (.Z 0))) <|
     .bRX (.bS4 55 aA) (bB (.bRW (.slice 55 aA) (.bRW tI aA)) [(aK aJ 1 (.Z 1)),(aP (.bRW aJ tI) 1 (.Z 0)),(.Z 13),(aP aA 1 (.Z 12))]) <|
     .ret (bB aJ [(.p1 aG (.bRW (.slice 55 aA) (.bRW aM aM)) (.Z 1)),(.Z 15),(aP aJ 2 (.Z 1))]))) (
    .bRX (.cmp .eql .i64) (.bRY tI tI (.p1 tI tI (.Z 6)) (.ci .i64 3)) <|
    .ite (.Z 9) (
     .bRX (.bS1 75 aN) (.bRY aM tI (aK aJ 2 (.Z 1)) (aP (.bRW aJ tI) 1 (.Z 0))) <|
     .bRX (.bS1 75 aN) (.bRY aM tI (aK aJ 2 (.Z 1)) (aP (.bRW aJ tI) 1 (.Z 0))) <|
     .call 5 (bB (.bRW aN aH) [(.Z 11),(aP aD 1 (.Z 6)),(aK aA 8 (.Z 5))]) <|
     .bRX (.bS1 75 aN) (.bRY aM tI (aK aJ 2 (.Z 1)) (aP (.bRW aJ tI) 1 (.Z 0))) <|
     .bRX (.bS4 75 aN) (bB (.bRW aM (.bRW tI aN)) [(aK aJ 2 (.Z 1)),(aP (.bRW aJ tI) 1 (.Z 0)),(.p1 aN .bool (.Z 12))]) <|
     .bRX (.ar .add .i64) (.bRY tI tI (.p1 tI dA (.Z 5)) (.ci .i64 1)) <|
     .bRX (.bS1 55 aA) (.bRY (.slice 55 aA) tI (aK aJ 1 (.Z 1)) (aP (.bRW aJ tI) 1 (.Z 0))) <|
     .bRX (.bS4 55 aA) (bB (.bRW (.slice 55 aA) (.bRW tI aA)) [(aK aJ 1 (.Z 1)),(aP (.bRW aJ tI) 1 (.Z 0)),(.Z 15),(aK aA 1 (.Z 5)),(aK aA 2 (.Z 5)),(aK aA 3 (.Z 5)),(aK aA 4 (.Z 5)),(aK aA 5 (.Z 5)),(aK aA 6 (.Z 5)),(aK aA 7 (.Z 5)),(.nl 3 tI),(aP aA 9 (.Z 5))]) <|
     .ret (bB aJ [(.p1 aG (.bRW (.slice 55 aA) (.bRW aM aM)) (.Z 1)),(.Z 17),(.Z 14),(aP aJ 3 (.Z 1))])) (
     .bRX (.cmp .eql .i64) (.bRY tI tI (.p1 tI tI (.Z 6)) (.ci .i64 4)) <|
     .ite (.Z 10) (
      .bRX (.bS1 75 aN) (.bRY aM tI (aP aJ 3 (.Z 1)) (aP (.bRW aJ tI) 1 (.Z 0))) <|
      .bRX (.bS1 75 aN) (.bRY aM tI (aP aJ 3 (.Z 1)) (aP (.bRW aJ tI) 1 (.Z 0))) <|
      .call 3 (.Z 12) <|
      .bRX (.bS1 75 aN) (.bRY aM tI (aP aJ 3 (.Z 1)) (aP (.bRW aJ tI) 1 (.Z 0))) <|
      .bRX (.bS4 75 aN) (bB (.bRW aM (.bRW tI aN)) [(aP aJ 3 (.Z 1)),(aP (.bRW aJ tI) 1 (.Z 0)),(.p1 aN (.bRW aH .bool) (.Z 13))]) <|
      .bRX (.ar .add .i64) (.bRY tI tI (.p1 tI dA (.Z 5)) (.ci .i64 1)) <|
      .bRX (.bS1 55 aA) (.bRY (.slice 55 aA) tI (aK aJ 1 (.Z 1)) (aP (.bRW aJ tI) 1 (.Z 0))) <|
      .bRX (.bS4 55 aA) (bB (.bRW (.slice 55 aA) (.bRW tI aA)) [(aK aJ 1 (.Z 1)),(aP (.bRW aJ tI) 1 (.Z 0)),(.Z 16),(aK aA 1 (.Z 5)),(aK aA 2 (.Z 5)),(aK aA 3 (.Z 5)),(aK aA 4 (.Z 5)),(aK aA 5 (.Z 5)),(aK aA 6 (.Z 5)),(aK aA 7 (.Z 5)),(aK aA 8 (.Z 5)),(aP aH 1 (aK (.bRW aN (.bRW aH .bool)) 1 (.Z 13))),(aP aA 10 (.Z 5))]) <|
      .ret (bB aJ [(.p1 aG (.bRW (.slice 55 aA) (.bRW aM aM)) (.Z 1)),(.Z 18),(aK aJ 2 (.Z 1)),(.Z 15)])) (
      .bRX (.cmp .eql .i64) (.bRY tI tI (.p1 tI tI (.Z 6)) (.ci .i64 5)) <|
      .ite (.Z 11) (
       .call 6 (.bRY aA tI (.Z 5) (aP aD 1 (.Z 6))) <|
       .bRX (.ar .add .i64) (.bRY tI tI (.p1 tI dA (.Z 12)) (.ci .i64 1)) <|
       .bRX (.bS1 55 aA) (.bRY (.slice 55 aA) tI (aK aJ 1 (.Z 1)) (aP (.bRW aJ tI) 1 (.Z 0))) <|
       .bRX (.bS4 55 aA) (bB (.bRW (.slice 55 aA) (.bRW tI aA)) [(aK aJ 1 (.Z 1)),(aP (.bRW aJ tI) 1 (.Z 0)),(.Z 13),(aP aA 1 (.Z 12))]) <|
       .ret (bB aJ [(.p1 aG (.bRW (.slice 55 aA) (.bRW aM aM)) (.Z 1)),(.Z 15),(aP aJ 2 (.Z 1))])) (
       .bRX (.cmp .eql .i64) (.bRY tI tI (.p1 tI tI (.Z 6)) (.ci .i64 6)) <|
       .ite (.Z 12) (
        .bRX (.bS1 92 aO) (.bRY aG tI (.p1 aG (.bRW (.slice 55 aA) (.bRW aM aM)) (.Z 1)) (aP aD 1 (.Z 6))) <|
        .bRX (.bS1 92 aO) (.bRY aG tI (.p1 aG (.bRW (.slice 55 aA) (.bRW aM aM)) (.Z 1)) (aP aD 1 (.Z 6))) <|
        .call 7 (bB (.bRW aA aH) [(.Z 5),(aP aD 1 (.Z 6)),(aP aO 1 (.Z 14))]) <|
        .bRX (.cmp .eql .i64) (.bRY tI tI (aP (.bRW aJ tI) 1 (.Z 0)) (.ci .i64 0)) <|
        .ite (.Z 16) (
         .bRX (.ar .add .i64) (.bRY tI tI (.p1 tI dA (.Z 15)) (.ci .i64 1)) <|
         .bRX (.bS1 55 aA) (.bRY (.slice 55 aA) tI (aK aJ 1 (.Z 1)) (aP (.bRW aJ tI) 1 (.Z 0))) <|
         .bRX (.bS4 55 aA) (bB (.bRW (.slice 55 aA) (.bRW tI aA)) [(aK aJ 1 (.Z 1)),(aP (.bRW aJ tI) 1 (.Z 0)),(.Z 17),(aK aA 1 (.Z 15)),(aK aA 2 (.Z 15)),(aK aA 3 (.Z 15)),(aK aA 4 (.Z 15)),(aK aA 5 (.Z 15)),(aK aA 6 (.Z 15)),(aK aA 7 (.Z 15)),(aK aA 8 (.Z 15)),(aK aA 9 (.Z 15)),(.nl 3 tI),(aP aA 11 (.Z 15))]) <|
         .ret (bB aJ [(.p1 aG (.bRW (.slice 55 aA) (.bRW aM aM)) (.Z 1)),(.Z 19),(aP aJ 2 (.Z 1))])) (
         .bRX (.ar .add .i64) (.bRY tI tI (.p1 tI dA (.Z 15)) (.ci .i64 1)) <|
         .bRX (.bS1 55 aA) (.bRY (.slice 55 aA) tI (aK aJ 1 (.Z 1)) (aP (.bRW aJ tI) 1 (.Z 0))) <|
         .bRX (.bS4 55 aA) (bB (.bRW (.slice 55 aA) (.bRW tI aA)) [(aK aJ 1 (.Z 1)),(aP (.bRW aJ tI) 1 (.Z 0)),(.Z 17),(aP aA 1 (.Z 15))]) <|
         .ret (bB aJ [(.p1 aG (.bRW (.slice 55 aA) (.bRW aM aM)) (.Z 1)),(.Z 19),(aP aJ 2 (.Z 1))]))) (
        .bRX (.cmp .eql .i64) (.bRY tI tI (.p1 tI tI (.Z 6)) (.ci .i64 7)) <|
        .ite (.Z 13) (
         .bRX (.ar .sub .i64) (.bRY tI tI (aP (.bRW aJ tI) 1 (.Z 0)) (.ci .i64 1)) <|
         .bRX (.ar .sub .i64) (.bRY tI tI (aP (.bRW aJ tI) 1 (.Z 0)) (.ci .i64 1)) <|
         .bRX (.bS1 75 aN) (.bRY aM tI (aP aJ 3 (.Z 1)) (.Z 15)) <|
         .bRX (.bS1 75 aN) (.bRY aM tI (aP aJ 3 (.Z 1)) (.Z 15)) <|
         .call 5 (bB (.bRW aN aH) [(.Z 17),(aP aD 1 (.Z 6)),(aK aA 10 (.Z 5))]) <|
         .bRX (.bS1 75 aN) (.bRY aM tI (aP aJ 3 (.Z 1)) (.Z 14)) <|
         .bRX (.bS4 75 aN) (bB (.bRW aM (.bRW tI aN)) [(aP aJ 3 (.Z 1)),(.Z 14),(.p1 aN .bool (.Z 18))]) <|
         .bRX (.ar .add .i64) (.bRY tI tI (.p1 tI dA (.Z 5)) (.ci .i64 1)) <|
         .bRX (.bS1 55 aA) (.bRY (.slice 55 aA) tI (aK aJ 1 (.Z 1)) (aP (.bRW aJ tI) 1 (.Z 0))) <|
         .bRX (.bS4 55 aA) (bB (.bRW (.slice 55 aA) (.bRW tI aA)) [(aK aJ 1 (.Z 1)),(aP (.bRW aJ tI) 1 (.Z 0)),(.Z 21),(aK aA 1 (.Z 5)),(aK aA 2 (.Z 5)),(aK aA 3 (.Z 5)),(aK aA 4 (.Z 5)),(aK aA 5 (.Z 5)),(aK aA 6 (.Z 5)),(aK aA 7 (.Z 5)),(aK aA 8 (.Z 5)),(aK aA 9 (.Z 5)),(.nl 3 tI),(aP aA 11 (.Z 5))]) <|
         .ret (bB aJ [(.p1 aG (.bRW (.slice 55 aA) (.bRW aM aM)) (.Z 1)),(.Z 23),(aK aJ 2 (.Z 1)),(.Z 20)])) (
         .bRX (.ar .add .i64) (.bRY tI tI (.p1 tI dA (.Z 5)) (.ci .i64 1)) <|
         .bRX (.bS1 55 aA) (.bRY (.slice 55 aA) tI (aK aJ 1 (.Z 1)) (aP (.bRW aJ tI) 1 (.Z 0))) <|
         .bRX (.bS4 55 aA) (bB (.bRW (.slice 55 aA) (.bRW tI aA)) [(aK aJ 1 (.Z 1)),(aP (.bRW aJ tI) 1 (.Z 0)),(.Z 14),(aP aA 1 (.Z 5))]) <|
         .ret (bB aJ [(.p1 aG (.bRW (.slice 55 aA) (.bRW aM aM)) (.Z 1)),(.Z 16),(aP aJ 2 (.Z 1))])))))))))
theorem bM8:bI Tryz.prog [jC,kE,rF,aHD,oG,aB7,mW,oW] aAT false 3000 ⟨[],[(2964,28016,[],[27,28,29,30,31,32,33,34,35]),(2964,20014,[],[27,28,29,30,31,32,33,34,35]),(2972,24010,[95],[]),(2966,24016,[],[28]),(2962,96014,[],[27,28,29,30,31,32,33,34,35]),(2954,448018,[],[36]),(2960,384014,[160],[]),(2954,384022,[],[28])]⟩ = .ok aNZ:=by kernel_rfl
set_option maxHeartbeats 2000000 in
theorem bKZ (x:bE × Int) (hx:okD (.bRW aJ tI) x) (hp:(fun x=>bM aJ x.1≤1000000000) x):aNZ.wp [jC,kE,rF,aHD,oG,aB7,mW,oW] [⟨(.bRW aJ tI),x⟩] [] (fun v=>v.as aJ=(fun x=>fI x.1 x.2) x):=by
 obtain ⟨p,s⟩:=x
 delta aNZ jC kE rF aHD oG aB7 mW oW;refine cW ?_
 refine dB ?_
 refine ⟨hp,fun _=>⟨fun h=>bEP h,fun h=>?_⟩⟩
 obtain ⟨z1,z1s,z2,z2m,z3,z3m,z4,z4m⟩:=aHQ (b:=p.1) (st:=p.2.1) (a:=p.2.2.1) (r:=p.2.2.2) hp
 obtain ⟨h1,h2,h3⟩:=aL0 h
 have hk:=aU0 h
 have hm:=bR7 h
 have hpo:=(nJ.1 h1).1
 have hst:=(nJ.1 h1).2.2.2 s.toNat (by omega)
 have zs:bM aA (List.getD p.2.1 s.toNat (aW aA))≤1000000000:=by rw[aZ (show s.toNat<p.2.1.length by omega)];exact z2m _ (List.getElem_mem _)
 have za:∀ k,k<p.2.2.1.length→bM aN (List.getD p.2.2.1 k (aW aN))≤1000000000:=fun k hk=>by rw[aZ hk];exact z3m _ (List.getElem_mem _)
 have zr:∀ k,k<p.2.2.2.length→bM aN (List.getD p.2.2.2 k (aW aN))≤1000000000:=fun k hk=>by rw[aZ hk];exact z4m _ (List.getElem_mem _)
 have hpc:=((eJ _).1 hst.1).2.1
 have hpl:List.length (List.getD p.2.1 s.toNat (aW aA)).2.1≤1000000000:=(gZ (t:=aA) zs).2.1.1
 (repeat' first|intro _|(with_reducible apply And.intro))
 all_goals first|omega|exact zs|exact za _ (by omega)|exact zr _ (by omega)|(rw[bG0];omega)|(rw[aX6];omega)|(rw[bGE];omega)|skip
 all_goals first|exact bMT h (by assumption)|exact bN2 h (by assumption)|exact bJM h (by assumption)|exact bMX h (by assumption)|exact bNE h (by assumption)|exact bJG h (by assumption) (by assumption)|exact bFF h (by assumption) (by assumption)|exact bJJ h (by assumption) (by assumption)|exact bFX h (by assumption) (by assumption)|exact bKO h (by assumption) (by assumption) (by assumption) (by assumption) (by assumption) (by assumption) (by assumption)|skip
set_option maxHeartbeats 2000000 in
theorem bKN:Con.Holds Tryz.prog aAT:=aS aV (aI aGS (aI aKH (aI aX1 (aI bPM (aI aTF (aI bJO (aI aPJ (aI aTR aQ)))))))) bM8 bKZ
noncomputable def aCK:Con:=⟨79,(.bRW aJ tI),aJ,[.val ⟨true,aJ,[]⟩,.val ⟨false,tI,[]⟩],[⟨true,aJ,[0,0,0,0]⟩],true,none,
 ((fun x=>bM aJ x.1≤1000000000):(bE × Int)→Prop),
 ((fun x=>fI x.1 x.2):(bE × Int)→(bE))⟩
def aOP:T:=.call 0 (.p1 aJ tI (.Z 0)) <|.call 1 (.Z 0) <|
 .bRX .not (.Z 2) <|
 .ite (.Z 3) (
  .ret (.Z 1)) (
  .call 2 (.Z 0) <|
  .bRX (.bS1 55 aA) (.bRY (.slice 55 aA) tI (aK aJ 1 (.Z 1)) (aP (.bRW aJ tI) 1 (.Z 0))) <|
  .bRX (.bS1 55 aA) (.bRY (.slice 55 aA) tI (aK aJ 1 (.Z 1)) (aP (.bRW aJ tI) 1 (.Z 0))) <|
  .bRX (.cmp .eql .i64) (.bRY tI tI (.p1 tI tI (.Z 4)) (.ci .i64 1)) <|
  .ite (.Z 7) (
   .bRX (.ar .sub .i64) (.bRY tI tI (aP (.bRW aJ tI) 1 (.Z 0)) (.ci .i64 1)) <|
   .bRX (.bS1 75 aN) (.bRY aM tI (aK aJ 2 (.p1 aJ tI (.Z 0))) (.Z 8)) <|
   .call 3 (.Z 9) <|
   .bRX (.ar .sub .i64) (.bRY tI tI (aP (.bRW aJ tI) 1 (.Z 0)) (.ci .i64 1)) <|
   .bRX (.bS1 75 aN) (.bRY aM tI (aK aJ 2 (.Z 1)) (.Z 11)) <|
   .bRX (.bS4 75 aN) (bB (.bRW aM (.bRW tI aN)) [(aK aJ 2 (.Z 1)),(.Z 11),(.p1 aN (.bRW aH .bool) (.Z 10))]) <|
   .bRX (.ar .add .i64) (.bRY tI tI (.p1 tI dA (.Z 6)) (.ci .i64 1)) <|
   .bRX (.bS1 55 aA) (.bRY (.slice 55 aA) tI (aK aJ 1 (.Z 1)) (aP (.bRW aJ tI) 1 (.Z 0))) <|
   .bRX (.bS4 55 aA) (bB (.bRW (.slice 55 aA) (.bRW tI aA)) [(aK aJ 1 (.Z 1)),(aP (.bRW aJ tI) 1 (.Z 0)),(.Z 14),(aK aA 1 (.Z 6)),(aK aA 2 (.Z 6)),(aK aA 3 (.Z 6)),(aK aA 4 (.Z 6)),(aK aA 5 (.Z 6)),(aK aA 6 (.Z 6)),(aP aH 1 (aK (.bRW aN (.bRW aH .bool)) 1 (.Z 10))),(aP aA 8 (.Z 6))]) <|
   .ret (bB aJ [(.p1 aG (.bRW (.slice 55 aA) (.bRW aM aM)) (.Z 1)),(.Z 16),(.Z 13),(aP aJ 3 (.Z 1))])) (
   .bRX (.cmp .eql .i64) (.bRY tI tI (.p1 tI tI (.Z 4)) (.ci .i64 2)) <|
   .ite (.Z 8) (
    .bRX (.cmp .eql .i64) (.bRY tI tI (aP (.bRW aJ tI) 1 (.Z 0)) (.ci .i64 0)) <|
    .ite (.Z 9) (
     .bRX (.bS1 92 aO) (.bRY aG tI (.p1 aG (.bRW (.slice 55 aA) (.bRW aM aM)) (.p1 aJ tI (.Z 0))) (aP aD 1 (.Z 4))) <|
     .bRX (.bS1 92 aO) (.bRY aG tI (.p1 aG (.bRW (.slice 55 aA) (.bRW aM aM)) (.p1 aJ tI (.Z 0))) (aP aD 1 (.Z 4))) <|
     .call 4 (bB (.bRW aA (.bRW tI aO)) [(.Z 6),(aP aD 1 (.Z 4)),(.p1 aB aB (.Z 10)),(aP aO 1 (.Z 11))]) <|
     .bRX (.ar .add .i64) (.bRY tI tI (.p1 tI dA (.Z 12)) (.ci .i64 1)) <|
     .bRX (.bS1 55 aA) (.bRY (.slice 55 aA) tI (aK aJ 1 (.Z 1)) (aP (.bRW aJ tI) 1 (.Z 0))) <|
     .bRX (.bS4 55 aA) (bB (.bRW (.slice 55 aA) (.bRW tI aA)) [(aK aJ 1 (.Z 1)),(aP (.bRW aJ tI) 1 (.Z 0)),(.Z 13),(aP aA 1 (.Z 12))]) <|
     .ret (bB aJ [(.p1 aG (.bRW (.slice 55 aA) (.bRW aM aM)) (.Z 1)),(.Z 15),(aP aJ 2 (.Z 1))])) (
     .bRX (.bS1 92 aO) (.bRY aG tI (.p1 aG (.bRW (.slice 55 aA) (.bRW aM aM)) (.p1 aJ tI (.Z 0))) (aP aD 1 (.Z 4))) <|
     .call 4 (bB (.bRW aA (.bRW tI aO)) [(.Z 6),(aP aD 1 (.Z 4)),(aK aA 7 (.Z 6)),(aP aO 1 (.Z 10))]) <|
     .bRX (.ar .add .i64) (.bRY tI tI (.p1 tI dA (.Z 11)) (.ci .i64 1)) <|
     .bRX (.bS1 55 aA) (.bRY (.slice 55 aA) tI (aK aJ 1 (.Z 1)) (aP (.bRW aJ tI) 1 (.Z 0))) <|
     .bRX (.bS4 55 aA) (bB (.bRW (.slice 55 aA) (.bRW tI aA)) [(aK aJ 1 (.Z 1)),(aP (.bRW aJ tI) 1 (.Z 0)),(.Z 12),(aP aA 1 (.Z 11))]) <|
     .ret (bB aJ [(.p1 aG (.bRW (.slice 55 aA) (.bRW aM aM)) (.Z 1)),(.Z 14),(aP aJ 2 (.Z 1))]))) (
    .bRX (.cmp .eql .i64) (.bRY tI tI (.p1 tI tI (.Z 4)) (.ci .i64 3)) <|
    .ite (.Z 9) (
     .bRX (.bS1 75 aN) (.bRY aM tI (aK aJ 2 (.p1 aJ tI (.Z 0))) (aP (.bRW aJ tI) 1 (.Z 0))) <|
     .call 5 (bB (.bRW aN aH) [(.Z 10),(aP aD 1 (.Z 4)),(aK aA 8 (.Z 6))]) <|
     .bRX (.bS1 75 aN) (.bRY aM tI (aK aJ 2 (.Z 1)) (aP (.bRW aJ tI) 1 (.Z 0))) <|
     .bRX (.bS4 75 aN) (bB (.bRW aM (.bRW tI aN)) [(aK aJ 2 (.Z 1)),(aP (.bRW aJ tI) 1 (.Z 0)),(.p1 aN .bool (.Z 11))]) <|
     .bRX (.ar .add .i64) (.bRY tI tI (.p1 tI dA (.Z 6)) (.ci .i64 1)) <|
     .bRX (.bS1 55 aA) (.bRY (.slice 55 aA) tI (aK aJ 1 (.Z 1)) (aP (.bRW aJ tI) 1 (.Z 0))) <|
     .bRX (.bS4 55 aA) (bB (.bRW (.slice 55 aA) (.bRW tI aA)) [(aK aJ 1 (.Z 1)),(aP (.bRW aJ tI) 1 (.Z 0)),(.Z 14),(aK aA 1 (.Z 6)),(aK aA 2 (.Z 6)),(aK aA 3 (.Z 6)),(aK aA 4 (.Z 6)),(aK aA 5 (.Z 6)),(aK aA 6 (.Z 6)),(aK aA 7 (.Z 6)),(.nl 3 tI),(aP aA 9 (.Z 6))]) <|
     .ret (bB aJ [(.p1 aG (.bRW (.slice 55 aA) (.bRW aM aM)) (.Z 1)),(.Z 16),(.Z 13),(aP aJ 3 (.Z 1))])) (
     .bRX (.cmp .eql .i64) (.bRY tI tI (.p1 tI tI (.Z 4)) (.ci .i64 4)) <|
     .ite (.Z 10) (
      .bRX (.bS1 75 aN) (.bRY aM tI (aP aJ 3 (.p1 aJ tI (.Z 0))) (aP (.bRW aJ tI) 1 (.Z 0))) <|
      .call 3 (.Z 11) <|
      .bRX (.bS1 75 aN) (.bRY aM tI (aP aJ 3 (.Z 1)) (aP (.bRW aJ tI) 1 (.Z 0))) <|
      .bRX (.bS4 75 aN) (bB (.bRW aM (.bRW tI aN)) [(aP aJ 3 (.Z 1)),(aP (.bRW aJ tI) 1 (.Z 0)),(.p1 aN (.bRW aH .bool) (.Z 12))]) <|
      .bRX (.ar .add .i64) (.bRY tI tI (.p1 tI dA (.Z 6)) (.ci .i64 1)) <|
      .bRX (.bS1 55 aA) (.bRY (.slice 55 aA) tI (aK aJ 1 (.Z 1)) (aP (.bRW aJ tI) 1 (.Z 0))) <|
      .bRX (.bS4 55 aA) (bB (.bRW (.slice 55 aA) (.bRW tI aA)) [(aK aJ 1 (.Z 1)),(aP (.bRW aJ tI) 1 (.Z 0)),(.Z 15),(aK aA 1 (.Z 6)),(aK aA 2 (.Z 6)),(aK aA 3 (.Z 6)),(aK aA 4 (.Z 6)),(aK aA 5 (.Z 6)),(aK aA 6 (.Z 6)),(aK aA 7 (.Z 6)),(aK aA 8 (.Z 6)),(aP aH 1 (aK (.bRW aN (.bRW aH .bool)) 1 (.Z 12))),(aP aA 10 (.Z 6))]) <|
      .ret (bB aJ [(.p1 aG (.bRW (.slice 55 aA) (.bRW aM aM)) (.Z 1)),(.Z 17),(aK aJ 2 (.Z 1)),(.Z 14)])) (
      .bRX (.cmp .eql .i64) (.bRY tI tI (.p1 tI tI (.Z 4)) (.ci .i64 5)) <|
      .ite (.Z 11) (
       .call 6 (.bRY aA tI (.Z 6) (aP aD 1 (.Z 4))) <|
       .bRX (.ar .add .i64) (.bRY tI tI (.p1 tI dA (.Z 12)) (.ci .i64 1)) <|
       .bRX (.bS1 55 aA) (.bRY (.slice 55 aA) tI (aK aJ 1 (.Z 1)) (aP (.bRW aJ tI) 1 (.Z 0))) <|
       .bRX (.bS4 55 aA) (bB (.bRW (.slice 55 aA) (.bRW tI aA)) [(aK aJ 1 (.Z 1)),(aP (.bRW aJ tI) 1 (.Z 0)),(.Z 13),(aP aA 1 (.Z 12))]) <|
       .ret (bB aJ [(.p1 aG (.bRW (.slice 55 aA) (.bRW aM aM)) (.Z 1)),(.Z 15),(aP aJ 2 (.Z 1))])) (
       .bRX (.cmp .eql .i64) (.bRY tI tI (.p1 tI tI (.Z 4)) (.ci .i64 6)) <|
       .ite (.Z 12) (
        .bRX (.bS1 92 aO) (.bRY aG tI (.p1 aG (.bRW (.slice 55 aA) (.bRW aM aM)) (.p1 aJ tI (.Z 0))) (aP aD 1 (.Z 4))) <|
        .call 7 (bB (.bRW aA aH) [(.Z 6),(aP aD 1 (.Z 4)),(aP aO 1 (.Z 13))]) <|
        .bRX (.cmp .eql .i64) (.bRY tI tI (aP (.bRW aJ tI) 1 (.Z 0)) (.ci .i64 0)) <|
        .ite (.Z 15) (
         .bRX (.ar .add .i64) (.bRY tI tI (.p1 tI dA (.Z 14)) (.ci .i64 1)) <|
         .bRX (.bS1 55 aA) (.bRY (.slice 55 aA) tI (aK aJ 1 (.Z 1)) (aP (.bRW aJ tI) 1 (.Z 0))) <|
         .bRX (.bS4 55 aA) (bB (.bRW (.slice 55 aA) (.bRW tI aA)) [(aK aJ 1 (.Z 1)),(aP (.bRW aJ tI) 1 (.Z 0)),(.Z 16),(aK aA 1 (.Z 14)),(aK aA 2 (.Z 14)),(aK aA 3 (.Z 14)),(aK aA 4 (.Z 14)),(aK aA 5 (.Z 14)),(aK aA 6 (.Z 14)),(aK aA 7 (.Z 14)),(aK aA 8 (.Z 14)),(aK aA 9 (.Z 14)),(.nl 3 tI),(aP aA 11 (.Z 14))]) <|
         .ret (bB aJ [(.p1 aG (.bRW (.slice 55 aA) (.bRW aM aM)) (.Z 1)),(.Z 18),(aP aJ 2 (.Z 1))])) (
         .bRX (.ar .add .i64) (.bRY tI tI (.p1 tI dA (.Z 14)) (.ci .i64 1)) <|
         .bRX (.bS1 55 aA) (.bRY (.slice 55 aA) tI (aK aJ 1 (.Z 1)) (aP (.bRW aJ tI) 1 (.Z 0))) <|
         .bRX (.bS4 55 aA) (bB (.bRW (.slice 55 aA) (.bRW tI aA)) [(aK aJ 1 (.Z 1)),(aP (.bRW aJ tI) 1 (.Z 0)),(.Z 16),(aP aA 1 (.Z 14))]) <|
         .ret (bB aJ [(.p1 aG (.bRW (.slice 55 aA) (.bRW aM aM)) (.Z 1)),(.Z 18),(aP aJ 2 (.Z 1))]))) (
        .bRX (.cmp .eql .i64) (.bRY tI tI (.p1 tI tI (.Z 4)) (.ci .i64 7)) <|
        .ite (.Z 13) (
         .bRX (.ar .sub .i64) (.bRY tI tI (aP (.bRW aJ tI) 1 (.Z 0)) (.ci .i64 1)) <|
         .bRX (.bS1 75 aN) (.bRY aM tI (aP aJ 3 (.p1 aJ tI (.Z 0))) (.Z 14)) <|
         .call 5 (bB (.bRW aN aH) [(.Z 15),(aP aD 1 (.Z 4)),(aK aA 10 (.Z 6))]) <|
         .bRX (.ar .sub .i64) (.bRY tI tI (aP (.bRW aJ tI) 1 (.Z 0)) (.ci .i64 1)) <|
         .bRX (.bS1 75 aN) (.bRY aM tI (aP aJ 3 (.Z 1)) (.Z 17)) <|
         .bRX (.bS4 75 aN) (bB (.bRW aM (.bRW tI aN)) [(aP aJ 3 (.Z 1)),(.Z 17),(.p1 aN .bool (.Z 16))]) <|
         .bRX (.ar .add .i64) (.bRY tI tI (.p1 tI dA (.Z 6)) (.ci .i64 1)) <|
         .bRX (.bS1 55 aA) (.bRY (.slice 55 aA) tI (aK aJ 1 (.Z 1)) (aP (.bRW aJ tI) 1 (.Z 0))) <|
         .bRX (.bS4 55 aA) (bB (.bRW (.slice 55 aA) (.bRW tI aA)) [(aK aJ 1 (.Z 1)),(aP (.bRW aJ tI) 1 (.Z 0)),(.Z 20),(aK aA 1 (.Z 6)),(aK aA 2 (.Z 6)),(aK aA 3 (.Z 6)),(aK aA 4 (.Z 6)),(aK aA 5 (.Z 6)),(aK aA 6 (.Z 6)),(aK aA 7 (.Z 6)),(aK aA 8 (.Z 6)),(aK aA 9 (.Z 6)),(.nl 3 tI),(aP aA 11 (.Z 6))]) <|
         .ret (bB aJ [(.p1 aG (.bRW (.slice 55 aA) (.bRW aM aM)) (.Z 1)),(.Z 22),(aK aJ 2 (.Z 1)),(.Z 19)])) (
         .bRX (.ar .add .i64) (.bRY tI tI (.p1 tI dA (.Z 6)) (.ci .i64 1)) <|
         .bRX (.bS1 55 aA) (.bRY (.slice 55 aA) tI (aK aJ 1 (.Z 1)) (aP (.bRW aJ tI) 1 (.Z 0))) <|
         .bRX (.bS4 55 aA) (bB (.bRW (.slice 55 aA) (.bRW tI aA)) [(aK aJ 1 (.Z 1)),(aP (.bRW aJ tI) 1 (.Z 0)),(.Z 14),(aP aA 1 (.Z 6))]) <|
         .ret (bB aJ [(.p1 aG (.bRW (.slice 55 aA) (.bRW aM aM)) (.Z 1)),(.Z 16),(aP aJ 2 (.Z 1))])))))))))
theorem bJV:bI Tryz.prog [kH,kA,qO,aHL,oK,aCD,mR,oR] aCK false 3000 ⟨[],[(2970,24012,[],[29]),(2964,24015,[],[30]),(2962,96014,[],[27,28,29,30,31,32,33,34,35]),(2954,448017,[],[27]),(2958,384017,[],[29]),(2952,384021,[],[30])]⟩ = .ok aOP:=by kernel_rfl
set_option maxHeartbeats 2000000 in
theorem bM0 (x:bE × Int) (hx:okD (.bRW aJ tI) x) (hp:(fun x=>bM aJ x.1≤1000000000) x):aOP.wp [kH,kA,qO,aHL,oK,aCD,mR,oR] [⟨(.bRW aJ tI),x⟩] [] (fun v=>v.as aJ=(fun x=>fI x.1 x.2) x):=by
 obtain ⟨p,s⟩:=x
 delta aOP kH kA qO aHL oK aCD mR oR;refine cW ?_
 refine dB ?_
 refine ⟨hp,fun _=>⟨fun h=>bEP h,fun h=>?_⟩⟩
 obtain ⟨z1,z1s,z2,z2m,z3,z3m,z4,z4m⟩:=aHQ (b:=p.1) (st:=p.2.1) (a:=p.2.2.1) (r:=p.2.2.2) hp
 obtain ⟨h1,h2,h3⟩:=aL0 h
 have hk:=aU0 h
 have hm:=bR7 h
 have hpo:=(nJ.1 h1).1
 have hst:=(nJ.1 h1).2.2.2 s.toNat (by omega)
 have zs:bM aA (List.getD p.2.1 s.toNat (aW aA))≤1000000000:=by rw[aZ (show s.toNat<p.2.1.length by omega)];exact z2m _ (List.getElem_mem _)
 have za:∀ k,k<p.2.2.1.length→bM aN (List.getD p.2.2.1 k (aW aN))≤1000000000:=fun k hk=>by rw[aZ hk];exact z3m _ (List.getElem_mem _)
 have zr:∀ k,k<p.2.2.2.length→bM aN (List.getD p.2.2.2 k (aW aN))≤1000000000:=fun k hk=>by rw[aZ hk];exact z4m _ (List.getElem_mem _)
 have hpc:=((eJ _).1 hst.1).2.1
 have hpl:List.length (List.getD p.2.1 s.toNat (aW aA)).2.1≤1000000000:=(gZ (t:=aA) zs).2.1.1
 (repeat' first|intro _|(with_reducible apply And.intro))
 all_goals first|omega|exact zs|exact za _ (by omega)|exact zr _ (by omega)|(rw[bG0];omega)|(rw[aX6];omega)|(rw[bGE];omega)|skip
 all_goals first|exact bMT h (by assumption)|exact bN2 h (by assumption)|exact bJM h (by assumption)|exact bMX h (by assumption)|exact bNE h (by assumption)|exact bJG h (by assumption) (by assumption)|exact bFF h (by assumption) (by assumption)|exact bJJ h (by assumption) (by assumption)|exact bFX h (by assumption) (by assumption)|exact bKO h (by assumption) (by assumption) (by assumption) (by assumption) (by assumption) (by assumption) (by assumption)|skip
set_option maxHeartbeats 2000000 in
theorem bLL:Con.Holds Tryz.prog aCK:=aS aV (aI aKJ (aI aKE (aI aVK (aI bOL (aI aU1 (aI bMI (aI aQ6 (aI aV7 aQ)))))))) bJV bM0
end Go.Proofs.YtabamggdmdednaaGreat
