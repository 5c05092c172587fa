/- CoreP: lemmas. No conditions. -/
import Derived.Test.YtpafjioccjpmfaaGreatCore9
namespace Go.Proofs.YtpafjioccjpmfaaGreat
open Go.ChangeShapes Go.WideShapes Go.ChangeAt Go.RowKit Go.Deep
set_option linter.unusedVariables false
set_option linter.unusedSimpArgs false
theorem bC8 {p:bF} {s:Int} (h:cC p s=false):p=bR p s:=by unfold bR;rw[if_neg (by rw[h];simp)]
theorem jG {p:bF} {s:Int} (h:cC p s=true):mF p=true∧0≤s∧s<(p.2.1.length:Int):=by
 unfold cC at h;split at h
 ·assumption
 ·cases h
theorem uG {p:bF} {s:Int} (h:cC p s=true):((aV p s).1=1→0<s)∧((aV p s).1=3→s<(p.2.1.length:Int) - 1)∧((aV p s).1=4→s<(p.2.1.length:Int) - 1)∧((aV p s).1=7→0<s)∧¬ (aV p s).1=0:=by
 obtain ⟨h1,h2,h3⟩:=jG h
 refine ⟨fun k=>?_,fun k=>?_,fun k=>?_,fun k=>?_,fun k=>?_⟩
 ·rw[aR3 h1 h2 h3 k,Bool.and_eq_true,decide_eq_true_eq] at h;exact h.1
 ·rw[bAH h1 h2 h3 k,Bool.and_eq_true,decide_eq_true_eq] at h;exact h.1
 ·rw[aRM h1 h2 h3 k,Bool.and_eq_true,decide_eq_true_eq] at h;exact h.1
 ·rw[aXO h1 h2 h3 k,Bool.and_eq_true,decide_eq_true_eq] at h;exact h.1
 ·rw[← bN2 (p:=p) (s:=s) (by omega)] at h;cases h
theorem bPU {p:bF} {s:Int} (h:cC p s=true):0≤(aV p s).2∧(aV p s).2<(p.1.length:Int):=by
 obtain ⟨h1,h2,h3⟩:=jG h
 have hk:=(uG h).2.2.2.2
 have hs:=(mJ.1 h1).2.2.2 s.toNat (by omega)
 unfold aV at hk ⊢
 split at hk
 ·rename_i hh
  rw[if_pos hh]
  exact hs.2.2 _ (by omega)
 ·exact absurd rfl hk
theorem bC5 (s:bG) (m:Int) (x t:List Int):(sQ s m x t).1=s.1:=by unfold sQ;split <;> rfl
theorem aTM (s:bG) (m:Int):(oK s m).1=s.1:=by unfold oK;split <;> rfl
theorem aSP (s:bG) (m:Int) (t:List Int):(oI s m t).1=s.1:=by unfold oI;split <;> rfl
theorem bO3 {p:bF} {s:Int} (h:cC p s=true) (k:(aV p s).1=1):(p.1,List.set p.2.1 s.toNat (jJ (aUL (fW p s) (qU (p.2.2.1.getD (s - 1).toNat (aP aM))).2.1.2) ((fW p s).1+1)),List.set p.2.2.1 (s - 1).toNat (qU (p.2.2.1.getD (s - 1).toNat (aP aM))).1,p.2.2.2)=bR p s:=by
 unfold bR;rw[if_pos h];unfold cS eX eZ;rw[k];rfl
theorem bO9 {p:bF} {s:Int} (h:cC p s=true) (k:(aV p s).1=2) (h0:s=0) :
  (p.1,List.set p.2.1 s.toNat (jJ (sQ (fW p s) (aV p s).2 (p.1.getD (aV p s).2.toNat (aP aQ)).1 (p.1.getD (aV p s).2.toNat (aP aQ)).2) ((sQ (fW p s) (aV p s).2 (p.1.getD (aV p s).2.toNat (aP aQ)).1 (p.1.getD (aV p s).2.toNat (aP aQ)).2).1+1)),p.2.2.1,p.2.2.2)=bR p s:=by
 unfold bR;rw[if_pos h];unfold cS eX eZ;rw[k,if_pos h0];rfl
theorem bKN {p:bF} {s:Int} (h:cC p s=true) (k:(aV p s).1=2) (h0:¬ s=0) :
  (p.1,List.set p.2.1 s.toNat (jJ (sQ (fW p s) (aV p s).2 (fW p s).2.2.2.2.2.2.2.1 (p.1.getD (aV p s).2.toNat (aP aQ)).2) ((sQ (fW p s) (aV p s).2 (fW p s).2.2.2.2.2.2.2.1 (p.1.getD (aV p s).2.toNat (aP aQ)).2).1+1)),p.2.2.1,p.2.2.2)=bR p s:=by
 unfold bR;rw[if_pos h];unfold cS eX eZ;rw[k,if_neg h0];rfl
theorem bO8 {p:bF} {s:Int} (h:cC p s=true) (k:(aV p s).1=3):(p.1,List.set p.2.1 s.toNat (jJ (aWX (fW p s) []) ((fW p s).1+1)),List.set p.2.2.1 s.toNat (oN (p.2.2.1.getD s.toNat (aP aM)) ((aV p s).2,(fW p s).2.2.2.2.2.2.2.2.1)).1,p.2.2.2)=bR p s:=by
 unfold bR;rw[if_pos h];unfold cS eX eZ;rw[k];rfl
theorem bND {p:bF} {s:Int} (h:cC p s=true) (k:(aV p s).1=4):(p.1,List.set p.2.1 s.toNat (jJ (aWA (fW p s) (qU (p.2.2.2.getD s.toNat (aP aM))).2.1.2) ((fW p s).1+1)),p.2.2.1,List.set p.2.2.2 s.toNat (qU (p.2.2.2.getD s.toNat (aP aM))).1)=bR p s:=by
 unfold bR;rw[if_pos h];unfold cS eX eZ;rw[k];rfl
theorem bN5 {p:bF} {s:Int} (h:cC p s=true) (k:(aV p s).1=5):(p.1,List.set p.2.1 s.toNat (jJ (oK (fW p s) (aV p s).2) ((oK (fW p s) (aV p s).2).1+1)),p.2.2.1,p.2.2.2)=bR p s:=by
 unfold bR;rw[if_pos h];unfold cS eX eZ;rw[k];rfl
theorem bOC {p:bF} {s:Int} (h:cC p s=true) (k:(aV p s).1=6) (h0:s=0) :
  (p.1,List.set p.2.1 s.toNat (jJ (wZ (oI (fW p s) (aV p s).2 (p.1.getD (aV p s).2.toNat (aP aQ)).2) []) ((oI (fW p s) (aV p s).2 (p.1.getD (aV p s).2.toNat (aP aQ)).2).1+1)),p.2.2.1,p.2.2.2)=bR p s:=by
 unfold bR;rw[if_pos h];unfold cS eX eZ;simp only[k,if_pos h0];rfl
theorem bKT {p:bF} {s:Int} (h:cC p s=true) (k:(aV p s).1=6) (h0:¬ s=0) :
  (p.1,List.set p.2.1 s.toNat (jJ (oI (fW p s) (aV p s).2 (p.1.getD (aV p s).2.toNat (aP aQ)).2) ((oI (fW p s) (aV p s).2 (p.1.getD (aV p s).2.toNat (aP aQ)).2).1+1)),p.2.2.1,p.2.2.2)=bR p s:=by
 unfold bR;rw[if_pos h];unfold cS eX eZ;simp only[k,if_neg h0];rfl
theorem bO2 {p:bF} {s:Int} (h:cC p s=true) (k:(aV p s).1=7):(p.1,List.set p.2.1 s.toNat (jJ (wZ (fW p s) []) ((fW p s).1+1)),p.2.2.1,List.set p.2.2.2 (s - 1).toNat (oN (p.2.2.2.getD (s - 1).toNat (aP aM)) ((aV p s).2,(fW p s).2.2.2.2.2.2.2.2.2.2.1)).1)=bR p s:=by
 unfold bR;rw[if_pos h];unfold cS eX eZ;rw[k];rfl
theorem bN6 {p:bF} {s:Int} (h:cC p s=true) (h1:¬ (aV p s).1=1) (h2:¬ (aV p s).1=2) (h3:¬ (aV p s).1=3) (h4:¬ (aV p s).1=4) (h5:¬ (aV p s).1=5) (h6:¬ (aV p s).1=6) (h7:¬ (aV p s).1=7) :
  (p.1,List.set p.2.1 s.toNat (jJ (fW p s) ((fW p s).1+1)),p.2.2.1,p.2.2.2)=bR p s:=by
 unfold bR;rw[if_pos h];unfold cS eX eZ;simp only[if_neg h1,if_neg h2,if_neg h3,if_neg h4,if_neg h5,if_neg h6,if_neg h7]
noncomputable def qR:Con:=⟨42,(.bPW aK tI),aK,[.val ⟨true,aK,[]⟩,.val ⟨false,tI,[]⟩],[⟨true,aK,[0,0,0,0]⟩],false,none,
 ((fun x=>bS aK x.1≤1000000000):(bF × Int)→Prop),
 ((fun x=>bR x.1 x.2):(bF × Int)→(bF))⟩
def aKH:T:=.call 0 (.p1 aK tI (.Z 0)) <|.call 1 (.Z 0) <|
 .bPX .not (.Z 2) <|
 .ite (.Z 3) (
  .ret (.Z 1)) (
  .bPX (.bQ1 66 aA) (.bPY (.slice 66 aA) tI (aH aK 1 (.Z 1)) (aS (.bPW aK tI) 1 (.Z 0))) <|
  .bPX (.bQ1 66 aA) (.bPY (.slice 66 aA) tI (aH aK 1 (.Z 1)) (aS (.bPW aK tI) 1 (.Z 0))) <|
  .call 2 (.Z 0) <|
  .bPX (.cmp .eql .i64) (.bPY tI tI (.p1 tI tI (.Z 6)) (.ci .i64 1)) <|
  .ite (.Z 7) (
   .bPX (.ar .sub .i64) (.bPY tI tI (aS (.bPW aK tI) 1 (.Z 0)) (.ci .i64 1)) <|
   .bPX (.bQ1 98 aM) (.bPY aU tI (aH aK 2 (.Z 1)) (.Z 8)) <|
   .bPX (.bQ1 98 aM) (.bPY aU tI (aH aK 2 (.Z 1)) (.Z 8)) <|
   .call 3 (.Z 10) <|
   .bPX (.ar .sub .i64) (.bPY tI tI (aS (.bPW aK tI) 1 (.Z 0)) (.ci .i64 1)) <|
   .bPX (.bQ1 98 aM) (.bPY aU tI (aH aK 2 (.Z 1)) (.Z 12)) <|
   .bPX (.bQ4 98 aM) (bP (.bPW aU (.bPW tI aM)) [(aH aK 2 (.Z 1)),(.Z 12),(.p1 aM (.bPW aI .bool) (.Z 11))]) <|
   .bPX (.ar .add .i64) (.bPY tI tI (.p1 tI gO (.Z 5)) (.ci .i64 1)) <|
   .bPX (.bQ1 66 aA) (.bPY (.slice 66 aA) tI (aH aK 1 (.Z 1)) (aS (.bPW aK tI) 1 (.Z 0))) <|
   .bPX (.bQ4 66 aA) (bP (.bPW (.slice 66 aA) (.bPW tI aA)) [(aH aK 1 (.Z 1)),(aS (.bPW aK tI) 1 (.Z 0)),(.Z 15),(aH aA 1 (.Z 5)),(aH aA 2 (.Z 5)),(aH aA 3 (.Z 5)),(aH aA 4 (.Z 5)),(aH aA 5 (.Z 5)),(aH aA 6 (.Z 5)),(aS aI 1 (aH (.bPW aM (.bPW aI .bool)) 1 (.Z 11))),(aS aA 8 (.Z 5))]) <|
   .ret (bP aK [(.p1 aF (.bPW (.slice 66 aA) (.bPW aU aU)) (.Z 1)),(.Z 17),(.Z 14),(aS aK 3 (.Z 1))])) (
   .bPX (.cmp .eql .i64) (.bPY tI tI (.p1 tI tI (.Z 6)) (.ci .i64 2)) <|
   .ite (.Z 8) (
    .bPX (.cmp .eql .i64) (.bPY tI tI (aS (.bPW aK tI) 1 (.Z 0)) (.ci .i64 0)) <|
    .ite (.Z 9) (
     .bPX (.bQ1 108 aQ) (.bPY aF tI (.p1 aF (.bPW (.slice 66 aA) (.bPW aU aU)) (.Z 1)) (aS aD 1 (.Z 6))) <|
     .bPX (.bQ1 108 aQ) (.bPY aF tI (.p1 aF (.bPW (.slice 66 aA) (.bPW aU aU)) (.Z 1)) (aS aD 1 (.Z 6))) <|
     .bPX (.bQ1 108 aQ) (.bPY aF tI (.p1 aF (.bPW (.slice 66 aA) (.bPW aU aU)) (.Z 1)) (aS aD 1 (.Z 6))) <|
     .bPX (.bQ1 108 aQ) (.bPY aF tI (.p1 aF (.bPW (.slice 66 aA) (.bPW aU aU)) (.Z 1)) (aS aD 1 (.Z 6))) <|
     .call 4 (bP (.bPW aA (.bPW tI aQ)) [(.Z 5),(aS aD 1 (.Z 6)),(.p1 aB aB (.Z 11)),(aS aQ 1 (.Z 13))]) <|
     .bPX (.ar .add .i64) (.bPY tI tI (.p1 tI gO (.Z 14)) (.ci .i64 1)) <|
     .bPX (.bQ1 66 aA) (.bPY (.slice 66 aA) tI (aH aK 1 (.Z 1)) (aS (.bPW aK tI) 1 (.Z 0))) <|
     .bPX (.bQ4 66 aA) (bP (.bPW (.slice 66 aA) (.bPW tI aA)) [(aH aK 1 (.Z 1)),(aS (.bPW aK tI) 1 (.Z 0)),(.Z 15),(aS aA 1 (.Z 14))]) <|
     .ret (bP aK [(.p1 aF (.bPW (.slice 66 aA) (.bPW aU aU)) (.Z 1)),(.Z 17),(aS aK 2 (.Z 1))])) (
     .bPX (.bQ1 108 aQ) (.bPY aF tI (.p1 aF (.bPW (.slice 66 aA) (.bPW aU aU)) (.Z 1)) (aS aD 1 (.Z 6))) <|
     .bPX (.bQ1 108 aQ) (.bPY aF tI (.p1 aF (.bPW (.slice 66 aA) (.bPW aU aU)) (.Z 1)) (aS aD 1 (.Z 6))) <|
     .call 4 (bP (.bPW aA (.bPW tI aQ)) [(.Z 5),(aS aD 1 (.Z 6)),(aH aA 7 (.Z 5)),(aS aQ 1 (.Z 11))]) <|
     .bPX (.ar .add .i64) (.bPY tI tI (.p1 tI gO (.Z 12)) (.ci .i64 1)) <|
     .bPX (.bQ1 66 aA) (.bPY (.slice 66 aA) tI (aH aK 1 (.Z 1)) (aS (.bPW aK tI) 1 (.Z 0))) <|
     .bPX (.bQ4 66 aA) (bP (.bPW (.slice 66 aA) (.bPW tI aA)) [(aH aK 1 (.Z 1)),(aS (.bPW aK tI) 1 (.Z 0)),(.Z 13),(aS aA 1 (.Z 12))]) <|
     .ret (bP aK [(.p1 aF (.bPW (.slice 66 aA) (.bPW aU aU)) (.Z 1)),(.Z 15),(aS aK 2 (.Z 1))]))) (
    .bPX (.cmp .eql .i64) (.bPY tI tI (.p1 tI tI (.Z 6)) (.ci .i64 3)) <|
    .ite (.Z 9) (
     .bPX (.bQ1 98 aM) (.bPY aU tI (aH aK 2 (.Z 1)) (aS (.bPW aK tI) 1 (.Z 0))) <|
     .bPX (.bQ1 98 aM) (.bPY aU tI (aH aK 2 (.Z 1)) (aS (.bPW aK tI) 1 (.Z 0))) <|
     .call 5 (bP (.bPW aM aI) [(.Z 11),(aS aD 1 (.Z 6)),(aH aA 8 (.Z 5))]) <|
     .bPX (.bQ1 98 aM) (.bPY aU tI (aH aK 2 (.Z 1)) (aS (.bPW aK tI) 1 (.Z 0))) <|
     .bPX (.bQ4 98 aM) (bP (.bPW aU (.bPW tI aM)) [(aH aK 2 (.Z 1)),(aS (.bPW aK tI) 1 (.Z 0)),(.p1 aM .bool (.Z 12))]) <|
     .bPX (.ar .add .i64) (.bPY tI tI (.p1 tI gO (.Z 5)) (.ci .i64 1)) <|
     .bPX (.bQ1 66 aA) (.bPY (.slice 66 aA) tI (aH aK 1 (.Z 1)) (aS (.bPW aK tI) 1 (.Z 0))) <|
     .bPX (.bQ4 66 aA) (bP (.bPW (.slice 66 aA) (.bPW tI aA)) [(aH aK 1 (.Z 1)),(aS (.bPW aK tI) 1 (.Z 0)),(.Z 15),(aH aA 1 (.Z 5)),(aH aA 2 (.Z 5)),(aH aA 3 (.Z 5)),(aH aA 4 (.Z 5)),(aH aA 5 (.Z 5)),(aH aA 6 (.Z 5)),(aH aA 7 (.Z 5)),(.nl 3 tI),(aS aA 9 (.Z 5))]) <|
     .ret (bP aK [(.p1 aF (.bPW (.slice 66 aA) (.bPW aU aU)) (.Z 1)),(.Z 17),(.Z 14),(aS aK 3 (.Z 1))])) (
     .bPX (.cmp .eql .i64) (.bPY tI tI (.p1 tI tI (.Z 6)) (.ci .i64 4)) <|
     .ite (.Z 10) (
      .bPX (.bQ1 98 aM) (.bPY aU tI (aS aK 3 (.Z 1)) (aS (.bPW aK tI) 1 (.Z 0))) <|
      .bPX (.bQ1 98 aM) (.bPY aU tI (aS aK 3 (.Z 1)) (aS (.bPW aK tI) 1 (.Z 0))) <|
      .call 3 (.Z 12) <|
      .bPX (.bQ1 98 aM) (.bPY aU tI (aS aK 3 (.Z 1)) (aS (.bPW aK tI) 1 (.Z 0))) <|
      .bPX (.bQ4 98 aM) (bP (.bPW aU (.bPW tI aM)) [(aS aK 3 (.Z 1)),(aS (.bPW aK tI) 1 (.Z 0)),(.p1 aM (.bPW aI .bool) (.Z 13))]) <|
      .bPX (.ar .add .i64) (.bPY tI tI (.p1 tI gO (.Z 5)) (.ci .i64 1)) <|
      .bPX (.bQ1 66 aA) (.bPY (.slice 66 aA) tI (aH aK 1 (.Z 1)) (aS (.bPW aK tI) 1 (.Z 0))) <|
      .bPX (.bQ4 66 aA) (bP (.bPW (.slice 66 aA) (.bPW tI aA)) [(aH aK 1 (.Z 1)),(aS (.bPW aK tI) 1 (.Z 0)),(.Z 16),(aH aA 1 (.Z 5)),(aH aA 2 (.Z 5)),(aH aA 3 (.Z 5)),(aH aA 4 (.Z 5)),(aH aA 5 (.Z 5)),(aH aA 6 (.Z 5)),(aH aA 7 (.Z 5)),(aH aA 8 (.Z 5)),(aS aI 1 (aH (.bPW aM (.bPW aI .bool)) 1 (.Z 13))),(aS aA 10 (.Z 5))]) <|
      .ret (bP aK [(.p1 aF (.bPW (.slice 66 aA) (.bPW aU aU)) (.Z 1)),(.Z 18),(aH aK 2 (.Z 1)),(.Z 15)])) (
      .bPX (.cmp .eql .i64) (.bPY tI tI (.p1 tI tI (.Z 6)) (.ci .i64 5)) <|
      .ite (.Z 11) (
       .call 6 (.bPY aA tI (.Z 5) (aS aD 1 (.Z 6))) <|
       .bPX (.ar .add .i64) (.bPY tI tI (.p1 tI gO (.Z 12)) (.ci .i64 1)) <|
       .bPX (.bQ1 66 aA) (.bPY (.slice 66 aA) tI (aH aK 1 (.Z 1)) (aS (.bPW aK tI) 1 (.Z 0))) <|
       .bPX (.bQ4 66 aA) (bP (.bPW (.slice 66 aA) (.bPW tI aA)) [(aH aK 1 (.Z 1)),(aS (.bPW aK tI) 1 (.Z 0)),(.Z 13),(aS aA 1 (.Z 12))]) <|
       .ret (bP aK [(.p1 aF (.bPW (.slice 66 aA) (.bPW aU aU)) (.Z 1)),(.Z 15),(aS aK 2 (.Z 1))])) (
       .bPX (.cmp .eql .i64) (.bPY tI tI (.p1 tI tI (.Z 6)) (.ci .i64 6)) <|
       .ite (.Z 12) (
        .bPX (.bQ1 108 aQ) (.bPY aF tI (.p1 aF (.bPW (.slice 66 aA) (.bPW aU aU)) (.Z 1)) (aS aD 1 (.Z 6))) <|
        .bPX (.bQ1 108 aQ) (.bPY aF tI (.p1 aF (.bPW (.slice 66 aA) (.bPW aU aU)) (.Z 1)) (aS aD 1 (.Z 6))) <|
        .call 7 (bP (.bPW aA aI) [(.Z 5),(aS aD 1 (.Z 6)),(aS aQ 1 (.Z 14))]) <|
        .bPX (.cmp .eql .i64) (.bPY tI tI (aS (.bPW aK tI) 1 (.Z 0)) (.ci .i64 0)) <|
        .ite (.Z 16) (
         .bPX (.ar .add .i64) (.bPY tI tI (.p1 tI gO (.Z 15)) (.ci .i64 1)) <|
         .bPX (.bQ1 66 aA) (.bPY (.slice 66 aA) tI (aH aK 1 (.Z 1)) (aS (.bPW aK tI) 1 (.Z 0))) <|
         .bPX (.bQ4 66 aA) (bP (.bPW (.slice 66 aA) (.bPW tI aA)) [(aH aK 1 (.Z 1)),(aS (.bPW aK tI) 1 (.Z 0)),(.Z 17),(aH aA 1 (.Z 15)),(aH aA 2 (.Z 15)),(aH aA 3 (.Z 15)),(aH aA 4 (.Z 15)),(aH aA 5 (.Z 15)),(aH aA 6 (.Z 15)),(aH aA 7 (.Z 15)),(aH aA 8 (.Z 15)),(aH aA 9 (.Z 15)),(.nl 3 tI),(aS aA 11 (.Z 15))]) <|
         .ret (bP aK [(.p1 aF (.bPW (.slice 66 aA) (.bPW aU aU)) (.Z 1)),(.Z 19),(aS aK 2 (.Z 1))])) (
         .bPX (.ar .add .i64) (.bPY tI tI (.p1 tI gO (.Z 15)) (.ci .i64 1)) <|
         .bPX (.bQ1 66 aA) (.bPY (.slice 66 aA) tI (aH aK 1 (.Z 1)) (aS (.bPW aK tI) 1 (.Z 0))) <|
         .bPX (.bQ4 66 aA) (bP (.bPW (.slice 66 aA) (.bPW tI aA)) [(aH aK 1 (.Z 1)),(aS (.bPW aK tI) 1 (.Z 0)),(.Z 17),(aS aA 1 (.Z 15))]) <|
         .ret (bP aK [(.p1 aF (.bPW (.slice 66 aA) (.bPW aU aU)) (.Z 1)),(.Z 19),(aS aK 2 (.Z 1))]))) (
        .bPX (.cmp .eql .i64) (.bPY tI tI (.p1 tI tI (.Z 6)) (.ci .i64 7)) <|
        .ite (.Z 13) (
         .bPX (.ar .sub .i64) (.bPY tI tI (aS (.bPW aK tI) 1 (.Z 0)) (.ci .i64 1)) <|
         .bPX (.ar .sub .i64) (.bPY tI tI (aS (.bPW aK tI) 1 (.Z 0)) (.ci .i64 1)) <|
         .bPX (.bQ1 98 aM) (.bPY aU tI (aS aK 3 (.Z 1)) (.Z 15)) <|
         .bPX (.bQ1 98 aM) (.bPY aU tI (aS aK 3 (.Z 1)) (.Z 15)) <|
         .call 5 (bP (.bPW aM aI) [(.Z 17),(aS aD 1 (.Z 6)),(aH aA 10 (.Z 5))]) <|
         .bPX (.bQ1 98 aM) (.bPY aU tI (aS aK 3 (.Z 1)) (.Z 14)) <|
         .bPX (.bQ4 98 aM) (bP (.bPW aU (.bPW tI aM)) [(aS aK 3 (.Z 1)),(.Z 14),(.p1 aM .bool (.Z 18))]) <|
         .bPX (.ar .add .i64) (.bPY tI tI (.p1 tI gO (.Z 5)) (.ci .i64 1)) <|
         .bPX (.bQ1 66 aA) (.bPY (.slice 66 aA) tI (aH aK 1 (.Z 1)) (aS (.bPW aK tI) 1 (.Z 0))) <|
         .bPX (.bQ4 66 aA) (bP (.bPW (.slice 66 aA) (.bPW tI aA)) [(aH aK 1 (.Z 1)),(aS (.bPW aK tI) 1 (.Z 0)),(.Z 21),(aH aA 1 (.Z 5)),(aH aA 2 (.Z 5)),(aH aA 3 (.Z 5)),(aH aA 4 (.Z 5)),(aH aA 5 (.Z 5)),(aH aA 6 (.Z 5)),(aH aA 7 (.Z 5)),(aH aA 8 (.Z 5)),(aH aA 9 (.Z 5)),(.nl 3 tI),(aS aA 11 (.Z 5))]) <|
         .ret (bP aK [(.p1 aF (.bPW (.slice 66 aA) (.bPW aU aU)) (.Z 1)),(.Z 23),(aH aK 2 (.Z 1)),(.Z 20)])) (
         .bPX (.ar .add .i64) (.bPY tI tI (.p1 tI gO (.Z 5)) (.ci .i64 1)) <|
         .bPX (.bQ1 66 aA) (.bPY (.slice 66 aA) tI (aH aK 1 (.Z 1)) (aS (.bPW aK tI) 1 (.Z 0))) <|
         .bPX (.bQ4 66 aA) (bP (.bPW (.slice 66 aA) (.bPW tI aA)) [(aH aK 1 (.Z 1)),(aS (.bPW aK tI) 1 (.Z 0)),(.Z 14),(aS aA 1 (.Z 5))]) <|
         .ret (bP aK [(.p1 aF (.bPW (.slice 66 aA) (.bPW aU aU)) (.Z 1)),(.Z 16),(aS aK 2 (.Z 1))])))))))))
set_option maxRecDepth 100000 in
theorem bGN:bW Tryz.prog [iM,gB,qO,aFC,nV,aAP,mP,oD] qR false 3000 ⟨[],[(2964,28016,[],[27,28,29,30,31,32,33,34,35]),(2964,20014,[],[27,28,29,30,31,32,33,34,35]),(2972,24010,[95],[]),(2966,24016,[],[28]),(2962,96014,[],[27,28,29,30,31,32,33,34,35]),(2954,448018,[],[36]),(2960,384014,[160],[]),(2954,384022,[],[28])]⟩ = .ok aKH:=by kernel_rfl
set_option maxHeartbeats 2000000 in
theorem bJU (x:bF × Int) (hx:okD (.bPW aK tI) x) (hp:(fun x=>bS aK x.1≤1000000000) x):aKH.wp [iM,gB,qO,aFC,nV,aAP,mP,oD] [⟨(.bPW aK tI),x⟩] [] (fun v=>v.as aK=(fun x=>bR x.1 x.2) x):=by
 obtain ⟨p,s⟩:=x
 delta aKH iM gB qO aFC nV aAP mP oD;refine dY ?_
 refine eD ?_
 refine ⟨hp,fun _=>⟨fun h=>bC8 h,fun h=>?_⟩⟩
 obtain ⟨z1,z1s,z2,z2m,z3,z3m,z4,z4m⟩:=aTW (b:=p.1) (st:=p.2.1) (a:=p.2.2.1) (r:=p.2.2.2) hp
 obtain ⟨h1,h2,h3⟩:=jG h
 have hk:=uG h
 have hm:=bPU h
 have hpo:=(mJ.1 h1).1
 have hst:=(mJ.1 h1).2.2.2 s.toNat (by omega)
 have zs:bS aA (List.getD p.2.1 s.toNat (aP aA))≤1000000000:=by rw[aW (show s.toNat<p.2.1.length by omega)];exact z2m _ (List.getElem_mem _)
 have za:∀ k,k<p.2.2.1.length→bS aM (List.getD p.2.2.1 k (aP aM))≤1000000000:=fun k hk=>by rw[aW hk];exact z3m _ (List.getElem_mem _)
 have zr:∀ k,k<p.2.2.2.length→bS aM (List.getD p.2.2.2 k (aP aM))≤1000000000:=fun k hk=>by rw[aW hk];exact z4m _ (List.getElem_mem _)
 have hpc:=((cD _).1 hst.1).2.1
 have hpl:List.length (List.getD p.2.1 s.toNat (aP aA)).2.1≤1000000000:=(rC (t:=aA) zs).2.1.1
 (repeat' first|intro _|(with_reducible apply And.intro))
 all_goals first|omega|exact zs|exact za _ (by omega)|exact zr _ (by omega)|(rw[bC5];omega)|(rw[aTM];omega)|(rw[aSP];omega)|skip
 all_goals first|exact bO3 h (by assumption)|exact bO8 h (by assumption)|exact bND h (by assumption)|exact bN5 h (by assumption)|exact bO2 h (by assumption)|exact bO9 h (by assumption) (by assumption)|exact bKN h (by assumption) (by assumption)|exact bOC h (by assumption) (by assumption)|exact bKT h (by assumption) (by assumption)|exact bN6 h (by assumption) (by assumption) (by assumption) (by assumption) (by assumption) (by assumption) (by assumption)|skip
set_option maxHeartbeats 2000000 in
theorem aVR:Con.Holds Tryz.prog qR:=aX aZ (aG aFU (aG aB0 (aG aT1 (aG bLF (aG aR2 (aG bGJ (aG aNQ (aG aQO aT)))))))) bGN bJU
end Go.Proofs.YtpafjioccjpmfaaGreat
