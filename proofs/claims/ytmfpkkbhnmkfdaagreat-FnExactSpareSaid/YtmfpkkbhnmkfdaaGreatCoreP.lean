/- CoreP: lemmas. No conditions. -/
import Derived.Test.YtmfpkkbhnmkfdaaGreatCore9
namespace Go.Proofs.YtmfpkkbhnmkfdaaGreat
set_option maxRecDepth 100000
open Go.ChangeShapes Go.WideShapes Go.ChangeAt Go.RowKit Go.Deep
set_option linter.unusedVariables false
set_option linter.unusedSimpArgs false
theorem bD5 {p:bF} {s:Int} (h:eB p s=false):p=fY p s:=by unfold fY;rw[if_neg (by rw[h];simp)]
theorem aJK {p:bF} {s:Int} (h:eB p s=true):kV p=true∧0≤s∧s<(p.2.1.length:Int):=by
 unfold eB at h;split at h
 ·assumption
 ·cases h
theorem aSF {p:bF} {s:Int} (h:eB p s=true):((bM p s).1=1→0<s)∧((bM p s).1=3→s<(p.2.1.length:Int) - 1)∧((bM p s).1=4→s<(p.2.1.length:Int) - 1)∧((bM p s).1=7→0<s)∧¬ (bM p s).1=0:=by
 obtain ⟨h1,h2,h3⟩:=aJK h
 refine ⟨fun k=>?_,fun k=>?_,fun k=>?_,fun k=>?_,fun k=>?_⟩
 ·rw[bO7 h1 h2 h3 k,Bool.and_eq_true,decide_eq_true_eq] at h;exact h.1
 ·rw[bOA h1 h2 h3 k,Bool.and_eq_true,decide_eq_true_eq] at h;exact h.1
 ·rw[bO6 h1 h2 h3 k,Bool.and_eq_true,decide_eq_true_eq] at h;exact h.1
 ·rw[bO8 h1 h2 h3 k,Bool.and_eq_true,decide_eq_true_eq] at h;exact h.1
 ·rw[← bO4 (p:=p) (s:=s) (by omega)] at h;cases h
theorem bOP {p:bF} {s:Int} (h:eB p s=true):0≤(bM p s).2∧(bM p s).2<(p.1.length:Int):=by
 obtain ⟨h1,h2,h3⟩:=aJK h
 have hk:=(aSF h).2.2.2.2
 have hs:=(nK.1 h1).2.2.2 s.toNat (by omega)
 unfold bM at hk ⊢
 split at hk
 ·rename_i hh
  rw[if_pos hh]
  exact hs.2.2 _ (by omega)
 ·exact absurd rfl hk
theorem bD6 (s:bC) (m:Int) (x t:List Int):(aBX s m x t).1=s.1:=by unfold aBX;split <;> rfl
theorem aVK (s:bC) (m:Int):(sE s m).1=s.1:=by unfold sE;split <;> rfl
theorem bDZ (s:bC) (m:Int) (t:List Int):(wD s m t).1=s.1:=by unfold wD;split <;> rfl
theorem bHF {p:bF} {s:Int} (h:eB p s=true) (k:(bM p s).1=1):(p.1,List.set p.2.1 s.toNat (xE (bLS (jA p s) (xP (p.2.2.1.getD (s - 1).toNat (aX aO))).2.1.2) ((jA p s).1+1)),List.set p.2.2.1 (s - 1).toNat (xP (p.2.2.1.getD (s - 1).toNat (aX aO))).1,p.2.2.2)=fY p s:=by
 unfold fY;rw[if_pos h];unfold kR wW xH;rw[k];rfl
theorem bJO {p:bF} {s:Int} (h:eB p s=true) (k:(bM p s).1=2) (h0:s=0) :
  (p.1,List.set p.2.1 s.toNat (xE (aBX (jA p s) (bM p s).2 (p.1.getD (bM p s).2.toNat (aX aI)).1 (p.1.getD (bM p s).2.toNat (aX aI)).2) ((aBX (jA p s) (bM p s).2 (p.1.getD (bM p s).2.toNat (aX aI)).1 (p.1.getD (bM p s).2.toNat (aX aI)).2).1+1)),p.2.2.1,p.2.2.2)=fY p s:=by
 unfold fY;rw[if_pos h];unfold kR wW xH;rw[k,if_pos h0];rfl
theorem bDD {p:bF} {s:Int} (h:eB p s=true) (k:(bM p s).1=2) (h0:¬ s=0) :
  (p.1,List.set p.2.1 s.toNat (xE (aBX (jA p s) (bM p s).2 (jA p s).2.2.2.2.2.2.2.1 (p.1.getD (bM p s).2.toNat (aX aI)).2) ((aBX (jA p s) (bM p s).2 (jA p s).2.2.2.2.2.2.2.1 (p.1.getD (bM p s).2.toNat (aX aI)).2).1+1)),p.2.2.1,p.2.2.2)=fY p s:=by
 unfold fY;rw[if_pos h];unfold kR wW xH;rw[k,if_neg h0];rfl
theorem bH8 {p:bF} {s:Int} (h:eB p s=true) (k:(bM p s).1=3):(p.1,List.set p.2.1 s.toNat (xE (bN0 (jA p s) []) ((jA p s).1+1)),List.set p.2.2.1 s.toNat (uZ (p.2.2.1.getD s.toNat (aX aO)) ((bM p s).2,(jA p s).2.2.2.2.2.2.2.2.1)).1,p.2.2.2)=fY p s:=by
 unfold fY;rw[if_pos h];unfold kR wW xH;rw[k];rfl
theorem bK2 {p:bF} {s:Int} (h:eB p s=true) (k:(bM p s).1=4):(p.1,List.set p.2.1 s.toNat (xE (bLU (jA p s) (xP (p.2.2.2.getD s.toNat (aX aO))).2.1.2) ((jA p s).1+1)),p.2.2.1,List.set p.2.2.2 s.toNat (xP (p.2.2.2.getD s.toNat (aX aO))).1)=fY p s:=by
 unfold fY;rw[if_pos h];unfold kR wW xH;rw[k];rfl
theorem bHQ {p:bF} {s:Int} (h:eB p s=true) (k:(bM p s).1=5):(p.1,List.set p.2.1 s.toNat (xE (sE (jA p s) (bM p s).2) ((sE (jA p s) (bM p s).2).1+1)),p.2.2.1,p.2.2.2)=fY p s:=by
 unfold fY;rw[if_pos h];unfold kR wW xH;rw[k];rfl
theorem bK8 {p:bF} {s:Int} (h:eB p s=true) (k:(bM p s).1=6) (h0:s=0) :
  (p.1,List.set p.2.1 s.toNat (xE (aQ8 (wD (jA p s) (bM p s).2 (p.1.getD (bM p s).2.toNat (aX aI)).2) []) ((wD (jA p s) (bM p s).2 (p.1.getD (bM p s).2.toNat (aX aI)).2).1+1)),p.2.2.1,p.2.2.2)=fY p s:=by
 unfold fY;rw[if_pos h];unfold kR wW xH;simp only[k,if_pos h0];rfl
theorem bE8 {p:bF} {s:Int} (h:eB p s=true) (k:(bM p s).1=6) (h0:¬ s=0) :
  (p.1,List.set p.2.1 s.toNat (xE (wD (jA p s) (bM p s).2 (p.1.getD (bM p s).2.toNat (aX aI)).2) ((wD (jA p s) (bM p s).2 (p.1.getD (bM p s).2.toNat (aX aI)).2).1+1)),p.2.2.1,p.2.2.2)=fY p s:=by
 unfold fY;rw[if_pos h];unfold kR wW xH;simp only[k,if_neg h0];rfl
theorem bL2 {p:bF} {s:Int} (h:eB p s=true) (k:(bM p s).1=7):(p.1,List.set p.2.1 s.toNat (xE (aQ8 (jA p s) []) ((jA p s).1+1)),p.2.2.1,List.set p.2.2.2 (s - 1).toNat (uZ (p.2.2.2.getD (s - 1).toNat (aX aO)) ((bM p s).2,(jA p s).2.2.2.2.2.2.2.2.2.2.1)).1)=fY p s:=by
 unfold fY;rw[if_pos h];unfold kR wW xH;rw[k];rfl
theorem bHW {p:bF} {s:Int} (h:eB p s=true) (h1:¬ (bM p s).1=1) (h2:¬ (bM p s).1=2) (h3:¬ (bM p s).1=3) (h4:¬ (bM p s).1=4) (h5:¬ (bM p s).1=5) (h6:¬ (bM p s).1=6) (h7:¬ (bM p s).1=7) :
  (p.1,List.set p.2.1 s.toNat (xE (jA p s) ((jA p s).1+1)),p.2.2.1,p.2.2.2)=fY p s:=by
 unfold fY;rw[if_pos h];unfold kR wW xH;simp only[if_neg h1,if_neg h2,if_neg h3,if_neg h4,if_neg h5,if_neg h6,if_neg h7]
noncomputable def aBO:Con:=⟨70,(.bP9 aG tI),aG,[.val ⟨true,aG,[]⟩,.val ⟨false,tI,[]⟩],[⟨true,aG,[0,0,0,0]⟩],false,none,
 ((fun x=>aY aG x.1≤1000000000):(bF × Int)→Prop),
 ((fun x=>fY x.1 x.2):(bF × Int)→(bF))⟩
def aK7:T:=.call 0 (.p1 aG tI (.Z 0)) <|.call 1 (.Z 0) <|
 .bPA .not (.Z 2) <|
 .ite (.Z 3) (
  .ret (.Z 1)) (
  .bPA (.bPE 121 aA) (.bPB (.slice 121 aA) tI (aK aG 1 (.Z 1)) (aQ (.bP9 aG tI) 1 (.Z 0))) <|
  .bPA (.bPE 121 aA) (.bPB (.slice 121 aA) tI (aK aG 1 (.Z 1)) (aQ (.bP9 aG tI) 1 (.Z 0))) <|
  .call 2 (.Z 0) <|
  .bPA (.cmp .eql .i64) (.bPB tI tI (.p1 tI tI (.Z 6)) (.ci .i64 1)) <|
  .ite (.Z 7) (
   .bPA (.ar .sub .i64) (.bPB tI tI (aQ (.bP9 aG tI) 1 (.Z 0)) (.ci .i64 1)) <|
   .bPA (.bPE 157 aO) (.bPB aL tI (aK aG 2 (.Z 1)) (.Z 8)) <|
   .bPA (.bPE 157 aO) (.bPB aL tI (aK aG 2 (.Z 1)) (.Z 8)) <|
   .call 3 (.Z 10) <|
   .bPA (.ar .sub .i64) (.bPB tI tI (aQ (.bP9 aG tI) 1 (.Z 0)) (.ci .i64 1)) <|
   .bPA (.bPE 157 aO) (.bPB aL tI (aK aG 2 (.Z 1)) (.Z 12)) <|
   .bPA (.bPH 157 aO) (bG (.bP9 aL (.bP9 tI aO)) [(aK aG 2 (.Z 1)),(.Z 12),(.p1 aO (.bP9 aF .bool) (.Z 11))]) <|
   .bPA (.ar .add .i64) (.bPB tI tI (.p1 tI dA (.Z 5)) (.ci .i64 1)) <|
   .bPA (.bPE 121 aA) (.bPB (.slice 121 aA) tI (aK aG 1 (.Z 1)) (aQ (.bP9 aG tI) 1 (.Z 0))) <|
   .bPA (.bPH 121 aA) (bG (.bP9 (.slice 121 aA) (.bP9 tI aA)) [(aK aG 1 (.Z 1)),(aQ (.bP9 aG tI) 1 (.Z 0)),(.Z 15),(aK aA 1 (.Z 5)),(aK aA 2 (.Z 5)),(aK aA 3 (.Z 5)),(aK aA 4 (.Z 5)),(aK aA 5 (.Z 5)),(aK aA 6 (.Z 5)),(aQ aF 1 (aK (.bP9 aO (.bP9 aF .bool)) 1 (.Z 11))),(aQ aA 8 (.Z 5))]) <|
   .ret (bG aG [(.p1 aM (.bP9 (.slice 121 aA) (.bP9 aL aL)) (.Z 1)),(.Z 17),(.Z 14),(aQ aG 3 (.Z 1))])) (
   .bPA (.cmp .eql .i64) (.bPB tI tI (.p1 tI tI (.Z 6)) (.ci .i64 2)) <|
   .ite (.Z 8) (
    .bPA (.cmp .eql .i64) (.bPB tI tI (aQ (.bP9 aG tI) 1 (.Z 0)) (.ci .i64 0)) <|
    .ite (.Z 9) (
     .bPA (.bPE 126 aI) (.bPB aM tI (.p1 aM (.bP9 (.slice 121 aA) (.bP9 aL aL)) (.Z 1)) (aQ aP 1 (.Z 6))) <|
     .bPA (.bPE 126 aI) (.bPB aM tI (.p1 aM (.bP9 (.slice 121 aA) (.bP9 aL aL)) (.Z 1)) (aQ aP 1 (.Z 6))) <|
     .bPA (.bPE 126 aI) (.bPB aM tI (.p1 aM (.bP9 (.slice 121 aA) (.bP9 aL aL)) (.Z 1)) (aQ aP 1 (.Z 6))) <|
     .bPA (.bPE 126 aI) (.bPB aM tI (.p1 aM (.bP9 (.slice 121 aA) (.bP9 aL aL)) (.Z 1)) (aQ aP 1 (.Z 6))) <|
     .call 4 (bG (.bP9 aA (.bP9 tI aI)) [(.Z 5),(aQ aP 1 (.Z 6)),(.p1 aB aB (.Z 11)),(aQ aI 1 (.Z 13))]) <|
     .bPA (.ar .add .i64) (.bPB tI tI (.p1 tI dA (.Z 14)) (.ci .i64 1)) <|
     .bPA (.bPE 121 aA) (.bPB (.slice 121 aA) tI (aK aG 1 (.Z 1)) (aQ (.bP9 aG tI) 1 (.Z 0))) <|
     .bPA (.bPH 121 aA) (bG (.bP9 (.slice 121 aA) (.bP9 tI aA)) [(aK aG 1 (.Z 1)),(aQ (.bP9 aG tI) 1 (.Z 0)),(.Z 15),(aQ aA 1 (.Z 14))]) <|
     .ret (bG aG [(.p1 aM (.bP9 (.slice 121 aA) (.bP9 aL aL)) (.Z 1)),(.Z 17),(aQ aG 2 (.Z 1))])) (
     .bPA (.bPE 126 aI) (.bPB aM tI (.p1 aM (.bP9 (.slice 121 aA) (.bP9 aL aL)) (.Z 1)) (aQ aP 1 (.Z 6))) <|
     .bPA (.bPE 126 aI) (.bPB aM tI (.p1 aM (.bP9 (.slice 121 aA) (.bP9 aL aL)) (.Z 1)) (aQ aP 1 (.Z 6))) <|
     .call 4 (bG (.bP9 aA (.bP9 tI aI)) [(.Z 5),(aQ aP 1 (.Z 6)),(aK aA 7 (.Z 5)),(aQ aI 1 (.Z 11))]) <|
     .bPA (.ar .add .i64) (.bPB tI tI (.p1 tI dA (.Z 12)) (.ci .i64 1)) <|
     .bPA (.bPE 121 aA) (.bPB (.slice 121 aA) tI (aK aG 1 (.Z 1)) (aQ (.bP9 aG tI) 1 (.Z 0))) <|
     .bPA (.bPH 121 aA) (bG (.bP9 (.slice 121 aA) (.bP9 tI aA)) [(aK aG 1 (.Z 1)),(aQ (.bP9 aG tI) 1 (.Z 0)),(.Z 13),(aQ aA 1 (.Z 12))]) <|
     .ret (bG aG [(.p1 aM (.bP9 (.slice 121 aA) (.bP9 aL aL)) (.Z 1)),(.Z 15),(aQ aG 2 (.Z 1))]))) (
    .bPA (.cmp .eql .i64) (.bPB tI tI (.p1 tI tI (.Z 6)) (.ci .i64 3)) <|
    .ite (.Z 9) (
     .bPA (.bPE 157 aO) (.bPB aL tI (aK aG 2 (.Z 1)) (aQ (.bP9 aG tI) 1 (.Z 0))) <|
     .bPA (.bPE 157 aO) (.bPB aL tI (aK aG 2 (.Z 1)) (aQ (.bP9 aG tI) 1 (.Z 0))) <|
     .call 5 (bG (.bP9 aO aF) [(.Z 11),(aQ aP 1 (.Z 6)),(aK aA 8 (.Z 5))]) <|
     .bPA (.bPE 157 aO) (.bPB aL tI (aK aG 2 (.Z 1)) (aQ (.bP9 aG tI) 1 (.Z 0))) <|
     .bPA (.bPH 157 aO) (bG (.bP9 aL (.bP9 tI aO)) [(aK aG 2 (.Z 1)),(aQ (.bP9 aG tI) 1 (.Z 0)),(.p1 aO .bool (.Z 12))]) <|
     .bPA (.ar .add .i64) (.bPB tI tI (.p1 tI dA (.Z 5)) (.ci .i64 1)) <|
     .bPA (.bPE 121 aA) (.bPB (.slice 121 aA) tI (aK aG 1 (.Z 1)) (aQ (.bP9 aG tI) 1 (.Z 0))) <|
     .bPA (.bPH 121 aA) (bG (.bP9 (.slice 121 aA) (.bP9 tI aA)) [(aK aG 1 (.Z 1)),(aQ (.bP9 aG tI) 1 (.Z 0)),(.Z 15),(aK aA 1 (.Z 5)),(aK aA 2 (.Z 5)),(aK aA 3 (.Z 5)),(aK aA 4 (.Z 5)),(aK aA 5 (.Z 5)),(aK aA 6 (.Z 5)),(aK aA 7 (.Z 5)),(.nl 3 tI),(aQ aA 9 (.Z 5))]) <|
     .ret (bG aG [(.p1 aM (.bP9 (.slice 121 aA) (.bP9 aL aL)) (.Z 1)),(.Z 17),(.Z 14),(aQ aG 3 (.Z 1))])) (
     .bPA (.cmp .eql .i64) (.bPB tI tI (.p1 tI tI (.Z 6)) (.ci .i64 4)) <|
     .ite (.Z 10) (
      .bPA (.bPE 157 aO) (.bPB aL tI (aQ aG 3 (.Z 1)) (aQ (.bP9 aG tI) 1 (.Z 0))) <|
      .bPA (.bPE 157 aO) (.bPB aL tI (aQ aG 3 (.Z 1)) (aQ (.bP9 aG tI) 1 (.Z 0))) <|
      .call 3 (.Z 12) <|
      .bPA (.bPE 157 aO) (.bPB aL tI (aQ aG 3 (.Z 1)) (aQ (.bP9 aG tI) 1 (.Z 0))) <|
      .bPA (.bPH 157 aO) (bG (.bP9 aL (.bP9 tI aO)) [(aQ aG 3 (.Z 1)),(aQ (.bP9 aG tI) 1 (.Z 0)),(.p1 aO (.bP9 aF .bool) (.Z 13))]) <|
      .bPA (.ar .add .i64) (.bPB tI tI (.p1 tI dA (.Z 5)) (.ci .i64 1)) <|
      .bPA (.bPE 121 aA) (.bPB (.slice 121 aA) tI (aK aG 1 (.Z 1)) (aQ (.bP9 aG tI) 1 (.Z 0))) <|
      .bPA (.bPH 121 aA) (bG (.bP9 (.slice 121 aA) (.bP9 tI aA)) [(aK aG 1 (.Z 1)),(aQ (.bP9 aG tI) 1 (.Z 0)),(.Z 16),(aK aA 1 (.Z 5)),(aK aA 2 (.Z 5)),(aK aA 3 (.Z 5)),(aK aA 4 (.Z 5)),(aK aA 5 (.Z 5)),(aK aA 6 (.Z 5)),(aK aA 7 (.Z 5)),(aK aA 8 (.Z 5)),(aQ aF 1 (aK (.bP9 aO (.bP9 aF .bool)) 1 (.Z 13))),(aQ aA 10 (.Z 5))]) <|
      .ret (bG aG [(.p1 aM (.bP9 (.slice 121 aA) (.bP9 aL aL)) (.Z 1)),(.Z 18),(aK aG 2 (.Z 1)),(.Z 15)])) (
      .bPA (.cmp .eql .i64) (.bPB tI tI (.p1 tI tI (.Z 6)) (.ci .i64 5)) <|
      .ite (.Z 11) (
       .call 6 (.bPB aA tI (.Z 5) (aQ aP 1 (.Z 6))) <|
       .bPA (.ar .add .i64) (.bPB tI tI (.p1 tI dA (.Z 12)) (.ci .i64 1)) <|
       .bPA (.bPE 121 aA) (.bPB (.slice 121 aA) tI (aK aG 1 (.Z 1)) (aQ (.bP9 aG tI) 1 (.Z 0))) <|
       .bPA (.bPH 121 aA) (bG (.bP9 (.slice 121 aA) (.bP9 tI aA)) [(aK aG 1 (.Z 1)),(aQ (.bP9 aG tI) 1 (.Z 0)),(.Z 13),(aQ aA 1 (.Z 12))]) <|
       .ret (bG aG [(.p1 aM (.bP9 (.slice 121 aA) (.bP9 aL aL)) (.Z 1)),(.Z 15),(aQ aG 2 (.Z 1))])) (
       .bPA (.cmp .eql .i64) (.bPB tI tI (.p1 tI tI (.Z 6)) (.ci .i64 6)) <|
       .ite (.Z 12) (
        .bPA (.bPE 126 aI) (.bPB aM tI (.p1 aM (.bP9 (.slice 121 aA) (.bP9 aL aL)) (.Z 1)) (aQ aP 1 (.Z 6))) <|
        .bPA (.bPE 126 aI) (.bPB aM tI (.p1 aM (.bP9 (.slice 121 aA) (.bP9 aL aL)) (.Z 1)) (aQ aP 1 (.Z 6))) <|
        .call 7 (bG (.bP9 aA aF) [(.Z 5),(aQ aP 1 (.Z 6)),(aQ aI 1 (.Z 14))]) <|
        .bPA (.cmp .eql .i64) (.bPB tI tI (aQ (.bP9 aG tI) 1 (.Z 0)) (.ci .i64 0)) <|
        .ite (.Z 16) (
         .bPA (.ar .add .i64) (.bPB tI tI (.p1 tI dA (.Z 15)) (.ci .i64 1)) <|
         .bPA (.bPE 121 aA) (.bPB (.slice 121 aA) tI (aK aG 1 (.Z 1)) (aQ (.bP9 aG tI) 1 (.Z 0))) <|
         .bPA (.bPH 121 aA) (bG (.bP9 (.slice 121 aA) (.bP9 tI aA)) [(aK aG 1 (.Z 1)),(aQ (.bP9 aG tI) 1 (.Z 0)),(.Z 17),(aK aA 1 (.Z 15)),(aK aA 2 (.Z 15)),(aK aA 3 (.Z 15)),(aK aA 4 (.Z 15)),(aK aA 5 (.Z 15)),(aK aA 6 (.Z 15)),(aK aA 7 (.Z 15)),(aK aA 8 (.Z 15)),(aK aA 9 (.Z 15)),(.nl 3 tI),(aQ aA 11 (.Z 15))]) <|
         .ret (bG aG [(.p1 aM (.bP9 (.slice 121 aA) (.bP9 aL aL)) (.Z 1)),(.Z 19),(aQ aG 2 (.Z 1))])) (
         .bPA (.ar .add .i64) (.bPB tI tI (.p1 tI dA (.Z 15)) (.ci .i64 1)) <|
         .bPA (.bPE 121 aA) (.bPB (.slice 121 aA) tI (aK aG 1 (.Z 1)) (aQ (.bP9 aG tI) 1 (.Z 0))) <|
         .bPA (.bPH 121 aA) (bG (.bP9 (.slice 121 aA) (.bP9 tI aA)) [(aK aG 1 (.Z 1)),(aQ (.bP9 aG tI) 1 (.Z 0)),(.Z 17),(aQ aA 1 (.Z 15))]) <|
         .ret (bG aG [(.p1 aM (.bP9 (.slice 121 aA) (.bP9 aL aL)) (.Z 1)),(.Z 19),(aQ aG 2 (.Z 1))]))) (
        .bPA (.cmp .eql .i64) (.bPB tI tI (.p1 tI tI (.Z 6)) (.ci .i64 7)) <|
        .ite (.Z 13) (
         .bPA (.ar .sub .i64) (.bPB tI tI (aQ (.bP9 aG tI) 1 (.Z 0)) (.ci .i64 1)) <|
         .bPA (.ar .sub .i64) (.bPB tI tI (aQ (.bP9 aG tI) 1 (.Z 0)) (.ci .i64 1)) <|
         .bPA (.bPE 157 aO) (.bPB aL tI (aQ aG 3 (.Z 1)) (.Z 15)) <|
         .bPA (.bPE 157 aO) (.bPB aL tI (aQ aG 3 (.Z 1)) (.Z 15)) <|
         .call 5 (bG (.bP9 aO aF) [(.Z 17),(aQ aP 1 (.Z 6)),(aK aA 10 (.Z 5))]) <|
         .bPA (.bPE 157 aO) (.bPB aL tI (aQ aG 3 (.Z 1)) (.Z 14)) <|
         .bPA (.bPH 157 aO) (bG (.bP9 aL (.bP9 tI aO)) [(aQ aG 3 (.Z 1)),(.Z 14),(.p1 aO .bool (.Z 18))]) <|
         .bPA (.ar .add .i64) (.bPB tI tI (.p1 tI dA (.Z 5)) (.ci .i64 1)) <|
         .bPA (.bPE 121 aA) (.bPB (.slice 121 aA) tI (aK aG 1 (.Z 1)) (aQ (.bP9 aG tI) 1 (.Z 0))) <|
         .bPA (.bPH 121 aA) (bG (.bP9 (.slice 121 aA) (.bP9 tI aA)) [(aK aG 1 (.Z 1)),(aQ (.bP9 aG tI) 1 (.Z 0)),(.Z 21),(aK aA 1 (.Z 5)),(aK aA 2 (.Z 5)),(aK aA 3 (.Z 5)),(aK aA 4 (.Z 5)),(aK aA 5 (.Z 5)),(aK aA 6 (.Z 5)),(aK aA 7 (.Z 5)),(aK aA 8 (.Z 5)),(aK aA 9 (.Z 5)),(.nl 3 tI),(aQ aA 11 (.Z 5))]) <|
         .ret (bG aG [(.p1 aM (.bP9 (.slice 121 aA) (.bP9 aL aL)) (.Z 1)),(.Z 23),(aK aG 2 (.Z 1)),(.Z 20)])) (
         .bPA (.ar .add .i64) (.bPB tI tI (.p1 tI dA (.Z 5)) (.ci .i64 1)) <|
         .bPA (.bPE 121 aA) (.bPB (.slice 121 aA) tI (aK aG 1 (.Z 1)) (aQ (.bP9 aG tI) 1 (.Z 0))) <|
         .bPA (.bPH 121 aA) (bG (.bP9 (.slice 121 aA) (.bP9 tI aA)) [(aK aG 1 (.Z 1)),(aQ (.bP9 aG tI) 1 (.Z 0)),(.Z 14),(aQ aA 1 (.Z 5))]) <|
         .ret (bG aG [(.p1 aM (.bP9 (.slice 121 aA) (.bP9 aL aL)) (.Z 1)),(.Z 16),(aQ aG 2 (.Z 1))])))))))))
theorem bJN:bN Tryz.prog [jE,kK,qY,aFW,nY,aAY,nB,oR] aBO false 3000 ⟨[],[(2964,28016,[],[27,28,29,30,31,32,33,34,35]),(2964,20014,[],[27,28,29,30,31,32,33,34,35]),(2972,24010,[95],[]),(2966,24016,[],[28]),(2962,96014,[],[27,28,29,30,31,32,33,34,35]),(2954,448018,[],[27]),(2960,384014,[160],[]),(2954,384022,[],[28])]⟩ = .ok aK7:=by kernel_rfl
set_option maxHeartbeats 2000000 in
theorem bIY (x:bF × Int) (hx:okD (.bP9 aG tI) x) (hp:(fun x=>aY aG x.1≤1000000000) x):aK7.wp [jE,kK,qY,aFW,nY,aAY,nB,oR] [⟨(.bP9 aG tI),x⟩] [] (fun v=>v.as aG=(fun x=>fY x.1 x.2) x):=by
 obtain ⟨p,s⟩:=x
 delta aK7 jE kK qY aFW nY aAY nB oR;refine dD ?_
 refine dM ?_
 refine ⟨hp,fun _=>⟨fun h=>bD5 h,fun h=>?_⟩⟩
 obtain ⟨z1,z1s,z2,z2m,z3,z3m,z4,z4m⟩:=aGT (b:=p.1) (st:=p.2.1) (a:=p.2.2.1) (r:=p.2.2.2) hp
 obtain ⟨h1,h2,h3⟩:=aJK h
 have hk:=aSF h
 have hm:=bOP h
 have hpo:=(nK.1 h1).1
 have hst:=(nK.1 h1).2.2.2 s.toNat (by omega)
 have zs:aY aA (List.getD p.2.1 s.toNat (aX aA))≤1000000000:=by rw[aZ (show s.toNat<p.2.1.length by omega)];exact z2m _ (List.getElem_mem _)
 have za:∀ k,k<p.2.2.1.length→aY aO (List.getD p.2.2.1 k (aX aO))≤1000000000:=fun k hk=>by rw[aZ hk];exact z3m _ (List.getElem_mem _)
 have zr:∀ k,k<p.2.2.2.length→aY aO (List.getD p.2.2.2 k (aX aO))≤1000000000:=fun k hk=>by rw[aZ hk];exact z4m _ (List.getElem_mem _)
 have hpc:=((eW _).1 hst.1).2.1
 have hpl:List.length (List.getD p.2.1 s.toNat (aX aA)).2.1≤1000000000:=(iD (t:=aA) zs).2.1.1
 (repeat' first|intro _|(with_reducible apply And.intro))
 all_goals first|omega|exact zs|exact za _ (by omega)|exact zr _ (by omega)|(rw[bD6];omega)|(rw[aVK];omega)|(rw[bDZ];omega)|skip
 all_goals first|exact bHF h (by assumption)|exact bH8 h (by assumption)|exact bK2 h (by assumption)|exact bHQ h (by assumption)|exact bL2 h (by assumption)|exact bJO h (by assumption) (by assumption)|exact bDD h (by assumption) (by assumption)|exact bK8 h (by assumption) (by assumption)|exact bE8 h (by assumption) (by assumption)|exact bHW h (by assumption) (by assumption) (by assumption) (by assumption) (by assumption) (by assumption) (by assumption)|skip
set_option maxHeartbeats 2000000 in
theorem bIJ:Con.Holds Tryz.prog aBO:=aS aV (aH aG9 (aH aII (aH aV9 (aH bMT (aH aQI (aH bHY (aH aOK (aH aR6 aT)))))))) bJN bIY
noncomputable def aCN:Con:=⟨64,(.bP9 aG tI),aG,[.val ⟨true,aG,[]⟩,.val ⟨false,tI,[]⟩],[⟨true,aG,[0,0,0,0]⟩],true,none,
 ((fun x=>aY aG x.1≤1000000000):(bF × Int)→Prop),
 ((fun x=>fY x.1 x.2):(bF × Int)→(bF))⟩
def aKF:T:=.call 0 (.p1 aG tI (.Z 0)) <|.call 1 (.Z 0) <|
 .bPA .not (.Z 2) <|
 .ite (.Z 3) (
  .ret (.Z 1)) (
  .call 2 (.Z 0) <|
  .bPA (.bPE 121 aA) (.bPB (.slice 121 aA) tI (aK aG 1 (.Z 1)) (aQ (.bP9 aG tI) 1 (.Z 0))) <|
  .bPA (.bPE 121 aA) (.bPB (.slice 121 aA) tI (aK aG 1 (.Z 1)) (aQ (.bP9 aG tI) 1 (.Z 0))) <|
  .bPA (.cmp .eql .i64) (.bPB tI tI (.p1 tI tI (.Z 4)) (.ci .i64 1)) <|
  .ite (.Z 7) (
   .bPA (.ar .sub .i64) (.bPB tI tI (aQ (.bP9 aG tI) 1 (.Z 0)) (.ci .i64 1)) <|
   .bPA (.bPE 157 aO) (.bPB aL tI (aK aG 2 (.p1 aG tI (.Z 0))) (.Z 8)) <|
   .call 3 (.Z 9) <|
   .bPA (.ar .sub .i64) (.bPB tI tI (aQ (.bP9 aG tI) 1 (.Z 0)) (.ci .i64 1)) <|
   .bPA (.bPE 157 aO) (.bPB aL tI (aK aG 2 (.Z 1)) (.Z 11)) <|
   .bPA (.bPH 157 aO) (bG (.bP9 aL (.bP9 tI aO)) [(aK aG 2 (.Z 1)),(.Z 11),(.p1 aO (.bP9 aF .bool) (.Z 10))]) <|
   .bPA (.ar .add .i64) (.bPB tI tI (.p1 tI dA (.Z 6)) (.ci .i64 1)) <|
   .bPA (.bPE 121 aA) (.bPB (.slice 121 aA) tI (aK aG 1 (.Z 1)) (aQ (.bP9 aG tI) 1 (.Z 0))) <|
   .bPA (.bPH 121 aA) (bG (.bP9 (.slice 121 aA) (.bP9 tI aA)) [(aK aG 1 (.Z 1)),(aQ (.bP9 aG tI) 1 (.Z 0)),(.Z 14),(aK aA 1 (.Z 6)),(aK aA 2 (.Z 6)),(aK aA 3 (.Z 6)),(aK aA 4 (.Z 6)),(aK aA 5 (.Z 6)),(aK aA 6 (.Z 6)),(aQ aF 1 (aK (.bP9 aO (.bP9 aF .bool)) 1 (.Z 10))),(aQ aA 8 (.Z 6))]) <|
   .ret (bG aG [(.p1 aM (.bP9 (.slice 121 aA) (.bP9 aL aL)) (.Z 1)),(.Z 16),(.Z 13),(aQ aG 3 (.Z 1))])) (
   .bPA (.cmp .eql .i64) (.bPB tI tI (.p1 tI tI (.Z 4)) (.ci .i64 2)) <|
   .ite (.Z 8) (
    .bPA (.cmp .eql .i64) (.bPB tI tI (aQ (.bP9 aG tI) 1 (.Z 0)) (.ci .i64 0)) <|
    .ite (.Z 9) (
     .bPA (.bPE 126 aI) (.bPB aM tI (.p1 aM (.bP9 (.slice 121 aA) (.bP9 aL aL)) (.p1 aG tI (.Z 0))) (aQ aP 1 (.Z 4))) <|
     .bPA (.bPE 126 aI) (.bPB aM tI (.p1 aM (.bP9 (.slice 121 aA) (.bP9 aL aL)) (.p1 aG tI (.Z 0))) (aQ aP 1 (.Z 4))) <|
     .call 4 (bG (.bP9 aA (.bP9 tI aI)) [(.Z 6),(aQ aP 1 (.Z 4)),(.p1 aB aB (.Z 10)),(aQ aI 1 (.Z 11))]) <|
     .bPA (.ar .add .i64) (.bPB tI tI (.p1 tI dA (.Z 12)) (.ci .i64 1)) <|
     .bPA (.bPE 121 aA) (.bPB (.slice 121 aA) tI (aK aG 1 (.Z 1)) (aQ (.bP9 aG tI) 1 (.Z 0))) <|
     .bPA (.bPH 121 aA) (bG (.bP9 (.slice 121 aA) (.bP9 tI aA)) [(aK aG 1 (.Z 1)),(aQ (.bP9 aG tI) 1 (.Z 0)),(.Z 13),(aQ aA 1 (.Z 12))]) <|
     .ret (bG aG [(.p1 aM (.bP9 (.slice 121 aA) (.bP9 aL aL)) (.Z 1)),(.Z 15),(aQ aG 2 (.Z 1))])) (
     .bPA (.bPE 126 aI) (.bPB aM tI (.p1 aM (.bP9 (.slice 121 aA) (.bP9 aL aL)) (.p1 aG tI (.Z 0))) (aQ aP 1 (.Z 4))) <|
     .call 4 (bG (.bP9 aA (.bP9 tI aI)) [(.Z 6),(aQ aP 1 (.Z 4)),(aK aA 7 (.Z 6)),(aQ aI 1 (.Z 10))]) <|
     .bPA (.ar .add .i64) (.bPB tI tI (.p1 tI dA (.Z 11)) (.ci .i64 1)) <|
     .bPA (.bPE 121 aA) (.bPB (.slice 121 aA) tI (aK aG 1 (.Z 1)) (aQ (.bP9 aG tI) 1 (.Z 0))) <|
     .bPA (.bPH 121 aA) (bG (.bP9 (.slice 121 aA) (.bP9 tI aA)) [(aK aG 1 (.Z 1)),(aQ (.bP9 aG tI) 1 (.Z 0)),(.Z 12),(aQ aA 1 (.Z 11))]) <|
     .ret (bG aG [(.p1 aM (.bP9 (.slice 121 aA) (.bP9 aL aL)) (.Z 1)),(.Z 14),(aQ aG 2 (.Z 1))]))) (
    .bPA (.cmp .eql .i64) (.bPB tI tI (.p1 tI tI (.Z 4)) (.ci .i64 3)) <|
    .ite (.Z 9) (
     .bPA (.bPE 157 aO) (.bPB aL tI (aK aG 2 (.p1 aG tI (.Z 0))) (aQ (.bP9 aG tI) 1 (.Z 0))) <|
     .call 5 (bG (.bP9 aO aF) [(.Z 10),(aQ aP 1 (.Z 4)),(aK aA 8 (.Z 6))]) <|
     .bPA (.bPE 157 aO) (.bPB aL tI (aK aG 2 (.Z 1)) (aQ (.bP9 aG tI) 1 (.Z 0))) <|
     .bPA (.bPH 157 aO) (bG (.bP9 aL (.bP9 tI aO)) [(aK aG 2 (.Z 1)),(aQ (.bP9 aG tI) 1 (.Z 0)),(.p1 aO .bool (.Z 11))]) <|
     .bPA (.ar .add .i64) (.bPB tI tI (.p1 tI dA (.Z 6)) (.ci .i64 1)) <|
     .bPA (.bPE 121 aA) (.bPB (.slice 121 aA) tI (aK aG 1 (.Z 1)) (aQ (.bP9 aG tI) 1 (.Z 0))) <|
     .bPA (.bPH 121 aA) (bG (.bP9 (.slice 121 aA) (.bP9 tI aA)) [(aK aG 1 (.Z 1)),(aQ (.bP9 aG tI) 1 (.Z 0)),(.Z 14),(aK aA 1 (.Z 6)),(aK aA 2 (.Z 6)),(aK aA 3 (.Z 6)),(aK aA 4 (.Z 6)),(aK aA 5 (.Z 6)),(aK aA 6 (.Z 6)),(aK aA 7 (.Z 6)),(.nl 3 tI),(aQ aA 9 (.Z 6))]) <|
     .ret (bG aG [(.p1 aM (.bP9 (.slice 121 aA) (.bP9 aL aL)) (.Z 1)),(.Z 16),(.Z 13),(aQ aG 3 (.Z 1))])) (
     .bPA (.cmp .eql .i64) (.bPB tI tI (.p1 tI tI (.Z 4)) (.ci .i64 4)) <|
     .ite (.Z 10) (
      .bPA (.bPE 157 aO) (.bPB aL tI (aQ aG 3 (.p1 aG tI (.Z 0))) (aQ (.bP9 aG tI) 1 (.Z 0))) <|
      .call 3 (.Z 11) <|
      .bPA (.bPE 157 aO) (.bPB aL tI (aQ aG 3 (.Z 1)) (aQ (.bP9 aG tI) 1 (.Z 0))) <|
      .bPA (.bPH 157 aO) (bG (.bP9 aL (.bP9 tI aO)) [(aQ aG 3 (.Z 1)),(aQ (.bP9 aG tI) 1 (.Z 0)),(.p1 aO (.bP9 aF .bool) (.Z 12))]) <|
      .bPA (.ar .add .i64) (.bPB tI tI (.p1 tI dA (.Z 6)) (.ci .i64 1)) <|
      .bPA (.bPE 121 aA) (.bPB (.slice 121 aA) tI (aK aG 1 (.Z 1)) (aQ (.bP9 aG tI) 1 (.Z 0))) <|
      .bPA (.bPH 121 aA) (bG (.bP9 (.slice 121 aA) (.bP9 tI aA)) [(aK aG 1 (.Z 1)),(aQ (.bP9 aG tI) 1 (.Z 0)),(.Z 15),(aK aA 1 (.Z 6)),(aK aA 2 (.Z 6)),(aK aA 3 (.Z 6)),(aK aA 4 (.Z 6)),(aK aA 5 (.Z 6)),(aK aA 6 (.Z 6)),(aK aA 7 (.Z 6)),(aK aA 8 (.Z 6)),(aQ aF 1 (aK (.bP9 aO (.bP9 aF .bool)) 1 (.Z 12))),(aQ aA 10 (.Z 6))]) <|
      .ret (bG aG [(.p1 aM (.bP9 (.slice 121 aA) (.bP9 aL aL)) (.Z 1)),(.Z 17),(aK aG 2 (.Z 1)),(.Z 14)])) (
      .bPA (.cmp .eql .i64) (.bPB tI tI (.p1 tI tI (.Z 4)) (.ci .i64 5)) <|
      .ite (.Z 11) (
       .call 6 (.bPB aA tI (.Z 6) (aQ aP 1 (.Z 4))) <|
       .bPA (.ar .add .i64) (.bPB tI tI (.p1 tI dA (.Z 12)) (.ci .i64 1)) <|
       .bPA (.bPE 121 aA) (.bPB (.slice 121 aA) tI (aK aG 1 (.Z 1)) (aQ (.bP9 aG tI) 1 (.Z 0))) <|
       .bPA (.bPH 121 aA) (bG (.bP9 (.slice 121 aA) (.bP9 tI aA)) [(aK aG 1 (.Z 1)),(aQ (.bP9 aG tI) 1 (.Z 0)),(.Z 13),(aQ aA 1 (.Z 12))]) <|
       .ret (bG aG [(.p1 aM (.bP9 (.slice 121 aA) (.bP9 aL aL)) (.Z 1)),(.Z 15),(aQ aG 2 (.Z 1))])) (
       .bPA (.cmp .eql .i64) (.bPB tI tI (.p1 tI tI (.Z 4)) (.ci .i64 6)) <|
       .ite (.Z 12) (
        .bPA (.bPE 126 aI) (.bPB aM tI (.p1 aM (.bP9 (.slice 121 aA) (.bP9 aL aL)) (.p1 aG tI (.Z 0))) (aQ aP 1 (.Z 4))) <|
        .call 7 (bG (.bP9 aA aF) [(.Z 6),(aQ aP 1 (.Z 4)),(aQ aI 1 (.Z 13))]) <|
        .bPA (.cmp .eql .i64) (.bPB tI tI (aQ (.bP9 aG tI) 1 (.Z 0)) (.ci .i64 0)) <|
        .ite (.Z 15) (
         .bPA (.ar .add .i64) (.bPB tI tI (.p1 tI dA (.Z 14)) (.ci .i64 1)) <|
         .bPA (.bPE 121 aA) (.bPB (.slice 121 aA) tI (aK aG 1 (.Z 1)) (aQ (.bP9 aG tI) 1 (.Z 0))) <|
         .bPA (.bPH 121 aA) (bG (.bP9 (.slice 121 aA) (.bP9 tI aA)) [(aK aG 1 (.Z 1)),(aQ (.bP9 aG tI) 1 (.Z 0)),(.Z 16),(aK aA 1 (.Z 14)),(aK aA 2 (.Z 14)),(aK aA 3 (.Z 14)),(aK aA 4 (.Z 14)),(aK aA 5 (.Z 14)),(aK aA 6 (.Z 14)),(aK aA 7 (.Z 14)),(aK aA 8 (.Z 14)),(aK aA 9 (.Z 14)),(.nl 3 tI),(aQ aA 11 (.Z 14))]) <|
         .ret (bG aG [(.p1 aM (.bP9 (.slice 121 aA) (.bP9 aL aL)) (.Z 1)),(.Z 18),(aQ aG 2 (.Z 1))])) (
         .bPA (.ar .add .i64) (.bPB tI tI (.p1 tI dA (.Z 14)) (.ci .i64 1)) <|
         .bPA (.bPE 121 aA) (.bPB (.slice 121 aA) tI (aK aG 1 (.Z 1)) (aQ (.bP9 aG tI) 1 (.Z 0))) <|
         .bPA (.bPH 121 aA) (bG (.bP9 (.slice 121 aA) (.bP9 tI aA)) [(aK aG 1 (.Z 1)),(aQ (.bP9 aG tI) 1 (.Z 0)),(.Z 16),(aQ aA 1 (.Z 14))]) <|
         .ret (bG aG [(.p1 aM (.bP9 (.slice 121 aA) (.bP9 aL aL)) (.Z 1)),(.Z 18),(aQ aG 2 (.Z 1))]))) (
        .bPA (.cmp .eql .i64) (.bPB tI tI (.p1 tI tI (.Z 4)) (.ci .i64 7)) <|
        .ite (.Z 13) (
         .bPA (.ar .sub .i64) (.bPB tI tI (aQ (.bP9 aG tI) 1 (.Z 0)) (.ci .i64 1)) <|
         .bPA (.bPE 157 aO) (.bPB aL tI (aQ aG 3 (.p1 aG tI (.Z 0))) (.Z 14)) <|
         .call 5 (bG (.bP9 aO aF) [(.Z 15),(aQ aP 1 (.Z 4)),(aK aA 10 (.Z 6))]) <|
         .bPA (.ar .sub .i64) (.bPB tI tI (aQ (.bP9 aG tI) 1 (.Z 0)) (.ci .i64 1)) <|
         .bPA (.bPE 157 aO) (.bPB aL tI (aQ aG 3 (.Z 1)) (.Z 17)) <|
         .bPA (.bPH 157 aO) (bG (.bP9 aL (.bP9 tI aO)) [(aQ aG 3 (.Z 1)),(.Z 17),(.p1 aO .bool (.Z 16))]) <|
         .bPA (.ar .add .i64) (.bPB tI tI (.p1 tI dA (.Z 6)) (.ci .i64 1)) <|
         .bPA (.bPE 121 aA) (.bPB (.slice 121 aA) tI (aK aG 1 (.Z 1)) (aQ (.bP9 aG tI) 1 (.Z 0))) <|
         .bPA (.bPH 121 aA) (bG (.bP9 (.slice 121 aA) (.bP9 tI aA)) [(aK aG 1 (.Z 1)),(aQ (.bP9 aG tI) 1 (.Z 0)),(.Z 20),(aK aA 1 (.Z 6)),(aK aA 2 (.Z 6)),(aK aA 3 (.Z 6)),(aK aA 4 (.Z 6)),(aK aA 5 (.Z 6)),(aK aA 6 (.Z 6)),(aK aA 7 (.Z 6)),(aK aA 8 (.Z 6)),(aK aA 9 (.Z 6)),(.nl 3 tI),(aQ aA 11 (.Z 6))]) <|
         .ret (bG aG [(.p1 aM (.bP9 (.slice 121 aA) (.bP9 aL aL)) (.Z 1)),(.Z 22),(aK aG 2 (.Z 1)),(.Z 19)])) (
         .bPA (.ar .add .i64) (.bPB tI tI (.p1 tI dA (.Z 6)) (.ci .i64 1)) <|
         .bPA (.bPE 121 aA) (.bPB (.slice 121 aA) tI (aK aG 1 (.Z 1)) (aQ (.bP9 aG tI) 1 (.Z 0))) <|
         .bPA (.bPH 121 aA) (bG (.bP9 (.slice 121 aA) (.bP9 tI aA)) [(aK aG 1 (.Z 1)),(aQ (.bP9 aG tI) 1 (.Z 0)),(.Z 14),(aQ aA 1 (.Z 6))]) <|
         .ret (bG aG [(.p1 aM (.bP9 (.slice 121 aA) (.bP9 aL aL)) (.Z 1)),(.Z 16),(aQ aG 2 (.Z 1))])))))))))
theorem bJI:bN Tryz.prog [kL,kO,qX,aH0,oS,aBB,mZ,nZ] aCN false 3000 ⟨[],[(2970,24012,[],[27]),(2964,24015,[],[30]),(2962,96014,[],[27,28,29,30,31,32,33,34,35]),(2954,448017,[],[27]),(2958,384017,[],[27]),(2952,384021,[],[30])]⟩ = .ok aKF:=by kernel_rfl
set_option maxHeartbeats 2000000 in
theorem bL4 (x:bF × Int) (hx:okD (.bP9 aG tI) x) (hp:(fun x=>aY aG x.1≤1000000000) x):aKF.wp [kL,kO,qX,aH0,oS,aBB,mZ,nZ] [⟨(.bP9 aG tI),x⟩] [] (fun v=>v.as aG=(fun x=>fY x.1 x.2) x):=by
 obtain ⟨p,s⟩:=x
 delta aKF kL kO qX aH0 oS aBB mZ nZ;refine dD ?_
 refine dM ?_
 refine ⟨hp,fun _=>⟨fun h=>bD5 h,fun h=>?_⟩⟩
 obtain ⟨z1,z1s,z2,z2m,z3,z3m,z4,z4m⟩:=aGT (b:=p.1) (st:=p.2.1) (a:=p.2.2.1) (r:=p.2.2.2) hp
 obtain ⟨h1,h2,h3⟩:=aJK h
 have hk:=aSF h
 have hm:=bOP h
 have hpo:=(nK.1 h1).1
 have hst:=(nK.1 h1).2.2.2 s.toNat (by omega)
 have zs:aY aA (List.getD p.2.1 s.toNat (aX aA))≤1000000000:=by rw[aZ (show s.toNat<p.2.1.length by omega)];exact z2m _ (List.getElem_mem _)
 have za:∀ k,k<p.2.2.1.length→aY aO (List.getD p.2.2.1 k (aX aO))≤1000000000:=fun k hk=>by rw[aZ hk];exact z3m _ (List.getElem_mem _)
 have zr:∀ k,k<p.2.2.2.length→aY aO (List.getD p.2.2.2 k (aX aO))≤1000000000:=fun k hk=>by rw[aZ hk];exact z4m _ (List.getElem_mem _)
 have hpc:=((eW _).1 hst.1).2.1
 have hpl:List.length (List.getD p.2.1 s.toNat (aX aA)).2.1≤1000000000:=(iD (t:=aA) zs).2.1.1
 (repeat' first|intro _|(with_reducible apply And.intro))
 all_goals first|omega|exact zs|exact za _ (by omega)|exact zr _ (by omega)|(rw[bD6];omega)|(rw[aVK];omega)|(rw[bDZ];omega)|skip
 all_goals first|exact bHF h (by assumption)|exact bH8 h (by assumption)|exact bK2 h (by assumption)|exact bHQ h (by assumption)|exact bL2 h (by assumption)|exact bJO h (by assumption) (by assumption)|exact bDD h (by assumption) (by assumption)|exact bK8 h (by assumption) (by assumption)|exact bE8 h (by assumption) (by assumption)|exact bHW h (by assumption) (by assumption) (by assumption) (by assumption) (by assumption) (by assumption) (by assumption)|skip
set_option maxHeartbeats 2000000 in
theorem bI7:Con.Holds Tryz.prog aCN:=aS aV (aH aJ1 (aH aIN (aH aUX (aH bLW (aH aSE (aH bGV (aH aON (aH aRL aT)))))))) bJI bL4
end Go.Proofs.YtmfpkkbhnmkfdaaGreat
