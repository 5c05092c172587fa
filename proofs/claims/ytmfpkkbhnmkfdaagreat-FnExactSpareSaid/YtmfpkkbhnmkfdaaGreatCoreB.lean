/- CoreB: lemmas. No conditions. -/
import Derived.Test.YtmfpkkbhnmkfdaaGreatCore7
namespace Go.Proofs.YtmfpkkbhnmkfdaaGreat
set_option maxRecDepth 100000
open Go.ChangeShapes Go.WideShapes Go.ChangeAt Go.RowKit Go.Deep
set_option linter.unusedVariables false
set_option linter.unusedSimpArgs false
theorem fZ {s:bC} {m:Int} {t:List Int} (h:hN s=false∨eH s.2.2.2.2.2.1 m<0∨aLJ s.2.2.1 (nV s m)=false∨fB (iK s m t).1 (iE s.2.2.1)=false):s=wD s m t:=by
 unfold wD;rw[if_neg]
 unfold bC6
 simp only[Bool.and_eq_true,decide_eq_true_eq]
 rintro ⟨h1,h2,h3,h4⟩
 rcases h with h|h|h|h
 ·rw[h] at h1;cases h1
 ·omega
 ·rw[h] at h3;cases h3
 ·rw[h] at h4;cases h4
theorem uX {s:bC} {m:Int} {t:List Int} (h1:hN s=true) (h2:0≤eH s.2.2.2.2.2.1 m) (h3:aLJ s.2.2.1 (nV s m)=true) (h4:fB (iK s m t).1 (iE s.2.2.1)=true):bLK s m t=wD s m t:=by
 unfold wD;rw[if_pos]
 unfold bC6
 simp only[Bool.and_eq_true,decide_eq_true_eq]
 exact ⟨h1,h2,h3,h4⟩
theorem bK1 {s:bC} {m:Int} (h:s.2.2.2.2.1=true):nV s m=s.2.2.2.2.2.2.1:=if_pos h
theorem bIO {s:bC} {m:Int} (h:s.2.2.2.2.1=false):nV s m=(s.2.2.2.2.2.1.getD (eH s.2.2.2.2.2.1 m).toNat (aX aD)).2:=if_neg (by rw[h];simp)
theorem aQK {s:bC} {m:Int} {t:List Int} (h:s.2.2.2.1=true):iK s m t=lH fA (List.getD (nV s m) s.2.2.1.length (aX aB)) t:=if_pos h
theorem aQT {s:bC} {m:Int} {t:List Int} (h:s.2.2.2.1=false):s.2.2.2.2.2.2.2.2.2.1=(iK s m t).1:=by unfold iK;rw[if_neg (by rw[h];simp)]
theorem aRX {s:bC} {m:Int} {t:List Int} (h:s.2.2.2.1=false):(iK s m t).2=false:=by unfold iK;rw[if_neg (by rw[h];simp)]
theorem aAN {m:List eV} {r:cZ} (h:¬ r.length=m.length+1∨rI m r m.length=false):aLJ m r=false:=by
 unfold aLJ
 rcases h with h|h
 ·rw[decide_eq_false h];rfl
 ·rw[h,Bool.and_false]
theorem aB0 {m:List eV} {r:cZ} (h:r.length=m.length+1) (h2:rI m r m.length=true):aLJ m r=true:=by
 unfold aLJ;rw[decide_eq_true h,h2];rfl
theorem uS {s:bC} {r:cZ} {d:List Int} (l:Int) (b:Bool) (h:hN s=true):kE ((rJ s.2.2.1 r d).1,l,b):=by
 have hm:=((bY _).1 ((eW s).1 h).1).2.1
 refine ⟨?_,fun y hy=>Nat.le_trans (aLV _ _ _ _ _ y hy) (by decide)⟩
 show (eR _ _ _ _ _).1.length≤1000000000
 rw[aD9];omega
theorem qO {s:bC} {m:Int} {t:List Int} {g:fO} (h:0≤eH s.2.2.2.2.2.1 m) (e:g=iX s.2.2.2.2.2.2.2.2.2.2.2 ((rJ s.2.2.1 (nV s m) (iK s m t).1).1,0,(iK s m t).2 || (rJ s.2.2.1 (nV s m) (iK s m t).1).2.2)) :
  (s.1,s.2.1,s.2.2.1,s.2.2.2.1,s.2.2.2.2.1,List.drop 0 (List.take (eH s.2.2.2.2.2.1 m).toNat s.2.2.2.2.2.1)++List.drop (eH s.2.2.2.2.2.1 m+1).toNat (List.take (List.length s.2.2.2.2.2.1) s.2.2.2.2.2.1),([]:cZ),s.2.2.2.2.2.2.2.1,s.2.2.2.2.2.2.2.2.1,([]:List Int),(rJ s.2.2.1 (nV s m) (iK s m t).1).2.1,g)=bLK s m t:=by
 rw[List.take_length,show (eH s.2.2.2.2.2.1 m+1).toNat=(eH s.2.2.2.2.2.1 m).toNat+1 by omega,e];rfl
noncomputable def oR:Con:=⟨129,(.bP9 aA aF),aA,[.val ⟨true,aA,[]⟩,.val ⟨false,tI,[]⟩,.val ⟨false,aB,[]⟩],[⟨true,aA,[0,0,0,0,0,0,0,0,0,0,0,0,0,0]⟩],false,none,
 ((fun x=>aY aA x.1≤1000000000):(bC × cM)→Prop),
 ((fun x=>wD x.1 x.2.1 x.2.2):(bC × cM)→(bC))⟩
def yY:T:=.call 0 (.p1 aA aF (.Z 0)) <|.call 1 (.bPB (.slice 186 aD) tI (aK aA 5 (.p1 aA aF (.Z 0))) (aK (.bP9 aA aF) 1 (.Z 0))) <|.call 2 (.p1 aA aF (.Z 0)) <|
 .bPA .not (.Z 3) <|
 .ite (.Z 4) (
  .ret (.Z 1)) (
  .bPA (.cmp .lss .i64) (.bPB tI tI (.Z 2) (.ci .i64 0)) <|
  .ite (.Z 5) (
   .ret (.Z 1)) (
   .bPA (.bPE 186 aD) (.bPB (.slice 186 aD) tI (aK aA 5 (.Z 1)) (.Z 2)) <|
   .bPA (.bPE 186 aD) (.bPB (.slice 186 aD) tI (aK aA 5 (.Z 1)) (.Z 2)) <|
   .ite (aK aA 4 (.p1 aA aF (.Z 0))) (
    .bPA (.bPD 219 bD) (aK aA 2 (.p1 aA aF (.Z 0))) <|
    .bPA (.bPD 188 aB) (aK aA 6 (.Z 1)) <|
    .bPA (.ar .add .i64) (.bPB tI tI (.Z 8) (.ci .i64 1)) <|
    .bPA (.cmp .neq .i64) (.bPB tI tI (.Z 9) (.Z 10)) <|
    .ite (.Z 11) (
     .ret (.Z 1)) (
     .call 3 (bG (.bP9 aE (.bP9 aJ tI)) [(aK aA 2 (.p1 aA aF (.Z 0))),(aK aA 6 (.Z 1)),(.Z 8)]) <|
     .bPA .not (.Z 12) <|
     .ite (.Z 13) (
      .ret (.Z 1)) (
      .ite (aK aA 3 (.p1 aA aF (.Z 0))) (
       .bPA (.bPE 188 aB) (.bPB aJ tI (aK aA 6 (.Z 1)) (.Z 8)) <|
       .bPA (.bPE 188 aB) (.bPB aJ tI (aK aA 6 (.Z 1)) (.Z 8)) <|
       .call 4 (.bPB aB aB (.Z 15) (aQ (.bP9 aA aF) 2 (.Z 0))) <|
       .call 5 (.p1 aA aF (.Z 0)) <|
       .call 6 (.Z 17) <|
       .call 7 (.bPB aB tI (.p1 aB .bool (.Z 16)) (.Z 18)) <|
       .bPA .not (.Z 19) <|
       .ite (.Z 20) (
        .ret (.Z 1)) (
        .call 8 (bG (.bP9 aE (.bP9 aJ aB)) [(aK aA 2 (.p1 aA aF (.Z 0))),(aK aA 6 (.Z 1)),(.p1 aB .bool (.Z 16))]) <|
        .ite (aQ (.bP9 aB .bool) 1 (.Z 16)) (
         .call 9 (bG (.bP9 aW aW) [(aQ aA 11 (.Z 1)),(.p1 aJ (.bP9 aB .bool) (.Z 21)),(.ci .i64 0),(.cb true)]) <|
         .bPA (.ar .add .i64) (.bPB tI tI (.Z 2) (.ci .i64 1)) <|
         .bPA (.bPE 186 aD) (.bPB (.slice 186 aD) tI (aK aA 5 (.Z 1)) (.Z 2)) <|
         .bPA (.bPE 186 aD) (.bPB (.slice 186 aD) tI (aK aA 5 (.Z 1)) (.ci .i64 0)) <|
         .bPA (.bPD 186 aD) (aK aA 5 (.Z 1)) <|
         .bPA (.bPF 186 aD) (bG (.bP9 (.slice 186 aD) aP) [(aK aA 5 (.Z 1)),(.Z 23),(.Z 26)]) <|
         .bPA (.bPF 186 aD) (bG (.bP9 (.slice 186 aD) aP) [(aK aA 5 (.Z 1)),(.Z 2),(.Z 23)]) <|
         .bPA (.bPF 186 aD) (bG (.bP9 (.slice 186 aD) aP) [(aK aA 5 (.Z 1)),(.ci .i64 0),(.Z 2)]) <|
         .bPA (.bPD 186 aD) (aK aA 5 (.Z 1)) <|
         .bPA (.bPF 186 aD) (bG (.bP9 (.slice 186 aD) aP) [(aK aA 5 (.Z 1)),(.Z 23),(.Z 30)]) <|
         .bPA (.bPG 186 aD 32) (.bPB (.slice 186 aD) (.slice 186 aD) (.Z 29) (.Z 31)) <|
         .ret (bG aA [(.p1 tI dA (.Z 1)),(aK aA 1 (.Z 1)),(aK aA 2 (.Z 1)),(aK aA 3 (.Z 1)),(aK aA 4 (.Z 1)),(.Z 32),(.nl 188 aB),(aK aA 7 (.Z 1)),(aK aA 8 (.Z 1)),(.nl 3 tI),(aK (.bP9 aJ (.bP9 aB .bool)) 1 (.Z 21)),(.Z 22)])) (
         .call 9 (bG (.bP9 aW aW) [(aQ aA 11 (.Z 1)),(.p1 aJ (.bP9 aB .bool) (.Z 21)),(.ci .i64 0),(aQ (.bP9 aJ (.bP9 aB .bool)) 2 (.Z 21))]) <|
         .bPA (.ar .add .i64) (.bPB tI tI (.Z 2) (.ci .i64 1)) <|
         .bPA (.bPE 186 aD) (.bPB (.slice 186 aD) tI (aK aA 5 (.Z 1)) (.Z 2)) <|
         .bPA (.bPE 186 aD) (.bPB (.slice 186 aD) tI (aK aA 5 (.Z 1)) (.ci .i64 0)) <|
         .bPA (.bPD 186 aD) (aK aA 5 (.Z 1)) <|
         .bPA (.bPF 186 aD) (bG (.bP9 (.slice 186 aD) aP) [(aK aA 5 (.Z 1)),(.Z 23),(.Z 26)]) <|
         .bPA (.bPF 186 aD) (bG (.bP9 (.slice 186 aD) aP) [(aK aA 5 (.Z 1)),(.Z 2),(.Z 23)]) <|
         .bPA (.bPF 186 aD) (bG (.bP9 (.slice 186 aD) aP) [(aK aA 5 (.Z 1)),(.ci .i64 0),(.Z 2)]) <|
         .bPA (.bPD 186 aD) (aK aA 5 (.Z 1)) <|
         .bPA (.bPF 186 aD) (bG (.bP9 (.slice 186 aD) aP) [(aK aA 5 (.Z 1)),(.Z 23),(.Z 30)]) <|
         .bPA (.bPG 186 aD 32) (.bPB (.slice 186 aD) (.slice 186 aD) (.Z 29) (.Z 31)) <|
         .ret (bG aA [(.p1 tI dA (.Z 1)),(aK aA 1 (.Z 1)),(aK aA 2 (.Z 1)),(aK aA 3 (.Z 1)),(aK aA 4 (.Z 1)),(.Z 32),(.nl 188 aB),(aK aA 7 (.Z 1)),(aK aA 8 (.Z 1)),(.nl 3 tI),(aK (.bP9 aJ (.bP9 aB .bool)) 1 (.Z 21)),(.Z 22)])))) (
       .call 5 (.p1 aA aF (.Z 0)) <|
       .call 6 (.Z 14) <|
       .call 7 (.bPB aB tI (aK aA 9 (.Z 1)) (.Z 15)) <|
       .bPA .not (.Z 16) <|
       .ite (.Z 17) (
        .ret (.Z 1)) (
        .call 8 (bG (.bP9 aE (.bP9 aJ aB)) [(aK aA 2 (.p1 aA aF (.Z 0))),(aK aA 6 (.Z 1)),(aK aA 9 (.Z 1))]) <|
        .call 9 (bG (.bP9 aW aW) [(aQ aA 11 (.Z 1)),(.p1 aJ (.bP9 aB .bool) (.Z 18)),(.ci .i64 0),(aQ (.bP9 aJ (.bP9 aB .bool)) 2 (.Z 18))]) <|
        .bPA (.ar .add .i64) (.bPB tI tI (.Z 2) (.ci .i64 1)) <|
        .bPA (.bPE 186 aD) (.bPB (.slice 186 aD) tI (aK aA 5 (.Z 1)) (.Z 2)) <|
        .bPA (.bPE 186 aD) (.bPB (.slice 186 aD) tI (aK aA 5 (.Z 1)) (.ci .i64 0)) <|
        .bPA (.bPD 186 aD) (aK aA 5 (.Z 1)) <|
        .bPA (.bPF 186 aD) (bG (.bP9 (.slice 186 aD) aP) [(aK aA 5 (.Z 1)),(.Z 20),(.Z 23)]) <|
        .bPA (.bPF 186 aD) (bG (.bP9 (.slice 186 aD) aP) [(aK aA 5 (.Z 1)),(.Z 2),(.Z 20)]) <|
        .bPA (.bPF 186 aD) (bG (.bP9 (.slice 186 aD) aP) [(aK aA 5 (.Z 1)),(.ci .i64 0),(.Z 2)]) <|
        .bPA (.bPD 186 aD) (aK aA 5 (.Z 1)) <|
        .bPA (.bPF 186 aD) (bG (.bP9 (.slice 186 aD) aP) [(aK aA 5 (.Z 1)),(.Z 20),(.Z 27)]) <|
        .bPA (.bPG 186 aD 32) (.bPB (.slice 186 aD) (.slice 186 aD) (.Z 26) (.Z 28)) <|
        .ret (bG aA [(.p1 tI dA (.Z 1)),(aK aA 1 (.Z 1)),(aK aA 2 (.Z 1)),(aK aA 3 (.Z 1)),(aK aA 4 (.Z 1)),(.Z 29),(.nl 188 aB),(aK aA 7 (.Z 1)),(aK aA 8 (.Z 1)),(.nl 3 tI),(aK (.bP9 aJ (.bP9 aB .bool)) 1 (.Z 18)),(.Z 19)])))))) (
    .bPA (.bPD 219 bD) (aK aA 2 (.p1 aA aF (.Z 0))) <|
    .bPA (.bPD 188 aB) (aQ aD 1 (.Z 7)) <|
    .bPA (.ar .add .i64) (.bPB tI tI (.Z 8) (.ci .i64 1)) <|
    .bPA (.cmp .neq .i64) (.bPB tI tI (.Z 9) (.Z 10)) <|
    .ite (.Z 11) (
     .ret (.Z 1)) (
     .call 3 (bG (.bP9 aE (.bP9 aJ tI)) [(aK aA 2 (.p1 aA aF (.Z 0))),(aQ aD 1 (.Z 7)),(.Z 8)]) <|
     .bPA .not (.Z 12) <|
     .ite (.Z 13) (
      .ret (.Z 1)) (
      .ite (aK aA 3 (.p1 aA aF (.Z 0))) (
       .bPA (.bPE 188 aB) (.bPB aJ tI (aQ aD 1 (.Z 7)) (.Z 8)) <|
       .call 4 (.bPB aB aB (.Z 14) (aQ (.bP9 aA aF) 2 (.Z 0))) <|
       .call 5 (.p1 aA aF (.Z 0)) <|
       .call 6 (.Z 16) <|
       .call 7 (.bPB aB tI (.p1 aB .bool (.Z 15)) (.Z 17)) <|
       .bPA .not (.Z 18) <|
       .ite (.Z 19) (
        .ret (.Z 1)) (
        .call 8 (bG (.bP9 aE (.bP9 aJ aB)) [(aK aA 2 (.p1 aA aF (.Z 0))),(aQ aD 1 (.Z 7)),(.p1 aB .bool (.Z 15))]) <|
        .ite (aQ (.bP9 aB .bool) 1 (.Z 15)) (
         .call 9 (bG (.bP9 aW aW) [(aQ aA 11 (.Z 1)),(.p1 aJ (.bP9 aB .bool) (.Z 20)),(.ci .i64 0),(.cb true)]) <|
         .bPA (.ar .add .i64) (.bPB tI tI (.Z 2) (.ci .i64 1)) <|
         .bPA (.bPE 186 aD) (.bPB (.slice 186 aD) tI (aK aA 5 (.Z 1)) (.Z 2)) <|
         .bPA (.bPE 186 aD) (.bPB (.slice 186 aD) tI (aK aA 5 (.Z 1)) (.ci .i64 0)) <|
         .bPA (.bPD 186 aD) (aK aA 5 (.Z 1)) <|
         .bPA (.bPF 186 aD) (bG (.bP9 (.slice 186 aD) aP) [(aK aA 5 (.Z 1)),(.Z 22),(.Z 25)]) <|
         .bPA (.bPF 186 aD) (bG (.bP9 (.slice 186 aD) aP) [(aK aA 5 (.Z 1)),(.Z 2),(.Z 22)]) <|
         .bPA (.bPF 186 aD) (bG (.bP9 (.slice 186 aD) aP) [(aK aA 5 (.Z 1)),(.ci .i64 0),(.Z 2)]) <|
         .bPA (.bPD 186 aD) (aK aA 5 (.Z 1)) <|
         .bPA (.bPF 186 aD) (bG (.bP9 (.slice 186 aD) aP) [(aK aA 5 (.Z 1)),(.Z 22),(.Z 29)]) <|
         .bPA (.bPG 186 aD 32) (.bPB (.slice 186 aD) (.slice 186 aD) (.Z 28) (.Z 30)) <|
         .ret (bG aA [(.p1 tI dA (.Z 1)),(aK aA 1 (.Z 1)),(aK aA 2 (.Z 1)),(aK aA 3 (.Z 1)),(aK aA 4 (.Z 1)),(.Z 31),(.nl 188 aB),(aK aA 7 (.Z 1)),(aK aA 8 (.Z 1)),(.nl 3 tI),(aK (.bP9 aJ (.bP9 aB .bool)) 1 (.Z 20)),(.Z 21)])) (
         .call 9 (bG (.bP9 aW aW) [(aQ aA 11 (.Z 1)),(.p1 aJ (.bP9 aB .bool) (.Z 20)),(.ci .i64 0),(aQ (.bP9 aJ (.bP9 aB .bool)) 2 (.Z 20))]) <|
         .bPA (.ar .add .i64) (.bPB tI tI (.Z 2) (.ci .i64 1)) <|
         .bPA (.bPE 186 aD) (.bPB (.slice 186 aD) tI (aK aA 5 (.Z 1)) (.Z 2)) <|
         .bPA (.bPE 186 aD) (.bPB (.slice 186 aD) tI (aK aA 5 (.Z 1)) (.ci .i64 0)) <|
         .bPA (.bPD 186 aD) (aK aA 5 (.Z 1)) <|
         .bPA (.bPF 186 aD) (bG (.bP9 (.slice 186 aD) aP) [(aK aA 5 (.Z 1)),(.Z 22),(.Z 25)]) <|
         .bPA (.bPF 186 aD) (bG (.bP9 (.slice 186 aD) aP) [(aK aA 5 (.Z 1)),(.Z 2),(.Z 22)]) <|
         .bPA (.bPF 186 aD) (bG (.bP9 (.slice 186 aD) aP) [(aK aA 5 (.Z 1)),(.ci .i64 0),(.Z 2)]) <|
         .bPA (.bPD 186 aD) (aK aA 5 (.Z 1)) <|
         .bPA (.bPF 186 aD) (bG (.bP9 (.slice 186 aD) aP) [(aK aA 5 (.Z 1)),(.Z 22),(.Z 29)]) <|
         .bPA (.bPG 186 aD 32) (.bPB (.slice 186 aD) (.slice 186 aD) (.Z 28) (.Z 30)) <|
         .ret (bG aA [(.p1 tI dA (.Z 1)),(aK aA 1 (.Z 1)),(aK aA 2 (.Z 1)),(aK aA 3 (.Z 1)),(aK aA 4 (.Z 1)),(.Z 31),(.nl 188 aB),(aK aA 7 (.Z 1)),(aK aA 8 (.Z 1)),(.nl 3 tI),(aK (.bP9 aJ (.bP9 aB .bool)) 1 (.Z 20)),(.Z 21)])))) (
       .call 5 (.p1 aA aF (.Z 0)) <|
       .call 6 (.Z 14) <|
       .call 7 (.bPB aB tI (aK aA 9 (.Z 1)) (.Z 15)) <|
       .bPA .not (.Z 16) <|
       .ite (.Z 17) (
        .ret (.Z 1)) (
        .call 8 (bG (.bP9 aE (.bP9 aJ aB)) [(aK aA 2 (.p1 aA aF (.Z 0))),(aQ aD 1 (.Z 7)),(aK aA 9 (.Z 1))]) <|
        .call 9 (bG (.bP9 aW aW) [(aQ aA 11 (.Z 1)),(.p1 aJ (.bP9 aB .bool) (.Z 18)),(.ci .i64 0),(aQ (.bP9 aJ (.bP9 aB .bool)) 2 (.Z 18))]) <|
        .bPA (.ar .add .i64) (.bPB tI tI (.Z 2) (.ci .i64 1)) <|
        .bPA (.bPE 186 aD) (.bPB (.slice 186 aD) tI (aK aA 5 (.Z 1)) (.Z 2)) <|
        .bPA (.bPE 186 aD) (.bPB (.slice 186 aD) tI (aK aA 5 (.Z 1)) (.ci .i64 0)) <|
        .bPA (.bPD 186 aD) (aK aA 5 (.Z 1)) <|
        .bPA (.bPF 186 aD) (bG (.bP9 (.slice 186 aD) aP) [(aK aA 5 (.Z 1)),(.Z 20),(.Z 23)]) <|
        .bPA (.bPF 186 aD) (bG (.bP9 (.slice 186 aD) aP) [(aK aA 5 (.Z 1)),(.Z 2),(.Z 20)]) <|
        .bPA (.bPF 186 aD) (bG (.bP9 (.slice 186 aD) aP) [(aK aA 5 (.Z 1)),(.ci .i64 0),(.Z 2)]) <|
        .bPA (.bPD 186 aD) (aK aA 5 (.Z 1)) <|
        .bPA (.bPF 186 aD) (bG (.bP9 (.slice 186 aD) aP) [(aK aA 5 (.Z 1)),(.Z 20),(.Z 27)]) <|
        .bPA (.bPG 186 aD 32) (.bPB (.slice 186 aD) (.slice 186 aD) (.Z 26) (.Z 28)) <|
        .ret (bG aA [(.p1 tI dA (.Z 1)),(aK aA 1 (.Z 1)),(aK aA 2 (.Z 1)),(aK aA 3 (.Z 1)),(aK aA 4 (.Z 1)),(.Z 29),(.nl 188 aB),(aK aA 7 (.Z 1)),(aK aA 8 (.Z 1)),(.nl 3 tI),(aK (.bP9 aJ (.bP9 aB .bool)) 1 (.Z 18)),(.Z 19)]))))))))
theorem aT7:bN Tryz.prog [dG,eN,eE,mH,lZ,eI,gV,cA,tM,oN] oR false 3000 ⟨[],[(2961,164021,[],[15,31]),(2951,420023,[103,108],[]),(2951,292023,[103,108],[]),(2961,132018,[],[15,18]),(2951,132020,[103,108],[]),(2961,160020,[],[31]),(2951,416022,[103,108],[]),(2951,288022,[103,108],[]),(2961,128018,[],[18]),(2951,128020,[103,108],[])]⟩ = .ok yY:=by kernel_rfl
set_option maxHeartbeats 1000000 in
theorem aRV (x:bC × cM) (hx:okD (.bP9 aA aF) x) (hp:(fun x=>aY aA x.1≤1000000000) x):yY.wp [dG,eN,eE,mH,lZ,eI,gV,cA,tM,oN] [⟨(.bP9 aA aF),x⟩] [] (fun v=>v.as aA=(fun x=>wD x.1 x.2.1 x.2.2) x):=by
 obtain ⟨s,m,t⟩:=x
 delta yY dG eN eE mH lZ eI gV cA tM oN;refine dD ?_
 refine dM ?_
 refine ⟨hp,fun _ _=>⟨fun h=>fZ (.inl h),fun h1=>⟨fun h=>fZ (.inr (.inl h)),fun h2=>?_⟩⟩⟩
 have hf2:eH s.2.2.2.2.2.1 m<(s.2.2.2.2.2.1.length:Int):=(aCJ s.2.2.2.2.2.1 m s.2.2.2.2.2.1.length).2
 have hm:=(eW s).1 h1
 have hn8:=(bY _).1 hm.1
 have hst:=(iD (t:=aA) hp).2.2.2.2.2.1.1
 replace hst:List.length s.2.2.2.2.2.1≤1000000000:=hst
 have hgs:kE s.2.2.2.2.2.2.2.2.2.2.2:=aTL (iD (t:=aA) hp).2.2.2.2.2.2.2.2.2.2.2
 refine ⟨by omega,fun _=>⟨by omega,fun _=>⟨fun hre=>?_,fun hre=>?_⟩⟩⟩
 ·rw[show s.2.2.2.2.2.2.1=nV s m from (bK1 hre).symm]
  refine fun _ _=>⟨by omega,fun _=>⟨fun h=>fZ (.inr (.inr (.inl (aAN (.inl (by omega)))))),fun hlen=>⟨⟨hm.1,by omega⟩,fun h=>fZ (.inr (.inr (.inl (aAN (.inr h))))),fun hrow=>⟨fun hla=>?_,fun hla=>?_⟩⟩⟩⟩
  ·rw[show lH fA (List.getD (nV s m) s.2.2.1.length (aX aB)) t=iK s m t from (aQK hla).symm]
   (repeat' first|intro _|(with_reducible apply And.intro))
   all_goals first|omega|(unfold maxLen;omega)|exact fZ (.inr (.inr (.inr (by assumption))))|exact ⟨by omega,by omega⟩|exact hgs|exact uS _ _ h1|(simp only[List.length_append,List.length_drop,List.length_take];omega)|(simp only[List.length_append,List.length_drop,List.length_take];unfold maxLen;omega)|skip
   all_goals refine (qO (by omega) ?_).trans (uX h1 h2 (aB0 (by omega) hrow) (by assumption))
   all_goals first|rfl|(rw[jC (by assumption)];done)|(rw[show (iK s m t).2=true by assumption,Bool.true_or];done)|(rw[show (iK s m t).2=false by assumption,Bool.false_or];done)|skip
  ·have hgg:s.2.2.2.2.2.2.2.2.2.1=(iK s m t).1:=aQT hla
   have hg0:(iK s m t).2=false:=aRX hla
   rw[hgg]
   (repeat' first|intro _|(with_reducible apply And.intro))
   all_goals first|omega|(unfold maxLen;omega)|exact fZ (.inr (.inr (.inr (by assumption))))|exact ⟨by omega,by omega⟩|exact hgs|exact uS _ _ h1|(simp only[List.length_append,List.length_drop,List.length_take];omega)|(simp only[List.length_append,List.length_drop,List.length_take];unfold maxLen;omega)|skip
   all_goals refine (qO (by omega) ?_).trans (uX h1 h2 (aB0 (by omega) hrow) (by assumption))
   all_goals first|rfl|(rw[jC (by assumption)];done)|(rw[show (iK s m t).2=true by assumption,Bool.true_or];done)|(rw[show (iK s m t).2=false by assumption,Bool.false_or];done)|skip
 ·rw[show (List.getD s.2.2.2.2.2.1 (eH s.2.2.2.2.2.1 m).toNat (aX aD)).2=nV s m from (bIO hre).symm]
  refine fun _ _=>⟨by omega,fun _=>⟨fun h=>fZ (.inr (.inr (.inl (aAN (.inl (by omega)))))),fun hlen=>⟨⟨hm.1,by omega⟩,fun h=>fZ (.inr (.inr (.inl (aAN (.inr h))))),fun hrow=>⟨fun hla=>?_,fun hla=>?_⟩⟩⟩⟩
  ·rw[show lH fA (List.getD (nV s m) s.2.2.1.length (aX aB)) t=iK s m t from (aQK hla).symm]
   (repeat' first|intro _|(with_reducible apply And.intro))
   all_goals first|omega|(unfold maxLen;omega)|exact fZ (.inr (.inr (.inr (by assumption))))|exact ⟨by omega,by omega⟩|exact hgs|exact uS _ _ h1|(simp only[List.length_append,List.length_drop,List.length_take];omega)|(simp only[List.length_append,List.length_drop,List.length_take];unfold maxLen;omega)|skip
   all_goals refine (qO (by omega) ?_).trans (uX h1 h2 (aB0 (by omega) hrow) (by assumption))
   all_goals first|rfl|(rw[jC (by assumption)];done)|(rw[show (iK s m t).2=true by assumption,Bool.true_or];done)|(rw[show (iK s m t).2=false by assumption,Bool.false_or];done)|skip
  ·have hgg:s.2.2.2.2.2.2.2.2.2.1=(iK s m t).1:=aQT hla
   have hg0:(iK s m t).2=false:=aRX hla
   rw[hgg]
   (repeat' first|intro _|(with_reducible apply And.intro))
   all_goals first|omega|(unfold maxLen;omega)|exact fZ (.inr (.inr (.inr (by assumption))))|exact ⟨by omega,by omega⟩|exact hgs|exact uS _ _ h1|(simp only[List.length_append,List.length_drop,List.length_take];omega)|(simp only[List.length_append,List.length_drop,List.length_take];unfold maxLen;omega)|skip
   all_goals refine (qO (by omega) ?_).trans (uX h1 h2 (aB0 (by omega) hrow) (by assumption))
   all_goals first|rfl|(rw[jC (by assumption)];done)|(rw[show (iK s m t).2=true by assumption,Bool.true_or];done)|(rw[show (iK s m t).2=false by assumption,Bool.false_or];done)|skip
set_option maxHeartbeats 1000000 in
theorem aR6:Con.Holds Tryz.prog oR:=aS aV (aH pV (aH wT (aH vB (aH aME (aH aMQ (aH vM (aH aCU (aH kB (aH bAB (aH aRP aT)))))))))) aT7 aRV
noncomputable def nZ:Con:=⟨121,(.bP9 aA aF),aA,[.val ⟨true,aA,[]⟩,.val ⟨false,tI,[]⟩,.val ⟨false,aB,[]⟩],[⟨true,aA,[0,0,0,0,0,0,0,0,0,0,0,0,0,0]⟩],true,none,
 ((fun x=>aY aA x.1≤1000000000):(bC × cM)→Prop),
 ((fun x=>wD x.1 x.2.1 x.2.2):(bC × cM)→(bC))⟩
def zJ:T:=.call 0 (.p1 aA aF (.Z 0)) <|.call 1 (.bPB (.slice 186 aD) tI (aK aA 5 (.p1 aA aF (.Z 0))) (aK (.bP9 aA aF) 1 (.Z 0))) <|.call 2 (.p1 aA aF (.Z 0)) <|
 .bPA .not (.Z 3) <|
 .ite (.Z 4) (
  .ret (.Z 1)) (
  .bPA (.cmp .lss .i64) (.bPB tI tI (.Z 2) (.ci .i64 0)) <|
  .ite (.Z 5) (
   .ret (.Z 1)) (
   .bPA (.bPE 186 aD) (.bPB (.slice 186 aD) tI (aK aA 5 (.p1 aA aF (.Z 0))) (.Z 2)) <|
   .ite (aK aA 4 (.p1 aA aF (.Z 0))) (
    .bPA (.bPD 188 aB) (aK aA 6 (.p1 aA aF (.Z 0))) <|
    .bPA (.bPD 219 bD) (aK aA 2 (.p1 aA aF (.Z 0))) <|
    .bPA (.ar .add .i64) (.bPB tI tI (.Z 8) (.ci .i64 1)) <|
    .bPA (.cmp .neq .i64) (.bPB tI tI (.Z 7) (.Z 9)) <|
    .ite (.Z 10) (
     .ret (.Z 1)) (
     .loop tI (.ci .i64 0) <|
      .bPA (.bPD 219 bD) (aK aA 2 (.p1 aA aF (.Z 0))) <|
      .bPA (.cmp .lss .i64) (.bPB tI tI (.Z 11) (.Z 12)) <|
      .ite (.Z 13) (
       .bPA (.bPE 188 aB) (.bPB aJ tI (aK aA 6 (.p1 aA aF (.Z 0))) (.Z 11)) <|
       .call 3 (.Z 14) <|
       .bPA .not (.Z 15) <|
       .ite (.Z 16) (
        .ret (.Z 1)) (
        .bPA (.bPE 188 aB) (.bPB aJ tI (aK aA 6 (.p1 aA aF (.Z 0))) (.Z 11)) <|
        .bPA (.bPD 3 tI) (.Z 17) <|
        .bPA (.bPE 219 bD) (.bPB aE tI (aK aA 2 (.p1 aA aF (.Z 0))) (.Z 11)) <|
        .bPA (.cmp .neq .i64) (.bPB tI tI (.Z 18) (aK bD 1 (.Z 19))) <|
        .ite (.Z 20) (
         .ret (.Z 1)) (
         .bPA (.ar .add .i64) (.bPB tI tI (.Z 11) (.ci .i64 1)) <|
         .bPC 0 (.Z 21)))) (
       .ite (aK aA 3 (.p1 aA aF (.Z 0))) (
        .bPA (.bPD 219 bD) (aK aA 2 (.p1 aA aF (.Z 0))) <|
        .bPA (.bPE 188 aB) (.bPB aJ tI (aK aA 6 (.p1 aA aF (.Z 0))) (.Z 14)) <|
        .call 4 (.bPB aB aB (.Z 15) (aQ (.bP9 aA aF) 2 (.Z 0))) <|
        .bPA (.bPD 3 tI) (.p1 aB .bool (.Z 16)) <|
        .bPA (.bPD 219 bD) (aK aA 2 (.p1 aA aF (.Z 0))) <|
        .bPA (.ar .sub .i64) (.bPB tI tI (.Z 18) (.ci .i64 1)) <|
        .bPA (.bPE 219 bD) (.bPB aE tI (aK aA 2 (.p1 aA aF (.Z 0))) (.Z 19)) <|
        .bPA (.cmp .neq .i64) (.bPB tI tI (.Z 17) (aK bD 2 (.Z 20))) <|
        .ite (.Z 21) (
         .ret (.Z 1)) (
         .call 3 (.p1 aB .bool (.Z 16)) <|
         .bPA .not (.Z 22) <|
         .ite (.Z 23) (
          .ret (.Z 1)) (
          .call 5 (bG (.bP9 aE (.bP9 aJ aB)) [(aK aA 2 (.p1 aA aF (.Z 0))),(aK aA 6 (.p1 aA aF (.Z 0))),(.p1 aB .bool (.Z 16))]) <|
          .ite (aQ (.bP9 aB .bool) 1 (.Z 16)) (
           .call 6 (bG (.bP9 aW aW) [(aQ aA 11 (.p1 aA aF (.Z 0))),(.p1 aJ (.bP9 aB .bool) (.Z 24)),(.ci .i64 0),(.cb true)]) <|
           .bPA (.ar .add .i64) (.bPB tI tI (.Z 2) (.ci .i64 1)) <|
           .bPA (.bPE 186 aD) (.bPB (.slice 186 aD) tI (aK aA 5 (.Z 1)) (.Z 2)) <|
           .bPA (.bPE 186 aD) (.bPB (.slice 186 aD) tI (aK aA 5 (.Z 1)) (.ci .i64 0)) <|
           .bPA (.bPD 186 aD) (aK aA 5 (.Z 1)) <|
           .bPA (.bPF 186 aD) (bG (.bP9 (.slice 186 aD) aP) [(aK aA 5 (.Z 1)),(.Z 26),(.Z 29)]) <|
           .bPA (.bPF 186 aD) (bG (.bP9 (.slice 186 aD) aP) [(aK aA 5 (.Z 1)),(.Z 2),(.Z 26)]) <|
           .bPA (.bPF 186 aD) (bG (.bP9 (.slice 186 aD) aP) [(aK aA 5 (.Z 1)),(.ci .i64 0),(.Z 2)]) <|
           .bPA (.bPD 186 aD) (aK aA 5 (.Z 1)) <|
           .bPA (.bPF 186 aD) (bG (.bP9 (.slice 186 aD) aP) [(aK aA 5 (.Z 1)),(.Z 26),(.Z 33)]) <|
           .bPA (.bPG 186 aD 32) (.bPB (.slice 186 aD) (.slice 186 aD) (.Z 32) (.Z 34)) <|
           .ret (bG aA [(.p1 tI dA (.Z 1)),(aK aA 1 (.Z 1)),(aK aA 2 (.Z 1)),(aK aA 3 (.Z 1)),(aK aA 4 (.Z 1)),(.Z 35),(.nl 188 aB),(aK aA 7 (.Z 1)),(aK aA 8 (.Z 1)),(.nl 3 tI),(aK (.bP9 aJ (.bP9 aB .bool)) 1 (.Z 24)),(.Z 25)])) (
           .call 6 (bG (.bP9 aW aW) [(aQ aA 11 (.p1 aA aF (.Z 0))),(.p1 aJ (.bP9 aB .bool) (.Z 24)),(.ci .i64 0),(aQ (.bP9 aJ (.bP9 aB .bool)) 2 (.Z 24))]) <|
           .bPA (.ar .add .i64) (.bPB tI tI (.Z 2) (.ci .i64 1)) <|
           .bPA (.bPE 186 aD) (.bPB (.slice 186 aD) tI (aK aA 5 (.Z 1)) (.Z 2)) <|
           .bPA (.bPE 186 aD) (.bPB (.slice 186 aD) tI (aK aA 5 (.Z 1)) (.ci .i64 0)) <|
           .bPA (.bPD 186 aD) (aK aA 5 (.Z 1)) <|
           .bPA (.bPF 186 aD) (bG (.bP9 (.slice 186 aD) aP) [(aK aA 5 (.Z 1)),(.Z 26),(.Z 29)]) <|
           .bPA (.bPF 186 aD) (bG (.bP9 (.slice 186 aD) aP) [(aK aA 5 (.Z 1)),(.Z 2),(.Z 26)]) <|
           .bPA (.bPF 186 aD) (bG (.bP9 (.slice 186 aD) aP) [(aK aA 5 (.Z 1)),(.ci .i64 0),(.Z 2)]) <|
           .bPA (.bPD 186 aD) (aK aA 5 (.Z 1)) <|
           .bPA (.bPF 186 aD) (bG (.bP9 (.slice 186 aD) aP) [(aK aA 5 (.Z 1)),(.Z 26),(.Z 33)]) <|
           .bPA (.bPG 186 aD 32) (.bPB (.slice 186 aD) (.slice 186 aD) (.Z 32) (.Z 34)) <|
           .ret (bG aA [(.p1 tI dA (.Z 1)),(aK aA 1 (.Z 1)),(aK aA 2 (.Z 1)),(aK aA 3 (.Z 1)),(aK aA 4 (.Z 1)),(.Z 35),(.nl 188 aB),(aK aA 7 (.Z 1)),(aK aA 8 (.Z 1)),(.nl 3 tI),(aK (.bP9 aJ (.bP9 aB .bool)) 1 (.Z 24)),(.Z 25)]))))) (
        .bPA (.bPD 3 tI) (aK aA 9 (.p1 aA aF (.Z 0))) <|
        .bPA (.bPD 219 bD) (aK aA 2 (.p1 aA aF (.Z 0))) <|
        .bPA (.ar .sub .i64) (.bPB tI tI (.Z 15) (.ci .i64 1)) <|
        .bPA (.bPE 219 bD) (.bPB aE tI (aK aA 2 (.p1 aA aF (.Z 0))) (.Z 16)) <|
        .bPA (.cmp .neq .i64) (.bPB tI tI (.Z 14) (aK bD 2 (.Z 17))) <|
        .ite (.Z 18) (
         .ret (.Z 1)) (
         .call 3 (aK aA 9 (.p1 aA aF (.Z 0))) <|
         .bPA .not (.Z 19) <|
         .ite (.Z 20) (
          .ret (.Z 1)) (
          .call 5 (bG (.bP9 aE (.bP9 aJ aB)) [(aK aA 2 (.p1 aA aF (.Z 0))),(aK aA 6 (.p1 aA aF (.Z 0))),(aK aA 9 (.p1 aA aF (.Z 0)))]) <|
          .call 6 (bG (.bP9 aW aW) [(aQ aA 11 (.p1 aA aF (.Z 0))),(.p1 aJ (.bP9 aB .bool) (.Z 21)),(.ci .i64 0),(aQ (.bP9 aJ (.bP9 aB .bool)) 2 (.Z 21))]) <|
          .bPA (.ar .add .i64) (.bPB tI tI (.Z 2) (.ci .i64 1)) <|
          .bPA (.bPE 186 aD) (.bPB (.slice 186 aD) tI (aK aA 5 (.Z 1)) (.Z 2)) <|
          .bPA (.bPE 186 aD) (.bPB (.slice 186 aD) tI (aK aA 5 (.Z 1)) (.ci .i64 0)) <|
          .bPA (.bPD 186 aD) (aK aA 5 (.Z 1)) <|
          .bPA (.bPF 186 aD) (bG (.bP9 (.slice 186 aD) aP) [(aK aA 5 (.Z 1)),(.Z 23),(.Z 26)]) <|
          .bPA (.bPF 186 aD) (bG (.bP9 (.slice 186 aD) aP) [(aK aA 5 (.Z 1)),(.Z 2),(.Z 23)]) <|
          .bPA (.bPF 186 aD) (bG (.bP9 (.slice 186 aD) aP) [(aK aA 5 (.Z 1)),(.ci .i64 0),(.Z 2)]) <|
          .bPA (.bPD 186 aD) (aK aA 5 (.Z 1)) <|
          .bPA (.bPF 186 aD) (bG (.bP9 (.slice 186 aD) aP) [(aK aA 5 (.Z 1)),(.Z 23),(.Z 30)]) <|
          .bPA (.bPG 186 aD 32) (.bPB (.slice 186 aD) (.slice 186 aD) (.Z 29) (.Z 31)) <|
          .ret (bG aA [(.p1 tI dA (.Z 1)),(aK aA 1 (.Z 1)),(aK aA 2 (.Z 1)),(aK aA 3 (.Z 1)),(aK aA 4 (.Z 1)),(.Z 32),(.nl 188 aB),(aK aA 7 (.Z 1)),(aK aA 8 (.Z 1)),(.nl 3 tI),(aK (.bP9 aJ (.bP9 aB .bool)) 1 (.Z 21)),(.Z 22)]))))))) (
    .bPA (.bPD 188 aB) (aQ aD 1 (.Z 6)) <|
    .bPA (.bPD 219 bD) (aK aA 2 (.p1 aA aF (.Z 0))) <|
    .bPA (.ar .add .i64) (.bPB tI tI (.Z 8) (.ci .i64 1)) <|
    .bPA (.cmp .neq .i64) (.bPB tI tI (.Z 7) (.Z 9)) <|
    .ite (.Z 10) (
     .ret (.Z 1)) (
     .loop tI (.ci .i64 0) <|
      .bPA (.bPD 219 bD) (aK aA 2 (.p1 aA aF (.Z 0))) <|
      .bPA (.cmp .lss .i64) (.bPB tI tI (.Z 11) (.Z 12)) <|
      .ite (.Z 13) (
       .bPA (.bPE 188 aB) (.bPB aJ tI (aQ aD 1 (.Z 6)) (.Z 11)) <|
       .call 3 (.Z 14) <|
       .bPA .not (.Z 15) <|
       .ite (.Z 16) (
        .ret (.Z 1)) (
        .bPA (.bPE 188 aB) (.bPB aJ tI (aQ aD 1 (.Z 6)) (.Z 11)) <|
        .bPA (.bPD 3 tI) (.Z 17) <|
        .bPA (.bPE 219 bD) (.bPB aE tI (aK aA 2 (.p1 aA aF (.Z 0))) (.Z 11)) <|
        .bPA (.cmp .neq .i64) (.bPB tI tI (.Z 18) (aK bD 1 (.Z 19))) <|
        .ite (.Z 20) (
         .ret (.Z 1)) (
         .bPA (.ar .add .i64) (.bPB tI tI (.Z 11) (.ci .i64 1)) <|
         .bPC 0 (.Z 21)))) (
       .ite (aK aA 3 (.p1 aA aF (.Z 0))) (
        .bPA (.bPD 219 bD) (aK aA 2 (.p1 aA aF (.Z 0))) <|
        .bPA (.bPE 188 aB) (.bPB aJ tI (aQ aD 1 (.Z 6)) (.Z 14)) <|
        .call 4 (.bPB aB aB (.Z 15) (aQ (.bP9 aA aF) 2 (.Z 0))) <|
        .bPA (.bPD 3 tI) (.p1 aB .bool (.Z 16)) <|
        .bPA (.bPD 219 bD) (aK aA 2 (.p1 aA aF (.Z 0))) <|
        .bPA (.ar .sub .i64) (.bPB tI tI (.Z 18) (.ci .i64 1)) <|
        .bPA (.bPE 219 bD) (.bPB aE tI (aK aA 2 (.p1 aA aF (.Z 0))) (.Z 19)) <|
        .bPA (.cmp .neq .i64) (.bPB tI tI (.Z 17) (aK bD 2 (.Z 20))) <|
        .ite (.Z 21) (
         .ret (.Z 1)) (
         .call 3 (.p1 aB .bool (.Z 16)) <|
         .bPA .not (.Z 22) <|
         .ite (.Z 23) (
          .ret (.Z 1)) (
          .call 5 (bG (.bP9 aE (.bP9 aJ aB)) [(aK aA 2 (.p1 aA aF (.Z 0))),(aQ aD 1 (.Z 6)),(.p1 aB .bool (.Z 16))]) <|
          .ite (aQ (.bP9 aB .bool) 1 (.Z 16)) (
           .call 6 (bG (.bP9 aW aW) [(aQ aA 11 (.p1 aA aF (.Z 0))),(.p1 aJ (.bP9 aB .bool) (.Z 24)),(.ci .i64 0),(.cb true)]) <|
           .bPA (.ar .add .i64) (.bPB tI tI (.Z 2) (.ci .i64 1)) <|
           .bPA (.bPE 186 aD) (.bPB (.slice 186 aD) tI (aK aA 5 (.Z 1)) (.Z 2)) <|
           .bPA (.bPE 186 aD) (.bPB (.slice 186 aD) tI (aK aA 5 (.Z 1)) (.ci .i64 0)) <|
           .bPA (.bPD 186 aD) (aK aA 5 (.Z 1)) <|
           .bPA (.bPF 186 aD) (bG (.bP9 (.slice 186 aD) aP) [(aK aA 5 (.Z 1)),(.Z 26),(.Z 29)]) <|
           .bPA (.bPF 186 aD) (bG (.bP9 (.slice 186 aD) aP) [(aK aA 5 (.Z 1)),(.Z 2),(.Z 26)]) <|
           .bPA (.bPF 186 aD) (bG (.bP9 (.slice 186 aD) aP) [(aK aA 5 (.Z 1)),(.ci .i64 0),(.Z 2)]) <|
           .bPA (.bPD 186 aD) (aK aA 5 (.Z 1)) <|
           .bPA (.bPF 186 aD) (bG (.bP9 (.slice 186 aD) aP) [(aK aA 5 (.Z 1)),(.Z 26),(.Z 33)]) <|
           .bPA (.bPG 186 aD 32) (.bPB (.slice 186 aD) (.slice 186 aD) (.Z 32) (.Z 34)) <|
           .ret (bG aA [(.p1 tI dA (.Z 1)),(aK aA 1 (.Z 1)),(aK aA 2 (.Z 1)),(aK aA 3 (.Z 1)),(aK aA 4 (.Z 1)),(.Z 35),(.nl 188 aB),(aK aA 7 (.Z 1)),(aK aA 8 (.Z 1)),(.nl 3 tI),(aK (.bP9 aJ (.bP9 aB .bool)) 1 (.Z 24)),(.Z 25)])) (
           .call 6 (bG (.bP9 aW aW) [(aQ aA 11 (.p1 aA aF (.Z 0))),(.p1 aJ (.bP9 aB .bool) (.Z 24)),(.ci .i64 0),(aQ (.bP9 aJ (.bP9 aB .bool)) 2 (.Z 24))]) <|
           .bPA (.ar .add .i64) (.bPB tI tI (.Z 2) (.ci .i64 1)) <|
           .bPA (.bPE 186 aD) (.bPB (.slice 186 aD) tI (aK aA 5 (.Z 1)) (.Z 2)) <|
           .bPA (.bPE 186 aD) (.bPB (.slice 186 aD) tI (aK aA 5 (.Z 1)) (.ci .i64 0)) <|
           .bPA (.bPD 186 aD) (aK aA 5 (.Z 1)) <|
           .bPA (.bPF 186 aD) (bG (.bP9 (.slice 186 aD) aP) [(aK aA 5 (.Z 1)),(.Z 26),(.Z 29)]) <|
           .bPA (.bPF 186 aD) (bG (.bP9 (.slice 186 aD) aP) [(aK aA 5 (.Z 1)),(.Z 2),(.Z 26)]) <|
           .bPA (.bPF 186 aD) (bG (.bP9 (.slice 186 aD) aP) [(aK aA 5 (.Z 1)),(.ci .i64 0),(.Z 2)]) <|
           .bPA (.bPD 186 aD) (aK aA 5 (.Z 1)) <|
           .bPA (.bPF 186 aD) (bG (.bP9 (.slice 186 aD) aP) [(aK aA 5 (.Z 1)),(.Z 26),(.Z 33)]) <|
           .bPA (.bPG 186 aD 32) (.bPB (.slice 186 aD) (.slice 186 aD) (.Z 32) (.Z 34)) <|
           .ret (bG aA [(.p1 tI dA (.Z 1)),(aK aA 1 (.Z 1)),(aK aA 2 (.Z 1)),(aK aA 3 (.Z 1)),(aK aA 4 (.Z 1)),(.Z 35),(.nl 188 aB),(aK aA 7 (.Z 1)),(aK aA 8 (.Z 1)),(.nl 3 tI),(aK (.bP9 aJ (.bP9 aB .bool)) 1 (.Z 24)),(.Z 25)]))))) (
        .bPA (.bPD 3 tI) (aK aA 9 (.p1 aA aF (.Z 0))) <|
        .bPA (.bPD 219 bD) (aK aA 2 (.p1 aA aF (.Z 0))) <|
        .bPA (.ar .sub .i64) (.bPB tI tI (.Z 15) (.ci .i64 1)) <|
        .bPA (.bPE 219 bD) (.bPB aE tI (aK aA 2 (.p1 aA aF (.Z 0))) (.Z 16)) <|
        .bPA (.cmp .neq .i64) (.bPB tI tI (.Z 14) (aK bD 2 (.Z 17))) <|
        .ite (.Z 18) (
         .ret (.Z 1)) (
         .call 3 (aK aA 9 (.p1 aA aF (.Z 0))) <|
         .bPA .not (.Z 19) <|
         .ite (.Z 20) (
          .ret (.Z 1)) (
          .call 5 (bG (.bP9 aE (.bP9 aJ aB)) [(aK aA 2 (.p1 aA aF (.Z 0))),(aQ aD 1 (.Z 6)),(aK aA 9 (.p1 aA aF (.Z 0)))]) <|
          .call 6 (bG (.bP9 aW aW) [(aQ aA 11 (.p1 aA aF (.Z 0))),(.p1 aJ (.bP9 aB .bool) (.Z 21)),(.ci .i64 0),(aQ (.bP9 aJ (.bP9 aB .bool)) 2 (.Z 21))]) <|
          .bPA (.ar .add .i64) (.bPB tI tI (.Z 2) (.ci .i64 1)) <|
          .bPA (.bPE 186 aD) (.bPB (.slice 186 aD) tI (aK aA 5 (.Z 1)) (.Z 2)) <|
          .bPA (.bPE 186 aD) (.bPB (.slice 186 aD) tI (aK aA 5 (.Z 1)) (.ci .i64 0)) <|
          .bPA (.bPD 186 aD) (aK aA 5 (.Z 1)) <|
          .bPA (.bPF 186 aD) (bG (.bP9 (.slice 186 aD) aP) [(aK aA 5 (.Z 1)),(.Z 23),(.Z 26)]) <|
          .bPA (.bPF 186 aD) (bG (.bP9 (.slice 186 aD) aP) [(aK aA 5 (.Z 1)),(.Z 2),(.Z 23)]) <|
          .bPA (.bPF 186 aD) (bG (.bP9 (.slice 186 aD) aP) [(aK aA 5 (.Z 1)),(.ci .i64 0),(.Z 2)]) <|
          .bPA (.bPD 186 aD) (aK aA 5 (.Z 1)) <|
          .bPA (.bPF 186 aD) (bG (.bP9 (.slice 186 aD) aP) [(aK aA 5 (.Z 1)),(.Z 23),(.Z 30)]) <|
          .bPA (.bPG 186 aD 32) (.bPB (.slice 186 aD) (.slice 186 aD) (.Z 29) (.Z 31)) <|
          .ret (bG aA [(.p1 tI dA (.Z 1)),(aK aA 1 (.Z 1)),(aK aA 2 (.Z 1)),(aK aA 3 (.Z 1)),(aK aA 4 (.Z 1)),(.Z 32),(.nl 188 aB),(aK aA 7 (.Z 1)),(aK aA 8 (.Z 1)),(.nl 3 tI),(aK (.bP9 aJ (.bP9 aB .bool)) 1 (.Z 21)),(.Z 22)])))))))))
theorem aRF:bN Tryz.prog [eD,eP,eF,bL,mD,tU,nX] nZ false 3000 ⟨[(2968,20011,iL 51 33++iL 31 19++[.dr 0,.dr 1,.tm 12 0]),(2968,16011,iL 51 43++iL 40 33++iL 31 19++[.dr 0,.dr 1,.tm 12 0])],[(2947,292024,[],[31]),(2935,804026,[146,151],[]),(2935,548026,[146,151],[]),(2939,260023,[146,151],[]),(2947,288024,[],[31]),(2935,800026,[146,151],[]),(2935,544026,[146,151],[]),(2939,256023,[146,151],[])]⟩ = .ok zJ:=by kernel_rfl
set_option maxHeartbeats 1000000 in
theorem aRS (x:bC × cM) (hx:okD (.bP9 aA aF) x) (hp:(fun x=>aY aA x.1≤1000000000) x):zJ.wp [eD,eP,eF,bL,mD,tU,nX] [⟨(.bP9 aA aF),x⟩] [] (fun v=>v.as aA=(fun x=>wD x.1 x.2.1 x.2.2) x):=by
 obtain ⟨s,m,t⟩:=x
 delta zJ eD eP eF bL mD tU nX;refine dD ?_
 refine dM ?_
 refine ⟨hp,fun _ _=>⟨fun h=>fZ (.inl h),fun h1=>⟨fun h=>fZ (.inr (.inl h)),fun h2=>?_⟩⟩⟩
 have hf2:eH s.2.2.2.2.2.1 m<(s.2.2.2.2.2.1.length:Int):=(aCJ s.2.2.2.2.2.1 m s.2.2.2.2.2.1.length).2
 have hm:=(eW s).1 h1
 have hn8:=(bY _).1 hm.1
 have hou:(List.getD s.2.2.1 (s.2.2.1.length - 1) (aX bD)).2.2.1=iE s.2.2.1:=by unfold iE;rw[if_pos hm.1];rfl
 have hst:=(iD (t:=aA) hp).2.2.2.2.2.1.1
 replace hst:List.length s.2.2.2.2.2.1≤1000000000:=hst
 have hgs:kE s.2.2.2.2.2.2.2.2.2.2.2:=aTL (iD (t:=aA) hp).2.2.2.2.2.2.2.2.2.2.2
 refine ⟨by omega,fun _=>⟨fun hre=>?_,fun hre=>?_⟩⟩
 ·rw[show s.2.2.2.2.2.2.1=nV s m from (bK1 hre).symm]
  refine fun _ _=>⟨by omega,fun _=>⟨fun h=>fZ (.inr (.inr (.inl (aAN (.inl (by omega)))))),fun hlen=>?_⟩⟩
  refine rL (fun k=>(k:Int)) (fun k=>∀ i,i<k→fB (List.getD (nV s m) i []) (gR s.2.2.1 i)=true) s.2.2.1.length rfl (fun i hi=>absurd hi (Nat.not_lt_zero _)) fun I μ k hk hG _ go=>?_
  try dsimp only
  refine dM ?_
  intro _
  constructor
  ·intro hlt
   have hk':k<s.2.2.1.length:=by omega
   have esz:gR s.2.2.1 k=(List.getD s.2.2.1 k (aX bD)).2.1:=if_pos hk'
   have bad:¬ fB (List.getD (nV s m) k []) (gR s.2.2.1 k)=true→s=wD s m t:=fun h=>fZ (.inr (.inr (.inl (aAN (.inr (Bool.eq_false_iff.2 fun hh=>h ((nH _ _ _).1 hh k hk')))))))
   rw[cI,esz] at bad
   (repeat' first|intro _|(refine go _ ?_ ?_ ?_)|(refine go _ ?_ ?_)|(with_reducible apply And.intro))
   all_goals first|omega|exact bad (fun h=>Bool.noConfusion (h.1.symm.trans (by assumption:_=false)))|exact bad (fun h=>absurd h.2 (by assumption))|exact vG hG ((cI _ _).2 ⟨by assumption,by rw[esz];assumption⟩) _ (by assumption)|rfl|skip
  ·intro hge
   have hk':k=s.2.2.1.length:=by omega
   subst hk'
   have hrow:rI s.2.2.1 (nV s m) s.2.2.1.length=true:=(nH _ _ _).2 hG
   clear go hG
   refine ⟨fun hla=>?_,fun hla=>?_⟩
   ·rw[show lH fA (List.getD (nV s m) s.2.2.1.length (aX aB)) t=iK s m t from (aQK hla).symm]
    (repeat' first|intro _|(with_reducible apply And.intro))
    all_goals first|omega|exact fZ (.inr (.inr (.inr (Bool.eq_false_iff.2 fun h=>absurd ((cI _ _).1 h).2 (by first|assumption|(rw[← hou];assumption))))))|exact fZ (.inr (.inr (.inr (aCC (by assumption)).symm)))|exact ⟨hn8.2.1,by omega⟩|(unfold maxLen;omega)|exact fZ (.inr (.inr (.inr (by assumption))))|exact ⟨by omega,by omega⟩|exact hgs|exact uS _ _ h1|(simp only[List.length_append,List.length_drop,List.length_take];omega)|(simp only[List.length_append,List.length_drop,List.length_take];unfold maxLen;omega)|skip
    all_goals refine (qO (by omega) ?_).trans (uX h1 h2 (aB0 (by omega) hrow) ((cI _ _).2 ⟨by assumption,by rw[← hou];assumption⟩))
    all_goals first|rfl|(rw[jC (by assumption)];done)|(rw[show (iK s m t).2=true by assumption,Bool.true_or];done)|(rw[show (iK s m t).2=false by assumption,Bool.false_or];done)|skip
   ·have hgg:s.2.2.2.2.2.2.2.2.2.1=(iK s m t).1:=aQT hla
    have hg0:(iK s m t).2=false:=aRX hla
    rw[hgg]
    (repeat' first|intro _|(with_reducible apply And.intro))
    all_goals first|omega|exact fZ (.inr (.inr (.inr (Bool.eq_false_iff.2 fun h=>absurd ((cI _ _).1 h).2 (by first|assumption|(rw[← hou];assumption))))))|exact fZ (.inr (.inr (.inr (aCC (by assumption)).symm)))|exact ⟨hn8.2.1,by omega⟩|(unfold maxLen;omega)|exact fZ (.inr (.inr (.inr (by assumption))))|exact ⟨by omega,by omega⟩|exact hgs|exact uS _ _ h1|(simp only[List.length_append,List.length_drop,List.length_take];omega)|(simp only[List.length_append,List.length_drop,List.length_take];unfold maxLen;omega)|skip
    all_goals refine (qO (by omega) ?_).trans (uX h1 h2 (aB0 (by omega) hrow) ((cI _ _).2 ⟨by assumption,by rw[← hou];assumption⟩))
    all_goals first|rfl|(rw[jC (by assumption)];done)|(rw[show (iK s m t).2=true by assumption,Bool.true_or];done)|(rw[show (iK s m t).2=false by assumption,Bool.false_or];done)|skip
 ·rw[show (List.getD s.2.2.2.2.2.1 (eH s.2.2.2.2.2.1 m).toNat (aX aD)).2=nV s m from (bIO hre).symm]
  refine fun _ _=>⟨by omega,fun _=>⟨fun h=>fZ (.inr (.inr (.inl (aAN (.inl (by omega)))))),fun hlen=>?_⟩⟩
  refine rL (fun k=>(k:Int)) (fun k=>∀ i,i<k→fB (List.getD (nV s m) i []) (gR s.2.2.1 i)=true) s.2.2.1.length rfl (fun i hi=>absurd hi (Nat.not_lt_zero _)) fun I μ k hk hG _ go=>?_
  try dsimp only
  refine dM ?_
  intro _
  constructor
  ·intro hlt
   have hk':k<s.2.2.1.length:=by omega
   have esz:gR s.2.2.1 k=(List.getD s.2.2.1 k (aX bD)).2.1:=if_pos hk'
   have bad:¬ fB (List.getD (nV s m) k []) (gR s.2.2.1 k)=true→s=wD s m t:=fun h=>fZ (.inr (.inr (.inl (aAN (.inr (Bool.eq_false_iff.2 fun hh=>h ((nH _ _ _).1 hh k hk')))))))
   rw[cI,esz] at bad
   (repeat' first|intro _|(refine go _ ?_ ?_ ?_)|(refine go _ ?_ ?_)|(with_reducible apply And.intro))
   all_goals first|omega|exact bad (fun h=>Bool.noConfusion (h.1.symm.trans (by assumption:_=false)))|exact bad (fun h=>absurd h.2 (by assumption))|exact vG hG ((cI _ _).2 ⟨by assumption,by rw[esz];assumption⟩) _ (by assumption)|rfl|skip
  ·intro hge
   have hk':k=s.2.2.1.length:=by omega
   subst hk'
   have hrow:rI s.2.2.1 (nV s m) s.2.2.1.length=true:=(nH _ _ _).2 hG
   clear go hG
   refine ⟨fun hla=>?_,fun hla=>?_⟩
   ·rw[show lH fA (List.getD (nV s m) s.2.2.1.length (aX aB)) t=iK s m t from (aQK hla).symm]
    (repeat' first|intro _|(with_reducible apply And.intro))
    all_goals first|omega|exact fZ (.inr (.inr (.inr (Bool.eq_false_iff.2 fun h=>absurd ((cI _ _).1 h).2 (by first|assumption|(rw[← hou];assumption))))))|exact fZ (.inr (.inr (.inr (aCC (by assumption)).symm)))|exact ⟨hn8.2.1,by omega⟩|(unfold maxLen;omega)|exact fZ (.inr (.inr (.inr (by assumption))))|exact ⟨by omega,by omega⟩|exact hgs|exact uS _ _ h1|(simp only[List.length_append,List.length_drop,List.length_take];omega)|(simp only[List.length_append,List.length_drop,List.length_take];unfold maxLen;omega)|skip
    all_goals refine (qO (by omega) ?_).trans (uX h1 h2 (aB0 (by omega) hrow) ((cI _ _).2 ⟨by assumption,by rw[← hou];assumption⟩))
    all_goals first|rfl|(rw[jC (by assumption)];done)|(rw[show (iK s m t).2=true by assumption,Bool.true_or];done)|(rw[show (iK s m t).2=false by assumption,Bool.false_or];done)|skip
   ·have hgg:s.2.2.2.2.2.2.2.2.2.1=(iK s m t).1:=aQT hla
    have hg0:(iK s m t).2=false:=aRX hla
    rw[hgg]
    (repeat' first|intro _|(with_reducible apply And.intro))
    all_goals first|omega|exact fZ (.inr (.inr (.inr (Bool.eq_false_iff.2 fun h=>absurd ((cI _ _).1 h).2 (by first|assumption|(rw[← hou];assumption))))))|exact fZ (.inr (.inr (.inr (aCC (by assumption)).symm)))|exact ⟨hn8.2.1,by omega⟩|(unfold maxLen;omega)|exact fZ (.inr (.inr (.inr (by assumption))))|exact ⟨by omega,by omega⟩|exact hgs|exact uS _ _ h1|(simp only[List.length_append,List.length_drop,List.length_take];omega)|(simp only[List.length_append,List.length_drop,List.length_take];unfold maxLen;omega)|skip
    all_goals refine (qO (by omega) ?_).trans (uX h1 h2 (aB0 (by omega) hrow) ((cI _ _).2 ⟨by assumption,by rw[← hou];assumption⟩))
    all_goals first|rfl|(rw[jC (by assumption)];done)|(rw[show (iK s m t).2=true by assumption,Bool.true_or];done)|(rw[show (iK s m t).2=false by assumption,Bool.false_or];done)|skip
set_option maxHeartbeats 1000000 in
theorem aRL:Con.Holds Tryz.prog nZ:=aS aV (aH vJ (aH wJ (aH vL (aH fT (aH aL2 (aH aZ5 (aH aR8 aT))))))) aRF aRS
end Go.Proofs.YtmfpkkbhnmkfdaaGreat
