/- CoreB: lemmas. No conditions. -/
import Derived.Test.YtdeobhdbmehpgaaGreatCore7
namespace Go.Proofs.YtdeobhdbmehpgaaGreat
open Go.ChangeShapes Go.WideShapes Go.ChangeAt Go.RowKit Go.Deep
set_option linter.unusedVariables false
set_option linter.unusedSimpArgs false
theorem hZ {s:aM} {m:Int} {t:List Int} (h:eT s=false∨dT s.2.2.2.2.2.1 m<0∨aH5 s.2.2.1 (lN s m)=false∨eG (iO s m t).1 (dJ s.2.2.1)=false):s=aCW s m t:=by
 unfold aCW;rw[if_neg]
 unfold aNR
 simp only[Bool.and_eq_true,decide_eq_true_eq]
 rintro ⟨h1,h2,h3,h4⟩
 rcases h with h|h|h|h
 ·rw[h] at h1;cases h1
 ·omega
 ·rw[h] at h3;cases h3
 ·rw[h] at h4;cases h4
theorem aET {s:aM} {m:Int} {t:List Int} (h1:eT s=true) (h2:0≤dT s.2.2.2.2.2.1 m) (h3:aH5 s.2.2.1 (lN s m)=true) (h4:eG (iO s m t).1 (dJ s.2.2.1)=true):bC0 s m t=aCW s m t:=by
 unfold aCW;rw[if_pos]
 unfold aNR
 simp only[Bool.and_eq_true,decide_eq_true_eq]
 exact ⟨h1,h2,h3,h4⟩
theorem bDD {s:aM} {m:Int} (h:s.2.2.2.2.1=true):lN s m=s.2.2.2.2.2.2.1:=if_pos h
theorem bDC {s:aM} {m:Int} (h:s.2.2.2.2.1=false):lN s m=(s.2.2.2.2.2.1.getD (dT s.2.2.2.2.2.1 m).toNat (bG aC)).2:=if_neg (by rw[h];simp)
theorem bA9 {s:aM} {m:Int} {t:List Int} (h:s.2.2.2.1=true):iO s m t=kI fK (List.getD (lN s m) s.2.2.1.length (bG aA)) t:=if_pos h
theorem aYY {s:aM} {m:Int} {t:List Int} (h:s.2.2.2.1=false):s.2.2.2.2.2.2.2.2.2.1=(iO s m t).1:=by unfold iO;rw[if_neg (by rw[h];simp)]
theorem aZ6 {s:aM} {m:Int} {t:List Int} (h:s.2.2.2.1=false):(iO s m t).2=false:=by unfold iO;rw[if_neg (by rw[h];simp)]
theorem aLN {m:List dR} {r:bX} (h:¬ r.length=m.length+1∨nM m r m.length=false):aH5 m r=false:=by
 unfold aH5
 rcases h with h|h
 ·rw[decide_eq_false h];rfl
 ·rw[h,Bool.and_false]
theorem aKZ {m:List dR} {r:bX} (h:r.length=m.length+1) (h2:nM m r m.length=true):aH5 m r=true:=by
 unfold aH5;rw[decide_eq_true h,h2];rfl
theorem aEZ {s:aM} {r:bX} {d:List Int} (l:Int) (b:Bool) (h:eT s=true):qX ((rT s.2.2.1 r d).1,l,b):=by
 have hm:=((bA _).1 ((bV s).1 h).1).2.1
 refine ⟨?_,fun y hy=>Nat.le_trans (aFG _ _ _ _ _ y hy) (by decide)⟩
 show (gO _ _ _ _ _).1.length≤1000000000
 rw[xW];omega
theorem aBR {s:aM} {m:Int} {t:List Int} {g:iN} (h:0≤dT s.2.2.2.2.2.1 m) (e:g=lD s.2.2.2.2.2.2.2.2.2.2.2 ((rT s.2.2.1 (lN s m) (iO s m t).1).1,0,(iO s m t).2 || (rT s.2.2.1 (lN s m) (iO s m t).1).2.2)) :
  (s.1,s.2.1,s.2.2.1,s.2.2.2.1,s.2.2.2.2.1,List.drop 0 (List.take (dT s.2.2.2.2.2.1 m).toNat s.2.2.2.2.2.1)++List.drop (dT s.2.2.2.2.2.1 m+1).toNat (List.take (List.length s.2.2.2.2.2.1) s.2.2.2.2.2.1),([]:bX),s.2.2.2.2.2.2.2.1,s.2.2.2.2.2.2.2.2.1,([]:List Int),(rT s.2.2.1 (lN s m) (iO s m t).1).2.1,g)=bC0 s m t:=by
 rw[List.take_length,show (dT s.2.2.2.2.2.1 m+1).toNat=(dT s.2.2.2.2.2.1 m).toNat+1 by omega,e];rfl
noncomputable def kR:Con:=⟨98,(.bEL aB aK),aB,[.val ⟨true,aB,[]⟩,.val ⟨false,tI,[]⟩,.val ⟨false,aA,[]⟩],[⟨true,aB,[0,0,0,0,0,0,0,0,0,0,0,0,0,0]⟩],true,none,
 ((fun x=>eB aB x.1≤1000000000):(aM × iZ)→Prop),
 ((fun x=>aCW x.1 x.2.1 x.2.2):(aM × iZ)→(aM))⟩
def uD:T:=.call 0 (.p1 aB aK (.Z 0)) <|.call 1 (.bEN (.slice 80 aC) tI (aI aB 5 (.p1 aB aK (.Z 0))) (aI (.bEL aB aK) 1 (.Z 0))) <|.call 2 (.p1 aB aK (.Z 0)) <|
 .bEM .not (.Z 3) <|
 .ite (.Z 4) (
  .ret (.Z 1)) (
  .bEM (.cmp .lss .i64) (.bEN tI tI (.Z 2) (.ci .i64 0)) <|
  .ite (.Z 5) (
   .ret (.Z 1)) (
   .bEM (.bEQ 80 aC) (.bEN (.slice 80 aC) tI (aI aB 5 (.p1 aB aK (.Z 0))) (.Z 2)) <|
   .ite (aI aB 4 (.p1 aB aK (.Z 0))) (
    .bEM (.bEP 112 aA) (aI aB 6 (.p1 aB aK (.Z 0))) <|
    .bEM (.bEP 78 bC) (aI aB 2 (.p1 aB aK (.Z 0))) <|
    .bEM (.ar .add .i64) (.bEN tI tI (.Z 8) (.ci .i64 1)) <|
    .bEM (.cmp .neq .i64) (.bEN tI tI (.Z 7) (.Z 9)) <|
    .ite (.Z 10) (
     .ret (.Z 1)) (
     .loop tI (.ci .i64 0) <|
      .bEM (.bEP 78 bC) (aI aB 2 (.p1 aB aK (.Z 0))) <|
      .bEM (.cmp .lss .i64) (.bEN tI tI (.Z 11) (.Z 12)) <|
      .ite (.Z 13) (
       .bEM (.bEQ 112 aA) (.bEN aE tI (aI aB 6 (.p1 aB aK (.Z 0))) (.Z 11)) <|
       .call 3 (.Z 14) <|
       .bEM .not (.Z 15) <|
       .ite (.Z 16) (
        .ret (.Z 1)) (
        .bEM (.bEQ 112 aA) (.bEN aE tI (aI aB 6 (.p1 aB aK (.Z 0))) (.Z 11)) <|
        .bEM (.bEP 3 tI) (.Z 17) <|
        .bEM (.bEQ 78 bC) (.bEN aF tI (aI aB 2 (.p1 aB aK (.Z 0))) (.Z 11)) <|
        .bEM (.cmp .neq .i64) (.bEN tI tI (.Z 18) (aI bC 1 (.Z 19))) <|
        .ite (.Z 20) (
         .ret (.Z 1)) (
         .bEM (.ar .add .i64) (.bEN tI tI (.Z 11) (.ci .i64 1)) <|
         .bEO 0 (.Z 21)))) (
       .ite (aI aB 3 (.p1 aB aK (.Z 0))) (
        .bEM (.bEP 78 bC) (aI aB 2 (.p1 aB aK (.Z 0))) <|
        .bEM (.bEQ 112 aA) (.bEN aE tI (aI aB 6 (.p1 aB aK (.Z 0))) (.Z 14)) <|
        .call 4 (.bEN aA aA (.Z 15) (aN (.bEL aB aK) 2 (.Z 0))) <|
        .bEM (.bEP 3 tI) (.p1 aA .bool (.Z 16)) <|
        .bEM (.bEP 78 bC) (aI aB 2 (.p1 aB aK (.Z 0))) <|
        .bEM (.ar .sub .i64) (.bEN tI tI (.Z 18) (.ci .i64 1)) <|
        .bEM (.bEQ 78 bC) (.bEN aF tI (aI aB 2 (.p1 aB aK (.Z 0))) (.Z 19)) <|
        .bEM (.cmp .neq .i64) (.bEN tI tI (.Z 17) (aI bC 2 (.Z 20))) <|
        .ite (.Z 21) (
         .ret (.Z 1)) (
         .call 3 (.p1 aA .bool (.Z 16)) <|
         .bEM .not (.Z 22) <|
         .ite (.Z 23) (
          .ret (.Z 1)) (
          .call 5 (aY (.bEL aF (.bEL aE aA)) [(aI aB 2 (.p1 aB aK (.Z 0))),(aI aB 6 (.p1 aB aK (.Z 0))),(.p1 aA .bool (.Z 16))]) <|
          .ite (aN (.bEL aA .bool) 1 (.Z 16)) (
           .call 6 (aY (.bEL aX aX) [(aN aB 11 (.p1 aB aK (.Z 0))),(.p1 aE (.bEL aA .bool) (.Z 24)),(.ci .i64 0),(.cb true)]) <|
           .bEM (.ar .add .i64) (.bEN tI tI (.Z 2) (.ci .i64 1)) <|
           .bEM (.bEQ 80 aC) (.bEN (.slice 80 aC) tI (aI aB 5 (.Z 1)) (.Z 2)) <|
           .bEM (.bEQ 80 aC) (.bEN (.slice 80 aC) tI (aI aB 5 (.Z 1)) (.ci .i64 0)) <|
           .bEM (.bEP 80 aC) (aI aB 5 (.Z 1)) <|
           .bEM (.bER 80 aC) (aY (.bEL (.slice 80 aC) aD) [(aI aB 5 (.Z 1)),(.Z 26),(.Z 29)]) <|
           .bEM (.bER 80 aC) (aY (.bEL (.slice 80 aC) aD) [(aI aB 5 (.Z 1)),(.Z 2),(.Z 26)]) <|
           .bEM (.bER 80 aC) (aY (.bEL (.slice 80 aC) aD) [(aI aB 5 (.Z 1)),(.ci .i64 0),(.Z 2)]) <|
           .bEM (.bEP 80 aC) (aI aB 5 (.Z 1)) <|
           .bEM (.bER 80 aC) (aY (.bEL (.slice 80 aC) aD) [(aI aB 5 (.Z 1)),(.Z 26),(.Z 33)]) <|
           .bEM (.bES 80 aC 32) (.bEN (.slice 80 aC) (.slice 80 aC) (.Z 32) (.Z 34)) <|
           .ret (aY aB [(.p1 tI iT (.Z 1)),(aI aB 1 (.Z 1)),(aI aB 2 (.Z 1)),(aI aB 3 (.Z 1)),(aI aB 4 (.Z 1)),(.Z 35),(.nl 112 aA),(aI aB 7 (.Z 1)),(aI aB 8 (.Z 1)),(.nl 3 tI),(aI (.bEL aE (.bEL aA .bool)) 1 (.Z 24)),(.Z 25)])) (
           .call 6 (aY (.bEL aX aX) [(aN aB 11 (.p1 aB aK (.Z 0))),(.p1 aE (.bEL aA .bool) (.Z 24)),(.ci .i64 0),(aN (.bEL aE (.bEL aA .bool)) 2 (.Z 24))]) <|
           .bEM (.ar .add .i64) (.bEN tI tI (.Z 2) (.ci .i64 1)) <|
           .bEM (.bEQ 80 aC) (.bEN (.slice 80 aC) tI (aI aB 5 (.Z 1)) (.Z 2)) <|
           .bEM (.bEQ 80 aC) (.bEN (.slice 80 aC) tI (aI aB 5 (.Z 1)) (.ci .i64 0)) <|
           .bEM (.bEP 80 aC) (aI aB 5 (.Z 1)) <|
           .bEM (.bER 80 aC) (aY (.bEL (.slice 80 aC) aD) [(aI aB 5 (.Z 1)),(.Z 26),(.Z 29)]) <|
           .bEM (.bER 80 aC) (aY (.bEL (.slice 80 aC) aD) [(aI aB 5 (.Z 1)),(.Z 2),(.Z 26)]) <|
           .bEM (.bER 80 aC) (aY (.bEL (.slice 80 aC) aD) [(aI aB 5 (.Z 1)),(.ci .i64 0),(.Z 2)]) <|
           .bEM (.bEP 80 aC) (aI aB 5 (.Z 1)) <|
           .bEM (.bER 80 aC) (aY (.bEL (.slice 80 aC) aD) [(aI aB 5 (.Z 1)),(.Z 26),(.Z 33)]) <|
           .bEM (.bES 80 aC 32) (.bEN (.slice 80 aC) (.slice 80 aC) (.Z 32) (.Z 34)) <|
           .ret (aY aB [(.p1 tI iT (.Z 1)),(aI aB 1 (.Z 1)),(aI aB 2 (.Z 1)),(aI aB 3 (.Z 1)),(aI aB 4 (.Z 1)),(.Z 35),(.nl 112 aA),(aI aB 7 (.Z 1)),(aI aB 8 (.Z 1)),(.nl 3 tI),(aI (.bEL aE (.bEL aA .bool)) 1 (.Z 24)),(.Z 25)]))))) (
        .bEM (.bEP 3 tI) (aI aB 9 (.p1 aB aK (.Z 0))) <|
        .bEM (.bEP 78 bC) (aI aB 2 (.p1 aB aK (.Z 0))) <|
        .bEM (.ar .sub .i64) (.bEN tI tI (.Z 15) (.ci .i64 1)) <|
        .bEM (.bEQ 78 bC) (.bEN aF tI (aI aB 2 (.p1 aB aK (.Z 0))) (.Z 16)) <|
        .bEM (.cmp .neq .i64) (.bEN tI tI (.Z 14) (aI bC 2 (.Z 17))) <|
        .ite (.Z 18) (
         .ret (.Z 1)) (
         .call 3 (aI aB 9 (.p1 aB aK (.Z 0))) <|
         .bEM .not (.Z 19) <|
         .ite (.Z 20) (
          .ret (.Z 1)) (
          .call 5 (aY (.bEL aF (.bEL aE aA)) [(aI aB 2 (.p1 aB aK (.Z 0))),(aI aB 6 (.p1 aB aK (.Z 0))),(aI aB 9 (.p1 aB aK (.Z 0)))]) <|
          .call 6 (aY (.bEL aX aX) [(aN aB 11 (.p1 aB aK (.Z 0))),(.p1 aE (.bEL aA .bool) (.Z 21)),(.ci .i64 0),(aN (.bEL aE (.bEL aA .bool)) 2 (.Z 21))]) <|
          .bEM (.ar .add .i64) (.bEN tI tI (.Z 2) (.ci .i64 1)) <|
          .bEM (.bEQ 80 aC) (.bEN (.slice 80 aC) tI (aI aB 5 (.Z 1)) (.Z 2)) <|
          .bEM (.bEQ 80 aC) (.bEN (.slice 80 aC) tI (aI aB 5 (.Z 1)) (.ci .i64 0)) <|
          .bEM (.bEP 80 aC) (aI aB 5 (.Z 1)) <|
          .bEM (.bER 80 aC) (aY (.bEL (.slice 80 aC) aD) [(aI aB 5 (.Z 1)),(.Z 23),(.Z 26)]) <|
          .bEM (.bER 80 aC) (aY (.bEL (.slice 80 aC) aD) [(aI aB 5 (.Z 1)),(.Z 2),(.Z 23)]) <|
          .bEM (.bER 80 aC) (aY (.bEL (.slice 80 aC) aD) [(aI aB 5 (.Z 1)),(.ci .i64 0),(.Z 2)]) <|
          .bEM (.bEP 80 aC) (aI aB 5 (.Z 1)) <|
          .bEM (.bER 80 aC) (aY (.bEL (.slice 80 aC) aD) [(aI aB 5 (.Z 1)),(.Z 23),(.Z 30)]) <|
          .bEM (.bES 80 aC 32) (.bEN (.slice 80 aC) (.slice 80 aC) (.Z 29) (.Z 31)) <|
          .ret (aY aB [(.p1 tI iT (.Z 1)),(aI aB 1 (.Z 1)),(aI aB 2 (.Z 1)),(aI aB 3 (.Z 1)),(aI aB 4 (.Z 1)),(.Z 32),(.nl 112 aA),(aI aB 7 (.Z 1)),(aI aB 8 (.Z 1)),(.nl 3 tI),(aI (.bEL aE (.bEL aA .bool)) 1 (.Z 21)),(.Z 22)]))))))) (
    .bEM (.bEP 112 aA) (aN aC 1 (.Z 6)) <|
    .bEM (.bEP 78 bC) (aI aB 2 (.p1 aB aK (.Z 0))) <|
    .bEM (.ar .add .i64) (.bEN tI tI (.Z 8) (.ci .i64 1)) <|
    .bEM (.cmp .neq .i64) (.bEN tI tI (.Z 7) (.Z 9)) <|
    .ite (.Z 10) (
     .ret (.Z 1)) (
     .loop tI (.ci .i64 0) <|
      .bEM (.bEP 78 bC) (aI aB 2 (.p1 aB aK (.Z 0))) <|
      .bEM (.cmp .lss .i64) (.bEN tI tI (.Z 11) (.Z 12)) <|
      .ite (.Z 13) (
       .bEM (.bEQ 112 aA) (.bEN aE tI (aN aC 1 (.Z 6)) (.Z 11)) <|
       .call 3 (.Z 14) <|
       .bEM .not (.Z 15) <|
       .ite (.Z 16) (
        .ret (.Z 1)) (
        .bEM (.bEQ 112 aA) (.bEN aE tI (aN aC 1 (.Z 6)) (.Z 11)) <|
        .bEM (.bEP 3 tI) (.Z 17) <|
        .bEM (.bEQ 78 bC) (.bEN aF tI (aI aB 2 (.p1 aB aK (.Z 0))) (.Z 11)) <|
        .bEM (.cmp .neq .i64) (.bEN tI tI (.Z 18) (aI bC 1 (.Z 19))) <|
        .ite (.Z 20) (
         .ret (.Z 1)) (
         .bEM (.ar .add .i64) (.bEN tI tI (.Z 11) (.ci .i64 1)) <|
         .bEO 0 (.Z 21)))) (
       .ite (aI aB 3 (.p1 aB aK (.Z 0))) (
        .bEM (.bEP 78 bC) (aI aB 2 (.p1 aB aK (.Z 0))) <|
        .bEM (.bEQ 112 aA) (.bEN aE tI (aN aC 1 (.Z 6)) (.Z 14)) <|
        .call 4 (.bEN aA aA (.Z 15) (aN (.bEL aB aK) 2 (.Z 0))) <|
        .bEM (.bEP 3 tI) (.p1 aA .bool (.Z 16)) <|
        .bEM (.bEP 78 bC) (aI aB 2 (.p1 aB aK (.Z 0))) <|
        .bEM (.ar .sub .i64) (.bEN tI tI (.Z 18) (.ci .i64 1)) <|
        .bEM (.bEQ 78 bC) (.bEN aF tI (aI aB 2 (.p1 aB aK (.Z 0))) (.Z 19)) <|
        .bEM (.cmp .neq .i64) (.bEN tI tI (.Z 17) (aI bC 2 (.Z 20))) <|
        .ite (.Z 21) (
         .ret (.Z 1)) (
         .call 3 (.p1 aA .bool (.Z 16)) <|
         .bEM .not (.Z 22) <|
         .ite (.Z 23) (
          .ret (.Z 1)) (
          .call 5 (aY (.bEL aF (.bEL aE aA)) [(aI aB 2 (.p1 aB aK (.Z 0))),(aN aC 1 (.Z 6)),(.p1 aA .bool (.Z 16))]) <|
          .ite (aN (.bEL aA .bool) 1 (.Z 16)) (
           .call 6 (aY (.bEL aX aX) [(aN aB 11 (.p1 aB aK (.Z 0))),(.p1 aE (.bEL aA .bool) (.Z 24)),(.ci .i64 0),(.cb true)]) <|
           .bEM (.ar .add .i64) (.bEN tI tI (.Z 2) (.ci .i64 1)) <|
           .bEM (.bEQ 80 aC) (.bEN (.slice 80 aC) tI (aI aB 5 (.Z 1)) (.Z 2)) <|
           .bEM (.bEQ 80 aC) (.bEN (.slice 80 aC) tI (aI aB 5 (.Z 1)) (.ci .i64 0)) <|
           .bEM (.bEP 80 aC) (aI aB 5 (.Z 1)) <|
           .bEM (.bER 80 aC) (aY (.bEL (.slice 80 aC) aD) [(aI aB 5 (.Z 1)),(.Z 26),(.Z 29)]) <|
           .bEM (.bER 80 aC) (aY (.bEL (.slice 80 aC) aD) [(aI aB 5 (.Z 1)),(.Z 2),(.Z 26)]) <|
           .bEM (.bER 80 aC) (aY (.bEL (.slice 80 aC) aD) [(aI aB 5 (.Z 1)),(.ci .i64 0),(.Z 2)]) <|
           .bEM (.bEP 80 aC) (aI aB 5 (.Z 1)) <|
           .bEM (.bER 80 aC) (aY (.bEL (.slice 80 aC) aD) [(aI aB 5 (.Z 1)),(.Z 26),(.Z 33)]) <|
           .bEM (.bES 80 aC 32) (.bEN (.slice 80 aC) (.slice 80 aC) (.Z 32) (.Z 34)) <|
           .ret (aY aB [(.p1 tI iT (.Z 1)),(aI aB 1 (.Z 1)),(aI aB 2 (.Z 1)),(aI aB 3 (.Z 1)),(aI aB 4 (.Z 1)),(.Z 35),(.nl 112 aA),(aI aB 7 (.Z 1)),(aI aB 8 (.Z 1)),(.nl 3 tI),(aI (.bEL aE (.bEL aA .bool)) 1 (.Z 24)),(.Z 25)])) (
           .call 6 (aY (.bEL aX aX) [(aN aB 11 (.p1 aB aK (.Z 0))),(.p1 aE (.bEL aA .bool) (.Z 24)),(.ci .i64 0),(aN (.bEL aE (.bEL aA .bool)) 2 (.Z 24))]) <|
           .bEM (.ar .add .i64) (.bEN tI tI (.Z 2) (.ci .i64 1)) <|
           .bEM (.bEQ 80 aC) (.bEN (.slice 80 aC) tI (aI aB 5 (.Z 1)) (.Z 2)) <|
           .bEM (.bEQ 80 aC) (.bEN (.slice 80 aC) tI (aI aB 5 (.Z 1)) (.ci .i64 0)) <|
           .bEM (.bEP 80 aC) (aI aB 5 (.Z 1)) <|
           .bEM (.bER 80 aC) (aY (.bEL (.slice 80 aC) aD) [(aI aB 5 (.Z 1)),(.Z 26),(.Z 29)]) <|
           .bEM (.bER 80 aC) (aY (.bEL (.slice 80 aC) aD) [(aI aB 5 (.Z 1)),(.Z 2),(.Z 26)]) <|
           .bEM (.bER 80 aC) (aY (.bEL (.slice 80 aC) aD) [(aI aB 5 (.Z 1)),(.ci .i64 0),(.Z 2)]) <|
           .bEM (.bEP 80 aC) (aI aB 5 (.Z 1)) <|
           .bEM (.bER 80 aC) (aY (.bEL (.slice 80 aC) aD) [(aI aB 5 (.Z 1)),(.Z 26),(.Z 33)]) <|
           .bEM (.bES 80 aC 32) (.bEN (.slice 80 aC) (.slice 80 aC) (.Z 32) (.Z 34)) <|
           .ret (aY aB [(.p1 tI iT (.Z 1)),(aI aB 1 (.Z 1)),(aI aB 2 (.Z 1)),(aI aB 3 (.Z 1)),(aI aB 4 (.Z 1)),(.Z 35),(.nl 112 aA),(aI aB 7 (.Z 1)),(aI aB 8 (.Z 1)),(.nl 3 tI),(aI (.bEL aE (.bEL aA .bool)) 1 (.Z 24)),(.Z 25)]))))) (
        .bEM (.bEP 3 tI) (aI aB 9 (.p1 aB aK (.Z 0))) <|
        .bEM (.bEP 78 bC) (aI aB 2 (.p1 aB aK (.Z 0))) <|
        .bEM (.ar .sub .i64) (.bEN tI tI (.Z 15) (.ci .i64 1)) <|
        .bEM (.bEQ 78 bC) (.bEN aF tI (aI aB 2 (.p1 aB aK (.Z 0))) (.Z 16)) <|
        .bEM (.cmp .neq .i64) (.bEN tI tI (.Z 14) (aI bC 2 (.Z 17))) <|
        .ite (.Z 18) (
         .ret (.Z 1)) (
         .call 3 (aI aB 9 (.p1 aB aK (.Z 0))) <|
         .bEM .not (.Z 19) <|
         .ite (.Z 20) (
          .ret (.Z 1)) (
          .call 5 (aY (.bEL aF (.bEL aE aA)) [(aI aB 2 (.p1 aB aK (.Z 0))),(aN aC 1 (.Z 6)),(aI aB 9 (.p1 aB aK (.Z 0)))]) <|
          .call 6 (aY (.bEL aX aX) [(aN aB 11 (.p1 aB aK (.Z 0))),(.p1 aE (.bEL aA .bool) (.Z 21)),(.ci .i64 0),(aN (.bEL aE (.bEL aA .bool)) 2 (.Z 21))]) <|
          .bEM (.ar .add .i64) (.bEN tI tI (.Z 2) (.ci .i64 1)) <|
          .bEM (.bEQ 80 aC) (.bEN (.slice 80 aC) tI (aI aB 5 (.Z 1)) (.Z 2)) <|
          .bEM (.bEQ 80 aC) (.bEN (.slice 80 aC) tI (aI aB 5 (.Z 1)) (.ci .i64 0)) <|
          .bEM (.bEP 80 aC) (aI aB 5 (.Z 1)) <|
          .bEM (.bER 80 aC) (aY (.bEL (.slice 80 aC) aD) [(aI aB 5 (.Z 1)),(.Z 23),(.Z 26)]) <|
          .bEM (.bER 80 aC) (aY (.bEL (.slice 80 aC) aD) [(aI aB 5 (.Z 1)),(.Z 2),(.Z 23)]) <|
          .bEM (.bER 80 aC) (aY (.bEL (.slice 80 aC) aD) [(aI aB 5 (.Z 1)),(.ci .i64 0),(.Z 2)]) <|
          .bEM (.bEP 80 aC) (aI aB 5 (.Z 1)) <|
          .bEM (.bER 80 aC) (aY (.bEL (.slice 80 aC) aD) [(aI aB 5 (.Z 1)),(.Z 23),(.Z 30)]) <|
          .bEM (.bES 80 aC 32) (.bEN (.slice 80 aC) (.slice 80 aC) (.Z 29) (.Z 31)) <|
          .ret (aY aB [(.p1 tI iT (.Z 1)),(aI aB 1 (.Z 1)),(aI aB 2 (.Z 1)),(aI aB 3 (.Z 1)),(aI aB 4 (.Z 1)),(.Z 32),(.nl 112 aA),(aI aB 7 (.Z 1)),(aI aB 8 (.Z 1)),(.nl 3 tI),(aI (.bEL aE (.bEL aA .bool)) 1 (.Z 21)),(.Z 22)])))))))))
set_option maxRecDepth 100000 in
theorem aLW:bJ Tryz.prog [eM,cY,cV,bF,iY,pP,lF] kR false 3000 ⟨[(2968,20011,jT 51 33++jT 31 19++[.dr 0,.dr 1,.tm 12 0]),(2968,16011,jT 51 43++jT 40 33++jT 31 19++[.dr 0,.dr 1,.tm 12 0])],[(2947,292024,[],[31]),(2935,804026,[146,151],[]),(2935,548026,[146,151],[]),(2939,260023,[146,151],[]),(2947,288024,[],[31]),(2935,800026,[146,151],[]),(2935,544026,[146,151],[]),(2939,256023,[146,151],[])]⟩ = .ok uD:=by kernel_rfl
set_option maxHeartbeats 1000000 in
theorem aM6 (x:aM × iZ) (hx:okD (.bEL aB aK) x) (hp:(fun x=>eB aB x.1≤1000000000) x):uD.wp [eM,cY,cV,bF,iY,pP,lF] [⟨(.bEL aB aK),x⟩] [] (fun v=>v.as aB=(fun x=>aCW x.1 x.2.1 x.2.2) x):=by
 obtain ⟨s,m,t⟩:=x
 delta uD eM cY cV bF iY pP lF;refine eE ?_
 refine fJ ?_
 refine ⟨hp,fun _ _=>⟨fun h=>hZ (.inl h),fun h1=>⟨fun h=>hZ (.inr (.inl h)),fun h2=>?_⟩⟩⟩
 have hf2:dT s.2.2.2.2.2.1 m<(s.2.2.2.2.2.1.length:Int):=(aH0 s.2.2.2.2.2.1 m s.2.2.2.2.2.1.length).2
 have hm:=(bV s).1 h1
 have hn8:=(bA _).1 hm.1
 have hou:(List.getD s.2.2.1 (s.2.2.1.length - 1) (bG bC)).2.2.1=dJ s.2.2.1:=by unfold dJ;rw[if_pos hm.1];rfl
 have hst:=(aJC (t:=aB) hp).2.2.2.2.2.1.1
 replace hst:List.length s.2.2.2.2.2.1≤1000000000:=hst
 have hgs:qX s.2.2.2.2.2.2.2.2.2.2.2:=bA8 (aJC (t:=aB) hp).2.2.2.2.2.2.2.2.2.2.2
 refine ⟨by omega,fun _=>⟨fun hre=>?_,fun hre=>?_⟩⟩
 ·rw[show s.2.2.2.2.2.2.1=lN s m from (bDD hre).symm]
  refine fun _ _=>⟨by omega,fun _=>⟨fun h=>hZ (.inr (.inr (.inl (aLN (.inl (by omega)))))),fun hlen=>?_⟩⟩
  refine aNT (fun k=>(k:Int)) (fun k=>∀ i,i<k→eG (List.getD (lN s m) i []) (eH s.2.2.1 i)=true) s.2.2.1.length rfl (fun i hi=>absurd hi (Nat.not_lt_zero _)) fun I μ k hk hG _ go=>?_
  try dsimp only
  refine fJ ?_
  intro _
  constructor
  ·intro hlt
   have hk':k<s.2.2.1.length:=by omega
   have esz:eH s.2.2.1 k=(List.getD s.2.2.1 k (bG bC)).2.1:=if_pos hk'
   have bad:¬ eG (List.getD (lN s m) k []) (eH s.2.2.1 k)=true→s=aCW s m t:=fun h=>hZ (.inr (.inr (.inl (aLN (.inr (Bool.eq_false_iff.2 fun hh=>h ((jU _ _ _).1 hh k hk')))))))
   rw[bT,esz] at bad
   (repeat' first|intro _|(refine go _ ?_ ?_ ?_)|(refine go _ ?_ ?_)|(with_reducible apply And.intro))
   all_goals first|omega|exact bad (fun h=>Bool.noConfusion (h.1.symm.trans (by assumption:_=false)))|exact bad (fun h=>absurd h.2 (by assumption))|exact bCL hG ((bT _ _).2 ⟨by assumption,by rw[esz];assumption⟩) _ (by assumption)|rfl|skip
  ·intro hge
   have hk':k=s.2.2.1.length:=by omega
   subst hk'
   have hrow:nM s.2.2.1 (lN s m) s.2.2.1.length=true:=(jU _ _ _).2 hG
   clear go hG
   refine ⟨fun hla=>?_,fun hla=>?_⟩
   ·rw[show kI fK (List.getD (lN s m) s.2.2.1.length (bG aA)) t=iO s m t from (bA9 hla).symm]
    (repeat' first|intro _|(with_reducible apply And.intro))
    all_goals first|omega|exact hZ (.inr (.inr (.inr (Bool.eq_false_iff.2 fun h=>absurd ((bT _ _).1 h).2 (by first|assumption|(rw[← hou];assumption))))))|exact hZ (.inr (.inr (.inr (wL (by assumption)).symm)))|exact ⟨hn8.2.1,by omega⟩|(unfold maxLen;omega)|exact hZ (.inr (.inr (.inr (by assumption))))|exact ⟨by omega,by omega⟩|exact hgs|exact aEZ _ _ h1|(simp only[List.length_append,List.length_drop,List.length_take];omega)|(simp only[List.length_append,List.length_drop,List.length_take];unfold maxLen;omega)|skip
    all_goals refine (aBR (by omega) ?_).trans (aET h1 h2 (aKZ (by omega) hrow) ((bT _ _).2 ⟨by assumption,by rw[← hou];assumption⟩))
    all_goals first|rfl|(rw[nS (by assumption)];done)|(rw[show (iO s m t).2=true by assumption,Bool.true_or];done)|(rw[show (iO s m t).2=false by assumption,Bool.false_or];done)|skip
   ·have hgg:s.2.2.2.2.2.2.2.2.2.1=(iO s m t).1:=aYY hla
    have hg0:(iO s m t).2=false:=aZ6 hla
    rw[hgg]
    (repeat' first|intro _|(with_reducible apply And.intro))
    all_goals first|omega|exact hZ (.inr (.inr (.inr (Bool.eq_false_iff.2 fun h=>absurd ((bT _ _).1 h).2 (by first|assumption|(rw[← hou];assumption))))))|exact hZ (.inr (.inr (.inr (wL (by assumption)).symm)))|exact ⟨hn8.2.1,by omega⟩|(unfold maxLen;omega)|exact hZ (.inr (.inr (.inr (by assumption))))|exact ⟨by omega,by omega⟩|exact hgs|exact aEZ _ _ h1|(simp only[List.length_append,List.length_drop,List.length_take];omega)|(simp only[List.length_append,List.length_drop,List.length_take];unfold maxLen;omega)|skip
    all_goals refine (aBR (by omega) ?_).trans (aET h1 h2 (aKZ (by omega) hrow) ((bT _ _).2 ⟨by assumption,by rw[← hou];assumption⟩))
    all_goals first|rfl|(rw[nS (by assumption)];done)|(rw[show (iO s m t).2=true by assumption,Bool.true_or];done)|(rw[show (iO s m t).2=false by assumption,Bool.false_or];done)|skip
 ·rw[show (List.getD s.2.2.2.2.2.1 (dT s.2.2.2.2.2.1 m).toNat (bG aC)).2=lN s m from (bDC hre).symm]
  refine fun _ _=>⟨by omega,fun _=>⟨fun h=>hZ (.inr (.inr (.inl (aLN (.inl (by omega)))))),fun hlen=>?_⟩⟩
  refine aNT (fun k=>(k:Int)) (fun k=>∀ i,i<k→eG (List.getD (lN s m) i []) (eH s.2.2.1 i)=true) s.2.2.1.length rfl (fun i hi=>absurd hi (Nat.not_lt_zero _)) fun I μ k hk hG _ go=>?_
  try dsimp only
  refine fJ ?_
  intro _
  constructor
  ·intro hlt
   have hk':k<s.2.2.1.length:=by omega
   have esz:eH s.2.2.1 k=(List.getD s.2.2.1 k (bG bC)).2.1:=if_pos hk'
   have bad:¬ eG (List.getD (lN s m) k []) (eH s.2.2.1 k)=true→s=aCW s m t:=fun h=>hZ (.inr (.inr (.inl (aLN (.inr (Bool.eq_false_iff.2 fun hh=>h ((jU _ _ _).1 hh k hk')))))))
   rw[bT,esz] at bad
   (repeat' first|intro _|(refine go _ ?_ ?_ ?_)|(refine go _ ?_ ?_)|(with_reducible apply And.intro))
   all_goals first|omega|exact bad (fun h=>Bool.noConfusion (h.1.symm.trans (by assumption:_=false)))|exact bad (fun h=>absurd h.2 (by assumption))|exact bCL hG ((bT _ _).2 ⟨by assumption,by rw[esz];assumption⟩) _ (by assumption)|rfl|skip
  ·intro hge
   have hk':k=s.2.2.1.length:=by omega
   subst hk'
   have hrow:nM s.2.2.1 (lN s m) s.2.2.1.length=true:=(jU _ _ _).2 hG
   clear go hG
   refine ⟨fun hla=>?_,fun hla=>?_⟩
   ·rw[show kI fK (List.getD (lN s m) s.2.2.1.length (bG aA)) t=iO s m t from (bA9 hla).symm]
    (repeat' first|intro _|(with_reducible apply And.intro))
    all_goals first|omega|exact hZ (.inr (.inr (.inr (Bool.eq_false_iff.2 fun h=>absurd ((bT _ _).1 h).2 (by first|assumption|(rw[← hou];assumption))))))|exact hZ (.inr (.inr (.inr (wL (by assumption)).symm)))|exact ⟨hn8.2.1,by omega⟩|(unfold maxLen;omega)|exact hZ (.inr (.inr (.inr (by assumption))))|exact ⟨by omega,by omega⟩|exact hgs|exact aEZ _ _ h1|(simp only[List.length_append,List.length_drop,List.length_take];omega)|(simp only[List.length_append,List.length_drop,List.length_take];unfold maxLen;omega)|skip
    all_goals refine (aBR (by omega) ?_).trans (aET h1 h2 (aKZ (by omega) hrow) ((bT _ _).2 ⟨by assumption,by rw[← hou];assumption⟩))
    all_goals first|rfl|(rw[nS (by assumption)];done)|(rw[show (iO s m t).2=true by assumption,Bool.true_or];done)|(rw[show (iO s m t).2=false by assumption,Bool.false_or];done)|skip
   ·have hgg:s.2.2.2.2.2.2.2.2.2.1=(iO s m t).1:=aYY hla
    have hg0:(iO s m t).2=false:=aZ6 hla
    rw[hgg]
    (repeat' first|intro _|(with_reducible apply And.intro))
    all_goals first|omega|exact hZ (.inr (.inr (.inr (Bool.eq_false_iff.2 fun h=>absurd ((bT _ _).1 h).2 (by first|assumption|(rw[← hou];assumption))))))|exact hZ (.inr (.inr (.inr (wL (by assumption)).symm)))|exact ⟨hn8.2.1,by omega⟩|(unfold maxLen;omega)|exact hZ (.inr (.inr (.inr (by assumption))))|exact ⟨by omega,by omega⟩|exact hgs|exact aEZ _ _ h1|(simp only[List.length_append,List.length_drop,List.length_take];omega)|(simp only[List.length_append,List.length_drop,List.length_take];unfold maxLen;omega)|skip
    all_goals refine (aBR (by omega) ?_).trans (aET h1 h2 (aKZ (by omega) hrow) ((bT _ _).2 ⟨by assumption,by rw[← hou];assumption⟩))
    all_goals first|rfl|(rw[nS (by assumption)];done)|(rw[show (iO s m t).2=true by assumption,Bool.true_or];done)|(rw[show (iO s m t).2=false by assumption,Bool.false_or];done)|skip
set_option maxHeartbeats 1000000 in
theorem aM8:Con.Holds Tryz.prog kR:=aQ aR (aG uU (aG qU (aG qT (aG fL (aG aGK (aG aQP (aG aLC aO))))))) aLW aM6
end Go.Proofs.YtdeobhdbmehpgaaGreat
