/- CoreB: lemmas. No conditions. -/
import Derived.Test.YtabamggdmdednaaGreatCore7
namespace Go.Proofs.YtabamggdmdednaaGreat
set_option maxRecDepth 100000
open Go.ChangeShapes Go.WideShapes Go.ChangeAt Go.RowKit Go.Deep
set_option linter.unusedVariables false
set_option linter.unusedSimpArgs false
theorem fK {s:bC} {m:Int} {t:List Int} (h:gR s=false∨dX s.2.2.2.2.2.1 m<0∨aMO s.2.2.1 (nX s m)=false∨eQ (iC s m t).1 (fH s.2.2.1)=false):s=xC s m t:=by
 unfold xC;rw[if_neg]
 unfold bFG
 simp only[Bool.and_eq_true,decide_eq_true_eq]
 rintro ⟨h1,h2,h3,h4⟩
 rcases h with h|h|h|h
 ·rw[h] at h1;cases h1
 ·omega
 ·rw[h] at h3;cases h3
 ·rw[h] at h4;cases h4
theorem vJ {s:bC} {m:Int} {t:List Int} (h1:gR s=true) (h2:0≤dX s.2.2.2.2.2.1 m) (h3:aMO s.2.2.1 (nX s m)=true) (h4:eQ (iC s m t).1 (fH s.2.2.1)=true):bOP s m t=xC s m t:=by
 unfold xC;rw[if_pos]
 unfold bFG
 simp only[Bool.and_eq_true,decide_eq_true_eq]
 exact ⟨h1,h2,h3,h4⟩
theorem bND {s:bC} {m:Int} (h:s.2.2.2.2.1=true):nX s m=s.2.2.2.2.2.2.1:=if_pos h
theorem bNL {s:bC} {m:Int} (h:s.2.2.2.2.1=false):nX s m=(s.2.2.2.2.2.1.getD (dX s.2.2.2.2.2.1 m).toNat (aW aF)).2:=if_neg (by rw[h];simp)
theorem aV2 {s:bC} {m:Int} {t:List Int} (h:s.2.2.2.1=true):iC s m t=kZ eP (List.getD (nX s m) s.2.2.1.length (aW aB)) t:=if_pos h
theorem aSN {s:bC} {m:Int} {t:List Int} (h:s.2.2.2.1=false):s.2.2.2.2.2.2.2.2.2.1=(iC s m t).1:=by unfold iC;rw[if_neg (by rw[h];simp)]
theorem aT9 {s:bC} {m:Int} {t:List Int} (h:s.2.2.2.1=false):(iC s m t).2=false:=by unfold iC;rw[if_neg (by rw[h];simp)]
theorem aAI {m:List dI} {r:cZ} (h:¬ r.length=m.length+1∨rL m r m.length=false):aMO m r=false:=by
 unfold aMO
 rcases h with h|h
 ·rw[decide_eq_false h];rfl
 ·rw[h,Bool.and_false]
theorem aBE {m:List dI} {r:cZ} (h:r.length=m.length+1) (h2:rL m r m.length=true):aMO m r=true:=by
 unfold aMO;rw[decide_eq_true h,h2];rfl
theorem vU {s:bC} {r:cZ} {d:List Int} (l:Int) (b:Bool) (h:gR s=true):jS ((rS s.2.2.1 r d).1,l,b):=by
 have hm:=((bY _).1 ((eJ s).1 h).1).2.1
 refine ⟨?_,fun y hy=>Nat.le_trans (aMF _ _ _ _ _ y hy) (by decide)⟩
 show (eH _ _ _ _ _).1.length≤1000000000
 rw[aE1];omega
theorem qD {s:bC} {m:Int} {t:List Int} {g:eZ} (h:0≤dX s.2.2.2.2.2.1 m) (e:g=iJ s.2.2.2.2.2.2.2.2.2.2.2 ((rS s.2.2.1 (nX s m) (iC s m t).1).1,0,(iC s m t).2 || (rS s.2.2.1 (nX s m) (iC s m t).1).2.2)) :
  (s.1,s.2.1,s.2.2.1,s.2.2.2.1,s.2.2.2.2.1,List.drop 0 (List.take (dX s.2.2.2.2.2.1 m).toNat s.2.2.2.2.2.1)++List.drop (dX s.2.2.2.2.2.1 m+1).toNat (List.take (List.length s.2.2.2.2.2.1) s.2.2.2.2.2.1),([]:cZ),s.2.2.2.2.2.2.2.1,s.2.2.2.2.2.2.2.2.1,([]:List Int),(rS s.2.2.1 (nX s m) (iC s m t).1).2.1,g)=bOP s m t:=by
 rw[List.take_length,show (dX s.2.2.2.2.2.1 m+1).toNat=(dX s.2.2.2.2.2.1 m).toNat+1 by omega,e];rfl
noncomputable def oW:Con:=⟨68,(.bRW aA aH),aA,[.val ⟨true,aA,[]⟩,.val ⟨false,tI,[]⟩,.val ⟨false,aB,[]⟩],[⟨true,aA,[0,1,1,0,0,1,1,1,1,1,1,1,0,0]⟩],false,none,
 ((fun x=>bM aA x.1≤1000000000):(bC × cP)→Prop),
 ((fun x=>xC x.1 x.2.1 x.2.2):(bC × cP)→(bC))⟩
def zA:T:=.call 0 (.p1 aA aH (.Z 0)) <|.call 1 (.bRY (.slice 82 aF) tI (aK aA 5 (.p1 aA aH (.Z 0))) (aK (.bRW aA aH) 1 (.Z 0))) <|.call 2 (.p1 aA aH (.Z 0)) <|
 .bRX .not (.Z 3) <|
 .ite (.Z 4) (
  .ret (.Z 1)) (
  .bRX (.cmp .lss .i64) (.bRY tI tI (.Z 2) (.ci .i64 0)) <|
  .ite (.Z 5) (
   .ret (.Z 1)) (
   .bRX (.bS1 82 aF) (.bRY (.slice 82 aF) tI (aK aA 5 (.Z 1)) (.Z 2)) <|
   .bRX (.bS1 82 aF) (.bRY (.slice 82 aF) tI (aK aA 5 (.Z 1)) (.Z 2)) <|
   .ite (aK aA 4 (.p1 aA aH (.Z 0))) (
    .bRX (.bS0 88 bF) (aK aA 2 (.p1 aA aH (.Z 0))) <|
    .bRX (.bS0 119 aB) (aK aA 6 (.Z 1)) <|
    .bRX (.ar .add .i64) (.bRY tI tI (.Z 8) (.ci .i64 1)) <|
    .bRX (.cmp .neq .i64) (.bRY tI tI (.Z 9) (.Z 10)) <|
    .ite (.Z 11) (
     .ret (.Z 1)) (
     .call 3 (bB (.bRW aE (.bRW aL tI)) [(aK aA 2 (.p1 aA aH (.Z 0))),(aK aA 6 (.Z 1)),(.Z 8)]) <|
     .bRX .not (.Z 12) <|
     .ite (.Z 13) (
      .ret (.Z 1)) (
      .ite (aK aA 3 (.p1 aA aH (.Z 0))) (
       .bRX (.bS1 119 aB) (.bRY aL tI (aK aA 6 (.Z 1)) (.Z 8)) <|
       .bRX (.bS1 119 aB) (.bRY aL tI (aK aA 6 (.Z 1)) (.Z 8)) <|
       .call 4 (.bRY aB aB (.Z 15) (aP (.bRW aA aH) 2 (.Z 0))) <|
       .call 5 (.p1 aA aH (.Z 0)) <|
       .call 6 (.Z 17) <|
       .call 7 (.bRY aB tI (.p1 aB .bool (.Z 16)) (.Z 18)) <|
       .bRX .not (.Z 19) <|
       .ite (.Z 20) (
        .ret (.Z 1)) (
        .call 8 (bB (.bRW aE (.bRW aL aB)) [(aK aA 2 (.p1 aA aH (.Z 0))),(aK aA 6 (.Z 1)),(.p1 aB .bool (.Z 16))]) <|
        .ite (aP (.bRW aB .bool) 1 (.Z 16)) (
         .call 9 (bB (.bRW aX aX) [(aP aA 11 (.Z 1)),(.p1 aL (.bRW aB .bool) (.Z 21)),(.ci .i64 0),(.cb true)]) <|
         .bRX (.ar .add .i64) (.bRY tI tI (.Z 2) (.ci .i64 1)) <|
         .bRX (.bS1 82 aF) (.bRY (.slice 82 aF) tI (aK aA 5 (.Z 1)) (.Z 2)) <|
         .bRX (.bS1 82 aF) (.bRY (.slice 82 aF) tI (aK aA 5 (.Z 1)) (.ci .i64 0)) <|
         .bRX (.bS0 82 aF) (aK aA 5 (.Z 1)) <|
         .bRX (.bS2 82 aF) (bB (.bRW (.slice 82 aF) aD) [(aK aA 5 (.Z 1)),(.Z 23),(.Z 26)]) <|
         .bRX (.bS2 82 aF) (bB (.bRW (.slice 82 aF) aD) [(aK aA 5 (.Z 1)),(.Z 2),(.Z 23)]) <|
         .bRX (.bS2 82 aF) (bB (.bRW (.slice 82 aF) aD) [(aK aA 5 (.Z 1)),(.ci .i64 0),(.Z 2)]) <|
         .bRX (.bS0 82 aF) (aK aA 5 (.Z 1)) <|
         .bRX (.bS2 82 aF) (bB (.bRW (.slice 82 aF) aD) [(aK aA 5 (.Z 1)),(.Z 23),(.Z 30)]) <|
         .bRX (.bS3 82 aF 32) (.bRY (.slice 82 aF) (.slice 82 aF) (.Z 29) (.Z 31)) <|
         .ret (bB aA [(.p1 tI dA (.Z 1)),(aK aA 1 (.Z 1)),(aK aA 2 (.Z 1)),(aK aA 3 (.Z 1)),(aK aA 4 (.Z 1)),(.Z 32),(.nl 119 aB),(aK aA 7 (.Z 1)),(aK aA 8 (.Z 1)),(.nl 3 tI),(aK (.bRW aL (.bRW aB .bool)) 1 (.Z 21)),(.Z 22)])) (
         .call 9 (bB (.bRW aX aX) [(aP aA 11 (.Z 1)),(.p1 aL (.bRW aB .bool) (.Z 21)),(.ci .i64 0),(aP (.bRW aL (.bRW aB .bool)) 2 (.Z 21))]) <|
         .bRX (.ar .add .i64) (.bRY tI tI (.Z 2) (.ci .i64 1)) <|
         .bRX (.bS1 82 aF) (.bRY (.slice 82 aF) tI (aK aA 5 (.Z 1)) (.Z 2)) <|
         .bRX (.bS1 82 aF) (.bRY (.slice 82 aF) tI (aK aA 5 (.Z 1)) (.ci .i64 0)) <|
         .bRX (.bS0 82 aF) (aK aA 5 (.Z 1)) <|
         .bRX (.bS2 82 aF) (bB (.bRW (.slice 82 aF) aD) [(aK aA 5 (.Z 1)),(.Z 23),(.Z 26)]) <|
         .bRX (.bS2 82 aF) (bB (.bRW (.slice 82 aF) aD) [(aK aA 5 (.Z 1)),(.Z 2),(.Z 23)]) <|
         .bRX (.bS2 82 aF) (bB (.bRW (.slice 82 aF) aD) [(aK aA 5 (.Z 1)),(.ci .i64 0),(.Z 2)]) <|
         .bRX (.bS0 82 aF) (aK aA 5 (.Z 1)) <|
         .bRX (.bS2 82 aF) (bB (.bRW (.slice 82 aF) aD) [(aK aA 5 (.Z 1)),(.Z 23),(.Z 30)]) <|
         .bRX (.bS3 82 aF 32) (.bRY (.slice 82 aF) (.slice 82 aF) (.Z 29) (.Z 31)) <|
         .ret (bB aA [(.p1 tI dA (.Z 1)),(aK aA 1 (.Z 1)),(aK aA 2 (.Z 1)),(aK aA 3 (.Z 1)),(aK aA 4 (.Z 1)),(.Z 32),(.nl 119 aB),(aK aA 7 (.Z 1)),(aK aA 8 (.Z 1)),(.nl 3 tI),(aK (.bRW aL (.bRW aB .bool)) 1 (.Z 21)),(.Z 22)])))) (
       .call 5 (.p1 aA aH (.Z 0)) <|
       .call 6 (.Z 14) <|
       .call 7 (.bRY aB tI (aK aA 9 (.Z 1)) (.Z 15)) <|
       .bRX .not (.Z 16) <|
       .ite (.Z 17) (
        .ret (.Z 1)) (
        .call 8 (bB (.bRW aE (.bRW aL aB)) [(aK aA 2 (.p1 aA aH (.Z 0))),(aK aA 6 (.Z 1)),(aK aA 9 (.Z 1))]) <|
        .call 9 (bB (.bRW aX aX) [(aP aA 11 (.Z 1)),(.p1 aL (.bRW aB .bool) (.Z 18)),(.ci .i64 0),(aP (.bRW aL (.bRW aB .bool)) 2 (.Z 18))]) <|
        .bRX (.ar .add .i64) (.bRY tI tI (.Z 2) (.ci .i64 1)) <|
        .bRX (.bS1 82 aF) (.bRY (.slice 82 aF) tI (aK aA 5 (.Z 1)) (.Z 2)) <|
        .bRX (.bS1 82 aF) (.bRY (.slice 82 aF) tI (aK aA 5 (.Z 1)) (.ci .i64 0)) <|
        .bRX (.bS0 82 aF) (aK aA 5 (.Z 1)) <|
        .bRX (.bS2 82 aF) (bB (.bRW (.slice 82 aF) aD) [(aK aA 5 (.Z 1)),(.Z 20),(.Z 23)]) <|
        .bRX (.bS2 82 aF) (bB (.bRW (.slice 82 aF) aD) [(aK aA 5 (.Z 1)),(.Z 2),(.Z 20)]) <|
        .bRX (.bS2 82 aF) (bB (.bRW (.slice 82 aF) aD) [(aK aA 5 (.Z 1)),(.ci .i64 0),(.Z 2)]) <|
        .bRX (.bS0 82 aF) (aK aA 5 (.Z 1)) <|
        .bRX (.bS2 82 aF) (bB (.bRW (.slice 82 aF) aD) [(aK aA 5 (.Z 1)),(.Z 20),(.Z 27)]) <|
        .bRX (.bS3 82 aF 32) (.bRY (.slice 82 aF) (.slice 82 aF) (.Z 26) (.Z 28)) <|
        .ret (bB aA [(.p1 tI dA (.Z 1)),(aK aA 1 (.Z 1)),(aK aA 2 (.Z 1)),(aK aA 3 (.Z 1)),(aK aA 4 (.Z 1)),(.Z 29),(.nl 119 aB),(aK aA 7 (.Z 1)),(aK aA 8 (.Z 1)),(.nl 3 tI),(aK (.bRW aL (.bRW aB .bool)) 1 (.Z 18)),(.Z 19)])))))) (
    .bRX (.bS0 88 bF) (aK aA 2 (.p1 aA aH (.Z 0))) <|
    .bRX (.bS0 119 aB) (aP aF 1 (.Z 7)) <|
    .bRX (.ar .add .i64) (.bRY tI tI (.Z 8) (.ci .i64 1)) <|
    .bRX (.cmp .neq .i64) (.bRY tI tI (.Z 9) (.Z 10)) <|
    .ite (.Z 11) (
     .ret (.Z 1)) (
     .call 3 (bB (.bRW aE (.bRW aL tI)) [(aK aA 2 (.p1 aA aH (.Z 0))),(aP aF 1 (.Z 7)),(.Z 8)]) <|
     .bRX .not (.Z 12) <|
     .ite (.Z 13) (
      .ret (.Z 1)) (
      .ite (aK aA 3 (.p1 aA aH (.Z 0))) (
       .bRX (.bS1 119 aB) (.bRY aL tI (aP aF 1 (.Z 7)) (.Z 8)) <|
       .call 4 (.bRY aB aB (.Z 14) (aP (.bRW aA aH) 2 (.Z 0))) <|
       .call 5 (.p1 aA aH (.Z 0)) <|
       .call 6 (.Z 16) <|
       .call 7 (.bRY aB tI (.p1 aB .bool (.Z 15)) (.Z 17)) <|
       .bRX .not (.Z 18) <|
       .ite (.Z 19) (
        .ret (.Z 1)) (
        .call 8 (bB (.bRW aE (.bRW aL aB)) [(aK aA 2 (.p1 aA aH (.Z 0))),(aP aF 1 (.Z 7)),(.p1 aB .bool (.Z 15))]) <|
        .ite (aP (.bRW aB .bool) 1 (.Z 15)) (
         .call 9 (bB (.bRW aX aX) [(aP aA 11 (.Z 1)),(.p1 aL (.bRW aB .bool) (.Z 20)),(.ci .i64 0),(.cb true)]) <|
         .bRX (.ar .add .i64) (.bRY tI tI (.Z 2) (.ci .i64 1)) <|
         .bRX (.bS1 82 aF) (.bRY (.slice 82 aF) tI (aK aA 5 (.Z 1)) (.Z 2)) <|
         .bRX (.bS1 82 aF) (.bRY (.slice 82 aF) tI (aK aA 5 (.Z 1)) (.ci .i64 0)) <|
         .bRX (.bS0 82 aF) (aK aA 5 (.Z 1)) <|
         .bRX (.bS2 82 aF) (bB (.bRW (.slice 82 aF) aD) [(aK aA 5 (.Z 1)),(.Z 22),(.Z 25)]) <|
         .bRX (.bS2 82 aF) (bB (.bRW (.slice 82 aF) aD) [(aK aA 5 (.Z 1)),(.Z 2),(.Z 22)]) <|
         .bRX (.bS2 82 aF) (bB (.bRW (.slice 82 aF) aD) [(aK aA 5 (.Z 1)),(.ci .i64 0),(.Z 2)]) <|
         .bRX (.bS0 82 aF) (aK aA 5 (.Z 1)) <|
         .bRX (.bS2 82 aF) (bB (.bRW (.slice 82 aF) aD) [(aK aA 5 (.Z 1)),(.Z 22),(.Z 29)]) <|
         .bRX (.bS3 82 aF 32) (.bRY (.slice 82 aF) (.slice 82 aF) (.Z 28) (.Z 30)) <|
         .ret (bB aA [(.p1 tI dA (.Z 1)),(aK aA 1 (.Z 1)),(aK aA 2 (.Z 1)),(aK aA 3 (.Z 1)),(aK aA 4 (.Z 1)),(.Z 31),(.nl 119 aB),(aK aA 7 (.Z 1)),(aK aA 8 (.Z 1)),(.nl 3 tI),(aK (.bRW aL (.bRW aB .bool)) 1 (.Z 20)),(.Z 21)])) (
         .call 9 (bB (.bRW aX aX) [(aP aA 11 (.Z 1)),(.p1 aL (.bRW aB .bool) (.Z 20)),(.ci .i64 0),(aP (.bRW aL (.bRW aB .bool)) 2 (.Z 20))]) <|
         .bRX (.ar .add .i64) (.bRY tI tI (.Z 2) (.ci .i64 1)) <|
         .bRX (.bS1 82 aF) (.bRY (.slice 82 aF) tI (aK aA 5 (.Z 1)) (.Z 2)) <|
         .bRX (.bS1 82 aF) (.bRY (.slice 82 aF) tI (aK aA 5 (.Z 1)) (.ci .i64 0)) <|
         .bRX (.bS0 82 aF) (aK aA 5 (.Z 1)) <|
         .bRX (.bS2 82 aF) (bB (.bRW (.slice 82 aF) aD) [(aK aA 5 (.Z 1)),(.Z 22),(.Z 25)]) <|
         .bRX (.bS2 82 aF) (bB (.bRW (.slice 82 aF) aD) [(aK aA 5 (.Z 1)),(.Z 2),(.Z 22)]) <|
         .bRX (.bS2 82 aF) (bB (.bRW (.slice 82 aF) aD) [(aK aA 5 (.Z 1)),(.ci .i64 0),(.Z 2)]) <|
         .bRX (.bS0 82 aF) (aK aA 5 (.Z 1)) <|
         .bRX (.bS2 82 aF) (bB (.bRW (.slice 82 aF) aD) [(aK aA 5 (.Z 1)),(.Z 22),(.Z 29)]) <|
         .bRX (.bS3 82 aF 32) (.bRY (.slice 82 aF) (.slice 82 aF) (.Z 28) (.Z 30)) <|
         .ret (bB aA [(.p1 tI dA (.Z 1)),(aK aA 1 (.Z 1)),(aK aA 2 (.Z 1)),(aK aA 3 (.Z 1)),(aK aA 4 (.Z 1)),(.Z 31),(.nl 119 aB),(aK aA 7 (.Z 1)),(aK aA 8 (.Z 1)),(.nl 3 tI),(aK (.bRW aL (.bRW aB .bool)) 1 (.Z 20)),(.Z 21)])))) (
       .call 5 (.p1 aA aH (.Z 0)) <|
       .call 6 (.Z 14) <|
       .call 7 (.bRY aB tI (aK aA 9 (.Z 1)) (.Z 15)) <|
       .bRX .not (.Z 16) <|
       .ite (.Z 17) (
        .ret (.Z 1)) (
        .call 8 (bB (.bRW aE (.bRW aL aB)) [(aK aA 2 (.p1 aA aH (.Z 0))),(aP aF 1 (.Z 7)),(aK aA 9 (.Z 1))]) <|
        .call 9 (bB (.bRW aX aX) [(aP aA 11 (.Z 1)),(.p1 aL (.bRW aB .bool) (.Z 18)),(.ci .i64 0),(aP (.bRW aL (.bRW aB .bool)) 2 (.Z 18))]) <|
        .bRX (.ar .add .i64) (.bRY tI tI (.Z 2) (.ci .i64 1)) <|
        .bRX (.bS1 82 aF) (.bRY (.slice 82 aF) tI (aK aA 5 (.Z 1)) (.Z 2)) <|
        .bRX (.bS1 82 aF) (.bRY (.slice 82 aF) tI (aK aA 5 (.Z 1)) (.ci .i64 0)) <|
        .bRX (.bS0 82 aF) (aK aA 5 (.Z 1)) <|
        .bRX (.bS2 82 aF) (bB (.bRW (.slice 82 aF) aD) [(aK aA 5 (.Z 1)),(.Z 20),(.Z 23)]) <|
        .bRX (.bS2 82 aF) (bB (.bRW (.slice 82 aF) aD) [(aK aA 5 (.Z 1)),(.Z 2),(.Z 20)]) <|
        .bRX (.bS2 82 aF) (bB (.bRW (.slice 82 aF) aD) [(aK aA 5 (.Z 1)),(.ci .i64 0),(.Z 2)]) <|
        .bRX (.bS0 82 aF) (aK aA 5 (.Z 1)) <|
        .bRX (.bS2 82 aF) (bB (.bRW (.slice 82 aF) aD) [(aK aA 5 (.Z 1)),(.Z 20),(.Z 27)]) <|
        .bRX (.bS3 82 aF 32) (.bRY (.slice 82 aF) (.slice 82 aF) (.Z 26) (.Z 28)) <|
        .ret (bB aA [(.p1 tI dA (.Z 1)),(aK aA 1 (.Z 1)),(aK aA 2 (.Z 1)),(aK aA 3 (.Z 1)),(aK aA 4 (.Z 1)),(.Z 29),(.nl 119 aB),(aK aA 7 (.Z 1)),(aK aA 8 (.Z 1)),(.nl 3 tI),(aK (.bRW aL (.bRW aB .bool)) 1 (.Z 18)),(.Z 19)]))))))))
theorem aUH:bI Tryz.prog [dF,eF,dZ,lX,lI,dY,gG,cB,tQ,nY] oW false 3000 ⟨[],[(2961,164021,[],[15,31]),(2951,420023,[103,108],[]),(2951,292023,[103,108],[]),(2961,132018,[],[15,18]),(2951,132020,[103,108],[]),(2961,160020,[],[31]),(2951,416022,[103,108],[]),(2951,288022,[103,108],[]),(2961,128018,[],[18]),(2951,128020,[103,108],[])]⟩ = .ok zA:=by kernel_rfl
set_option maxHeartbeats 1000000 in
theorem aU3 (x:bC × cP) (hx:okD (.bRW aA aH) x) (hp:(fun x=>bM aA x.1≤1000000000) x):zA.wp [dF,eF,dZ,lX,lI,dY,gG,cB,tQ,nY] [⟨(.bRW aA aH),x⟩] [] (fun v=>v.as aA=(fun x=>xC x.1 x.2.1 x.2.2) x):=by
 obtain ⟨s,m,t⟩:=x
 delta zA dF eF dZ lX lI dY gG cB tQ nY;refine cW ?_
 refine dB ?_
 refine ⟨hp,fun _ _=>⟨fun h=>fK (.inl h),fun h1=>⟨fun h=>fK (.inr (.inl h)),fun h2=>?_⟩⟩⟩
 have hf2:dX s.2.2.2.2.2.1 m<(s.2.2.2.2.2.1.length:Int):=(aD8 s.2.2.2.2.2.1 m s.2.2.2.2.2.1.length).2
 have hm:=(eJ s).1 h1
 have hn8:=(bY _).1 hm.1
 have hst:=(gZ (t:=aA) hp).2.2.2.2.2.1.1
 replace hst:List.length s.2.2.2.2.2.1≤1000000000:=hst
 have hgs:jS s.2.2.2.2.2.2.2.2.2.2.2:=aZE (gZ (t:=aA) hp).2.2.2.2.2.2.2.2.2.2.2
 refine ⟨by omega,fun _=>⟨by omega,fun _=>⟨fun hre=>?_,fun hre=>?_⟩⟩⟩
 ·rw[show s.2.2.2.2.2.2.1=nX s m from (bND hre).symm]
  refine fun _ _=>⟨by omega,fun _=>⟨fun h=>fK (.inr (.inr (.inl (aAI (.inl (by omega)))))),fun hlen=>⟨⟨hm.1,by omega⟩,fun h=>fK (.inr (.inr (.inl (aAI (.inr h))))),fun hrow=>⟨fun hla=>?_,fun hla=>?_⟩⟩⟩⟩
  ·rw[show kZ eP (List.getD (nX s m) s.2.2.1.length (aW aB)) t=iC s m t from (aV2 hla).symm]
   (repeat' first|intro _|(with_reducible apply And.intro))
   all_goals first|omega|(unfold maxLen;omega)|exact fK (.inr (.inr (.inr (by assumption))))|exact ⟨by omega,by omega⟩|exact hgs|exact vU _ _ h1|(simp only[List.length_append,List.length_drop,List.length_take];omega)|(simp only[List.length_append,List.length_drop,List.length_take];unfold maxLen;omega)|skip
   all_goals refine (qD (by omega) ?_).trans (vJ h1 h2 (aBE (by omega) hrow) (by assumption))
   all_goals first|rfl|(rw[iT (by assumption)];done)|(rw[show (iC s m t).2=true by assumption,Bool.true_or];done)|(rw[show (iC s m t).2=false by assumption,Bool.false_or];done)|skip
  ·have hgg:s.2.2.2.2.2.2.2.2.2.1=(iC s m t).1:=aSN hla
   have hg0:(iC s m t).2=false:=aT9 hla
   rw[hgg]
   (repeat' first|intro _|(with_reducible apply And.intro))
   all_goals first|omega|(unfold maxLen;omega)|exact fK (.inr (.inr (.inr (by assumption))))|exact ⟨by omega,by omega⟩|exact hgs|exact vU _ _ h1|(simp only[List.length_append,List.length_drop,List.length_take];omega)|(simp only[List.length_append,List.length_drop,List.length_take];unfold maxLen;omega)|skip
   all_goals refine (qD (by omega) ?_).trans (vJ h1 h2 (aBE (by omega) hrow) (by assumption))
   all_goals first|rfl|(rw[iT (by assumption)];done)|(rw[show (iC s m t).2=true by assumption,Bool.true_or];done)|(rw[show (iC s m t).2=false by assumption,Bool.false_or];done)|skip
 ·rw[show (List.getD s.2.2.2.2.2.1 (dX s.2.2.2.2.2.1 m).toNat (aW aF)).2=nX s m from (bNL hre).symm]
  refine fun _ _=>⟨by omega,fun _=>⟨fun h=>fK (.inr (.inr (.inl (aAI (.inl (by omega)))))),fun hlen=>⟨⟨hm.1,by omega⟩,fun h=>fK (.inr (.inr (.inl (aAI (.inr h))))),fun hrow=>⟨fun hla=>?_,fun hla=>?_⟩⟩⟩⟩
  ·rw[show kZ eP (List.getD (nX s m) s.2.2.1.length (aW aB)) t=iC s m t from (aV2 hla).symm]
   (repeat' first|intro _|(with_reducible apply And.intro))
   all_goals first|omega|(unfold maxLen;omega)|exact fK (.inr (.inr (.inr (by assumption))))|exact ⟨by omega,by omega⟩|exact hgs|exact vU _ _ h1|(simp only[List.length_append,List.length_drop,List.length_take];omega)|(simp only[List.length_append,List.length_drop,List.length_take];unfold maxLen;omega)|skip
   all_goals refine (qD (by omega) ?_).trans (vJ h1 h2 (aBE (by omega) hrow) (by assumption))
   all_goals first|rfl|(rw[iT (by assumption)];done)|(rw[show (iC s m t).2=true by assumption,Bool.true_or];done)|(rw[show (iC s m t).2=false by assumption,Bool.false_or];done)|skip
  ·have hgg:s.2.2.2.2.2.2.2.2.2.1=(iC s m t).1:=aSN hla
   have hg0:(iC s m t).2=false:=aT9 hla
   rw[hgg]
   (repeat' first|intro _|(with_reducible apply And.intro))
   all_goals first|omega|(unfold maxLen;omega)|exact fK (.inr (.inr (.inr (by assumption))))|exact ⟨by omega,by omega⟩|exact hgs|exact vU _ _ h1|(simp only[List.length_append,List.length_drop,List.length_take];omega)|(simp only[List.length_append,List.length_drop,List.length_take];unfold maxLen;omega)|skip
   all_goals refine (qD (by omega) ?_).trans (vJ h1 h2 (aBE (by omega) hrow) (by assumption))
   all_goals first|rfl|(rw[iT (by assumption)];done)|(rw[show (iC s m t).2=true by assumption,Bool.true_or];done)|(rw[show (iC s m t).2=false by assumption,Bool.false_or];done)|skip
set_option maxHeartbeats 1000000 in
theorem aTR:Con.Holds Tryz.prog oW:=aS aV (aI qC (aI wK (aI vA (aI aM2 (aI aOX (aI vV (aI aD9 (aI jR (aI bD9 (aI aU8 aQ)))))))))) aUH aU3
noncomputable def oR:Con:=⟨127,(.bRW aA aH),aA,[.val ⟨true,aA,[]⟩,.val ⟨false,tI,[]⟩,.val ⟨false,aB,[]⟩],[⟨true,aA,[0,0,0,0,0,0,0,0,0,0,0,0,0,0]⟩],true,none,
 ((fun x=>bM aA x.1≤1000000000):(bC × cP)→Prop),
 ((fun x=>xC x.1 x.2.1 x.2.2):(bC × cP)→(bC))⟩
def aAB:T:=.call 0 (.p1 aA aH (.Z 0)) <|.call 1 (.bRY (.slice 82 aF) tI (aK aA 5 (.p1 aA aH (.Z 0))) (aK (.bRW aA aH) 1 (.Z 0))) <|.call 2 (.p1 aA aH (.Z 0)) <|
 .bRX .not (.Z 3) <|
 .ite (.Z 4) (
  .ret (.Z 1)) (
  .bRX (.cmp .lss .i64) (.bRY tI tI (.Z 2) (.ci .i64 0)) <|
  .ite (.Z 5) (
   .ret (.Z 1)) (
   .bRX (.bS1 82 aF) (.bRY (.slice 82 aF) tI (aK aA 5 (.p1 aA aH (.Z 0))) (.Z 2)) <|
   .ite (aK aA 4 (.p1 aA aH (.Z 0))) (
    .bRX (.bS0 119 aB) (aK aA 6 (.p1 aA aH (.Z 0))) <|
    .bRX (.bS0 88 bF) (aK aA 2 (.p1 aA aH (.Z 0))) <|
    .bRX (.ar .add .i64) (.bRY tI tI (.Z 8) (.ci .i64 1)) <|
    .bRX (.cmp .neq .i64) (.bRY tI tI (.Z 7) (.Z 9)) <|
    .ite (.Z 10) (
     .ret (.Z 1)) (
     .loop tI (.ci .i64 0) <|
      .bRX (.bS0 88 bF) (aK aA 2 (.p1 aA aH (.Z 0))) <|
      .bRX (.cmp .lss .i64) (.bRY tI tI (.Z 11) (.Z 12)) <|
      .ite (.Z 13) (
       .bRX (.bS1 119 aB) (.bRY aL tI (aK aA 6 (.p1 aA aH (.Z 0))) (.Z 11)) <|
       .call 3 (.Z 14) <|
       .bRX .not (.Z 15) <|
       .ite (.Z 16) (
        .ret (.Z 1)) (
        .bRX (.bS1 119 aB) (.bRY aL tI (aK aA 6 (.p1 aA aH (.Z 0))) (.Z 11)) <|
        .bRX (.bS0 3 tI) (.Z 17) <|
        .bRX (.bS1 88 bF) (.bRY aE tI (aK aA 2 (.p1 aA aH (.Z 0))) (.Z 11)) <|
        .bRX (.cmp .neq .i64) (.bRY tI tI (.Z 18) (aK bF 1 (.Z 19))) <|
        .ite (.Z 20) (
         .ret (.Z 1)) (
         .bRX (.ar .add .i64) (.bRY tI tI (.Z 11) (.ci .i64 1)) <|
         .bRZ 0 (.Z 21)))) (
       .ite (aK aA 3 (.p1 aA aH (.Z 0))) (
        .bRX (.bS0 88 bF) (aK aA 2 (.p1 aA aH (.Z 0))) <|
        .bRX (.bS1 119 aB) (.bRY aL tI (aK aA 6 (.p1 aA aH (.Z 0))) (.Z 14)) <|
        .call 4 (.bRY aB aB (.Z 15) (aP (.bRW aA aH) 2 (.Z 0))) <|
        .bRX (.bS0 3 tI) (.p1 aB .bool (.Z 16)) <|
        .bRX (.bS0 88 bF) (aK aA 2 (.p1 aA aH (.Z 0))) <|
        .bRX (.ar .sub .i64) (.bRY tI tI (.Z 18) (.ci .i64 1)) <|
        .bRX (.bS1 88 bF) (.bRY aE tI (aK aA 2 (.p1 aA aH (.Z 0))) (.Z 19)) <|
        .bRX (.cmp .neq .i64) (.bRY tI tI (.Z 17) (aK bF 2 (.Z 20))) <|
        .ite (.Z 21) (
         .ret (.Z 1)) (
         .call 3 (.p1 aB .bool (.Z 16)) <|
         .bRX .not (.Z 22) <|
         .ite (.Z 23) (
          .ret (.Z 1)) (
          .call 5 (bB (.bRW aE (.bRW aL aB)) [(aK aA 2 (.p1 aA aH (.Z 0))),(aK aA 6 (.p1 aA aH (.Z 0))),(.p1 aB .bool (.Z 16))]) <|
          .ite (aP (.bRW aB .bool) 1 (.Z 16)) (
           .call 6 (bB (.bRW aX aX) [(aP aA 11 (.p1 aA aH (.Z 0))),(.p1 aL (.bRW aB .bool) (.Z 24)),(.ci .i64 0),(.cb true)]) <|
           .bRX (.ar .add .i64) (.bRY tI tI (.Z 2) (.ci .i64 1)) <|
           .bRX (.bS1 82 aF) (.bRY (.slice 82 aF) tI (aK aA 5 (.Z 1)) (.Z 2)) <|
           .bRX (.bS1 82 aF) (.bRY (.slice 82 aF) tI (aK aA 5 (.Z 1)) (.ci .i64 0)) <|
           .bRX (.bS0 82 aF) (aK aA 5 (.Z 1)) <|
           .bRX (.bS2 82 aF) (bB (.bRW (.slice 82 aF) aD) [(aK aA 5 (.Z 1)),(.Z 26),(.Z 29)]) <|
           .bRX (.bS2 82 aF) (bB (.bRW (.slice 82 aF) aD) [(aK aA 5 (.Z 1)),(.Z 2),(.Z 26)]) <|
           .bRX (.bS2 82 aF) (bB (.bRW (.slice 82 aF) aD) [(aK aA 5 (.Z 1)),(.ci .i64 0),(.Z 2)]) <|
           .bRX (.bS0 82 aF) (aK aA 5 (.Z 1)) <|
           .bRX (.bS2 82 aF) (bB (.bRW (.slice 82 aF) aD) [(aK aA 5 (.Z 1)),(.Z 26),(.Z 33)]) <|
           .bRX (.bS3 82 aF 32) (.bRY (.slice 82 aF) (.slice 82 aF) (.Z 32) (.Z 34)) <|
           .ret (bB aA [(.p1 tI dA (.Z 1)),(aK aA 1 (.Z 1)),(aK aA 2 (.Z 1)),(aK aA 3 (.Z 1)),(aK aA 4 (.Z 1)),(.Z 35),(.nl 119 aB),(aK aA 7 (.Z 1)),(aK aA 8 (.Z 1)),(.nl 3 tI),(aK (.bRW aL (.bRW aB .bool)) 1 (.Z 24)),(.Z 25)])) (
           .call 6 (bB (.bRW aX aX) [(aP aA 11 (.p1 aA aH (.Z 0))),(.p1 aL (.bRW aB .bool) (.Z 24)),(.ci .i64 0),(aP (.bRW aL (.bRW aB .bool)) 2 (.Z 24))]) <|
           .bRX (.ar .add .i64) (.bRY tI tI (.Z 2) (.ci .i64 1)) <|
           .bRX (.bS1 82 aF) (.bRY (.slice 82 aF) tI (aK aA 5 (.Z 1)) (.Z 2)) <|
           .bRX (.bS1 82 aF) (.bRY (.slice 82 aF) tI (aK aA 5 (.Z 1)) (.ci .i64 0)) <|
           .bRX (.bS0 82 aF) (aK aA 5 (.Z 1)) <|
           .bRX (.bS2 82 aF) (bB (.bRW (.slice 82 aF) aD) [(aK aA 5 (.Z 1)),(.Z 26),(.Z 29)]) <|
           .bRX (.bS2 82 aF) (bB (.bRW (.slice 82 aF) aD) [(aK aA 5 (.Z 1)),(.Z 2),(.Z 26)]) <|
           .bRX (.bS2 82 aF) (bB (.bRW (.slice 82 aF) aD) [(aK aA 5 (.Z 1)),(.ci .i64 0),(.Z 2)]) <|
           .bRX (.bS0 82 aF) (aK aA 5 (.Z 1)) <|
           .bRX (.bS2 82 aF) (bB (.bRW (.slice 82 aF) aD) [(aK aA 5 (.Z 1)),(.Z 26),(.Z 33)]) <|
           .bRX (.bS3 82 aF 32) (.bRY (.slice 82 aF) (.slice 82 aF) (.Z 32) (.Z 34)) <|
           .ret (bB aA [(.p1 tI dA (.Z 1)),(aK aA 1 (.Z 1)),(aK aA 2 (.Z 1)),(aK aA 3 (.Z 1)),(aK aA 4 (.Z 1)),(.Z 35),(.nl 119 aB),(aK aA 7 (.Z 1)),(aK aA 8 (.Z 1)),(.nl 3 tI),(aK (.bRW aL (.bRW aB .bool)) 1 (.Z 24)),(.Z 25)]))))) (
        .bRX (.bS0 3 tI) (aK aA 9 (.p1 aA aH (.Z 0))) <|
        .bRX (.bS0 88 bF) (aK aA 2 (.p1 aA aH (.Z 0))) <|
        .bRX (.ar .sub .i64) (.bRY tI tI (.Z 15) (.ci .i64 1)) <|
        .bRX (.bS1 88 bF) (.bRY aE tI (aK aA 2 (.p1 aA aH (.Z 0))) (.Z 16)) <|
        .bRX (.cmp .neq .i64) (.bRY tI tI (.Z 14) (aK bF 2 (.Z 17))) <|
        .ite (.Z 18) (
         .ret (.Z 1)) (
         .call 3 (aK aA 9 (.p1 aA aH (.Z 0))) <|
         .bRX .not (.Z 19) <|
         .ite (.Z 20) (
          .ret (.Z 1)) (
          .call 5 (bB (.bRW aE (.bRW aL aB)) [(aK aA 2 (.p1 aA aH (.Z 0))),(aK aA 6 (.p1 aA aH (.Z 0))),(aK aA 9 (.p1 aA aH (.Z 0)))]) <|
          .call 6 (bB (.bRW aX aX) [(aP aA 11 (.p1 aA aH (.Z 0))),(.p1 aL (.bRW aB .bool) (.Z 21)),(.ci .i64 0),(aP (.bRW aL (.bRW aB .bool)) 2 (.Z 21))]) <|
          .bRX (.ar .add .i64) (.bRY tI tI (.Z 2) (.ci .i64 1)) <|
          .bRX (.bS1 82 aF) (.bRY (.slice 82 aF) tI (aK aA 5 (.Z 1)) (.Z 2)) <|
          .bRX (.bS1 82 aF) (.bRY (.slice 82 aF) tI (aK aA 5 (.Z 1)) (.ci .i64 0)) <|
          .bRX (.bS0 82 aF) (aK aA 5 (.Z 1)) <|
          .bRX (.bS2 82 aF) (bB (.bRW (.slice 82 aF) aD) [(aK aA 5 (.Z 1)),(.Z 23),(.Z 26)]) <|
          .bRX (.bS2 82 aF) (bB (.bRW (.slice 82 aF) aD) [(aK aA 5 (.Z 1)),(.Z 2),(.Z 23)]) <|
          .bRX (.bS2 82 aF) (bB (.bRW (.slice 82 aF) aD) [(aK aA 5 (.Z 1)),(.ci .i64 0),(.Z 2)]) <|
          .bRX (.bS0 82 aF) (aK aA 5 (.Z 1)) <|
          .bRX (.bS2 82 aF) (bB (.bRW (.slice 82 aF) aD) [(aK aA 5 (.Z 1)),(.Z 23),(.Z 30)]) <|
          .bRX (.bS3 82 aF 32) (.bRY (.slice 82 aF) (.slice 82 aF) (.Z 29) (.Z 31)) <|
          .ret (bB aA [(.p1 tI dA (.Z 1)),(aK aA 1 (.Z 1)),(aK aA 2 (.Z 1)),(aK aA 3 (.Z 1)),(aK aA 4 (.Z 1)),(.Z 32),(.nl 119 aB),(aK aA 7 (.Z 1)),(aK aA 8 (.Z 1)),(.nl 3 tI),(aK (.bRW aL (.bRW aB .bool)) 1 (.Z 21)),(.Z 22)]))))))) (
    .bRX (.bS0 119 aB) (aP aF 1 (.Z 6)) <|
    .bRX (.bS0 88 bF) (aK aA 2 (.p1 aA aH (.Z 0))) <|
    .bRX (.ar .add .i64) (.bRY tI tI (.Z 8) (.ci .i64 1)) <|
    .bRX (.cmp .neq .i64) (.bRY tI tI (.Z 7) (.Z 9)) <|
    .ite (.Z 10) (
     .ret (.Z 1)) (
     .loop tI (.ci .i64 0) <|
      .bRX (.bS0 88 bF) (aK aA 2 (.p1 aA aH (.Z 0))) <|
      .bRX (.cmp .lss .i64) (.bRY tI tI (.Z 11) (.Z 12)) <|
      .ite (.Z 13) (
       .bRX (.bS1 119 aB) (.bRY aL tI (aP aF 1 (.Z 6)) (.Z 11)) <|
       .call 3 (.Z 14) <|
       .bRX .not (.Z 15) <|
       .ite (.Z 16) (
        .ret (.Z 1)) (
        .bRX (.bS1 119 aB) (.bRY aL tI (aP aF 1 (.Z 6)) (.Z 11)) <|
        .bRX (.bS0 3 tI) (.Z 17) <|
        .bRX (.bS1 88 bF) (.bRY aE tI (aK aA 2 (.p1 aA aH (.Z 0))) (.Z 11)) <|
        .bRX (.cmp .neq .i64) (.bRY tI tI (.Z 18) (aK bF 1 (.Z 19))) <|
        .ite (.Z 20) (
         .ret (.Z 1)) (
         .bRX (.ar .add .i64) (.bRY tI tI (.Z 11) (.ci .i64 1)) <|
         .bRZ 0 (.Z 21)))) (
       .ite (aK aA 3 (.p1 aA aH (.Z 0))) (
        .bRX (.bS0 88 bF) (aK aA 2 (.p1 aA aH (.Z 0))) <|
        .bRX (.bS1 119 aB) (.bRY aL tI (aP aF 1 (.Z 6)) (.Z 14)) <|
        .call 4 (.bRY aB aB (.Z 15) (aP (.bRW aA aH) 2 (.Z 0))) <|
        .bRX (.bS0 3 tI) (.p1 aB .bool (.Z 16)) <|
        .bRX (.bS0 88 bF) (aK aA 2 (.p1 aA aH (.Z 0))) <|
        .bRX (.ar .sub .i64) (.bRY tI tI (.Z 18) (.ci .i64 1)) <|
        .bRX (.bS1 88 bF) (.bRY aE tI (aK aA 2 (.p1 aA aH (.Z 0))) (.Z 19)) <|
        .bRX (.cmp .neq .i64) (.bRY tI tI (.Z 17) (aK bF 2 (.Z 20))) <|
        .ite (.Z 21) (
         .ret (.Z 1)) (
         .call 3 (.p1 aB .bool (.Z 16)) <|
         .bRX .not (.Z 22) <|
         .ite (.Z 23) (
          .ret (.Z 1)) (
          .call 5 (bB (.bRW aE (.bRW aL aB)) [(aK aA 2 (.p1 aA aH (.Z 0))),(aP aF 1 (.Z 6)),(.p1 aB .bool (.Z 16))]) <|
          .ite (aP (.bRW aB .bool) 1 (.Z 16)) (
           .call 6 (bB (.bRW aX aX) [(aP aA 11 (.p1 aA aH (.Z 0))),(.p1 aL (.bRW aB .bool) (.Z 24)),(.ci .i64 0),(.cb true)]) <|
           .bRX (.ar .add .i64) (.bRY tI tI (.Z 2) (.ci .i64 1)) <|
           .bRX (.bS1 82 aF) (.bRY (.slice 82 aF) tI (aK aA 5 (.Z 1)) (.Z 2)) <|
           .bRX (.bS1 82 aF) (.bRY (.slice 82 aF) tI (aK aA 5 (.Z 1)) (.ci .i64 0)) <|
           .bRX (.bS0 82 aF) (aK aA 5 (.Z 1)) <|
           .bRX (.bS2 82 aF) (bB (.bRW (.slice 82 aF) aD) [(aK aA 5 (.Z 1)),(.Z 26),(.Z 29)]) <|
           .bRX (.bS2 82 aF) (bB (.bRW (.slice 82 aF) aD) [(aK aA 5 (.Z 1)),(.Z 2),(.Z 26)]) <|
           .bRX (.bS2 82 aF) (bB (.bRW (.slice 82 aF) aD) [(aK aA 5 (.Z 1)),(.ci .i64 0),(.Z 2)]) <|
           .bRX (.bS0 82 aF) (aK aA 5 (.Z 1)) <|
           .bRX (.bS2 82 aF) (bB (.bRW (.slice 82 aF) aD) [(aK aA 5 (.Z 1)),(.Z 26),(.Z 33)]) <|
           .bRX (.bS3 82 aF 32) (.bRY (.slice 82 aF) (.slice 82 aF) (.Z 32) (.Z 34)) <|
           .ret (bB aA [(.p1 tI dA (.Z 1)),(aK aA 1 (.Z 1)),(aK aA 2 (.Z 1)),(aK aA 3 (.Z 1)),(aK aA 4 (.Z 1)),(.Z 35),(.nl 119 aB),(aK aA 7 (.Z 1)),(aK aA 8 (.Z 1)),(.nl 3 tI),(aK (.bRW aL (.bRW aB .bool)) 1 (.Z 24)),(.Z 25)])) (
           .call 6 (bB (.bRW aX aX) [(aP aA 11 (.p1 aA aH (.Z 0))),(.p1 aL (.bRW aB .bool) (.Z 24)),(.ci .i64 0),(aP (.bRW aL (.bRW aB .bool)) 2 (.Z 24))]) <|
           .bRX (.ar .add .i64) (.bRY tI tI (.Z 2) (.ci .i64 1)) <|
           .bRX (.bS1 82 aF) (.bRY (.slice 82 aF) tI (aK aA 5 (.Z 1)) (.Z 2)) <|
           .bRX (.bS1 82 aF) (.bRY (.slice 82 aF) tI (aK aA 5 (.Z 1)) (.ci .i64 0)) <|
           .bRX (.bS0 82 aF) (aK aA 5 (.Z 1)) <|
           .bRX (.bS2 82 aF) (bB (.bRW (.slice 82 aF) aD) [(aK aA 5 (.Z 1)),(.Z 26),(.Z 29)]) <|
           .bRX (.bS2 82 aF) (bB (.bRW (.slice 82 aF) aD) [(aK aA 5 (.Z 1)),(.Z 2),(.Z 26)]) <|
           .bRX (.bS2 82 aF) (bB (.bRW (.slice 82 aF) aD) [(aK aA 5 (.Z 1)),(.ci .i64 0),(.Z 2)]) <|
           .bRX (.bS0 82 aF) (aK aA 5 (.Z 1)) <|
           .bRX (.bS2 82 aF) (bB (.bRW (.slice 82 aF) aD) [(aK aA 5 (.Z 1)),(.Z 26),(.Z 33)]) <|
           .bRX (.bS3 82 aF 32) (.bRY (.slice 82 aF) (.slice 82 aF) (.Z 32) (.Z 34)) <|
           .ret (bB aA [(.p1 tI dA (.Z 1)),(aK aA 1 (.Z 1)),(aK aA 2 (.Z 1)),(aK aA 3 (.Z 1)),(aK aA 4 (.Z 1)),(.Z 35),(.nl 119 aB),(aK aA 7 (.Z 1)),(aK aA 8 (.Z 1)),(.nl 3 tI),(aK (.bRW aL (.bRW aB .bool)) 1 (.Z 24)),(.Z 25)]))))) (
        .bRX (.bS0 3 tI) (aK aA 9 (.p1 aA aH (.Z 0))) <|
        .bRX (.bS0 88 bF) (aK aA 2 (.p1 aA aH (.Z 0))) <|
        .bRX (.ar .sub .i64) (.bRY tI tI (.Z 15) (.ci .i64 1)) <|
        .bRX (.bS1 88 bF) (.bRY aE tI (aK aA 2 (.p1 aA aH (.Z 0))) (.Z 16)) <|
        .bRX (.cmp .neq .i64) (.bRY tI tI (.Z 14) (aK bF 2 (.Z 17))) <|
        .ite (.Z 18) (
         .ret (.Z 1)) (
         .call 3 (aK aA 9 (.p1 aA aH (.Z 0))) <|
         .bRX .not (.Z 19) <|
         .ite (.Z 20) (
          .ret (.Z 1)) (
          .call 5 (bB (.bRW aE (.bRW aL aB)) [(aK aA 2 (.p1 aA aH (.Z 0))),(aP aF 1 (.Z 6)),(aK aA 9 (.p1 aA aH (.Z 0)))]) <|
          .call 6 (bB (.bRW aX aX) [(aP aA 11 (.p1 aA aH (.Z 0))),(.p1 aL (.bRW aB .bool) (.Z 21)),(.ci .i64 0),(aP (.bRW aL (.bRW aB .bool)) 2 (.Z 21))]) <|
          .bRX (.ar .add .i64) (.bRY tI tI (.Z 2) (.ci .i64 1)) <|
          .bRX (.bS1 82 aF) (.bRY (.slice 82 aF) tI (aK aA 5 (.Z 1)) (.Z 2)) <|
          .bRX (.bS1 82 aF) (.bRY (.slice 82 aF) tI (aK aA 5 (.Z 1)) (.ci .i64 0)) <|
          .bRX (.bS0 82 aF) (aK aA 5 (.Z 1)) <|
          .bRX (.bS2 82 aF) (bB (.bRW (.slice 82 aF) aD) [(aK aA 5 (.Z 1)),(.Z 23),(.Z 26)]) <|
          .bRX (.bS2 82 aF) (bB (.bRW (.slice 82 aF) aD) [(aK aA 5 (.Z 1)),(.Z 2),(.Z 23)]) <|
          .bRX (.bS2 82 aF) (bB (.bRW (.slice 82 aF) aD) [(aK aA 5 (.Z 1)),(.ci .i64 0),(.Z 2)]) <|
          .bRX (.bS0 82 aF) (aK aA 5 (.Z 1)) <|
          .bRX (.bS2 82 aF) (bB (.bRW (.slice 82 aF) aD) [(aK aA 5 (.Z 1)),(.Z 23),(.Z 30)]) <|
          .bRX (.bS3 82 aF 32) (.bRY (.slice 82 aF) (.slice 82 aF) (.Z 29) (.Z 31)) <|
          .ret (bB aA [(.p1 tI dA (.Z 1)),(aK aA 1 (.Z 1)),(aK aA 2 (.Z 1)),(aK aA 3 (.Z 1)),(aK aA 4 (.Z 1)),(.Z 32),(.nl 119 aB),(aK aA 7 (.Z 1)),(aK aA 8 (.Z 1)),(.nl 3 tI),(aK (.bRW aL (.bRW aB .bool)) 1 (.Z 21)),(.Z 22)])))))))))
theorem aTK:bI Tryz.prog [eA,eE,eB,bN,lA,sR,oF] oR false 3000 ⟨[(2968,20011,gQ 51 33++gQ 31 19++[.dr 0,.dr 1,.tm 12 0]),(2968,16011,gQ 51 43++gQ 40 33++gQ 31 19++[.dr 0,.dr 1,.tm 12 0])],[(2947,292024,[],[31]),(2935,804026,[146,151],[]),(2935,548026,[146,151],[]),(2939,260023,[146,151],[]),(2947,288024,[],[31]),(2935,800026,[146,151],[]),(2935,544026,[146,151],[]),(2939,256023,[146,151],[])]⟩ = .ok aAB:=by kernel_rfl
set_option maxHeartbeats 1000000 in
theorem aTE (x:bC × cP) (hx:okD (.bRW aA aH) x) (hp:(fun x=>bM aA x.1≤1000000000) x):aAB.wp [eA,eE,eB,bN,lA,sR,oF] [⟨(.bRW aA aH),x⟩] [] (fun v=>v.as aA=(fun x=>xC x.1 x.2.1 x.2.2) x):=by
 obtain ⟨s,m,t⟩:=x
 delta aAB eA eE eB bN lA sR oF;refine cW ?_
 refine dB ?_
 refine ⟨hp,fun _ _=>⟨fun h=>fK (.inl h),fun h1=>⟨fun h=>fK (.inr (.inl h)),fun h2=>?_⟩⟩⟩
 have hf2:dX s.2.2.2.2.2.1 m<(s.2.2.2.2.2.1.length:Int):=(aD8 s.2.2.2.2.2.1 m s.2.2.2.2.2.1.length).2
 have hm:=(eJ s).1 h1
 have hn8:=(bY _).1 hm.1
 have hou:(List.getD s.2.2.1 (s.2.2.1.length - 1) (aW bF)).2.2.1=fH s.2.2.1:=by unfold fH;rw[if_pos hm.1];rfl
 have hst:=(gZ (t:=aA) hp).2.2.2.2.2.1.1
 replace hst:List.length s.2.2.2.2.2.1≤1000000000:=hst
 have hgs:jS s.2.2.2.2.2.2.2.2.2.2.2:=aZE (gZ (t:=aA) hp).2.2.2.2.2.2.2.2.2.2.2
 refine ⟨by omega,fun _=>⟨fun hre=>?_,fun hre=>?_⟩⟩
 ·rw[show s.2.2.2.2.2.2.1=nX s m from (bND hre).symm]
  refine fun _ _=>⟨by omega,fun _=>⟨fun h=>fK (.inr (.inr (.inl (aAI (.inl (by omega)))))),fun hlen=>?_⟩⟩
  refine pA (fun k=>(k:Int)) (fun k=>∀ i,i<k→eQ (List.getD (nX s m) i []) (gB s.2.2.1 i)=true) s.2.2.1.length rfl (fun i hi=>absurd hi (Nat.not_lt_zero _)) fun I μ k hk hG _ go=>?_
  try dsimp only
  refine dB ?_
  intro _
  constructor
  ·intro hlt
   have hk':k<s.2.2.1.length:=by omega
   have esz:gB s.2.2.1 k=(List.getD s.2.2.1 k (aW bF)).2.1:=if_pos hk'
   have bad:¬ eQ (List.getD (nX s m) k []) (gB s.2.2.1 k)=true→s=xC s m t:=fun h=>fK (.inr (.inr (.inl (aAI (.inr (Bool.eq_false_iff.2 fun hh=>h ((nI _ _ _).1 hh k hk')))))))
   rw[cI,esz] at bad
   (repeat' first|intro _|(refine go _ ?_ ?_ ?_)|(refine go _ ?_ ?_)|(with_reducible apply And.intro))
   all_goals first|omega|exact bad (fun h=>Bool.noConfusion (h.1.symm.trans (by assumption:_=false)))|exact bad (fun h=>absurd h.2 (by assumption))|exact vS hG ((cI _ _).2 ⟨by assumption,by rw[esz];assumption⟩) _ (by assumption)|rfl|skip
  ·intro hge
   have hk':k=s.2.2.1.length:=by omega
   subst hk'
   have hrow:rL s.2.2.1 (nX s m) s.2.2.1.length=true:=(nI _ _ _).2 hG
   clear go hG
   refine ⟨fun hla=>?_,fun hla=>?_⟩
   ·rw[show kZ eP (List.getD (nX s m) s.2.2.1.length (aW aB)) t=iC s m t from (aV2 hla).symm]
    (repeat' first|intro _|(with_reducible apply And.intro))
    all_goals first|omega|exact fK (.inr (.inr (.inr (Bool.eq_false_iff.2 fun h=>absurd ((cI _ _).1 h).2 (by first|assumption|(rw[← hou];assumption))))))|exact fK (.inr (.inr (.inr (aC6 (by assumption)).symm)))|exact ⟨hn8.2.1,by omega⟩|(unfold maxLen;omega)|exact fK (.inr (.inr (.inr (by assumption))))|exact ⟨by omega,by omega⟩|exact hgs|exact vU _ _ h1|(simp only[List.length_append,List.length_drop,List.length_take];omega)|(simp only[List.length_append,List.length_drop,List.length_take];unfold maxLen;omega)|skip
    all_goals refine (qD (by omega) ?_).trans (vJ h1 h2 (aBE (by omega) hrow) ((cI _ _).2 ⟨by assumption,by rw[← hou];assumption⟩))
    all_goals first|rfl|(rw[iT (by assumption)];done)|(rw[show (iC s m t).2=true by assumption,Bool.true_or];done)|(rw[show (iC s m t).2=false by assumption,Bool.false_or];done)|skip
   ·have hgg:s.2.2.2.2.2.2.2.2.2.1=(iC s m t).1:=aSN hla
    have hg0:(iC s m t).2=false:=aT9 hla
    rw[hgg]
    (repeat' first|intro _|(with_reducible apply And.intro))
    all_goals first|omega|exact fK (.inr (.inr (.inr (Bool.eq_false_iff.2 fun h=>absurd ((cI _ _).1 h).2 (by first|assumption|(rw[← hou];assumption))))))|exact fK (.inr (.inr (.inr (aC6 (by assumption)).symm)))|exact ⟨hn8.2.1,by omega⟩|(unfold maxLen;omega)|exact fK (.inr (.inr (.inr (by assumption))))|exact ⟨by omega,by omega⟩|exact hgs|exact vU _ _ h1|(simp only[List.length_append,List.length_drop,List.length_take];omega)|(simp only[List.length_append,List.length_drop,List.length_take];unfold maxLen;omega)|skip
    all_goals refine (qD (by omega) ?_).trans (vJ h1 h2 (aBE (by omega) hrow) ((cI _ _).2 ⟨by assumption,by rw[← hou];assumption⟩))
    all_goals first|rfl|(rw[iT (by assumption)];done)|(rw[show (iC s m t).2=true by assumption,Bool.true_or];done)|(rw[show (iC s m t).2=false by assumption,Bool.false_or];done)|skip
 ·rw[show (List.getD s.2.2.2.2.2.1 (dX s.2.2.2.2.2.1 m).toNat (aW aF)).2=nX s m from (bNL hre).symm]
  refine fun _ _=>⟨by omega,fun _=>⟨fun h=>fK (.inr (.inr (.inl (aAI (.inl (by omega)))))),fun hlen=>?_⟩⟩
  refine pA (fun k=>(k:Int)) (fun k=>∀ i,i<k→eQ (List.getD (nX s m) i []) (gB s.2.2.1 i)=true) s.2.2.1.length rfl (fun i hi=>absurd hi (Nat.not_lt_zero _)) fun I μ k hk hG _ go=>?_
  try dsimp only
  refine dB ?_
  intro _
  constructor
  ·intro hlt
   have hk':k<s.2.2.1.length:=by omega
   have esz:gB s.2.2.1 k=(List.getD s.2.2.1 k (aW bF)).2.1:=if_pos hk'
   have bad:¬ eQ (List.getD (nX s m) k []) (gB s.2.2.1 k)=true→s=xC s m t:=fun h=>fK (.inr (.inr (.inl (aAI (.inr (Bool.eq_false_iff.2 fun hh=>h ((nI _ _ _).1 hh k hk')))))))
   rw[cI,esz] at bad
   (repeat' first|intro _|(refine go _ ?_ ?_ ?_)|(refine go _ ?_ ?_)|(with_reducible apply And.intro))
   all_goals first|omega|exact bad (fun h=>Bool.noConfusion (h.1.symm.trans (by assumption:_=false)))|exact bad (fun h=>absurd h.2 (by assumption))|exact vS hG ((cI _ _).2 ⟨by assumption,by rw[esz];assumption⟩) _ (by assumption)|rfl|skip
  ·intro hge
   have hk':k=s.2.2.1.length:=by omega
   subst hk'
   have hrow:rL s.2.2.1 (nX s m) s.2.2.1.length=true:=(nI _ _ _).2 hG
   clear go hG
   refine ⟨fun hla=>?_,fun hla=>?_⟩
   ·rw[show kZ eP (List.getD (nX s m) s.2.2.1.length (aW aB)) t=iC s m t from (aV2 hla).symm]
    (repeat' first|intro _|(with_reducible apply And.intro))
    all_goals first|omega|exact fK (.inr (.inr (.inr (Bool.eq_false_iff.2 fun h=>absurd ((cI _ _).1 h).2 (by first|assumption|(rw[← hou];assumption))))))|exact fK (.inr (.inr (.inr (aC6 (by assumption)).symm)))|exact ⟨hn8.2.1,by omega⟩|(unfold maxLen;omega)|exact fK (.inr (.inr (.inr (by assumption))))|exact ⟨by omega,by omega⟩|exact hgs|exact vU _ _ h1|(simp only[List.length_append,List.length_drop,List.length_take];omega)|(simp only[List.length_append,List.length_drop,List.length_take];unfold maxLen;omega)|skip
    all_goals refine (qD (by omega) ?_).trans (vJ h1 h2 (aBE (by omega) hrow) ((cI _ _).2 ⟨by assumption,by rw[← hou];assumption⟩))
    all_goals first|rfl|(rw[iT (by assumption)];done)|(rw[show (iC s m t).2=true by assumption,Bool.true_or];done)|(rw[show (iC s m t).2=false by assumption,Bool.false_or];done)|skip
   ·have hgg:s.2.2.2.2.2.2.2.2.2.1=(iC s m t).1:=aSN hla
    have hg0:(iC s m t).2=false:=aT9 hla
    rw[hgg]
    (repeat' first|intro _|(with_reducible apply And.intro))
    all_goals first|omega|exact fK (.inr (.inr (.inr (Bool.eq_false_iff.2 fun h=>absurd ((cI _ _).1 h).2 (by first|assumption|(rw[← hou];assumption))))))|exact fK (.inr (.inr (.inr (aC6 (by assumption)).symm)))|exact ⟨hn8.2.1,by omega⟩|(unfold maxLen;omega)|exact fK (.inr (.inr (.inr (by assumption))))|exact ⟨by omega,by omega⟩|exact hgs|exact vU _ _ h1|(simp only[List.length_append,List.length_drop,List.length_take];omega)|(simp only[List.length_append,List.length_drop,List.length_take];unfold maxLen;omega)|skip
    all_goals refine (qD (by omega) ?_).trans (vJ h1 h2 (aBE (by omega) hrow) ((cI _ _).2 ⟨by assumption,by rw[← hou];assumption⟩))
    all_goals first|rfl|(rw[iT (by assumption)];done)|(rw[show (iC s m t).2=true by assumption,Bool.true_or];done)|(rw[show (iC s m t).2=false by assumption,Bool.false_or];done)|skip
set_option maxHeartbeats 1000000 in
theorem aV7:Con.Holds Tryz.prog oR:=aS aV (aI vT (aI wO (aI vC (aI fD (aI aNG (aI bAP (aI aUC aQ))))))) aTK aTE
end Go.Proofs.YtabamggdmdednaaGreat
