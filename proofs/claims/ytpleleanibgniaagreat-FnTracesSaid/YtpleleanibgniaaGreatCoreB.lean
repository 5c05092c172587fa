/- CoreB: lemmas. No conditions. -/
import Derived.Test.YtpleleanibgniaaGreatCore7
namespace Go.Proofs.YtpleleanibgniaaGreat
open Go.ChangeShapes Go.WideShapes Go.ChangeAt Go.RowKit Go.Deep
set_option linter.unusedVariables false
set_option linter.unusedSimpArgs false
theorem sD {s:bC} {m:Int} {t:List Int} (h:hZ s=false∨eG s.2.2.2.2.2.1 m<0∨aIQ s.2.2.1 (tH s m)=false∨gC (jU s m t).1 (fI s.2.2.1)=false):s=uT s m t:=by
 unfold uT;rw[if_neg]
 unfold aWS
 simp only[Bool.and_eq_true,decide_eq_true_eq]
 rintro ⟨h1,h2,h3,h4⟩
 rcases h with h|h|h|h
 ·rw[h] at h1;cases h1
 ·omega
 ·rw[h] at h3;cases h3
 ·rw[h] at h4;cases h4
theorem aFQ {s:bC} {m:Int} {t:List Int} (h1:hZ s=true) (h2:0≤eG s.2.2.2.2.2.1 m) (h3:aIQ s.2.2.1 (tH s m)=true) (h4:gC (jU s m t).1 (fI s.2.2.1)=true):bFQ s m t=uT s m t:=by
 unfold uT;rw[if_pos]
 unfold aWS
 simp only[Bool.and_eq_true,decide_eq_true_eq]
 exact ⟨h1,h2,h3,h4⟩
theorem bHC {s:bC} {m:Int} (h:s.2.2.2.2.1=true):tH s m=s.2.2.2.2.2.2.1:=if_pos h
theorem bHW {s:bC} {m:Int} (h:s.2.2.2.2.1=false):tH s m=(s.2.2.2.2.2.1.getD (eG s.2.2.2.2.2.1 m).toNat (aS aM)).2:=if_neg (by rw[h];simp)
theorem bAU {s:bC} {m:Int} {t:List Int} (h:s.2.2.2.1=true):jU s m t=qG kN (List.getD (tH s m) s.2.2.1.length (aS aB)) t:=if_pos h
theorem bD1 {s:bC} {m:Int} {t:List Int} (h:s.2.2.2.1=false):s.2.2.2.2.2.2.2.2.2.1=(jU s m t).1:=by unfold jU;rw[if_neg (by rw[h];simp)]
theorem bC8 {s:bC} {m:Int} {t:List Int} (h:s.2.2.2.1=false):(jU s m t).2=false:=by unfold jU;rw[if_neg (by rw[h];simp)]
theorem aMU {m:List dE} {r:dT} (h:¬ r.length=m.length+1∨rY m r m.length=false):aIQ m r=false:=by
 unfold aIQ
 rcases h with h|h
 ·rw[decide_eq_false h];rfl
 ·rw[h,Bool.and_false]
theorem aNE {m:List dE} {r:dT} (h:r.length=m.length+1) (h2:rY m r m.length=true):aIQ m r=true:=by
 unfold aIQ;rw[decide_eq_true h,h2];rfl
theorem aFX {s:bC} {r:dT} {d:List Int} (l:Int) (b:Bool) (h:hZ s=true):mD ((tL s.2.2.1 r d).1,l,b):=by
 have hm:=((bR _).1 ((fY s).1 h).1).2.1
 refine ⟨?_,fun y hy=>Nat.le_trans (aI9 _ _ _ _ _ y hy) (by decide)⟩
 show (gO _ _ _ _ _).1.length≤1000000000
 rw[aE3];omega
theorem aCM {s:bC} {m:Int} {t:List Int} {g:gK} (h:0≤eG s.2.2.2.2.2.1 m) (e:g=lI s.2.2.2.2.2.2.2.2.2.2.2 ((tL s.2.2.1 (tH s m) (jU s m t).1).1,0,(jU s m t).2 || (tL s.2.2.1 (tH s m) (jU s m t).1).2.2)) :
  (s.1,s.2.1,s.2.2.1,s.2.2.2.1,s.2.2.2.2.1,List.drop 0 (List.take (eG s.2.2.2.2.2.1 m).toNat s.2.2.2.2.2.1)++List.drop (eG s.2.2.2.2.2.1 m+1).toNat (List.take (List.length s.2.2.2.2.2.1) s.2.2.2.2.2.1),([]:dT),s.2.2.2.2.2.2.2.1,s.2.2.2.2.2.2.2.2.1,([]:List Int),(tL s.2.2.1 (tH s m) (jU s m t).1).2.1,g)=bFQ s m t:=by
 rw[List.take_length,show (eG s.2.2.2.2.2.1 m+1).toNat=(eG s.2.2.2.2.2.1 m).toNat+1 by omega,e];rfl
noncomputable def lT:Con:=⟨59,(.bJ2 aA aI),aA,[.val ⟨true,aA,[]⟩,.val ⟨false,tI,[]⟩,.val ⟨false,aB,[]⟩],[⟨true,aA,[0,1,1,0,0,1,1,1,1,1,1,1,0,0]⟩],false,none,
 ((fun x=>bW aA x.1≤1000000000):(bC × dW)→Prop),
 ((fun x=>uT x.1 x.2.1 x.2.2):(bC × dW)→(bC))⟩
def vG:T:=.call 0 (.p1 aA aI (.Z 0)) <|.call 1 (.bJ4 (.slice 133 aM) tI (aJ aA 5 (.p1 aA aI (.Z 0))) (aJ (.bJ2 aA aI) 1 (.Z 0))) <|.call 2 (.p1 aA aI (.Z 0)) <|
 .bJ3 .not (.Z 3) <|
 .ite (.Z 4) (
  .ret (.Z 1)) (
  .bJ3 (.cmp .lss .i64) (.bJ4 tI tI (.Z 2) (.ci .i64 0)) <|
  .ite (.Z 5) (
   .ret (.Z 1)) (
   .bJ3 (.bJ7 133 aM) (.bJ4 (.slice 133 aM) tI (aJ aA 5 (.Z 1)) (.Z 2)) <|
   .bJ3 (.bJ7 133 aM) (.bJ4 (.slice 133 aM) tI (aJ aA 5 (.Z 1)) (.Z 2)) <|
   .ite (aJ aA 4 (.p1 aA aI (.Z 0))) (
    .bJ3 (.bJ6 93 bN) (aJ aA 2 (.p1 aA aI (.Z 0))) <|
    .bJ3 (.bJ6 124 aB) (aJ aA 6 (.Z 1)) <|
    .bJ3 (.ar .add .i64) (.bJ4 tI tI (.Z 8) (.ci .i64 1)) <|
    .bJ3 (.cmp .neq .i64) (.bJ4 tI tI (.Z 9) (.Z 10)) <|
    .ite (.Z 11) (
     .ret (.Z 1)) (
     .call 3 (bJ (.bJ2 aD (.bJ2 aP tI)) [(aJ aA 2 (.p1 aA aI (.Z 0))),(aJ aA 6 (.Z 1)),(.Z 8)]) <|
     .bJ3 .not (.Z 12) <|
     .ite (.Z 13) (
      .ret (.Z 1)) (
      .ite (aJ aA 3 (.p1 aA aI (.Z 0))) (
       .bJ3 (.bJ7 124 aB) (.bJ4 aP tI (aJ aA 6 (.Z 1)) (.Z 8)) <|
       .bJ3 (.bJ7 124 aB) (.bJ4 aP tI (aJ aA 6 (.Z 1)) (.Z 8)) <|
       .call 4 (.bJ4 aB aB (.Z 15) (aR (.bJ2 aA aI) 2 (.Z 0))) <|
       .call 5 (.p1 aA aI (.Z 0)) <|
       .call 6 (.Z 17) <|
       .call 7 (.bJ4 aB tI (.p1 aB .bool (.Z 16)) (.Z 18)) <|
       .bJ3 .not (.Z 19) <|
       .ite (.Z 20) (
        .ret (.Z 1)) (
        .call 8 (bJ (.bJ2 aD (.bJ2 aP aB)) [(aJ aA 2 (.p1 aA aI (.Z 0))),(aJ aA 6 (.Z 1)),(.p1 aB .bool (.Z 16))]) <|
        .ite (aR (.bJ2 aB .bool) 1 (.Z 16)) (
         .call 9 (bJ (.bJ2 bF bF) [(aR aA 11 (.Z 1)),(.p1 aP (.bJ2 aB .bool) (.Z 21)),(.ci .i64 0),(.cb true)]) <|
         .bJ3 (.ar .add .i64) (.bJ4 tI tI (.Z 2) (.ci .i64 1)) <|
         .bJ3 (.bJ7 133 aM) (.bJ4 (.slice 133 aM) tI (aJ aA 5 (.Z 1)) (.Z 2)) <|
         .bJ3 (.bJ7 133 aM) (.bJ4 (.slice 133 aM) tI (aJ aA 5 (.Z 1)) (.ci .i64 0)) <|
         .bJ3 (.bJ6 133 aM) (aJ aA 5 (.Z 1)) <|
         .bJ3 (.bJ8 133 aM) (bJ (.bJ2 (.slice 133 aM) aC) [(aJ aA 5 (.Z 1)),(.Z 23),(.Z 26)]) <|
         .bJ3 (.bJ8 133 aM) (bJ (.bJ2 (.slice 133 aM) aC) [(aJ aA 5 (.Z 1)),(.Z 2),(.Z 23)]) <|
         .bJ3 (.bJ8 133 aM) (bJ (.bJ2 (.slice 133 aM) aC) [(aJ aA 5 (.Z 1)),(.ci .i64 0),(.Z 2)]) <|
         .bJ3 (.bJ6 133 aM) (aJ aA 5 (.Z 1)) <|
         .bJ3 (.bJ8 133 aM) (bJ (.bJ2 (.slice 133 aM) aC) [(aJ aA 5 (.Z 1)),(.Z 23),(.Z 30)]) <|
         .bJ3 (.bJ9 133 aM 32) (.bJ4 (.slice 133 aM) (.slice 133 aM) (.Z 29) (.Z 31)) <|
         .ret (bJ aA [(.p1 tI fJ (.Z 1)),(aJ aA 1 (.Z 1)),(aJ aA 2 (.Z 1)),(aJ aA 3 (.Z 1)),(aJ aA 4 (.Z 1)),(.Z 32),(.nl 124 aB),(aJ aA 7 (.Z 1)),(aJ aA 8 (.Z 1)),(.nl 3 tI),(aJ (.bJ2 aP (.bJ2 aB .bool)) 1 (.Z 21)),(.Z 22)])) (
         .call 9 (bJ (.bJ2 bF bF) [(aR aA 11 (.Z 1)),(.p1 aP (.bJ2 aB .bool) (.Z 21)),(.ci .i64 0),(aR (.bJ2 aP (.bJ2 aB .bool)) 2 (.Z 21))]) <|
         .bJ3 (.ar .add .i64) (.bJ4 tI tI (.Z 2) (.ci .i64 1)) <|
         .bJ3 (.bJ7 133 aM) (.bJ4 (.slice 133 aM) tI (aJ aA 5 (.Z 1)) (.Z 2)) <|
         .bJ3 (.bJ7 133 aM) (.bJ4 (.slice 133 aM) tI (aJ aA 5 (.Z 1)) (.ci .i64 0)) <|
         .bJ3 (.bJ6 133 aM) (aJ aA 5 (.Z 1)) <|
         .bJ3 (.bJ8 133 aM) (bJ (.bJ2 (.slice 133 aM) aC) [(aJ aA 5 (.Z 1)),(.Z 23),(.Z 26)]) <|
         .bJ3 (.bJ8 133 aM) (bJ (.bJ2 (.slice 133 aM) aC) [(aJ aA 5 (.Z 1)),(.Z 2),(.Z 23)]) <|
         .bJ3 (.bJ8 133 aM) (bJ (.bJ2 (.slice 133 aM) aC) [(aJ aA 5 (.Z 1)),(.ci .i64 0),(.Z 2)]) <|
         .bJ3 (.bJ6 133 aM) (aJ aA 5 (.Z 1)) <|
         .bJ3 (.bJ8 133 aM) (bJ (.bJ2 (.slice 133 aM) aC) [(aJ aA 5 (.Z 1)),(.Z 23),(.Z 30)]) <|
         .bJ3 (.bJ9 133 aM 32) (.bJ4 (.slice 133 aM) (.slice 133 aM) (.Z 29) (.Z 31)) <|
         .ret (bJ aA [(.p1 tI fJ (.Z 1)),(aJ aA 1 (.Z 1)),(aJ aA 2 (.Z 1)),(aJ aA 3 (.Z 1)),(aJ aA 4 (.Z 1)),(.Z 32),(.nl 124 aB),(aJ aA 7 (.Z 1)),(aJ aA 8 (.Z 1)),(.nl 3 tI),(aJ (.bJ2 aP (.bJ2 aB .bool)) 1 (.Z 21)),(.Z 22)])))) (
       .call 5 (.p1 aA aI (.Z 0)) <|
       .call 6 (.Z 14) <|
       .call 7 (.bJ4 aB tI (aJ aA 9 (.Z 1)) (.Z 15)) <|
       .bJ3 .not (.Z 16) <|
       .ite (.Z 17) (
        .ret (.Z 1)) (
        .call 8 (bJ (.bJ2 aD (.bJ2 aP aB)) [(aJ aA 2 (.p1 aA aI (.Z 0))),(aJ aA 6 (.Z 1)),(aJ aA 9 (.Z 1))]) <|
        .call 9 (bJ (.bJ2 bF bF) [(aR aA 11 (.Z 1)),(.p1 aP (.bJ2 aB .bool) (.Z 18)),(.ci .i64 0),(aR (.bJ2 aP (.bJ2 aB .bool)) 2 (.Z 18))]) <|
        .bJ3 (.ar .add .i64) (.bJ4 tI tI (.Z 2) (.ci .i64 1)) <|
        .bJ3 (.bJ7 133 aM) (.bJ4 (.slice 133 aM) tI (aJ aA 5 (.Z 1)) (.Z 2)) <|
        .bJ3 (.bJ7 133 aM) (.bJ4 (.slice 133 aM) tI (aJ aA 5 (.Z 1)) (.ci .i64 0)) <|
        .bJ3 (.bJ6 133 aM) (aJ aA 5 (.Z 1)) <|
        .bJ3 (.bJ8 133 aM) (bJ (.bJ2 (.slice 133 aM) aC) [(aJ aA 5 (.Z 1)),(.Z 20),(.Z 23)]) <|
        .bJ3 (.bJ8 133 aM) (bJ (.bJ2 (.slice 133 aM) aC) [(aJ aA 5 (.Z 1)),(.Z 2),(.Z 20)]) <|
        .bJ3 (.bJ8 133 aM) (bJ (.bJ2 (.slice 133 aM) aC) [(aJ aA 5 (.Z 1)),(.ci .i64 0),(.Z 2)]) <|
        .bJ3 (.bJ6 133 aM) (aJ aA 5 (.Z 1)) <|
        .bJ3 (.bJ8 133 aM) (bJ (.bJ2 (.slice 133 aM) aC) [(aJ aA 5 (.Z 1)),(.Z 20),(.Z 27)]) <|
        .bJ3 (.bJ9 133 aM 32) (.bJ4 (.slice 133 aM) (.slice 133 aM) (.Z 26) (.Z 28)) <|
        .ret (bJ aA [(.p1 tI fJ (.Z 1)),(aJ aA 1 (.Z 1)),(aJ aA 2 (.Z 1)),(aJ aA 3 (.Z 1)),(aJ aA 4 (.Z 1)),(.Z 29),(.nl 124 aB),(aJ aA 7 (.Z 1)),(aJ aA 8 (.Z 1)),(.nl 3 tI),(aJ (.bJ2 aP (.bJ2 aB .bool)) 1 (.Z 18)),(.Z 19)])))))) (
    .bJ3 (.bJ6 93 bN) (aJ aA 2 (.p1 aA aI (.Z 0))) <|
    .bJ3 (.bJ6 124 aB) (aR aM 1 (.Z 7)) <|
    .bJ3 (.ar .add .i64) (.bJ4 tI tI (.Z 8) (.ci .i64 1)) <|
    .bJ3 (.cmp .neq .i64) (.bJ4 tI tI (.Z 9) (.Z 10)) <|
    .ite (.Z 11) (
     .ret (.Z 1)) (
     .call 3 (bJ (.bJ2 aD (.bJ2 aP tI)) [(aJ aA 2 (.p1 aA aI (.Z 0))),(aR aM 1 (.Z 7)),(.Z 8)]) <|
     .bJ3 .not (.Z 12) <|
     .ite (.Z 13) (
      .ret (.Z 1)) (
      .ite (aJ aA 3 (.p1 aA aI (.Z 0))) (
       .bJ3 (.bJ7 124 aB) (.bJ4 aP tI (aR aM 1 (.Z 7)) (.Z 8)) <|
       .call 4 (.bJ4 aB aB (.Z 14) (aR (.bJ2 aA aI) 2 (.Z 0))) <|
       .call 5 (.p1 aA aI (.Z 0)) <|
       .call 6 (.Z 16) <|
       .call 7 (.bJ4 aB tI (.p1 aB .bool (.Z 15)) (.Z 17)) <|
       .bJ3 .not (.Z 18) <|
       .ite (.Z 19) (
        .ret (.Z 1)) (
        .call 8 (bJ (.bJ2 aD (.bJ2 aP aB)) [(aJ aA 2 (.p1 aA aI (.Z 0))),(aR aM 1 (.Z 7)),(.p1 aB .bool (.Z 15))]) <|
        .ite (aR (.bJ2 aB .bool) 1 (.Z 15)) (
         .call 9 (bJ (.bJ2 bF bF) [(aR aA 11 (.Z 1)),(.p1 aP (.bJ2 aB .bool) (.Z 20)),(.ci .i64 0),(.cb true)]) <|
         .bJ3 (.ar .add .i64) (.bJ4 tI tI (.Z 2) (.ci .i64 1)) <|
         .bJ3 (.bJ7 133 aM) (.bJ4 (.slice 133 aM) tI (aJ aA 5 (.Z 1)) (.Z 2)) <|
         .bJ3 (.bJ7 133 aM) (.bJ4 (.slice 133 aM) tI (aJ aA 5 (.Z 1)) (.ci .i64 0)) <|
         .bJ3 (.bJ6 133 aM) (aJ aA 5 (.Z 1)) <|
         .bJ3 (.bJ8 133 aM) (bJ (.bJ2 (.slice 133 aM) aC) [(aJ aA 5 (.Z 1)),(.Z 22),(.Z 25)]) <|
         .bJ3 (.bJ8 133 aM) (bJ (.bJ2 (.slice 133 aM) aC) [(aJ aA 5 (.Z 1)),(.Z 2),(.Z 22)]) <|
         .bJ3 (.bJ8 133 aM) (bJ (.bJ2 (.slice 133 aM) aC) [(aJ aA 5 (.Z 1)),(.ci .i64 0),(.Z 2)]) <|
         .bJ3 (.bJ6 133 aM) (aJ aA 5 (.Z 1)) <|
         .bJ3 (.bJ8 133 aM) (bJ (.bJ2 (.slice 133 aM) aC) [(aJ aA 5 (.Z 1)),(.Z 22),(.Z 29)]) <|
         .bJ3 (.bJ9 133 aM 32) (.bJ4 (.slice 133 aM) (.slice 133 aM) (.Z 28) (.Z 30)) <|
         .ret (bJ aA [(.p1 tI fJ (.Z 1)),(aJ aA 1 (.Z 1)),(aJ aA 2 (.Z 1)),(aJ aA 3 (.Z 1)),(aJ aA 4 (.Z 1)),(.Z 31),(.nl 124 aB),(aJ aA 7 (.Z 1)),(aJ aA 8 (.Z 1)),(.nl 3 tI),(aJ (.bJ2 aP (.bJ2 aB .bool)) 1 (.Z 20)),(.Z 21)])) (
         .call 9 (bJ (.bJ2 bF bF) [(aR aA 11 (.Z 1)),(.p1 aP (.bJ2 aB .bool) (.Z 20)),(.ci .i64 0),(aR (.bJ2 aP (.bJ2 aB .bool)) 2 (.Z 20))]) <|
         .bJ3 (.ar .add .i64) (.bJ4 tI tI (.Z 2) (.ci .i64 1)) <|
         .bJ3 (.bJ7 133 aM) (.bJ4 (.slice 133 aM) tI (aJ aA 5 (.Z 1)) (.Z 2)) <|
         .bJ3 (.bJ7 133 aM) (.bJ4 (.slice 133 aM) tI (aJ aA 5 (.Z 1)) (.ci .i64 0)) <|
         .bJ3 (.bJ6 133 aM) (aJ aA 5 (.Z 1)) <|
         .bJ3 (.bJ8 133 aM) (bJ (.bJ2 (.slice 133 aM) aC) [(aJ aA 5 (.Z 1)),(.Z 22),(.Z 25)]) <|
         .bJ3 (.bJ8 133 aM) (bJ (.bJ2 (.slice 133 aM) aC) [(aJ aA 5 (.Z 1)),(.Z 2),(.Z 22)]) <|
         .bJ3 (.bJ8 133 aM) (bJ (.bJ2 (.slice 133 aM) aC) [(aJ aA 5 (.Z 1)),(.ci .i64 0),(.Z 2)]) <|
         .bJ3 (.bJ6 133 aM) (aJ aA 5 (.Z 1)) <|
         .bJ3 (.bJ8 133 aM) (bJ (.bJ2 (.slice 133 aM) aC) [(aJ aA 5 (.Z 1)),(.Z 22),(.Z 29)]) <|
         .bJ3 (.bJ9 133 aM 32) (.bJ4 (.slice 133 aM) (.slice 133 aM) (.Z 28) (.Z 30)) <|
         .ret (bJ aA [(.p1 tI fJ (.Z 1)),(aJ aA 1 (.Z 1)),(aJ aA 2 (.Z 1)),(aJ aA 3 (.Z 1)),(aJ aA 4 (.Z 1)),(.Z 31),(.nl 124 aB),(aJ aA 7 (.Z 1)),(aJ aA 8 (.Z 1)),(.nl 3 tI),(aJ (.bJ2 aP (.bJ2 aB .bool)) 1 (.Z 20)),(.Z 21)])))) (
       .call 5 (.p1 aA aI (.Z 0)) <|
       .call 6 (.Z 14) <|
       .call 7 (.bJ4 aB tI (aJ aA 9 (.Z 1)) (.Z 15)) <|
       .bJ3 .not (.Z 16) <|
       .ite (.Z 17) (
        .ret (.Z 1)) (
        .call 8 (bJ (.bJ2 aD (.bJ2 aP aB)) [(aJ aA 2 (.p1 aA aI (.Z 0))),(aR aM 1 (.Z 7)),(aJ aA 9 (.Z 1))]) <|
        .call 9 (bJ (.bJ2 bF bF) [(aR aA 11 (.Z 1)),(.p1 aP (.bJ2 aB .bool) (.Z 18)),(.ci .i64 0),(aR (.bJ2 aP (.bJ2 aB .bool)) 2 (.Z 18))]) <|
        .bJ3 (.ar .add .i64) (.bJ4 tI tI (.Z 2) (.ci .i64 1)) <|
        .bJ3 (.bJ7 133 aM) (.bJ4 (.slice 133 aM) tI (aJ aA 5 (.Z 1)) (.Z 2)) <|
        .bJ3 (.bJ7 133 aM) (.bJ4 (.slice 133 aM) tI (aJ aA 5 (.Z 1)) (.ci .i64 0)) <|
        .bJ3 (.bJ6 133 aM) (aJ aA 5 (.Z 1)) <|
        .bJ3 (.bJ8 133 aM) (bJ (.bJ2 (.slice 133 aM) aC) [(aJ aA 5 (.Z 1)),(.Z 20),(.Z 23)]) <|
        .bJ3 (.bJ8 133 aM) (bJ (.bJ2 (.slice 133 aM) aC) [(aJ aA 5 (.Z 1)),(.Z 2),(.Z 20)]) <|
        .bJ3 (.bJ8 133 aM) (bJ (.bJ2 (.slice 133 aM) aC) [(aJ aA 5 (.Z 1)),(.ci .i64 0),(.Z 2)]) <|
        .bJ3 (.bJ6 133 aM) (aJ aA 5 (.Z 1)) <|
        .bJ3 (.bJ8 133 aM) (bJ (.bJ2 (.slice 133 aM) aC) [(aJ aA 5 (.Z 1)),(.Z 20),(.Z 27)]) <|
        .bJ3 (.bJ9 133 aM 32) (.bJ4 (.slice 133 aM) (.slice 133 aM) (.Z 26) (.Z 28)) <|
        .ret (bJ aA [(.p1 tI fJ (.Z 1)),(aJ aA 1 (.Z 1)),(aJ aA 2 (.Z 1)),(aJ aA 3 (.Z 1)),(aJ aA 4 (.Z 1)),(.Z 29),(.nl 124 aB),(aJ aA 7 (.Z 1)),(aJ aA 8 (.Z 1)),(.nl 3 tI),(aJ (.bJ2 aP (.bJ2 aB .bool)) 1 (.Z 18)),(.Z 19)]))))))))
set_option maxRecDepth 100000 in
theorem aN4:bV Tryz.prog [cV,dQ,dK,jL,jN,dJ,gX,bZ,pE,lN] lT false 3000 ⟨[],[(2961,164021,[],[15,31]),(2951,420023,[103,108],[]),(2951,292023,[103,108],[]),(2961,132018,[],[15,18]),(2951,132020,[103,108],[]),(2961,160020,[],[31]),(2951,416022,[103,108],[]),(2951,288022,[103,108],[]),(2961,128018,[],[18]),(2951,128020,[103,108],[])]⟩ = .ok vG:=by kernel_rfl
set_option maxHeartbeats 1000000 in
theorem aMW (x:bC × dW) (hx:okD (.bJ2 aA aI) x) (hp:(fun x=>bW aA x.1≤1000000000) x):vG.wp [cV,dQ,dK,jL,jN,dJ,gX,bZ,pE,lN] [⟨(.bJ2 aA aI),x⟩] [] (fun v=>v.as aA=(fun x=>uT x.1 x.2.1 x.2.2) x):=by
 obtain ⟨s,m,t⟩:=x
 delta vG cV dQ dK jL jN dJ gX bZ pE lN;refine eE ?_
 refine eL ?_
 refine ⟨hp,fun _ _=>⟨fun h=>sD (.inl h),fun h1=>⟨fun h=>sD (.inr (.inl h)),fun h2=>?_⟩⟩⟩
 have hf2:eG s.2.2.2.2.2.1 m<(s.2.2.2.2.2.1.length:Int):=(aIN s.2.2.2.2.2.1 m s.2.2.2.2.2.1.length).2
 have hm:=(fY s).1 h1
 have hn8:=(bR _).1 hm.1
 have hst:=(qL (t:=aA) hp).2.2.2.2.2.1.1
 replace hst:List.length s.2.2.2.2.2.1≤1000000000:=hst
 have hgs:mD s.2.2.2.2.2.2.2.2.2.2.2:=bB1 (qL (t:=aA) hp).2.2.2.2.2.2.2.2.2.2.2
 refine ⟨by omega,fun _=>⟨by omega,fun _=>⟨fun hre=>?_,fun hre=>?_⟩⟩⟩
 ·rw[show s.2.2.2.2.2.2.1=tH s m from (bHC hre).symm]
  refine fun _ _=>⟨by omega,fun _=>⟨fun h=>sD (.inr (.inr (.inl (aMU (.inl (by omega)))))),fun hlen=>⟨⟨hm.1,by omega⟩,fun h=>sD (.inr (.inr (.inl (aMU (.inr h))))),fun hrow=>⟨fun hla=>?_,fun hla=>?_⟩⟩⟩⟩
  ·rw[show qG kN (List.getD (tH s m) s.2.2.1.length (aS aB)) t=jU s m t from (bAU hla).symm]
   (repeat' first|intro _|(with_reducible apply And.intro))
   all_goals first|omega|(unfold maxLen;omega)|exact sD (.inr (.inr (.inr (by assumption))))|exact ⟨by omega,by omega⟩|exact hgs|exact aFX _ _ h1|(simp only[List.length_append,List.length_drop,List.length_take];omega)|(simp only[List.length_append,List.length_drop,List.length_take];unfold maxLen;omega)|skip
   all_goals refine (aCM (by omega) ?_).trans (aFQ h1 h2 (aNE (by omega) hrow) (by assumption))
   all_goals first|rfl|(rw[qU (by assumption)];done)|(rw[show (jU s m t).2=true by assumption,Bool.true_or];done)|(rw[show (jU s m t).2=false by assumption,Bool.false_or];done)|skip
  ·have hgg:s.2.2.2.2.2.2.2.2.2.1=(jU s m t).1:=bD1 hla
   have hg0:(jU s m t).2=false:=bC8 hla
   rw[hgg]
   (repeat' first|intro _|(with_reducible apply And.intro))
   all_goals first|omega|(unfold maxLen;omega)|exact sD (.inr (.inr (.inr (by assumption))))|exact ⟨by omega,by omega⟩|exact hgs|exact aFX _ _ h1|(simp only[List.length_append,List.length_drop,List.length_take];omega)|(simp only[List.length_append,List.length_drop,List.length_take];unfold maxLen;omega)|skip
   all_goals refine (aCM (by omega) ?_).trans (aFQ h1 h2 (aNE (by omega) hrow) (by assumption))
   all_goals first|rfl|(rw[qU (by assumption)];done)|(rw[show (jU s m t).2=true by assumption,Bool.true_or];done)|(rw[show (jU s m t).2=false by assumption,Bool.false_or];done)|skip
 ·rw[show (List.getD s.2.2.2.2.2.1 (eG s.2.2.2.2.2.1 m).toNat (aS aM)).2=tH s m from (bHW hre).symm]
  refine fun _ _=>⟨by omega,fun _=>⟨fun h=>sD (.inr (.inr (.inl (aMU (.inl (by omega)))))),fun hlen=>⟨⟨hm.1,by omega⟩,fun h=>sD (.inr (.inr (.inl (aMU (.inr h))))),fun hrow=>⟨fun hla=>?_,fun hla=>?_⟩⟩⟩⟩
  ·rw[show qG kN (List.getD (tH s m) s.2.2.1.length (aS aB)) t=jU s m t from (bAU hla).symm]
   (repeat' first|intro _|(with_reducible apply And.intro))
   all_goals first|omega|(unfold maxLen;omega)|exact sD (.inr (.inr (.inr (by assumption))))|exact ⟨by omega,by omega⟩|exact hgs|exact aFX _ _ h1|(simp only[List.length_append,List.length_drop,List.length_take];omega)|(simp only[List.length_append,List.length_drop,List.length_take];unfold maxLen;omega)|skip
   all_goals refine (aCM (by omega) ?_).trans (aFQ h1 h2 (aNE (by omega) hrow) (by assumption))
   all_goals first|rfl|(rw[qU (by assumption)];done)|(rw[show (jU s m t).2=true by assumption,Bool.true_or];done)|(rw[show (jU s m t).2=false by assumption,Bool.false_or];done)|skip
  ·have hgg:s.2.2.2.2.2.2.2.2.2.1=(jU s m t).1:=bD1 hla
   have hg0:(jU s m t).2=false:=bC8 hla
   rw[hgg]
   (repeat' first|intro _|(with_reducible apply And.intro))
   all_goals first|omega|(unfold maxLen;omega)|exact sD (.inr (.inr (.inr (by assumption))))|exact ⟨by omega,by omega⟩|exact hgs|exact aFX _ _ h1|(simp only[List.length_append,List.length_drop,List.length_take];omega)|(simp only[List.length_append,List.length_drop,List.length_take];unfold maxLen;omega)|skip
   all_goals refine (aCM (by omega) ?_).trans (aFQ h1 h2 (aNE (by omega) hrow) (by assumption))
   all_goals first|rfl|(rw[qU (by assumption)];done)|(rw[show (jU s m t).2=true by assumption,Bool.true_or];done)|(rw[show (jU s m t).2=false by assumption,Bool.false_or];done)|skip
set_option maxHeartbeats 1000000 in
theorem aMX:Con.Holds Tryz.prog lT:=aV aX (aG mR (aG rO (aG qW (aG aHX (aG aGC (aG rA (aG aER (aG iM (aG aTD (aG aM3 aT)))))))))) aN4 aMW
end Go.Proofs.YtpleleanibgniaaGreat
