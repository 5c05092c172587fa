/- CoreB: lemmas. No conditions. -/
import Derived.Test.YtiihghfoeinbbaaGreatCore7
namespace Go.Proofs.YtiihghfoeinbbaaGreat
set_option maxRecDepth 100000
open Go.ChangeShapes Go.WideShapes Go.ChangeAt Go.RowKit Go.Deep
set_option linter.unusedVariables false
set_option linter.unusedSimpArgs false
theorem fH {s:bC} {m:Int} {t:List Int} (h:gS s=false∨dU s.2.2.2.2.2.1 m<0∨aJI s.2.2.1 (nB s m)=false∨eQ (hK s m t).1 (gY s.2.2.1)=false):s=vB s m t:=by
 unfold vB;rw[if_neg]
 unfold bBC
 simp only[Bool.and_eq_true,decide_eq_true_eq]
 rintro ⟨h1,h2,h3,h4⟩
 rcases h with h|h|h|h
 ·rw[h] at h1;cases h1
 ·omega
 ·rw[h] at h3;cases h3
 ·rw[h] at h4;cases h4
theorem uS {s:bC} {m:Int} {t:List Int} (h1:gS s=true) (h2:0≤dU s.2.2.2.2.2.1 m) (h3:aJI s.2.2.1 (nB s m)=true) (h4:eQ (hK s m t).1 (gY s.2.2.1)=true):bK0 s m t=vB s m t:=by
 unfold vB;rw[if_pos]
 unfold bBC
 simp only[Bool.and_eq_true,decide_eq_true_eq]
 exact ⟨h1,h2,h3,h4⟩
theorem bEI {s:bC} {m:Int} (h:s.2.2.2.2.1=true):nB s m=s.2.2.2.2.2.2.1:=if_pos h
theorem bFH {s:bC} {m:Int} (h:s.2.2.2.2.1=false):nB s m=(s.2.2.2.2.2.1.getD (dU s.2.2.2.2.2.1 m).toNat (aX aD)).2:=if_neg (by rw[h];simp)
theorem aQG {s:bC} {m:Int} {t:List Int} (h:s.2.2.2.1=true):hK s m t=kM eP (List.getD (nB s m) s.2.2.1.length (aX aB)) t:=if_pos h
theorem aON {s:bC} {m:Int} {t:List Int} (h:s.2.2.2.1=false):s.2.2.2.2.2.2.2.2.2.1=(hK s m t).1:=by unfold hK;rw[if_neg (by rw[h];simp)]
theorem aPU {s:bC} {m:Int} {t:List Int} (h:s.2.2.2.1=false):(hK s m t).2=false:=by unfold hK;rw[if_neg (by rw[h];simp)]
theorem aAB {m:List eK} {r:cV} (h:¬ r.length=m.length+1∨qH m r m.length=false):aJI m r=false:=by
 unfold aJI
 rcases h with h|h
 ·rw[decide_eq_false h];rfl
 ·rw[h,Bool.and_false]
theorem zH {m:List eK} {r:cV} (h:r.length=m.length+1) (h2:qH m r m.length=true):aJI m r=true:=by
 unfold aJI;rw[decide_eq_true h,h2];rfl
theorem uJ {s:bC} {r:cV} {d:List Int} (l:Int) (b:Bool) (h:gS s=true):jQ ((qP s.2.2.1 r d).1,l,b):=by
 have hm:=((bY _).1 ((eJ s).1 h).1).2.1
 refine ⟨?_,fun y hy=>Nat.le_trans (aLC _ _ _ _ _ y hy) (by decide)⟩
 show (eG _ _ _ _ _).1.length≤1000000000
 rw[aC5];omega
theorem pW {s:bC} {m:Int} {t:List Int} {g:eY} (h:0≤dU s.2.2.2.2.2.1 m) (e:g=iA s.2.2.2.2.2.2.2.2.2.2.2 ((qP s.2.2.1 (nB s m) (hK s m t).1).1,0,(hK s m t).2 || (qP s.2.2.1 (nB s m) (hK s m t).1).2.2)) :
  (s.1,s.2.1,s.2.2.1,s.2.2.2.1,s.2.2.2.2.1,List.drop 0 (List.take (dU s.2.2.2.2.2.1 m).toNat s.2.2.2.2.2.1)++List.drop (dU s.2.2.2.2.2.1 m+1).toNat (List.take (List.length s.2.2.2.2.2.1) s.2.2.2.2.2.1),([]:cV),s.2.2.2.2.2.2.2.1,s.2.2.2.2.2.2.2.2.1,([]:List Int),(qP s.2.2.1 (nB s m) (hK s m t).1).2.1,g)=bK0 s m t:=by
 rw[List.take_length,show (dU s.2.2.2.2.2.1 m+1).toNat=(dU s.2.2.2.2.2.1 m).toNat+1 by omega,e];rfl
noncomputable def nC:Con:=⟨174,(.bMC aA aF),aA,[.val ⟨true,aA,[]⟩,.val ⟨false,tI,[]⟩,.val ⟨false,aB,[]⟩],[⟨true,aA,[0,0,0,0,0,0,0,0,0,0,0,0,0,0]⟩],false,none,
 ((fun x=>bD aA x.1≤1000000000):(bC × cL)→Prop),
 ((fun x=>vB x.1 x.2.1 x.2.2):(bC × cL)→(bC))⟩
def yG:T:=.call 0 (.p1 aA aF (.Z 0)) <|.call 1 (.bME (.slice 206 aD) tI (aJ aA 5 (.p1 aA aF (.Z 0))) (aJ (.bMC aA aF) 1 (.Z 0))) <|.call 2 (.p1 aA aF (.Z 0)) <|
 .bMD .not (.Z 3) <|
 .ite (.Z 4) (
  .ret (.Z 1)) (
  .bMD (.cmp .lss .i64) (.bME tI tI (.Z 2) (.ci .i64 0)) <|
  .ite (.Z 5) (
   .ret (.Z 1)) (
   .bMD (.bMH 206 aD) (.bME (.slice 206 aD) tI (aJ aA 5 (.Z 1)) (.Z 2)) <|
   .bMD (.bMH 206 aD) (.bME (.slice 206 aD) tI (aJ aA 5 (.Z 1)) (.Z 2)) <|
   .ite (aJ aA 4 (.p1 aA aF (.Z 0))) (
    .bMD (.bMG 146 bA) (aJ aA 2 (.p1 aA aF (.Z 0))) <|
    .bMD (.bMG 156 aB) (aJ aA 6 (.Z 1)) <|
    .bMD (.ar .add .i64) (.bME tI tI (.Z 8) (.ci .i64 1)) <|
    .bMD (.cmp .neq .i64) (.bME tI tI (.Z 9) (.Z 10)) <|
    .ite (.Z 11) (
     .ret (.Z 1)) (
     .call 3 (bE (.bMC aE (.bMC aH tI)) [(aJ aA 2 (.p1 aA aF (.Z 0))),(aJ aA 6 (.Z 1)),(.Z 8)]) <|
     .bMD .not (.Z 12) <|
     .ite (.Z 13) (
      .ret (.Z 1)) (
      .ite (aJ aA 3 (.p1 aA aF (.Z 0))) (
       .bMD (.bMH 156 aB) (.bME aH tI (aJ aA 6 (.Z 1)) (.Z 8)) <|
       .bMD (.bMH 156 aB) (.bME aH tI (aJ aA 6 (.Z 1)) (.Z 8)) <|
       .call 4 (.bME aB aB (.Z 15) (aQ (.bMC aA aF) 2 (.Z 0))) <|
       .call 5 (.p1 aA aF (.Z 0)) <|
       .call 6 (.Z 17) <|
       .call 7 (.bME aB tI (.p1 aB .bool (.Z 16)) (.Z 18)) <|
       .bMD .not (.Z 19) <|
       .ite (.Z 20) (
        .ret (.Z 1)) (
        .call 8 (bE (.bMC aE (.bMC aH aB)) [(aJ aA 2 (.p1 aA aF (.Z 0))),(aJ aA 6 (.Z 1)),(.p1 aB .bool (.Z 16))]) <|
        .ite (aQ (.bMC aB .bool) 1 (.Z 16)) (
         .call 9 (bE (.bMC aU aU) [(aQ aA 11 (.Z 1)),(.p1 aH (.bMC aB .bool) (.Z 21)),(.ci .i64 0),(.cb true)]) <|
         .bMD (.ar .add .i64) (.bME tI tI (.Z 2) (.ci .i64 1)) <|
         .bMD (.bMH 206 aD) (.bME (.slice 206 aD) tI (aJ aA 5 (.Z 1)) (.Z 2)) <|
         .bMD (.bMH 206 aD) (.bME (.slice 206 aD) tI (aJ aA 5 (.Z 1)) (.ci .i64 0)) <|
         .bMD (.bMG 206 aD) (aJ aA 5 (.Z 1)) <|
         .bMD (.bMI 206 aD) (bE (.bMC (.slice 206 aD) aO) [(aJ aA 5 (.Z 1)),(.Z 23),(.Z 26)]) <|
         .bMD (.bMI 206 aD) (bE (.bMC (.slice 206 aD) aO) [(aJ aA 5 (.Z 1)),(.Z 2),(.Z 23)]) <|
         .bMD (.bMI 206 aD) (bE (.bMC (.slice 206 aD) aO) [(aJ aA 5 (.Z 1)),(.ci .i64 0),(.Z 2)]) <|
         .bMD (.bMG 206 aD) (aJ aA 5 (.Z 1)) <|
         .bMD (.bMI 206 aD) (bE (.bMC (.slice 206 aD) aO) [(aJ aA 5 (.Z 1)),(.Z 23),(.Z 30)]) <|
         .bMD (.bMJ 206 aD 32) (.bME (.slice 206 aD) (.slice 206 aD) (.Z 29) (.Z 31)) <|
         .ret (bE aA [(.p1 tI cY (.Z 1)),(aJ aA 1 (.Z 1)),(aJ aA 2 (.Z 1)),(aJ aA 3 (.Z 1)),(aJ aA 4 (.Z 1)),(.Z 32),(.nl 156 aB),(aJ aA 7 (.Z 1)),(aJ aA 8 (.Z 1)),(.nl 3 tI),(aJ (.bMC aH (.bMC aB .bool)) 1 (.Z 21)),(.Z 22)])) (
         .call 9 (bE (.bMC aU aU) [(aQ aA 11 (.Z 1)),(.p1 aH (.bMC aB .bool) (.Z 21)),(.ci .i64 0),(aQ (.bMC aH (.bMC aB .bool)) 2 (.Z 21))]) <|
         .bMD (.ar .add .i64) (.bME tI tI (.Z 2) (.ci .i64 1)) <|
         .bMD (.bMH 206 aD) (.bME (.slice 206 aD) tI (aJ aA 5 (.Z 1)) (.Z 2)) <|
         .bMD (.bMH 206 aD) (.bME (.slice 206 aD) tI (aJ aA 5 (.Z 1)) (.ci .i64 0)) <|
         .bMD (.bMG 206 aD) (aJ aA 5 (.Z 1)) <|
         .bMD (.bMI 206 aD) (bE (.bMC (.slice 206 aD) aO) [(aJ aA 5 (.Z 1)),(.Z 23),(.Z 26)]) <|
         .bMD (.bMI 206 aD) (bE (.bMC (.slice 206 aD) aO) [(aJ aA 5 (.Z 1)),(.Z 2),(.Z 23)]) <|
         .bMD (.bMI 206 aD) (bE (.bMC (.slice 206 aD) aO) [(aJ aA 5 (.Z 1)),(.ci .i64 0),(.Z 2)]) <|
         .bMD (.bMG 206 aD) (aJ aA 5 (.Z 1)) <|
         .bMD (.bMI 206 aD) (bE (.bMC (.slice 206 aD) aO) [(aJ aA 5 (.Z 1)),(.Z 23),(.Z 30)]) <|
         .bMD (.bMJ 206 aD 32) (.bME (.slice 206 aD) (.slice 206 aD) (.Z 29) (.Z 31)) <|
         .ret (bE aA [(.p1 tI cY (.Z 1)),(aJ aA 1 (.Z 1)),(aJ aA 2 (.Z 1)),(aJ aA 3 (.Z 1)),(aJ aA 4 (.Z 1)),(.Z 32),(.nl 156 aB),(aJ aA 7 (.Z 1)),(aJ aA 8 (.Z 1)),(.nl 3 tI),(aJ (.bMC aH (.bMC aB .bool)) 1 (.Z 21)),(.Z 22)])))) (
       .call 5 (.p1 aA aF (.Z 0)) <|
       .call 6 (.Z 14) <|
       .call 7 (.bME aB tI (aJ aA 9 (.Z 1)) (.Z 15)) <|
       .bMD .not (.Z 16) <|
       .ite (.Z 17) (
        .ret (.Z 1)) (
        .call 8 (bE (.bMC aE (.bMC aH aB)) [(aJ aA 2 (.p1 aA aF (.Z 0))),(aJ aA 6 (.Z 1)),(aJ aA 9 (.Z 1))]) <|
        .call 9 (bE (.bMC aU aU) [(aQ aA 11 (.Z 1)),(.p1 aH (.bMC aB .bool) (.Z 18)),(.ci .i64 0),(aQ (.bMC aH (.bMC aB .bool)) 2 (.Z 18))]) <|
        .bMD (.ar .add .i64) (.bME tI tI (.Z 2) (.ci .i64 1)) <|
        .bMD (.bMH 206 aD) (.bME (.slice 206 aD) tI (aJ aA 5 (.Z 1)) (.Z 2)) <|
        .bMD (.bMH 206 aD) (.bME (.slice 206 aD) tI (aJ aA 5 (.Z 1)) (.ci .i64 0)) <|
        .bMD (.bMG 206 aD) (aJ aA 5 (.Z 1)) <|
        .bMD (.bMI 206 aD) (bE (.bMC (.slice 206 aD) aO) [(aJ aA 5 (.Z 1)),(.Z 20),(.Z 23)]) <|
        .bMD (.bMI 206 aD) (bE (.bMC (.slice 206 aD) aO) [(aJ aA 5 (.Z 1)),(.Z 2),(.Z 20)]) <|
        .bMD (.bMI 206 aD) (bE (.bMC (.slice 206 aD) aO) [(aJ aA 5 (.Z 1)),(.ci .i64 0),(.Z 2)]) <|
        .bMD (.bMG 206 aD) (aJ aA 5 (.Z 1)) <|
        .bMD (.bMI 206 aD) (bE (.bMC (.slice 206 aD) aO) [(aJ aA 5 (.Z 1)),(.Z 20),(.Z 27)]) <|
        .bMD (.bMJ 206 aD 32) (.bME (.slice 206 aD) (.slice 206 aD) (.Z 26) (.Z 28)) <|
        .ret (bE aA [(.p1 tI cY (.Z 1)),(aJ aA 1 (.Z 1)),(aJ aA 2 (.Z 1)),(aJ aA 3 (.Z 1)),(aJ aA 4 (.Z 1)),(.Z 29),(.nl 156 aB),(aJ aA 7 (.Z 1)),(aJ aA 8 (.Z 1)),(.nl 3 tI),(aJ (.bMC aH (.bMC aB .bool)) 1 (.Z 18)),(.Z 19)])))))) (
    .bMD (.bMG 146 bA) (aJ aA 2 (.p1 aA aF (.Z 0))) <|
    .bMD (.bMG 156 aB) (aQ aD 1 (.Z 7)) <|
    .bMD (.ar .add .i64) (.bME tI tI (.Z 8) (.ci .i64 1)) <|
    .bMD (.cmp .neq .i64) (.bME tI tI (.Z 9) (.Z 10)) <|
    .ite (.Z 11) (
     .ret (.Z 1)) (
     .call 3 (bE (.bMC aE (.bMC aH tI)) [(aJ aA 2 (.p1 aA aF (.Z 0))),(aQ aD 1 (.Z 7)),(.Z 8)]) <|
     .bMD .not (.Z 12) <|
     .ite (.Z 13) (
      .ret (.Z 1)) (
      .ite (aJ aA 3 (.p1 aA aF (.Z 0))) (
       .bMD (.bMH 156 aB) (.bME aH tI (aQ aD 1 (.Z 7)) (.Z 8)) <|
       .call 4 (.bME aB aB (.Z 14) (aQ (.bMC aA aF) 2 (.Z 0))) <|
       .call 5 (.p1 aA aF (.Z 0)) <|
       .call 6 (.Z 16) <|
       .call 7 (.bME aB tI (.p1 aB .bool (.Z 15)) (.Z 17)) <|
       .bMD .not (.Z 18) <|
       .ite (.Z 19) (
        .ret (.Z 1)) (
        .call 8 (bE (.bMC aE (.bMC aH aB)) [(aJ aA 2 (.p1 aA aF (.Z 0))),(aQ aD 1 (.Z 7)),(.p1 aB .bool (.Z 15))]) <|
        .ite (aQ (.bMC aB .bool) 1 (.Z 15)) (
         .call 9 (bE (.bMC aU aU) [(aQ aA 11 (.Z 1)),(.p1 aH (.bMC aB .bool) (.Z 20)),(.ci .i64 0),(.cb true)]) <|
         .bMD (.ar .add .i64) (.bME tI tI (.Z 2) (.ci .i64 1)) <|
         .bMD (.bMH 206 aD) (.bME (.slice 206 aD) tI (aJ aA 5 (.Z 1)) (.Z 2)) <|
         .bMD (.bMH 206 aD) (.bME (.slice 206 aD) tI (aJ aA 5 (.Z 1)) (.ci .i64 0)) <|
         .bMD (.bMG 206 aD) (aJ aA 5 (.Z 1)) <|
         .bMD (.bMI 206 aD) (bE (.bMC (.slice 206 aD) aO) [(aJ aA 5 (.Z 1)),(.Z 22),(.Z 25)]) <|
         .bMD (.bMI 206 aD) (bE (.bMC (.slice 206 aD) aO) [(aJ aA 5 (.Z 1)),(.Z 2),(.Z 22)]) <|
         .bMD (.bMI 206 aD) (bE (.bMC (.slice 206 aD) aO) [(aJ aA 5 (.Z 1)),(.ci .i64 0),(.Z 2)]) <|
         .bMD (.bMG 206 aD) (aJ aA 5 (.Z 1)) <|
         .bMD (.bMI 206 aD) (bE (.bMC (.slice 206 aD) aO) [(aJ aA 5 (.Z 1)),(.Z 22),(.Z 29)]) <|
         .bMD (.bMJ 206 aD 32) (.bME (.slice 206 aD) (.slice 206 aD) (.Z 28) (.Z 30)) <|
         .ret (bE aA [(.p1 tI cY (.Z 1)),(aJ aA 1 (.Z 1)),(aJ aA 2 (.Z 1)),(aJ aA 3 (.Z 1)),(aJ aA 4 (.Z 1)),(.Z 31),(.nl 156 aB),(aJ aA 7 (.Z 1)),(aJ aA 8 (.Z 1)),(.nl 3 tI),(aJ (.bMC aH (.bMC aB .bool)) 1 (.Z 20)),(.Z 21)])) (
         .call 9 (bE (.bMC aU aU) [(aQ aA 11 (.Z 1)),(.p1 aH (.bMC aB .bool) (.Z 20)),(.ci .i64 0),(aQ (.bMC aH (.bMC aB .bool)) 2 (.Z 20))]) <|
         .bMD (.ar .add .i64) (.bME tI tI (.Z 2) (.ci .i64 1)) <|
         .bMD (.bMH 206 aD) (.bME (.slice 206 aD) tI (aJ aA 5 (.Z 1)) (.Z 2)) <|
         .bMD (.bMH 206 aD) (.bME (.slice 206 aD) tI (aJ aA 5 (.Z 1)) (.ci .i64 0)) <|
         .bMD (.bMG 206 aD) (aJ aA 5 (.Z 1)) <|
         .bMD (.bMI 206 aD) (bE (.bMC (.slice 206 aD) aO) [(aJ aA 5 (.Z 1)),(.Z 22),(.Z 25)]) <|
         .bMD (.bMI 206 aD) (bE (.bMC (.slice 206 aD) aO) [(aJ aA 5 (.Z 1)),(.Z 2),(.Z 22)]) <|
         .bMD (.bMI 206 aD) (bE (.bMC (.slice 206 aD) aO) [(aJ aA 5 (.Z 1)),(.ci .i64 0),(.Z 2)]) <|
         .bMD (.bMG 206 aD) (aJ aA 5 (.Z 1)) <|
         .bMD (.bMI 206 aD) (bE (.bMC (.slice 206 aD) aO) [(aJ aA 5 (.Z 1)),(.Z 22),(.Z 29)]) <|
         .bMD (.bMJ 206 aD 32) (.bME (.slice 206 aD) (.slice 206 aD) (.Z 28) (.Z 30)) <|
         .ret (bE aA [(.p1 tI cY (.Z 1)),(aJ aA 1 (.Z 1)),(aJ aA 2 (.Z 1)),(aJ aA 3 (.Z 1)),(aJ aA 4 (.Z 1)),(.Z 31),(.nl 156 aB),(aJ aA 7 (.Z 1)),(aJ aA 8 (.Z 1)),(.nl 3 tI),(aJ (.bMC aH (.bMC aB .bool)) 1 (.Z 20)),(.Z 21)])))) (
       .call 5 (.p1 aA aF (.Z 0)) <|
       .call 6 (.Z 14) <|
       .call 7 (.bME aB tI (aJ aA 9 (.Z 1)) (.Z 15)) <|
       .bMD .not (.Z 16) <|
       .ite (.Z 17) (
        .ret (.Z 1)) (
        .call 8 (bE (.bMC aE (.bMC aH aB)) [(aJ aA 2 (.p1 aA aF (.Z 0))),(aQ aD 1 (.Z 7)),(aJ aA 9 (.Z 1))]) <|
        .call 9 (bE (.bMC aU aU) [(aQ aA 11 (.Z 1)),(.p1 aH (.bMC aB .bool) (.Z 18)),(.ci .i64 0),(aQ (.bMC aH (.bMC aB .bool)) 2 (.Z 18))]) <|
        .bMD (.ar .add .i64) (.bME tI tI (.Z 2) (.ci .i64 1)) <|
        .bMD (.bMH 206 aD) (.bME (.slice 206 aD) tI (aJ aA 5 (.Z 1)) (.Z 2)) <|
        .bMD (.bMH 206 aD) (.bME (.slice 206 aD) tI (aJ aA 5 (.Z 1)) (.ci .i64 0)) <|
        .bMD (.bMG 206 aD) (aJ aA 5 (.Z 1)) <|
        .bMD (.bMI 206 aD) (bE (.bMC (.slice 206 aD) aO) [(aJ aA 5 (.Z 1)),(.Z 20),(.Z 23)]) <|
        .bMD (.bMI 206 aD) (bE (.bMC (.slice 206 aD) aO) [(aJ aA 5 (.Z 1)),(.Z 2),(.Z 20)]) <|
        .bMD (.bMI 206 aD) (bE (.bMC (.slice 206 aD) aO) [(aJ aA 5 (.Z 1)),(.ci .i64 0),(.Z 2)]) <|
        .bMD (.bMG 206 aD) (aJ aA 5 (.Z 1)) <|
        .bMD (.bMI 206 aD) (bE (.bMC (.slice 206 aD) aO) [(aJ aA 5 (.Z 1)),(.Z 20),(.Z 27)]) <|
        .bMD (.bMJ 206 aD 32) (.bME (.slice 206 aD) (.slice 206 aD) (.Z 26) (.Z 28)) <|
        .ret (bE aA [(.p1 tI cY (.Z 1)),(aJ aA 1 (.Z 1)),(aJ aA 2 (.Z 1)),(aJ aA 3 (.Z 1)),(aJ aA 4 (.Z 1)),(.Z 29),(.nl 156 aB),(aJ aA 7 (.Z 1)),(aJ aA 8 (.Z 1)),(.nl 3 tI),(aJ (.bMC aH (.bMC aB .bool)) 1 (.Z 18)),(.Z 19)]))))))))
theorem aR3:bL Tryz.prog [dA,eB,dW,lF,lB,dV,gF,cA,rX,nP] nC false 3000 ⟨[],[(2961,164021,[],[15,31]),(2951,420023,[103,108],[]),(2951,292023,[103,108],[]),(2961,132018,[],[15,18]),(2951,132020,[103,108],[]),(2961,160020,[],[31]),(2951,416022,[103,108],[]),(2951,288022,[103,108],[]),(2961,128018,[],[18]),(2951,128020,[103,108],[])]⟩ = .ok yG:=by kernel_rfl
set_option maxHeartbeats 1000000 in
theorem aQM (x:bC × cL) (hx:okD (.bMC aA aF) x) (hp:(fun x=>bD aA x.1≤1000000000) x):yG.wp [dA,eB,dW,lF,lB,dV,gF,cA,rX,nP] [⟨(.bMC aA aF),x⟩] [] (fun v=>v.as aA=(fun x=>vB x.1 x.2.1 x.2.2) x):=by
 obtain ⟨s,m,t⟩:=x
 delta yG dA eB dW lF lB dV gF cA rX nP;refine dD ?_
 refine eE ?_
 refine ⟨hp,fun _ _=>⟨fun h=>fH (.inl h),fun h1=>⟨fun h=>fH (.inr (.inl h)),fun h2=>?_⟩⟩⟩
 have hf2:dU s.2.2.2.2.2.1 m<(s.2.2.2.2.2.1.length:Int):=(aAY s.2.2.2.2.2.1 m s.2.2.2.2.2.1.length).2
 have hm:=(eJ s).1 h1
 have hn8:=(bY _).1 hm.1
 have hst:=(gX (t:=aA) hp).2.2.2.2.2.1.1
 replace hst:List.length s.2.2.2.2.2.1≤1000000000:=hst
 have hgs:jQ s.2.2.2.2.2.2.2.2.2.2.2:=aU2 (gX (t:=aA) hp).2.2.2.2.2.2.2.2.2.2.2
 refine ⟨by omega,fun _=>⟨by omega,fun _=>⟨fun hre=>?_,fun hre=>?_⟩⟩⟩
 ·rw[show s.2.2.2.2.2.2.1=nB s m from (bEI hre).symm]
  refine fun _ _=>⟨by omega,fun _=>⟨fun h=>fH (.inr (.inr (.inl (aAB (.inl (by omega)))))),fun hlen=>⟨⟨hm.1,by omega⟩,fun h=>fH (.inr (.inr (.inl (aAB (.inr h))))),fun hrow=>⟨fun hla=>?_,fun hla=>?_⟩⟩⟩⟩
  ·rw[show kM eP (List.getD (nB s m) s.2.2.1.length (aX aB)) t=hK s m t from (aQG hla).symm]
   (repeat' first|intro _|(with_reducible apply And.intro))
   all_goals first|omega|(unfold maxLen;omega)|exact fH (.inr (.inr (.inr (by assumption))))|exact ⟨by omega,by omega⟩|exact hgs|exact uJ _ _ h1|(simp only[List.length_append,List.length_drop,List.length_take];omega)|(simp only[List.length_append,List.length_drop,List.length_take];unfold maxLen;omega)|skip
   all_goals refine (pW (by omega) ?_).trans (uS h1 h2 (zH (by omega) hrow) (by assumption))
   all_goals first|rfl|(rw[iO (by assumption)];done)|(rw[show (hK s m t).2=true by assumption,Bool.true_or];done)|(rw[show (hK s m t).2=false by assumption,Bool.false_or];done)|skip
  ·have hgg:s.2.2.2.2.2.2.2.2.2.1=(hK s m t).1:=aON hla
   have hg0:(hK s m t).2=false:=aPU hla
   rw[hgg]
   (repeat' first|intro _|(with_reducible apply And.intro))
   all_goals first|omega|(unfold maxLen;omega)|exact fH (.inr (.inr (.inr (by assumption))))|exact ⟨by omega,by omega⟩|exact hgs|exact uJ _ _ h1|(simp only[List.length_append,List.length_drop,List.length_take];omega)|(simp only[List.length_append,List.length_drop,List.length_take];unfold maxLen;omega)|skip
   all_goals refine (pW (by omega) ?_).trans (uS h1 h2 (zH (by omega) hrow) (by assumption))
   all_goals first|rfl|(rw[iO (by assumption)];done)|(rw[show (hK s m t).2=true by assumption,Bool.true_or];done)|(rw[show (hK s m t).2=false by assumption,Bool.false_or];done)|skip
 ·rw[show (List.getD s.2.2.2.2.2.1 (dU s.2.2.2.2.2.1 m).toNat (aX aD)).2=nB s m from (bFH hre).symm]
  refine fun _ _=>⟨by omega,fun _=>⟨fun h=>fH (.inr (.inr (.inl (aAB (.inl (by omega)))))),fun hlen=>⟨⟨hm.1,by omega⟩,fun h=>fH (.inr (.inr (.inl (aAB (.inr h))))),fun hrow=>⟨fun hla=>?_,fun hla=>?_⟩⟩⟩⟩
  ·rw[show kM eP (List.getD (nB s m) s.2.2.1.length (aX aB)) t=hK s m t from (aQG hla).symm]
   (repeat' first|intro _|(with_reducible apply And.intro))
   all_goals first|omega|(unfold maxLen;omega)|exact fH (.inr (.inr (.inr (by assumption))))|exact ⟨by omega,by omega⟩|exact hgs|exact uJ _ _ h1|(simp only[List.length_append,List.length_drop,List.length_take];omega)|(simp only[List.length_append,List.length_drop,List.length_take];unfold maxLen;omega)|skip
   all_goals refine (pW (by omega) ?_).trans (uS h1 h2 (zH (by omega) hrow) (by assumption))
   all_goals first|rfl|(rw[iO (by assumption)];done)|(rw[show (hK s m t).2=true by assumption,Bool.true_or];done)|(rw[show (hK s m t).2=false by assumption,Bool.false_or];done)|skip
  ·have hgg:s.2.2.2.2.2.2.2.2.2.1=(hK s m t).1:=aON hla
   have hg0:(hK s m t).2=false:=aPU hla
   rw[hgg]
   (repeat' first|intro _|(with_reducible apply And.intro))
   all_goals first|omega|(unfold maxLen;omega)|exact fH (.inr (.inr (.inr (by assumption))))|exact ⟨by omega,by omega⟩|exact hgs|exact uJ _ _ h1|(simp only[List.length_append,List.length_drop,List.length_take];omega)|(simp only[List.length_append,List.length_drop,List.length_take];unfold maxLen;omega)|skip
   all_goals refine (pW (by omega) ?_).trans (uS h1 h2 (zH (by omega) hrow) (by assumption))
   all_goals first|rfl|(rw[iO (by assumption)];done)|(rw[show (hK s m t).2=true by assumption,Bool.true_or];done)|(rw[show (hK s m t).2=false by assumption,Bool.false_or];done)|skip
set_option maxHeartbeats 1000000 in
theorem aP6:Con.Holds Tryz.prog nC:=aR aW (aG oP (aG vU (aG uF (aG aJV (aG aJ8 (aG uE (aG aBY (aG jI (aG aVS (aG aPW aS)))))))))) aR3 aQM
noncomputable def nD:Con:=⟨161,(.bMC aA aF),aA,[.val ⟨true,aA,[]⟩,.val ⟨false,tI,[]⟩,.val ⟨false,aB,[]⟩],[⟨true,aA,[0,0,0,0,0,0,0,0,0,0,0,0,0,0]⟩],true,none,
 ((fun x=>bD aA x.1≤1000000000):(bC × cL)→Prop),
 ((fun x=>vB x.1 x.2.1 x.2.2):(bC × cL)→(bC))⟩
def yW:T:=.call 0 (.p1 aA aF (.Z 0)) <|.call 1 (.bME (.slice 206 aD) tI (aJ aA 5 (.p1 aA aF (.Z 0))) (aJ (.bMC aA aF) 1 (.Z 0))) <|.call 2 (.p1 aA aF (.Z 0)) <|
 .bMD .not (.Z 3) <|
 .ite (.Z 4) (
  .ret (.Z 1)) (
  .bMD (.cmp .lss .i64) (.bME tI tI (.Z 2) (.ci .i64 0)) <|
  .ite (.Z 5) (
   .ret (.Z 1)) (
   .bMD (.bMH 206 aD) (.bME (.slice 206 aD) tI (aJ aA 5 (.p1 aA aF (.Z 0))) (.Z 2)) <|
   .ite (aJ aA 4 (.p1 aA aF (.Z 0))) (
    .bMD (.bMG 156 aB) (aJ aA 6 (.p1 aA aF (.Z 0))) <|
    .bMD (.bMG 146 bA) (aJ aA 2 (.p1 aA aF (.Z 0))) <|
    .bMD (.ar .add .i64) (.bME tI tI (.Z 8) (.ci .i64 1)) <|
    .bMD (.cmp .neq .i64) (.bME tI tI (.Z 7) (.Z 9)) <|
    .ite (.Z 10) (
     .ret (.Z 1)) (
     .loop tI (.ci .i64 0) <|
      .bMD (.bMG 146 bA) (aJ aA 2 (.p1 aA aF (.Z 0))) <|
      .bMD (.cmp .lss .i64) (.bME tI tI (.Z 11) (.Z 12)) <|
      .ite (.Z 13) (
       .bMD (.bMH 156 aB) (.bME aH tI (aJ aA 6 (.p1 aA aF (.Z 0))) (.Z 11)) <|
       .call 3 (.Z 14) <|
       .bMD .not (.Z 15) <|
       .ite (.Z 16) (
        .ret (.Z 1)) (
        .bMD (.bMH 156 aB) (.bME aH tI (aJ aA 6 (.p1 aA aF (.Z 0))) (.Z 11)) <|
        .bMD (.bMG 3 tI) (.Z 17) <|
        .bMD (.bMH 146 bA) (.bME aE tI (aJ aA 2 (.p1 aA aF (.Z 0))) (.Z 11)) <|
        .bMD (.cmp .neq .i64) (.bME tI tI (.Z 18) (aJ bA 1 (.Z 19))) <|
        .ite (.Z 20) (
         .ret (.Z 1)) (
         .bMD (.ar .add .i64) (.bME tI tI (.Z 11) (.ci .i64 1)) <|
         .bMF 0 (.Z 21)))) (
       .ite (aJ aA 3 (.p1 aA aF (.Z 0))) (
        .bMD (.bMG 146 bA) (aJ aA 2 (.p1 aA aF (.Z 0))) <|
        .bMD (.bMH 156 aB) (.bME aH tI (aJ aA 6 (.p1 aA aF (.Z 0))) (.Z 14)) <|
        .call 4 (.bME aB aB (.Z 15) (aQ (.bMC aA aF) 2 (.Z 0))) <|
        .bMD (.bMG 3 tI) (.p1 aB .bool (.Z 16)) <|
        .bMD (.bMG 146 bA) (aJ aA 2 (.p1 aA aF (.Z 0))) <|
        .bMD (.ar .sub .i64) (.bME tI tI (.Z 18) (.ci .i64 1)) <|
        .bMD (.bMH 146 bA) (.bME aE tI (aJ aA 2 (.p1 aA aF (.Z 0))) (.Z 19)) <|
        .bMD (.cmp .neq .i64) (.bME tI tI (.Z 17) (aJ bA 2 (.Z 20))) <|
        .ite (.Z 21) (
         .ret (.Z 1)) (
         .call 3 (.p1 aB .bool (.Z 16)) <|
         .bMD .not (.Z 22) <|
         .ite (.Z 23) (
          .ret (.Z 1)) (
          .call 5 (bE (.bMC aE (.bMC aH aB)) [(aJ aA 2 (.p1 aA aF (.Z 0))),(aJ aA 6 (.p1 aA aF (.Z 0))),(.p1 aB .bool (.Z 16))]) <|
          .ite (aQ (.bMC aB .bool) 1 (.Z 16)) (
           .call 6 (bE (.bMC aU aU) [(aQ aA 11 (.p1 aA aF (.Z 0))),(.p1 aH (.bMC aB .bool) (.Z 24)),(.ci .i64 0),(.cb true)]) <|
           .bMD (.ar .add .i64) (.bME tI tI (.Z 2) (.ci .i64 1)) <|
           .bMD (.bMH 206 aD) (.bME (.slice 206 aD) tI (aJ aA 5 (.Z 1)) (.Z 2)) <|
           .bMD (.bMH 206 aD) (.bME (.slice 206 aD) tI (aJ aA 5 (.Z 1)) (.ci .i64 0)) <|
           .bMD (.bMG 206 aD) (aJ aA 5 (.Z 1)) <|
           .bMD (.bMI 206 aD) (bE (.bMC (.slice 206 aD) aO) [(aJ aA 5 (.Z 1)),(.Z 26),(.Z 29)]) <|
           .bMD (.bMI 206 aD) (bE (.bMC (.slice 206 aD) aO) [(aJ aA 5 (.Z 1)),(.Z 2),(.Z 26)]) <|
           .bMD (.bMI 206 aD) (bE (.bMC (.slice 206 aD) aO) [(aJ aA 5 (.Z 1)),(.ci .i64 0),(.Z 2)]) <|
           .bMD (.bMG 206 aD) (aJ aA 5 (.Z 1)) <|
           .bMD (.bMI 206 aD) (bE (.bMC (.slice 206 aD) aO) [(aJ aA 5 (.Z 1)),(.Z 26),(.Z 33)]) <|
           .bMD (.bMJ 206 aD 32) (.bME (.slice 206 aD) (.slice 206 aD) (.Z 32) (.Z 34)) <|
           .ret (bE aA [(.p1 tI cY (.Z 1)),(aJ aA 1 (.Z 1)),(aJ aA 2 (.Z 1)),(aJ aA 3 (.Z 1)),(aJ aA 4 (.Z 1)),(.Z 35),(.nl 156 aB),(aJ aA 7 (.Z 1)),(aJ aA 8 (.Z 1)),(.nl 3 tI),(aJ (.bMC aH (.bMC aB .bool)) 1 (.Z 24)),(.Z 25)])) (
           .call 6 (bE (.bMC aU aU) [(aQ aA 11 (.p1 aA aF (.Z 0))),(.p1 aH (.bMC aB .bool) (.Z 24)),(.ci .i64 0),(aQ (.bMC aH (.bMC aB .bool)) 2 (.Z 24))]) <|
           .bMD (.ar .add .i64) (.bME tI tI (.Z 2) (.ci .i64 1)) <|
           .bMD (.bMH 206 aD) (.bME (.slice 206 aD) tI (aJ aA 5 (.Z 1)) (.Z 2)) <|
           .bMD (.bMH 206 aD) (.bME (.slice 206 aD) tI (aJ aA 5 (.Z 1)) (.ci .i64 0)) <|
           .bMD (.bMG 206 aD) (aJ aA 5 (.Z 1)) <|
           .bMD (.bMI 206 aD) (bE (.bMC (.slice 206 aD) aO) [(aJ aA 5 (.Z 1)),(.Z 26),(.Z 29)]) <|
           .bMD (.bMI 206 aD) (bE (.bMC (.slice 206 aD) aO) [(aJ aA 5 (.Z 1)),(.Z 2),(.Z 26)]) <|
           .bMD (.bMI 206 aD) (bE (.bMC (.slice 206 aD) aO) [(aJ aA 5 (.Z 1)),(.ci .i64 0),(.Z 2)]) <|
           .bMD (.bMG 206 aD) (aJ aA 5 (.Z 1)) <|
           .bMD (.bMI 206 aD) (bE (.bMC (.slice 206 aD) aO) [(aJ aA 5 (.Z 1)),(.Z 26),(.Z 33)]) <|
           .bMD (.bMJ 206 aD 32) (.bME (.slice 206 aD) (.slice 206 aD) (.Z 32) (.Z 34)) <|
           .ret (bE aA [(.p1 tI cY (.Z 1)),(aJ aA 1 (.Z 1)),(aJ aA 2 (.Z 1)),(aJ aA 3 (.Z 1)),(aJ aA 4 (.Z 1)),(.Z 35),(.nl 156 aB),(aJ aA 7 (.Z 1)),(aJ aA 8 (.Z 1)),(.nl 3 tI),(aJ (.bMC aH (.bMC aB .bool)) 1 (.Z 24)),(.Z 25)]))))) (
        .bMD (.bMG 3 tI) (aJ aA 9 (.p1 aA aF (.Z 0))) <|
        .bMD (.bMG 146 bA) (aJ aA 2 (.p1 aA aF (.Z 0))) <|
        .bMD (.ar .sub .i64) (.bME tI tI (.Z 15) (.ci .i64 1)) <|
        .bMD (.bMH 146 bA) (.bME aE tI (aJ aA 2 (.p1 aA aF (.Z 0))) (.Z 16)) <|
        .bMD (.cmp .neq .i64) (.bME tI tI (.Z 14) (aJ bA 2 (.Z 17))) <|
        .ite (.Z 18) (
         .ret (.Z 1)) (
         .call 3 (aJ aA 9 (.p1 aA aF (.Z 0))) <|
         .bMD .not (.Z 19) <|
         .ite (.Z 20) (
          .ret (.Z 1)) (
          .call 5 (bE (.bMC aE (.bMC aH aB)) [(aJ aA 2 (.p1 aA aF (.Z 0))),(aJ aA 6 (.p1 aA aF (.Z 0))),(aJ aA 9 (.p1 aA aF (.Z 0)))]) <|
          .call 6 (bE (.bMC aU aU) [(aQ aA 11 (.p1 aA aF (.Z 0))),(.p1 aH (.bMC aB .bool) (.Z 21)),(.ci .i64 0),(aQ (.bMC aH (.bMC aB .bool)) 2 (.Z 21))]) <|
          .bMD (.ar .add .i64) (.bME tI tI (.Z 2) (.ci .i64 1)) <|
          .bMD (.bMH 206 aD) (.bME (.slice 206 aD) tI (aJ aA 5 (.Z 1)) (.Z 2)) <|
          .bMD (.bMH 206 aD) (.bME (.slice 206 aD) tI (aJ aA 5 (.Z 1)) (.ci .i64 0)) <|
          .bMD (.bMG 206 aD) (aJ aA 5 (.Z 1)) <|
          .bMD (.bMI 206 aD) (bE (.bMC (.slice 206 aD) aO) [(aJ aA 5 (.Z 1)),(.Z 23),(.Z 26)]) <|
          .bMD (.bMI 206 aD) (bE (.bMC (.slice 206 aD) aO) [(aJ aA 5 (.Z 1)),(.Z 2),(.Z 23)]) <|
          .bMD (.bMI 206 aD) (bE (.bMC (.slice 206 aD) aO) [(aJ aA 5 (.Z 1)),(.ci .i64 0),(.Z 2)]) <|
          .bMD (.bMG 206 aD) (aJ aA 5 (.Z 1)) <|
          .bMD (.bMI 206 aD) (bE (.bMC (.slice 206 aD) aO) [(aJ aA 5 (.Z 1)),(.Z 23),(.Z 30)]) <|
          .bMD (.bMJ 206 aD 32) (.bME (.slice 206 aD) (.slice 206 aD) (.Z 29) (.Z 31)) <|
          .ret (bE aA [(.p1 tI cY (.Z 1)),(aJ aA 1 (.Z 1)),(aJ aA 2 (.Z 1)),(aJ aA 3 (.Z 1)),(aJ aA 4 (.Z 1)),(.Z 32),(.nl 156 aB),(aJ aA 7 (.Z 1)),(aJ aA 8 (.Z 1)),(.nl 3 tI),(aJ (.bMC aH (.bMC aB .bool)) 1 (.Z 21)),(.Z 22)]))))))) (
    .bMD (.bMG 156 aB) (aQ aD 1 (.Z 6)) <|
    .bMD (.bMG 146 bA) (aJ aA 2 (.p1 aA aF (.Z 0))) <|
    .bMD (.ar .add .i64) (.bME tI tI (.Z 8) (.ci .i64 1)) <|
    .bMD (.cmp .neq .i64) (.bME tI tI (.Z 7) (.Z 9)) <|
    .ite (.Z 10) (
     .ret (.Z 1)) (
     .loop tI (.ci .i64 0) <|
      .bMD (.bMG 146 bA) (aJ aA 2 (.p1 aA aF (.Z 0))) <|
      .bMD (.cmp .lss .i64) (.bME tI tI (.Z 11) (.Z 12)) <|
      .ite (.Z 13) (
       .bMD (.bMH 156 aB) (.bME aH tI (aQ aD 1 (.Z 6)) (.Z 11)) <|
       .call 3 (.Z 14) <|
       .bMD .not (.Z 15) <|
       .ite (.Z 16) (
        .ret (.Z 1)) (
        .bMD (.bMH 156 aB) (.bME aH tI (aQ aD 1 (.Z 6)) (.Z 11)) <|
        .bMD (.bMG 3 tI) (.Z 17) <|
        .bMD (.bMH 146 bA) (.bME aE tI (aJ aA 2 (.p1 aA aF (.Z 0))) (.Z 11)) <|
        .bMD (.cmp .neq .i64) (.bME tI tI (.Z 18) (aJ bA 1 (.Z 19))) <|
        .ite (.Z 20) (
         .ret (.Z 1)) (
         .bMD (.ar .add .i64) (.bME tI tI (.Z 11) (.ci .i64 1)) <|
         .bMF 0 (.Z 21)))) (
       .ite (aJ aA 3 (.p1 aA aF (.Z 0))) (
        .bMD (.bMG 146 bA) (aJ aA 2 (.p1 aA aF (.Z 0))) <|
        .bMD (.bMH 156 aB) (.bME aH tI (aQ aD 1 (.Z 6)) (.Z 14)) <|
        .call 4 (.bME aB aB (.Z 15) (aQ (.bMC aA aF) 2 (.Z 0))) <|
        .bMD (.bMG 3 tI) (.p1 aB .bool (.Z 16)) <|
        .bMD (.bMG 146 bA) (aJ aA 2 (.p1 aA aF (.Z 0))) <|
        .bMD (.ar .sub .i64) (.bME tI tI (.Z 18) (.ci .i64 1)) <|
        .bMD (.bMH 146 bA) (.bME aE tI (aJ aA 2 (.p1 aA aF (.Z 0))) (.Z 19)) <|
        .bMD (.cmp .neq .i64) (.bME tI tI (.Z 17) (aJ bA 2 (.Z 20))) <|
        .ite (.Z 21) (
         .ret (.Z 1)) (
         .call 3 (.p1 aB .bool (.Z 16)) <|
         .bMD .not (.Z 22) <|
         .ite (.Z 23) (
          .ret (.Z 1)) (
          .call 5 (bE (.bMC aE (.bMC aH aB)) [(aJ aA 2 (.p1 aA aF (.Z 0))),(aQ aD 1 (.Z 6)),(.p1 aB .bool (.Z 16))]) <|
          .ite (aQ (.bMC aB .bool) 1 (.Z 16)) (
           .call 6 (bE (.bMC aU aU) [(aQ aA 11 (.p1 aA aF (.Z 0))),(.p1 aH (.bMC aB .bool) (.Z 24)),(.ci .i64 0),(.cb true)]) <|
           .bMD (.ar .add .i64) (.bME tI tI (.Z 2) (.ci .i64 1)) <|
           .bMD (.bMH 206 aD) (.bME (.slice 206 aD) tI (aJ aA 5 (.Z 1)) (.Z 2)) <|
           .bMD (.bMH 206 aD) (.bME (.slice 206 aD) tI (aJ aA 5 (.Z 1)) (.ci .i64 0)) <|
           .bMD (.bMG 206 aD) (aJ aA 5 (.Z 1)) <|
           .bMD (.bMI 206 aD) (bE (.bMC (.slice 206 aD) aO) [(aJ aA 5 (.Z 1)),(.Z 26),(.Z 29)]) <|
           .bMD (.bMI 206 aD) (bE (.bMC (.slice 206 aD) aO) [(aJ aA 5 (.Z 1)),(.Z 2),(.Z 26)]) <|
           .bMD (.bMI 206 aD) (bE (.bMC (.slice 206 aD) aO) [(aJ aA 5 (.Z 1)),(.ci .i64 0),(.Z 2)]) <|
           .bMD (.bMG 206 aD) (aJ aA 5 (.Z 1)) <|
           .bMD (.bMI 206 aD) (bE (.bMC (.slice 206 aD) aO) [(aJ aA 5 (.Z 1)),(.Z 26),(.Z 33)]) <|
           .bMD (.bMJ 206 aD 32) (.bME (.slice 206 aD) (.slice 206 aD) (.Z 32) (.Z 34)) <|
           .ret (bE aA [(.p1 tI cY (.Z 1)),(aJ aA 1 (.Z 1)),(aJ aA 2 (.Z 1)),(aJ aA 3 (.Z 1)),(aJ aA 4 (.Z 1)),(.Z 35),(.nl 156 aB),(aJ aA 7 (.Z 1)),(aJ aA 8 (.Z 1)),(.nl 3 tI),(aJ (.bMC aH (.bMC aB .bool)) 1 (.Z 24)),(.Z 25)])) (
           .call 6 (bE (.bMC aU aU) [(aQ aA 11 (.p1 aA aF (.Z 0))),(.p1 aH (.bMC aB .bool) (.Z 24)),(.ci .i64 0),(aQ (.bMC aH (.bMC aB .bool)) 2 (.Z 24))]) <|
           .bMD (.ar .add .i64) (.bME tI tI (.Z 2) (.ci .i64 1)) <|
           .bMD (.bMH 206 aD) (.bME (.slice 206 aD) tI (aJ aA 5 (.Z 1)) (.Z 2)) <|
           .bMD (.bMH 206 aD) (.bME (.slice 206 aD) tI (aJ aA 5 (.Z 1)) (.ci .i64 0)) <|
           .bMD (.bMG 206 aD) (aJ aA 5 (.Z 1)) <|
           .bMD (.bMI 206 aD) (bE (.bMC (.slice 206 aD) aO) [(aJ aA 5 (.Z 1)),(.Z 26),(.Z 29)]) <|
           .bMD (.bMI 206 aD) (bE (.bMC (.slice 206 aD) aO) [(aJ aA 5 (.Z 1)),(.Z 2),(.Z 26)]) <|
           .bMD (.bMI 206 aD) (bE (.bMC (.slice 206 aD) aO) [(aJ aA 5 (.Z 1)),(.ci .i64 0),(.Z 2)]) <|
           .bMD (.bMG 206 aD) (aJ aA 5 (.Z 1)) <|
           .bMD (.bMI 206 aD) (bE (.bMC (.slice 206 aD) aO) [(aJ aA 5 (.Z 1)),(.Z 26),(.Z 33)]) <|
           .bMD (.bMJ 206 aD 32) (.bME (.slice 206 aD) (.slice 206 aD) (.Z 32) (.Z 34)) <|
           .ret (bE aA [(.p1 tI cY (.Z 1)),(aJ aA 1 (.Z 1)),(aJ aA 2 (.Z 1)),(aJ aA 3 (.Z 1)),(aJ aA 4 (.Z 1)),(.Z 35),(.nl 156 aB),(aJ aA 7 (.Z 1)),(aJ aA 8 (.Z 1)),(.nl 3 tI),(aJ (.bMC aH (.bMC aB .bool)) 1 (.Z 24)),(.Z 25)]))))) (
        .bMD (.bMG 3 tI) (aJ aA 9 (.p1 aA aF (.Z 0))) <|
        .bMD (.bMG 146 bA) (aJ aA 2 (.p1 aA aF (.Z 0))) <|
        .bMD (.ar .sub .i64) (.bME tI tI (.Z 15) (.ci .i64 1)) <|
        .bMD (.bMH 146 bA) (.bME aE tI (aJ aA 2 (.p1 aA aF (.Z 0))) (.Z 16)) <|
        .bMD (.cmp .neq .i64) (.bME tI tI (.Z 14) (aJ bA 2 (.Z 17))) <|
        .ite (.Z 18) (
         .ret (.Z 1)) (
         .call 3 (aJ aA 9 (.p1 aA aF (.Z 0))) <|
         .bMD .not (.Z 19) <|
         .ite (.Z 20) (
          .ret (.Z 1)) (
          .call 5 (bE (.bMC aE (.bMC aH aB)) [(aJ aA 2 (.p1 aA aF (.Z 0))),(aQ aD 1 (.Z 6)),(aJ aA 9 (.p1 aA aF (.Z 0)))]) <|
          .call 6 (bE (.bMC aU aU) [(aQ aA 11 (.p1 aA aF (.Z 0))),(.p1 aH (.bMC aB .bool) (.Z 21)),(.ci .i64 0),(aQ (.bMC aH (.bMC aB .bool)) 2 (.Z 21))]) <|
          .bMD (.ar .add .i64) (.bME tI tI (.Z 2) (.ci .i64 1)) <|
          .bMD (.bMH 206 aD) (.bME (.slice 206 aD) tI (aJ aA 5 (.Z 1)) (.Z 2)) <|
          .bMD (.bMH 206 aD) (.bME (.slice 206 aD) tI (aJ aA 5 (.Z 1)) (.ci .i64 0)) <|
          .bMD (.bMG 206 aD) (aJ aA 5 (.Z 1)) <|
          .bMD (.bMI 206 aD) (bE (.bMC (.slice 206 aD) aO) [(aJ aA 5 (.Z 1)),(.Z 23),(.Z 26)]) <|
          .bMD (.bMI 206 aD) (bE (.bMC (.slice 206 aD) aO) [(aJ aA 5 (.Z 1)),(.Z 2),(.Z 23)]) <|
          .bMD (.bMI 206 aD) (bE (.bMC (.slice 206 aD) aO) [(aJ aA 5 (.Z 1)),(.ci .i64 0),(.Z 2)]) <|
          .bMD (.bMG 206 aD) (aJ aA 5 (.Z 1)) <|
          .bMD (.bMI 206 aD) (bE (.bMC (.slice 206 aD) aO) [(aJ aA 5 (.Z 1)),(.Z 23),(.Z 30)]) <|
          .bMD (.bMJ 206 aD 32) (.bME (.slice 206 aD) (.slice 206 aD) (.Z 29) (.Z 31)) <|
          .ret (bE aA [(.p1 tI cY (.Z 1)),(aJ aA 1 (.Z 1)),(aJ aA 2 (.Z 1)),(aJ aA 3 (.Z 1)),(aJ aA 4 (.Z 1)),(.Z 32),(.nl 156 aB),(aJ aA 7 (.Z 1)),(aJ aA 8 (.Z 1)),(.nl 3 tI),(aJ (.bMC aH (.bMC aB .bool)) 1 (.Z 21)),(.Z 22)])))))))))
theorem aQV:bL Tryz.prog [dY,eD,dX,bI,kR,sL,nJ] nD false 3000 ⟨[(2968,20011,iQ 51 33++iQ 31 19++[.dr 0,.dr 1,.tm 12 0]),(2968,16011,iQ 51 43++iQ 40 33++iQ 31 19++[.dr 0,.dr 1,.tm 12 0])],[(2947,292024,[],[31]),(2935,804026,[146,151],[]),(2935,548026,[146,151],[]),(2939,260023,[146,151],[]),(2947,288024,[],[31]),(2935,800026,[146,151],[]),(2935,544026,[146,151],[]),(2939,256023,[146,151],[])]⟩ = .ok yW:=by kernel_rfl
set_option maxHeartbeats 1000000 in
theorem aPX (x:bC × cL) (hx:okD (.bMC aA aF) x) (hp:(fun x=>bD aA x.1≤1000000000) x):yW.wp [dY,eD,dX,bI,kR,sL,nJ] [⟨(.bMC aA aF),x⟩] [] (fun v=>v.as aA=(fun x=>vB x.1 x.2.1 x.2.2) x):=by
 obtain ⟨s,m,t⟩:=x
 delta yW dY eD dX bI kR sL nJ;refine dD ?_
 refine eE ?_
 refine ⟨hp,fun _ _=>⟨fun h=>fH (.inl h),fun h1=>⟨fun h=>fH (.inr (.inl h)),fun h2=>?_⟩⟩⟩
 have hf2:dU s.2.2.2.2.2.1 m<(s.2.2.2.2.2.1.length:Int):=(aAY s.2.2.2.2.2.1 m s.2.2.2.2.2.1.length).2
 have hm:=(eJ s).1 h1
 have hn8:=(bY _).1 hm.1
 have hou:(List.getD s.2.2.1 (s.2.2.1.length - 1) (aX bA)).2.2.1=gY s.2.2.1:=by unfold gY;rw[if_pos hm.1];rfl
 have hst:=(gX (t:=aA) hp).2.2.2.2.2.1.1
 replace hst:List.length s.2.2.2.2.2.1≤1000000000:=hst
 have hgs:jQ s.2.2.2.2.2.2.2.2.2.2.2:=aU2 (gX (t:=aA) hp).2.2.2.2.2.2.2.2.2.2.2
 refine ⟨by omega,fun _=>⟨fun hre=>?_,fun hre=>?_⟩⟩
 ·rw[show s.2.2.2.2.2.2.1=nB s m from (bEI hre).symm]
  refine fun _ _=>⟨by omega,fun _=>⟨fun h=>fH (.inr (.inr (.inl (aAB (.inl (by omega)))))),fun hlen=>?_⟩⟩
  refine uK (fun k=>(k:Int)) (fun k=>∀ i,i<k→eQ (List.getD (nB s m) i []) (fW s.2.2.1 i)=true) s.2.2.1.length rfl (fun i hi=>absurd hi (Nat.not_lt_zero _)) fun I μ k hk hG _ go=>?_
  try dsimp only
  refine eE ?_
  intro _
  constructor
  ·intro hlt
   have hk':k<s.2.2.1.length:=by omega
   have esz:fW s.2.2.1 k=(List.getD s.2.2.1 k (aX bA)).2.1:=if_pos hk'
   have bad:¬ eQ (List.getD (nB s m) k []) (fW s.2.2.1 k)=true→s=vB s m t:=fun h=>fH (.inr (.inr (.inl (aAB (.inr (Bool.eq_false_iff.2 fun hh=>h ((mR _ _ _).1 hh k hk')))))))
   rw[cF,esz] at bad
   (repeat' first|intro _|(refine go _ ?_ ?_ ?_)|(refine go _ ?_ ?_)|(with_reducible apply And.intro))
   all_goals first|omega|exact bad (fun h=>Bool.noConfusion (h.1.symm.trans (by assumption:_=false)))|exact bad (fun h=>absurd h.2 (by assumption))|exact uH hG ((cF _ _).2 ⟨by assumption,by rw[esz];assumption⟩) _ (by assumption)|rfl|skip
  ·intro hge
   have hk':k=s.2.2.1.length:=by omega
   subst hk'
   have hrow:qH s.2.2.1 (nB s m) s.2.2.1.length=true:=(mR _ _ _).2 hG
   clear go hG
   refine ⟨fun hla=>?_,fun hla=>?_⟩
   ·rw[show kM eP (List.getD (nB s m) s.2.2.1.length (aX aB)) t=hK s m t from (aQG hla).symm]
    (repeat' first|intro _|(with_reducible apply And.intro))
    all_goals first|omega|exact fH (.inr (.inr (.inr (Bool.eq_false_iff.2 fun h=>absurd ((cF _ _).1 h).2 (by first|assumption|(rw[← hou];assumption))))))|exact fH (.inr (.inr (.inr (aAM (by assumption)).symm)))|exact ⟨hn8.2.1,by omega⟩|(unfold maxLen;omega)|exact fH (.inr (.inr (.inr (by assumption))))|exact ⟨by omega,by omega⟩|exact hgs|exact uJ _ _ h1|(simp only[List.length_append,List.length_drop,List.length_take];omega)|(simp only[List.length_append,List.length_drop,List.length_take];unfold maxLen;omega)|skip
    all_goals refine (pW (by omega) ?_).trans (uS h1 h2 (zH (by omega) hrow) ((cF _ _).2 ⟨by assumption,by rw[← hou];assumption⟩))
    all_goals first|rfl|(rw[iO (by assumption)];done)|(rw[show (hK s m t).2=true by assumption,Bool.true_or];done)|(rw[show (hK s m t).2=false by assumption,Bool.false_or];done)|skip
   ·have hgg:s.2.2.2.2.2.2.2.2.2.1=(hK s m t).1:=aON hla
    have hg0:(hK s m t).2=false:=aPU hla
    rw[hgg]
    (repeat' first|intro _|(with_reducible apply And.intro))
    all_goals first|omega|exact fH (.inr (.inr (.inr (Bool.eq_false_iff.2 fun h=>absurd ((cF _ _).1 h).2 (by first|assumption|(rw[← hou];assumption))))))|exact fH (.inr (.inr (.inr (aAM (by assumption)).symm)))|exact ⟨hn8.2.1,by omega⟩|(unfold maxLen;omega)|exact fH (.inr (.inr (.inr (by assumption))))|exact ⟨by omega,by omega⟩|exact hgs|exact uJ _ _ h1|(simp only[List.length_append,List.length_drop,List.length_take];omega)|(simp only[List.length_append,List.length_drop,List.length_take];unfold maxLen;omega)|skip
    all_goals refine (pW (by omega) ?_).trans (uS h1 h2 (zH (by omega) hrow) ((cF _ _).2 ⟨by assumption,by rw[← hou];assumption⟩))
    all_goals first|rfl|(rw[iO (by assumption)];done)|(rw[show (hK s m t).2=true by assumption,Bool.true_or];done)|(rw[show (hK s m t).2=false by assumption,Bool.false_or];done)|skip
 ·rw[show (List.getD s.2.2.2.2.2.1 (dU s.2.2.2.2.2.1 m).toNat (aX aD)).2=nB s m from (bFH hre).symm]
  refine fun _ _=>⟨by omega,fun _=>⟨fun h=>fH (.inr (.inr (.inl (aAB (.inl (by omega)))))),fun hlen=>?_⟩⟩
  refine uK (fun k=>(k:Int)) (fun k=>∀ i,i<k→eQ (List.getD (nB s m) i []) (fW s.2.2.1 i)=true) s.2.2.1.length rfl (fun i hi=>absurd hi (Nat.not_lt_zero _)) fun I μ k hk hG _ go=>?_
  try dsimp only
  refine eE ?_
  intro _
  constructor
  ·intro hlt
   have hk':k<s.2.2.1.length:=by omega
   have esz:fW s.2.2.1 k=(List.getD s.2.2.1 k (aX bA)).2.1:=if_pos hk'
   have bad:¬ eQ (List.getD (nB s m) k []) (fW s.2.2.1 k)=true→s=vB s m t:=fun h=>fH (.inr (.inr (.inl (aAB (.inr (Bool.eq_false_iff.2 fun hh=>h ((mR _ _ _).1 hh k hk')))))))
   rw[cF,esz] at bad
   (repeat' first|intro _|(refine go _ ?_ ?_ ?_)|(refine go _ ?_ ?_)|(with_reducible apply And.intro))
   all_goals first|omega|exact bad (fun h=>Bool.noConfusion (h.1.symm.trans (by assumption:_=false)))|exact bad (fun h=>absurd h.2 (by assumption))|exact uH hG ((cF _ _).2 ⟨by assumption,by rw[esz];assumption⟩) _ (by assumption)|rfl|skip
  ·intro hge
   have hk':k=s.2.2.1.length:=by omega
   subst hk'
   have hrow:qH s.2.2.1 (nB s m) s.2.2.1.length=true:=(mR _ _ _).2 hG
   clear go hG
   refine ⟨fun hla=>?_,fun hla=>?_⟩
   ·rw[show kM eP (List.getD (nB s m) s.2.2.1.length (aX aB)) t=hK s m t from (aQG hla).symm]
    (repeat' first|intro _|(with_reducible apply And.intro))
    all_goals first|omega|exact fH (.inr (.inr (.inr (Bool.eq_false_iff.2 fun h=>absurd ((cF _ _).1 h).2 (by first|assumption|(rw[← hou];assumption))))))|exact fH (.inr (.inr (.inr (aAM (by assumption)).symm)))|exact ⟨hn8.2.1,by omega⟩|(unfold maxLen;omega)|exact fH (.inr (.inr (.inr (by assumption))))|exact ⟨by omega,by omega⟩|exact hgs|exact uJ _ _ h1|(simp only[List.length_append,List.length_drop,List.length_take];omega)|(simp only[List.length_append,List.length_drop,List.length_take];unfold maxLen;omega)|skip
    all_goals refine (pW (by omega) ?_).trans (uS h1 h2 (zH (by omega) hrow) ((cF _ _).2 ⟨by assumption,by rw[← hou];assumption⟩))
    all_goals first|rfl|(rw[iO (by assumption)];done)|(rw[show (hK s m t).2=true by assumption,Bool.true_or];done)|(rw[show (hK s m t).2=false by assumption,Bool.false_or];done)|skip
   ·have hgg:s.2.2.2.2.2.2.2.2.2.1=(hK s m t).1:=aON hla
    have hg0:(hK s m t).2=false:=aPU hla
    rw[hgg]
    (repeat' first|intro _|(with_reducible apply And.intro))
    all_goals first|omega|exact fH (.inr (.inr (.inr (Bool.eq_false_iff.2 fun h=>absurd ((cF _ _).1 h).2 (by first|assumption|(rw[← hou];assumption))))))|exact fH (.inr (.inr (.inr (aAM (by assumption)).symm)))|exact ⟨hn8.2.1,by omega⟩|(unfold maxLen;omega)|exact fH (.inr (.inr (.inr (by assumption))))|exact ⟨by omega,by omega⟩|exact hgs|exact uJ _ _ h1|(simp only[List.length_append,List.length_drop,List.length_take];omega)|(simp only[List.length_append,List.length_drop,List.length_take];unfold maxLen;omega)|skip
    all_goals refine (pW (by omega) ?_).trans (uS h1 h2 (zH (by omega) hrow) ((cF _ _).2 ⟨by assumption,by rw[← hou];assumption⟩))
    all_goals first|rfl|(rw[iO (by assumption)];done)|(rw[show (hK s m t).2=true by assumption,Bool.true_or];done)|(rw[show (hK s m t).2=false by assumption,Bool.false_or];done)|skip
set_option maxHeartbeats 1000000 in
theorem aPB:Con.Holds Tryz.prog nD:=aR aW (aG uM (aG uW (aG uD (aG fD (aG aJK (aG aWV (aG aPO aS))))))) aQV aPX
end Go.Proofs.YtiihghfoeinbbaaGreat
