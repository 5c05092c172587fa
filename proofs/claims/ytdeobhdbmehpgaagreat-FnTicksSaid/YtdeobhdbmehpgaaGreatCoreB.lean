/- CoreB: lemmas. No conditions. -/
import Derived.Test.YtdeobhdbmehpgaaGreatCore7
namespace Go.Proofs.YtdeobhdbmehpgaaGreat
set_option maxRecDepth 100000
open Go.ChangeShapes Go.WideShapes Go.ChangeAt Go.RowKit Go.Deep
set_option linter.unusedVariables false
set_option linter.unusedSimpArgs false
theorem fF {s:bA} {m:Int} {t:List Int} (h:gG s=false∨dU s.2.2.2.2.2.1 m<0∨aJQ s.2.2.1 (mT s m)=false∨eF (gP s m t).1 (eM s.2.2.1)=false):s=uH s m t:=by
 unfold uH;rw[if_neg]
 unfold bC3
 simp only[Bool.and_eq_true,decide_eq_true_eq]
 rintro ⟨h1,h2,h3,h4⟩
 rcases h with h|h|h|h
 ·rw[h] at h1;cases h1
 ·omega
 ·rw[h] at h3;cases h3
 ·rw[h] at h4;cases h4
theorem tZ {s:bA} {m:Int} {t:List Int} (h1:gG s=true) (h2:0≤dU s.2.2.2.2.2.1 m) (h3:aJQ s.2.2.1 (mT s m)=true) (h4:eF (gP s m t).1 (eM s.2.2.1)=true):bL5 s m t=uH s m t:=by
 unfold uH;rw[if_pos]
 unfold bC3
 simp only[Bool.and_eq_true,decide_eq_true_eq]
 exact ⟨h1,h2,h3,h4⟩
theorem bH6 {s:bA} {m:Int} (h:s.2.2.2.2.1=true):mT s m=s.2.2.2.2.2.2.1:=if_pos h
theorem bI8 {s:bA} {m:Int} (h:s.2.2.2.2.1=false):mT s m=(s.2.2.2.2.2.1.getD (dU s.2.2.2.2.2.1 m).toNat (aV aD)).2:=if_neg (by rw[h];simp)
theorem aRC {s:bA} {m:Int} {t:List Int} (h:s.2.2.2.1=true):gP s m t=kD eP (List.getD (mT s m) s.2.2.1.length (aV aB)) t:=if_pos h
theorem aPC {s:bA} {m:Int} {t:List Int} (h:s.2.2.2.1=false):s.2.2.2.2.2.2.2.2.2.1=(gP s m t).1:=by unfold gP;rw[if_neg (by rw[h];simp)]
theorem aPZ {s:bA} {m:Int} {t:List Int} (h:s.2.2.2.1=false):(gP s m t).2=false:=by unfold gP;rw[if_neg (by rw[h];simp)]
theorem aAT {m:List dJ} {r:cV} (h:¬ r.length=m.length+1∨qK m r m.length=false):aJQ m r=false:=by
 unfold aJQ
 rcases h with h|h
 ·rw[decide_eq_false h];rfl
 ·rw[h,Bool.and_false]
theorem zD {m:List dJ} {r:cV} (h:r.length=m.length+1) (h2:qK m r m.length=true):aJQ m r=true:=by
 unfold aJQ;rw[decide_eq_true h,h2];rfl
theorem tT {s:bA} {r:cV} {d:List Int} (l:Int) (b:Bool) (h:gG s=true):jE ((qO s.2.2.1 r d).1,l,b):=by
 have hm:=((bR _).1 ((eI s).1 h).1).2.1
 refine ⟨?_,fun y hy=>Nat.le_trans (aL4 _ _ _ _ _ y hy) (by decide)⟩
 show (eH _ _ _ _ _).1.length≤1000000000
 rw[aBO];omega
theorem pX {s:bA} {m:Int} {t:List Int} {g:dP} (h:0≤dU s.2.2.2.2.2.1 m) (e:g=gX s.2.2.2.2.2.2.2.2.2.2.2 ((qO s.2.2.1 (mT s m) (gP s m t).1).1,0,(gP s m t).2 || (qO s.2.2.1 (mT s m) (gP s m t).1).2.2)) :
  (s.1,s.2.1,s.2.2.1,s.2.2.2.1,s.2.2.2.2.1,List.drop 0 (List.take (dU s.2.2.2.2.2.1 m).toNat s.2.2.2.2.2.1)++List.drop (dU s.2.2.2.2.2.1 m+1).toNat (List.take (List.length s.2.2.2.2.2.1) s.2.2.2.2.2.1),([]:cV),s.2.2.2.2.2.2.2.1,s.2.2.2.2.2.2.2.2.1,([]:List Int),(qO s.2.2.1 (mT s m) (gP s m t).1).2.1,g)=bL5 s m t:=by
 rw[List.take_length,show (dU s.2.2.2.2.2.1 m+1).toNat=(dU s.2.2.2.2.2.1 m).toNat+1 by omega,e];rfl
noncomputable def nE:Con:=⟨83,(.bNT aA aF),aA,[.val ⟨true,aA,[]⟩,.val ⟨false,tI,[]⟩,.val ⟨false,aB,[]⟩],[⟨true,aA,[0,1,1,0,0,1,1,1,1,1,1,1,0,0]⟩],false,none,
 ((fun x=>bQ aA x.1≤1000000000):(bA × cC)→Prop),
 ((fun x=>uH x.1 x.2.1 x.2.2):(bA × cC)→(bA))⟩
def yH:T:=.call 0 (.p1 aA aF (.Z 0)) <|.call 1 (.bNV (.slice 80 aD) tI (aJ aA 5 (.p1 aA aF (.Z 0))) (aJ (.bNT aA aF) 1 (.Z 0))) <|.call 2 (.p1 aA aF (.Z 0)) <|
 .bNU .not (.Z 3) <|
 .ite (.Z 4) (
  .ret (.Z 1)) (
  .bNU (.cmp .lss .i64) (.bNV tI tI (.Z 2) (.ci .i64 0)) <|
  .ite (.Z 5) (
   .ret (.Z 1)) (
   .bNU (.bNY 80 aD) (.bNV (.slice 80 aD) tI (aJ aA 5 (.Z 1)) (.Z 2)) <|
   .bNU (.bNY 80 aD) (.bNV (.slice 80 aD) tI (aJ aA 5 (.Z 1)) (.Z 2)) <|
   .ite (aJ aA 4 (.p1 aA aF (.Z 0))) (
    .bNU (.bNX 78 bG) (aJ aA 2 (.p1 aA aF (.Z 0))) <|
    .bNU (.bNX 112 aB) (aJ aA 6 (.Z 1)) <|
    .bNU (.ar .add .i64) (.bNV tI tI (.Z 8) (.ci .i64 1)) <|
    .bNU (.cmp .neq .i64) (.bNV tI tI (.Z 9) (.Z 10)) <|
    .ite (.Z 11) (
     .ret (.Z 1)) (
     .call 3 (bB (.bNT aK (.bNT aI tI)) [(aJ aA 2 (.p1 aA aF (.Z 0))),(aJ aA 6 (.Z 1)),(.Z 8)]) <|
     .bNU .not (.Z 12) <|
     .ite (.Z 13) (
      .ret (.Z 1)) (
      .ite (aJ aA 3 (.p1 aA aF (.Z 0))) (
       .bNU (.bNY 112 aB) (.bNV aI tI (aJ aA 6 (.Z 1)) (.Z 8)) <|
       .bNU (.bNY 112 aB) (.bNV aI tI (aJ aA 6 (.Z 1)) (.Z 8)) <|
       .call 4 (.bNV aB aB (.Z 15) (aO (.bNT aA aF) 2 (.Z 0))) <|
       .call 5 (.p1 aA aF (.Z 0)) <|
       .call 6 (.Z 17) <|
       .call 7 (.bNV aB tI (.p1 aB .bool (.Z 16)) (.Z 18)) <|
       .bNU .not (.Z 19) <|
       .ite (.Z 20) (
        .ret (.Z 1)) (
        .call 8 (bB (.bNT aK (.bNT aI aB)) [(aJ aA 2 (.p1 aA aF (.Z 0))),(aJ aA 6 (.Z 1)),(.p1 aB .bool (.Z 16))]) <|
        .ite (aO (.bNT aB .bool) 1 (.Z 16)) (
         .call 9 (bB (.bNT aT aT) [(aO aA 11 (.Z 1)),(.p1 aI (.bNT aB .bool) (.Z 21)),(.ci .i64 0),(.cb true)]) <|
         .bNU (.ar .add .i64) (.bNV tI tI (.Z 2) (.ci .i64 1)) <|
         .bNU (.bNY 80 aD) (.bNV (.slice 80 aD) tI (aJ aA 5 (.Z 1)) (.Z 2)) <|
         .bNU (.bNY 80 aD) (.bNV (.slice 80 aD) tI (aJ aA 5 (.Z 1)) (.ci .i64 0)) <|
         .bNU (.bNX 80 aD) (aJ aA 5 (.Z 1)) <|
         .bNU (.bNZ 80 aD) (bB (.bNT (.slice 80 aD) aE) [(aJ aA 5 (.Z 1)),(.Z 23),(.Z 26)]) <|
         .bNU (.bNZ 80 aD) (bB (.bNT (.slice 80 aD) aE) [(aJ aA 5 (.Z 1)),(.Z 2),(.Z 23)]) <|
         .bNU (.bNZ 80 aD) (bB (.bNT (.slice 80 aD) aE) [(aJ aA 5 (.Z 1)),(.ci .i64 0),(.Z 2)]) <|
         .bNU (.bNX 80 aD) (aJ aA 5 (.Z 1)) <|
         .bNU (.bNZ 80 aD) (bB (.bNT (.slice 80 aD) aE) [(aJ aA 5 (.Z 1)),(.Z 23),(.Z 30)]) <|
         .bNU (.bO0 80 aD 32) (.bNV (.slice 80 aD) (.slice 80 aD) (.Z 29) (.Z 31)) <|
         .ret (bB aA [(.p1 tI cU (.Z 1)),(aJ aA 1 (.Z 1)),(aJ aA 2 (.Z 1)),(aJ aA 3 (.Z 1)),(aJ aA 4 (.Z 1)),(.Z 32),(.nl 112 aB),(aJ aA 7 (.Z 1)),(aJ aA 8 (.Z 1)),(.nl 3 tI),(aJ (.bNT aI (.bNT aB .bool)) 1 (.Z 21)),(.Z 22)])) (
         .call 9 (bB (.bNT aT aT) [(aO aA 11 (.Z 1)),(.p1 aI (.bNT aB .bool) (.Z 21)),(.ci .i64 0),(aO (.bNT aI (.bNT aB .bool)) 2 (.Z 21))]) <|
         .bNU (.ar .add .i64) (.bNV tI tI (.Z 2) (.ci .i64 1)) <|
         .bNU (.bNY 80 aD) (.bNV (.slice 80 aD) tI (aJ aA 5 (.Z 1)) (.Z 2)) <|
         .bNU (.bNY 80 aD) (.bNV (.slice 80 aD) tI (aJ aA 5 (.Z 1)) (.ci .i64 0)) <|
         .bNU (.bNX 80 aD) (aJ aA 5 (.Z 1)) <|
         .bNU (.bNZ 80 aD) (bB (.bNT (.slice 80 aD) aE) [(aJ aA 5 (.Z 1)),(.Z 23),(.Z 26)]) <|
         .bNU (.bNZ 80 aD) (bB (.bNT (.slice 80 aD) aE) [(aJ aA 5 (.Z 1)),(.Z 2),(.Z 23)]) <|
         .bNU (.bNZ 80 aD) (bB (.bNT (.slice 80 aD) aE) [(aJ aA 5 (.Z 1)),(.ci .i64 0),(.Z 2)]) <|
         .bNU (.bNX 80 aD) (aJ aA 5 (.Z 1)) <|
         .bNU (.bNZ 80 aD) (bB (.bNT (.slice 80 aD) aE) [(aJ aA 5 (.Z 1)),(.Z 23),(.Z 30)]) <|
         .bNU (.bO0 80 aD 32) (.bNV (.slice 80 aD) (.slice 80 aD) (.Z 29) (.Z 31)) <|
         .ret (bB aA [(.p1 tI cU (.Z 1)),(aJ aA 1 (.Z 1)),(aJ aA 2 (.Z 1)),(aJ aA 3 (.Z 1)),(aJ aA 4 (.Z 1)),(.Z 32),(.nl 112 aB),(aJ aA 7 (.Z 1)),(aJ aA 8 (.Z 1)),(.nl 3 tI),(aJ (.bNT aI (.bNT aB .bool)) 1 (.Z 21)),(.Z 22)])))) (
       .call 5 (.p1 aA aF (.Z 0)) <|
       .call 6 (.Z 14) <|
       .call 7 (.bNV aB tI (aJ aA 9 (.Z 1)) (.Z 15)) <|
       .bNU .not (.Z 16) <|
       .ite (.Z 17) (
        .ret (.Z 1)) (
        .call 8 (bB (.bNT aK (.bNT aI aB)) [(aJ aA 2 (.p1 aA aF (.Z 0))),(aJ aA 6 (.Z 1)),(aJ aA 9 (.Z 1))]) <|
        .call 9 (bB (.bNT aT aT) [(aO aA 11 (.Z 1)),(.p1 aI (.bNT aB .bool) (.Z 18)),(.ci .i64 0),(aO (.bNT aI (.bNT aB .bool)) 2 (.Z 18))]) <|
        .bNU (.ar .add .i64) (.bNV tI tI (.Z 2) (.ci .i64 1)) <|
        .bNU (.bNY 80 aD) (.bNV (.slice 80 aD) tI (aJ aA 5 (.Z 1)) (.Z 2)) <|
        .bNU (.bNY 80 aD) (.bNV (.slice 80 aD) tI (aJ aA 5 (.Z 1)) (.ci .i64 0)) <|
        .bNU (.bNX 80 aD) (aJ aA 5 (.Z 1)) <|
        .bNU (.bNZ 80 aD) (bB (.bNT (.slice 80 aD) aE) [(aJ aA 5 (.Z 1)),(.Z 20),(.Z 23)]) <|
        .bNU (.bNZ 80 aD) (bB (.bNT (.slice 80 aD) aE) [(aJ aA 5 (.Z 1)),(.Z 2),(.Z 20)]) <|
        .bNU (.bNZ 80 aD) (bB (.bNT (.slice 80 aD) aE) [(aJ aA 5 (.Z 1)),(.ci .i64 0),(.Z 2)]) <|
        .bNU (.bNX 80 aD) (aJ aA 5 (.Z 1)) <|
        .bNU (.bNZ 80 aD) (bB (.bNT (.slice 80 aD) aE) [(aJ aA 5 (.Z 1)),(.Z 20),(.Z 27)]) <|
        .bNU (.bO0 80 aD 32) (.bNV (.slice 80 aD) (.slice 80 aD) (.Z 26) (.Z 28)) <|
        .ret (bB aA [(.p1 tI cU (.Z 1)),(aJ aA 1 (.Z 1)),(aJ aA 2 (.Z 1)),(aJ aA 3 (.Z 1)),(aJ aA 4 (.Z 1)),(.Z 29),(.nl 112 aB),(aJ aA 7 (.Z 1)),(aJ aA 8 (.Z 1)),(.nl 3 tI),(aJ (.bNT aI (.bNT aB .bool)) 1 (.Z 18)),(.Z 19)])))))) (
    .bNU (.bNX 78 bG) (aJ aA 2 (.p1 aA aF (.Z 0))) <|
    .bNU (.bNX 112 aB) (aO aD 1 (.Z 7)) <|
    .bNU (.ar .add .i64) (.bNV tI tI (.Z 8) (.ci .i64 1)) <|
    .bNU (.cmp .neq .i64) (.bNV tI tI (.Z 9) (.Z 10)) <|
    .ite (.Z 11) (
     .ret (.Z 1)) (
     .call 3 (bB (.bNT aK (.bNT aI tI)) [(aJ aA 2 (.p1 aA aF (.Z 0))),(aO aD 1 (.Z 7)),(.Z 8)]) <|
     .bNU .not (.Z 12) <|
     .ite (.Z 13) (
      .ret (.Z 1)) (
      .ite (aJ aA 3 (.p1 aA aF (.Z 0))) (
       .bNU (.bNY 112 aB) (.bNV aI tI (aO aD 1 (.Z 7)) (.Z 8)) <|
       .call 4 (.bNV aB aB (.Z 14) (aO (.bNT aA aF) 2 (.Z 0))) <|
       .call 5 (.p1 aA aF (.Z 0)) <|
       .call 6 (.Z 16) <|
       .call 7 (.bNV aB tI (.p1 aB .bool (.Z 15)) (.Z 17)) <|
       .bNU .not (.Z 18) <|
       .ite (.Z 19) (
        .ret (.Z 1)) (
        .call 8 (bB (.bNT aK (.bNT aI aB)) [(aJ aA 2 (.p1 aA aF (.Z 0))),(aO aD 1 (.Z 7)),(.p1 aB .bool (.Z 15))]) <|
        .ite (aO (.bNT aB .bool) 1 (.Z 15)) (
         .call 9 (bB (.bNT aT aT) [(aO aA 11 (.Z 1)),(.p1 aI (.bNT aB .bool) (.Z 20)),(.ci .i64 0),(.cb true)]) <|
         .bNU (.ar .add .i64) (.bNV tI tI (.Z 2) (.ci .i64 1)) <|
         .bNU (.bNY 80 aD) (.bNV (.slice 80 aD) tI (aJ aA 5 (.Z 1)) (.Z 2)) <|
         .bNU (.bNY 80 aD) (.bNV (.slice 80 aD) tI (aJ aA 5 (.Z 1)) (.ci .i64 0)) <|
         .bNU (.bNX 80 aD) (aJ aA 5 (.Z 1)) <|
         .bNU (.bNZ 80 aD) (bB (.bNT (.slice 80 aD) aE) [(aJ aA 5 (.Z 1)),(.Z 22),(.Z 25)]) <|
         .bNU (.bNZ 80 aD) (bB (.bNT (.slice 80 aD) aE) [(aJ aA 5 (.Z 1)),(.Z 2),(.Z 22)]) <|
         .bNU (.bNZ 80 aD) (bB (.bNT (.slice 80 aD) aE) [(aJ aA 5 (.Z 1)),(.ci .i64 0),(.Z 2)]) <|
         .bNU (.bNX 80 aD) (aJ aA 5 (.Z 1)) <|
         .bNU (.bNZ 80 aD) (bB (.bNT (.slice 80 aD) aE) [(aJ aA 5 (.Z 1)),(.Z 22),(.Z 29)]) <|
         .bNU (.bO0 80 aD 32) (.bNV (.slice 80 aD) (.slice 80 aD) (.Z 28) (.Z 30)) <|
         .ret (bB aA [(.p1 tI cU (.Z 1)),(aJ aA 1 (.Z 1)),(aJ aA 2 (.Z 1)),(aJ aA 3 (.Z 1)),(aJ aA 4 (.Z 1)),(.Z 31),(.nl 112 aB),(aJ aA 7 (.Z 1)),(aJ aA 8 (.Z 1)),(.nl 3 tI),(aJ (.bNT aI (.bNT aB .bool)) 1 (.Z 20)),(.Z 21)])) (
         .call 9 (bB (.bNT aT aT) [(aO aA 11 (.Z 1)),(.p1 aI (.bNT aB .bool) (.Z 20)),(.ci .i64 0),(aO (.bNT aI (.bNT aB .bool)) 2 (.Z 20))]) <|
         .bNU (.ar .add .i64) (.bNV tI tI (.Z 2) (.ci .i64 1)) <|
         .bNU (.bNY 80 aD) (.bNV (.slice 80 aD) tI (aJ aA 5 (.Z 1)) (.Z 2)) <|
         .bNU (.bNY 80 aD) (.bNV (.slice 80 aD) tI (aJ aA 5 (.Z 1)) (.ci .i64 0)) <|
         .bNU (.bNX 80 aD) (aJ aA 5 (.Z 1)) <|
         .bNU (.bNZ 80 aD) (bB (.bNT (.slice 80 aD) aE) [(aJ aA 5 (.Z 1)),(.Z 22),(.Z 25)]) <|
         .bNU (.bNZ 80 aD) (bB (.bNT (.slice 80 aD) aE) [(aJ aA 5 (.Z 1)),(.Z 2),(.Z 22)]) <|
         .bNU (.bNZ 80 aD) (bB (.bNT (.slice 80 aD) aE) [(aJ aA 5 (.Z 1)),(.ci .i64 0),(.Z 2)]) <|
         .bNU (.bNX 80 aD) (aJ aA 5 (.Z 1)) <|
         .bNU (.bNZ 80 aD) (bB (.bNT (.slice 80 aD) aE) [(aJ aA 5 (.Z 1)),(.Z 22),(.Z 29)]) <|
         .bNU (.bO0 80 aD 32) (.bNV (.slice 80 aD) (.slice 80 aD) (.Z 28) (.Z 30)) <|
         .ret (bB aA [(.p1 tI cU (.Z 1)),(aJ aA 1 (.Z 1)),(aJ aA 2 (.Z 1)),(aJ aA 3 (.Z 1)),(aJ aA 4 (.Z 1)),(.Z 31),(.nl 112 aB),(aJ aA 7 (.Z 1)),(aJ aA 8 (.Z 1)),(.nl 3 tI),(aJ (.bNT aI (.bNT aB .bool)) 1 (.Z 20)),(.Z 21)])))) (
       .call 5 (.p1 aA aF (.Z 0)) <|
       .call 6 (.Z 14) <|
       .call 7 (.bNV aB tI (aJ aA 9 (.Z 1)) (.Z 15)) <|
       .bNU .not (.Z 16) <|
       .ite (.Z 17) (
        .ret (.Z 1)) (
        .call 8 (bB (.bNT aK (.bNT aI aB)) [(aJ aA 2 (.p1 aA aF (.Z 0))),(aO aD 1 (.Z 7)),(aJ aA 9 (.Z 1))]) <|
        .call 9 (bB (.bNT aT aT) [(aO aA 11 (.Z 1)),(.p1 aI (.bNT aB .bool) (.Z 18)),(.ci .i64 0),(aO (.bNT aI (.bNT aB .bool)) 2 (.Z 18))]) <|
        .bNU (.ar .add .i64) (.bNV tI tI (.Z 2) (.ci .i64 1)) <|
        .bNU (.bNY 80 aD) (.bNV (.slice 80 aD) tI (aJ aA 5 (.Z 1)) (.Z 2)) <|
        .bNU (.bNY 80 aD) (.bNV (.slice 80 aD) tI (aJ aA 5 (.Z 1)) (.ci .i64 0)) <|
        .bNU (.bNX 80 aD) (aJ aA 5 (.Z 1)) <|
        .bNU (.bNZ 80 aD) (bB (.bNT (.slice 80 aD) aE) [(aJ aA 5 (.Z 1)),(.Z 20),(.Z 23)]) <|
        .bNU (.bNZ 80 aD) (bB (.bNT (.slice 80 aD) aE) [(aJ aA 5 (.Z 1)),(.Z 2),(.Z 20)]) <|
        .bNU (.bNZ 80 aD) (bB (.bNT (.slice 80 aD) aE) [(aJ aA 5 (.Z 1)),(.ci .i64 0),(.Z 2)]) <|
        .bNU (.bNX 80 aD) (aJ aA 5 (.Z 1)) <|
        .bNU (.bNZ 80 aD) (bB (.bNT (.slice 80 aD) aE) [(aJ aA 5 (.Z 1)),(.Z 20),(.Z 27)]) <|
        .bNU (.bO0 80 aD 32) (.bNV (.slice 80 aD) (.slice 80 aD) (.Z 26) (.Z 28)) <|
        .ret (bB aA [(.p1 tI cU (.Z 1)),(aJ aA 1 (.Z 1)),(aJ aA 2 (.Z 1)),(aJ aA 3 (.Z 1)),(aJ aA 4 (.Z 1)),(.Z 29),(.nl 112 aB),(aJ aA 7 (.Z 1)),(aJ aA 8 (.Z 1)),(.nl 3 tI),(aJ (.bNT aI (.bNT aB .bool)) 1 (.Z 18)),(.Z 19)]))))))))
theorem aPJ:bM Tryz.prog [dA,eD,dY,lC,kH,dV,jC,cB,sN,mW] nE false 3000 ⟨[],[(2961,164021,[],[15,31]),(2951,420023,[103,108],[]),(2951,292023,[103,108],[]),(2961,132018,[],[15,18]),(2951,132020,[103,108],[]),(2961,160020,[],[31]),(2951,416022,[103,108],[]),(2951,288022,[103,108],[]),(2961,128018,[],[18]),(2951,128020,[103,108],[])]⟩ = .ok yH:=by kernel_rfl
set_option maxHeartbeats 1000000 in
theorem aP6 (x:bA × cC) (hx:okD (.bNT aA aF) x) (hp:(fun x=>bQ aA x.1≤1000000000) x):yH.wp [dA,eD,dY,lC,kH,dV,jC,cB,sN,mW] [⟨(.bNT aA aF),x⟩] [] (fun v=>v.as aA=(fun x=>uH x.1 x.2.1 x.2.2) x):=by
 obtain ⟨s,m,t⟩:=x
 delta yH dA eD dY lC kH dV jC cB sN mW;refine dB ?_
 refine dT ?_
 refine ⟨hp,fun _ _=>⟨fun h=>fF (.inl h),fun h1=>⟨fun h=>fF (.inr (.inl h)),fun h2=>?_⟩⟩⟩
 have hf2:dU s.2.2.2.2.2.1 m<(s.2.2.2.2.2.1.length:Int):=(zO s.2.2.2.2.2.1 m s.2.2.2.2.2.1.length).2
 have hm:=(eI s).1 h1
 have hn8:=(bR _).1 hm.1
 have hst:=(kA (t:=aA) hp).2.2.2.2.2.1.1
 replace hst:List.length s.2.2.2.2.2.1≤1000000000:=hst
 have hgs:jE s.2.2.2.2.2.2.2.2.2.2.2:=aU3 (kA (t:=aA) hp).2.2.2.2.2.2.2.2.2.2.2
 refine ⟨by omega,fun _=>⟨by omega,fun _=>⟨fun hre=>?_,fun hre=>?_⟩⟩⟩
 ·rw[show s.2.2.2.2.2.2.1=mT s m from (bH6 hre).symm]
  refine fun _ _=>⟨by omega,fun _=>⟨fun h=>fF (.inr (.inr (.inl (aAT (.inl (by omega)))))),fun hlen=>⟨⟨hm.1,by omega⟩,fun h=>fF (.inr (.inr (.inl (aAT (.inr h))))),fun hrow=>⟨fun hla=>?_,fun hla=>?_⟩⟩⟩⟩
  ·rw[show kD eP (List.getD (mT s m) s.2.2.1.length (aV aB)) t=gP s m t from (aRC hla).symm]
   (repeat' first|intro _|(with_reducible apply And.intro))
   all_goals first|omega|(unfold maxLen;omega)|exact fF (.inr (.inr (.inr (by assumption))))|exact ⟨by omega,by omega⟩|exact hgs|exact tT _ _ h1|(simp only[List.length_append,List.length_drop,List.length_take];omega)|(simp only[List.length_append,List.length_drop,List.length_take];unfold maxLen;omega)|skip
   all_goals refine (pX (by omega) ?_).trans (tZ h1 h2 (zD (by omega) hrow) (by assumption))
   all_goals first|rfl|(rw[iC (by assumption)];done)|(rw[show (gP s m t).2=true by assumption,Bool.true_or];done)|(rw[show (gP s m t).2=false by assumption,Bool.false_or];done)|skip
  ·have hgg:s.2.2.2.2.2.2.2.2.2.1=(gP s m t).1:=aPC hla
   have hg0:(gP s m t).2=false:=aPZ hla
   rw[hgg]
   (repeat' first|intro _|(with_reducible apply And.intro))
   all_goals first|omega|(unfold maxLen;omega)|exact fF (.inr (.inr (.inr (by assumption))))|exact ⟨by omega,by omega⟩|exact hgs|exact tT _ _ h1|(simp only[List.length_append,List.length_drop,List.length_take];omega)|(simp only[List.length_append,List.length_drop,List.length_take];unfold maxLen;omega)|skip
   all_goals refine (pX (by omega) ?_).trans (tZ h1 h2 (zD (by omega) hrow) (by assumption))
   all_goals first|rfl|(rw[iC (by assumption)];done)|(rw[show (gP s m t).2=true by assumption,Bool.true_or];done)|(rw[show (gP s m t).2=false by assumption,Bool.false_or];done)|skip
 ·rw[show (List.getD s.2.2.2.2.2.1 (dU s.2.2.2.2.2.1 m).toNat (aV aD)).2=mT s m from (bI8 hre).symm]
  refine fun _ _=>⟨by omega,fun _=>⟨fun h=>fF (.inr (.inr (.inl (aAT (.inl (by omega)))))),fun hlen=>⟨⟨hm.1,by omega⟩,fun h=>fF (.inr (.inr (.inl (aAT (.inr h))))),fun hrow=>⟨fun hla=>?_,fun hla=>?_⟩⟩⟩⟩
  ·rw[show kD eP (List.getD (mT s m) s.2.2.1.length (aV aB)) t=gP s m t from (aRC hla).symm]
   (repeat' first|intro _|(with_reducible apply And.intro))
   all_goals first|omega|(unfold maxLen;omega)|exact fF (.inr (.inr (.inr (by assumption))))|exact ⟨by omega,by omega⟩|exact hgs|exact tT _ _ h1|(simp only[List.length_append,List.length_drop,List.length_take];omega)|(simp only[List.length_append,List.length_drop,List.length_take];unfold maxLen;omega)|skip
   all_goals refine (pX (by omega) ?_).trans (tZ h1 h2 (zD (by omega) hrow) (by assumption))
   all_goals first|rfl|(rw[iC (by assumption)];done)|(rw[show (gP s m t).2=true by assumption,Bool.true_or];done)|(rw[show (gP s m t).2=false by assumption,Bool.false_or];done)|skip
  ·have hgg:s.2.2.2.2.2.2.2.2.2.1=(gP s m t).1:=aPC hla
   have hg0:(gP s m t).2=false:=aPZ hla
   rw[hgg]
   (repeat' first|intro _|(with_reducible apply And.intro))
   all_goals first|omega|(unfold maxLen;omega)|exact fF (.inr (.inr (.inr (by assumption))))|exact ⟨by omega,by omega⟩|exact hgs|exact tT _ _ h1|(simp only[List.length_append,List.length_drop,List.length_take];omega)|(simp only[List.length_append,List.length_drop,List.length_take];unfold maxLen;omega)|skip
   all_goals refine (pX (by omega) ?_).trans (tZ h1 h2 (zD (by omega) hrow) (by assumption))
   all_goals first|rfl|(rw[iC (by assumption)];done)|(rw[show (gP s m t).2=true by assumption,Bool.true_or];done)|(rw[show (gP s m t).2=false by assumption,Bool.false_or];done)|skip
set_option maxHeartbeats 1000000 in
theorem aPK:Con.Holds Tryz.prog nE:=aS aW (aH oK (aH uD (aH tK (aH aLA (aH aLR (aH tP (aH aFV (aH jT (aH aWZ (aH aR8 aR)))))))))) aPJ aP6
noncomputable def nJ:Con:=⟨98,(.bNT aA aF),aA,[.val ⟨true,aA,[]⟩,.val ⟨false,tI,[]⟩,.val ⟨false,aB,[]⟩],[⟨true,aA,[0,0,0,0,0,0,0,0,0,0,0,0,0,0]⟩],true,none,
 ((fun x=>bQ aA x.1≤1000000000):(bA × cC)→Prop),
 ((fun x=>uH x.1 x.2.1 x.2.2):(bA × cC)→(bA))⟩
def xK:T:=.call 0 (.p1 aA aF (.Z 0)) <|.call 1 (.bNV (.slice 80 aD) tI (aJ aA 5 (.p1 aA aF (.Z 0))) (aJ (.bNT aA aF) 1 (.Z 0))) <|.call 2 (.p1 aA aF (.Z 0)) <|
 .bNU .not (.Z 3) <|
 .ite (.Z 4) (
  .ret (.Z 1)) (
  .bNU (.cmp .lss .i64) (.bNV tI tI (.Z 2) (.ci .i64 0)) <|
  .ite (.Z 5) (
   .ret (.Z 1)) (
   .bNU (.bNY 80 aD) (.bNV (.slice 80 aD) tI (aJ aA 5 (.p1 aA aF (.Z 0))) (.Z 2)) <|
   .ite (aJ aA 4 (.p1 aA aF (.Z 0))) (
    .bNU (.bNX 112 aB) (aJ aA 6 (.p1 aA aF (.Z 0))) <|
    .bNU (.bNX 78 bG) (aJ aA 2 (.p1 aA aF (.Z 0))) <|
    .bNU (.ar .add .i64) (.bNV tI tI (.Z 8) (.ci .i64 1)) <|
    .bNU (.cmp .neq .i64) (.bNV tI tI (.Z 7) (.Z 9)) <|
    .ite (.Z 10) (
     .ret (.Z 1)) (
     .loop tI (.ci .i64 0) <|
      .bNU (.bNX 78 bG) (aJ aA 2 (.p1 aA aF (.Z 0))) <|
      .bNU (.cmp .lss .i64) (.bNV tI tI (.Z 11) (.Z 12)) <|
      .ite (.Z 13) (
       .bNU (.bNY 112 aB) (.bNV aI tI (aJ aA 6 (.p1 aA aF (.Z 0))) (.Z 11)) <|
       .call 3 (.Z 14) <|
       .bNU .not (.Z 15) <|
       .ite (.Z 16) (
        .ret (.Z 1)) (
        .bNU (.bNY 112 aB) (.bNV aI tI (aJ aA 6 (.p1 aA aF (.Z 0))) (.Z 11)) <|
        .bNU (.bNX 3 tI) (.Z 17) <|
        .bNU (.bNY 78 bG) (.bNV aK tI (aJ aA 2 (.p1 aA aF (.Z 0))) (.Z 11)) <|
        .bNU (.cmp .neq .i64) (.bNV tI tI (.Z 18) (aJ bG 1 (.Z 19))) <|
        .ite (.Z 20) (
         .ret (.Z 1)) (
         .bNU (.ar .add .i64) (.bNV tI tI (.Z 11) (.ci .i64 1)) <|
         .bNW 0 (.Z 21)))) (
       .ite (aJ aA 3 (.p1 aA aF (.Z 0))) (
        .bNU (.bNX 78 bG) (aJ aA 2 (.p1 aA aF (.Z 0))) <|
        .bNU (.bNY 112 aB) (.bNV aI tI (aJ aA 6 (.p1 aA aF (.Z 0))) (.Z 14)) <|
        .call 4 (.bNV aB aB (.Z 15) (aO (.bNT aA aF) 2 (.Z 0))) <|
        .bNU (.bNX 3 tI) (.p1 aB .bool (.Z 16)) <|
        .bNU (.bNX 78 bG) (aJ aA 2 (.p1 aA aF (.Z 0))) <|
        .bNU (.ar .sub .i64) (.bNV tI tI (.Z 18) (.ci .i64 1)) <|
        .bNU (.bNY 78 bG) (.bNV aK tI (aJ aA 2 (.p1 aA aF (.Z 0))) (.Z 19)) <|
        .bNU (.cmp .neq .i64) (.bNV tI tI (.Z 17) (aJ bG 2 (.Z 20))) <|
        .ite (.Z 21) (
         .ret (.Z 1)) (
         .call 3 (.p1 aB .bool (.Z 16)) <|
         .bNU .not (.Z 22) <|
         .ite (.Z 23) (
          .ret (.Z 1)) (
          .call 5 (bB (.bNT aK (.bNT aI aB)) [(aJ aA 2 (.p1 aA aF (.Z 0))),(aJ aA 6 (.p1 aA aF (.Z 0))),(.p1 aB .bool (.Z 16))]) <|
          .ite (aO (.bNT aB .bool) 1 (.Z 16)) (
           .call 6 (bB (.bNT aT aT) [(aO aA 11 (.p1 aA aF (.Z 0))),(.p1 aI (.bNT aB .bool) (.Z 24)),(.ci .i64 0),(.cb true)]) <|
           .bNU (.ar .add .i64) (.bNV tI tI (.Z 2) (.ci .i64 1)) <|
           .bNU (.bNY 80 aD) (.bNV (.slice 80 aD) tI (aJ aA 5 (.Z 1)) (.Z 2)) <|
           .bNU (.bNY 80 aD) (.bNV (.slice 80 aD) tI (aJ aA 5 (.Z 1)) (.ci .i64 0)) <|
           .bNU (.bNX 80 aD) (aJ aA 5 (.Z 1)) <|
           .bNU (.bNZ 80 aD) (bB (.bNT (.slice 80 aD) aE) [(aJ aA 5 (.Z 1)),(.Z 26),(.Z 29)]) <|
           .bNU (.bNZ 80 aD) (bB (.bNT (.slice 80 aD) aE) [(aJ aA 5 (.Z 1)),(.Z 2),(.Z 26)]) <|
           .bNU (.bNZ 80 aD) (bB (.bNT (.slice 80 aD) aE) [(aJ aA 5 (.Z 1)),(.ci .i64 0),(.Z 2)]) <|
           .bNU (.bNX 80 aD) (aJ aA 5 (.Z 1)) <|
           .bNU (.bNZ 80 aD) (bB (.bNT (.slice 80 aD) aE) [(aJ aA 5 (.Z 1)),(.Z 26),(.Z 33)]) <|
           .bNU (.bO0 80 aD 32) (.bNV (.slice 80 aD) (.slice 80 aD) (.Z 32) (.Z 34)) <|
           .ret (bB aA [(.p1 tI cU (.Z 1)),(aJ aA 1 (.Z 1)),(aJ aA 2 (.Z 1)),(aJ aA 3 (.Z 1)),(aJ aA 4 (.Z 1)),(.Z 35),(.nl 112 aB),(aJ aA 7 (.Z 1)),(aJ aA 8 (.Z 1)),(.nl 3 tI),(aJ (.bNT aI (.bNT aB .bool)) 1 (.Z 24)),(.Z 25)])) (
           .call 6 (bB (.bNT aT aT) [(aO aA 11 (.p1 aA aF (.Z 0))),(.p1 aI (.bNT aB .bool) (.Z 24)),(.ci .i64 0),(aO (.bNT aI (.bNT aB .bool)) 2 (.Z 24))]) <|
           .bNU (.ar .add .i64) (.bNV tI tI (.Z 2) (.ci .i64 1)) <|
           .bNU (.bNY 80 aD) (.bNV (.slice 80 aD) tI (aJ aA 5 (.Z 1)) (.Z 2)) <|
           .bNU (.bNY 80 aD) (.bNV (.slice 80 aD) tI (aJ aA 5 (.Z 1)) (.ci .i64 0)) <|
           .bNU (.bNX 80 aD) (aJ aA 5 (.Z 1)) <|
           .bNU (.bNZ 80 aD) (bB (.bNT (.slice 80 aD) aE) [(aJ aA 5 (.Z 1)),(.Z 26),(.Z 29)]) <|
           .bNU (.bNZ 80 aD) (bB (.bNT (.slice 80 aD) aE) [(aJ aA 5 (.Z 1)),(.Z 2),(.Z 26)]) <|
           .bNU (.bNZ 80 aD) (bB (.bNT (.slice 80 aD) aE) [(aJ aA 5 (.Z 1)),(.ci .i64 0),(.Z 2)]) <|
           .bNU (.bNX 80 aD) (aJ aA 5 (.Z 1)) <|
           .bNU (.bNZ 80 aD) (bB (.bNT (.slice 80 aD) aE) [(aJ aA 5 (.Z 1)),(.Z 26),(.Z 33)]) <|
           .bNU (.bO0 80 aD 32) (.bNV (.slice 80 aD) (.slice 80 aD) (.Z 32) (.Z 34)) <|
           .ret (bB aA [(.p1 tI cU (.Z 1)),(aJ aA 1 (.Z 1)),(aJ aA 2 (.Z 1)),(aJ aA 3 (.Z 1)),(aJ aA 4 (.Z 1)),(.Z 35),(.nl 112 aB),(aJ aA 7 (.Z 1)),(aJ aA 8 (.Z 1)),(.nl 3 tI),(aJ (.bNT aI (.bNT aB .bool)) 1 (.Z 24)),(.Z 25)]))))) (
        .bNU (.bNX 3 tI) (aJ aA 9 (.p1 aA aF (.Z 0))) <|
        .bNU (.bNX 78 bG) (aJ aA 2 (.p1 aA aF (.Z 0))) <|
        .bNU (.ar .sub .i64) (.bNV tI tI (.Z 15) (.ci .i64 1)) <|
        .bNU (.bNY 78 bG) (.bNV aK tI (aJ aA 2 (.p1 aA aF (.Z 0))) (.Z 16)) <|
        .bNU (.cmp .neq .i64) (.bNV tI tI (.Z 14) (aJ bG 2 (.Z 17))) <|
        .ite (.Z 18) (
         .ret (.Z 1)) (
         .call 3 (aJ aA 9 (.p1 aA aF (.Z 0))) <|
         .bNU .not (.Z 19) <|
         .ite (.Z 20) (
          .ret (.Z 1)) (
          .call 5 (bB (.bNT aK (.bNT aI aB)) [(aJ aA 2 (.p1 aA aF (.Z 0))),(aJ aA 6 (.p1 aA aF (.Z 0))),(aJ aA 9 (.p1 aA aF (.Z 0)))]) <|
          .call 6 (bB (.bNT aT aT) [(aO aA 11 (.p1 aA aF (.Z 0))),(.p1 aI (.bNT aB .bool) (.Z 21)),(.ci .i64 0),(aO (.bNT aI (.bNT aB .bool)) 2 (.Z 21))]) <|
          .bNU (.ar .add .i64) (.bNV tI tI (.Z 2) (.ci .i64 1)) <|
          .bNU (.bNY 80 aD) (.bNV (.slice 80 aD) tI (aJ aA 5 (.Z 1)) (.Z 2)) <|
          .bNU (.bNY 80 aD) (.bNV (.slice 80 aD) tI (aJ aA 5 (.Z 1)) (.ci .i64 0)) <|
          .bNU (.bNX 80 aD) (aJ aA 5 (.Z 1)) <|
          .bNU (.bNZ 80 aD) (bB (.bNT (.slice 80 aD) aE) [(aJ aA 5 (.Z 1)),(.Z 23),(.Z 26)]) <|
          .bNU (.bNZ 80 aD) (bB (.bNT (.slice 80 aD) aE) [(aJ aA 5 (.Z 1)),(.Z 2),(.Z 23)]) <|
          .bNU (.bNZ 80 aD) (bB (.bNT (.slice 80 aD) aE) [(aJ aA 5 (.Z 1)),(.ci .i64 0),(.Z 2)]) <|
          .bNU (.bNX 80 aD) (aJ aA 5 (.Z 1)) <|
          .bNU (.bNZ 80 aD) (bB (.bNT (.slice 80 aD) aE) [(aJ aA 5 (.Z 1)),(.Z 23),(.Z 30)]) <|
          .bNU (.bO0 80 aD 32) (.bNV (.slice 80 aD) (.slice 80 aD) (.Z 29) (.Z 31)) <|
          .ret (bB aA [(.p1 tI cU (.Z 1)),(aJ aA 1 (.Z 1)),(aJ aA 2 (.Z 1)),(aJ aA 3 (.Z 1)),(aJ aA 4 (.Z 1)),(.Z 32),(.nl 112 aB),(aJ aA 7 (.Z 1)),(aJ aA 8 (.Z 1)),(.nl 3 tI),(aJ (.bNT aI (.bNT aB .bool)) 1 (.Z 21)),(.Z 22)]))))))) (
    .bNU (.bNX 112 aB) (aO aD 1 (.Z 6)) <|
    .bNU (.bNX 78 bG) (aJ aA 2 (.p1 aA aF (.Z 0))) <|
    .bNU (.ar .add .i64) (.bNV tI tI (.Z 8) (.ci .i64 1)) <|
    .bNU (.cmp .neq .i64) (.bNV tI tI (.Z 7) (.Z 9)) <|
    .ite (.Z 10) (
     .ret (.Z 1)) (
     .loop tI (.ci .i64 0) <|
      .bNU (.bNX 78 bG) (aJ aA 2 (.p1 aA aF (.Z 0))) <|
      .bNU (.cmp .lss .i64) (.bNV tI tI (.Z 11) (.Z 12)) <|
      .ite (.Z 13) (
       .bNU (.bNY 112 aB) (.bNV aI tI (aO aD 1 (.Z 6)) (.Z 11)) <|
       .call 3 (.Z 14) <|
       .bNU .not (.Z 15) <|
       .ite (.Z 16) (
        .ret (.Z 1)) (
        .bNU (.bNY 112 aB) (.bNV aI tI (aO aD 1 (.Z 6)) (.Z 11)) <|
        .bNU (.bNX 3 tI) (.Z 17) <|
        .bNU (.bNY 78 bG) (.bNV aK tI (aJ aA 2 (.p1 aA aF (.Z 0))) (.Z 11)) <|
        .bNU (.cmp .neq .i64) (.bNV tI tI (.Z 18) (aJ bG 1 (.Z 19))) <|
        .ite (.Z 20) (
         .ret (.Z 1)) (
         .bNU (.ar .add .i64) (.bNV tI tI (.Z 11) (.ci .i64 1)) <|
         .bNW 0 (.Z 21)))) (
       .ite (aJ aA 3 (.p1 aA aF (.Z 0))) (
        .bNU (.bNX 78 bG) (aJ aA 2 (.p1 aA aF (.Z 0))) <|
        .bNU (.bNY 112 aB) (.bNV aI tI (aO aD 1 (.Z 6)) (.Z 14)) <|
        .call 4 (.bNV aB aB (.Z 15) (aO (.bNT aA aF) 2 (.Z 0))) <|
        .bNU (.bNX 3 tI) (.p1 aB .bool (.Z 16)) <|
        .bNU (.bNX 78 bG) (aJ aA 2 (.p1 aA aF (.Z 0))) <|
        .bNU (.ar .sub .i64) (.bNV tI tI (.Z 18) (.ci .i64 1)) <|
        .bNU (.bNY 78 bG) (.bNV aK tI (aJ aA 2 (.p1 aA aF (.Z 0))) (.Z 19)) <|
        .bNU (.cmp .neq .i64) (.bNV tI tI (.Z 17) (aJ bG 2 (.Z 20))) <|
        .ite (.Z 21) (
         .ret (.Z 1)) (
         .call 3 (.p1 aB .bool (.Z 16)) <|
         .bNU .not (.Z 22) <|
         .ite (.Z 23) (
          .ret (.Z 1)) (
          .call 5 (bB (.bNT aK (.bNT aI aB)) [(aJ aA 2 (.p1 aA aF (.Z 0))),(aO aD 1 (.Z 6)),(.p1 aB .bool (.Z 16))]) <|
          .ite (aO (.bNT aB .bool) 1 (.Z 16)) (
           .call 6 (bB (.bNT aT aT) [(aO aA 11 (.p1 aA aF (.Z 0))),(.p1 aI (.bNT aB .bool) (.Z 24)),(.ci .i64 0),(.cb true)]) <|
           .bNU (.ar .add .i64) (.bNV tI tI (.Z 2) (.ci .i64 1)) <|
           .bNU (.bNY 80 aD) (.bNV (.slice 80 aD) tI (aJ aA 5 (.Z 1)) (.Z 2)) <|
           .bNU (.bNY 80 aD) (.bNV (.slice 80 aD) tI (aJ aA 5 (.Z 1)) (.ci .i64 0)) <|
           .bNU (.bNX 80 aD) (aJ aA 5 (.Z 1)) <|
           .bNU (.bNZ 80 aD) (bB (.bNT (.slice 80 aD) aE) [(aJ aA 5 (.Z 1)),(.Z 26),(.Z 29)]) <|
           .bNU (.bNZ 80 aD) (bB (.bNT (.slice 80 aD) aE) [(aJ aA 5 (.Z 1)),(.Z 2),(.Z 26)]) <|
           .bNU (.bNZ 80 aD) (bB (.bNT (.slice 80 aD) aE) [(aJ aA 5 (.Z 1)),(.ci .i64 0),(.Z 2)]) <|
           .bNU (.bNX 80 aD) (aJ aA 5 (.Z 1)) <|
           .bNU (.bNZ 80 aD) (bB (.bNT (.slice 80 aD) aE) [(aJ aA 5 (.Z 1)),(.Z 26),(.Z 33)]) <|
           .bNU (.bO0 80 aD 32) (.bNV (.slice 80 aD) (.slice 80 aD) (.Z 32) (.Z 34)) <|
           .ret (bB aA [(.p1 tI cU (.Z 1)),(aJ aA 1 (.Z 1)),(aJ aA 2 (.Z 1)),(aJ aA 3 (.Z 1)),(aJ aA 4 (.Z 1)),(.Z 35),(.nl 112 aB),(aJ aA 7 (.Z 1)),(aJ aA 8 (.Z 1)),(.nl 3 tI),(aJ (.bNT aI (.bNT aB .bool)) 1 (.Z 24)),(.Z 25)])) (
           .call 6 (bB (.bNT aT aT) [(aO aA 11 (.p1 aA aF (.Z 0))),(.p1 aI (.bNT aB .bool) (.Z 24)),(.ci .i64 0),(aO (.bNT aI (.bNT aB .bool)) 2 (.Z 24))]) <|
           .bNU (.ar .add .i64) (.bNV tI tI (.Z 2) (.ci .i64 1)) <|
           .bNU (.bNY 80 aD) (.bNV (.slice 80 aD) tI (aJ aA 5 (.Z 1)) (.Z 2)) <|
           .bNU (.bNY 80 aD) (.bNV (.slice 80 aD) tI (aJ aA 5 (.Z 1)) (.ci .i64 0)) <|
           .bNU (.bNX 80 aD) (aJ aA 5 (.Z 1)) <|
           .bNU (.bNZ 80 aD) (bB (.bNT (.slice 80 aD) aE) [(aJ aA 5 (.Z 1)),(.Z 26),(.Z 29)]) <|
           .bNU (.bNZ 80 aD) (bB (.bNT (.slice 80 aD) aE) [(aJ aA 5 (.Z 1)),(.Z 2),(.Z 26)]) <|
           .bNU (.bNZ 80 aD) (bB (.bNT (.slice 80 aD) aE) [(aJ aA 5 (.Z 1)),(.ci .i64 0),(.Z 2)]) <|
           .bNU (.bNX 80 aD) (aJ aA 5 (.Z 1)) <|
           .bNU (.bNZ 80 aD) (bB (.bNT (.slice 80 aD) aE) [(aJ aA 5 (.Z 1)),(.Z 26),(.Z 33)]) <|
           .bNU (.bO0 80 aD 32) (.bNV (.slice 80 aD) (.slice 80 aD) (.Z 32) (.Z 34)) <|
           .ret (bB aA [(.p1 tI cU (.Z 1)),(aJ aA 1 (.Z 1)),(aJ aA 2 (.Z 1)),(aJ aA 3 (.Z 1)),(aJ aA 4 (.Z 1)),(.Z 35),(.nl 112 aB),(aJ aA 7 (.Z 1)),(aJ aA 8 (.Z 1)),(.nl 3 tI),(aJ (.bNT aI (.bNT aB .bool)) 1 (.Z 24)),(.Z 25)]))))) (
        .bNU (.bNX 3 tI) (aJ aA 9 (.p1 aA aF (.Z 0))) <|
        .bNU (.bNX 78 bG) (aJ aA 2 (.p1 aA aF (.Z 0))) <|
        .bNU (.ar .sub .i64) (.bNV tI tI (.Z 15) (.ci .i64 1)) <|
        .bNU (.bNY 78 bG) (.bNV aK tI (aJ aA 2 (.p1 aA aF (.Z 0))) (.Z 16)) <|
        .bNU (.cmp .neq .i64) (.bNV tI tI (.Z 14) (aJ bG 2 (.Z 17))) <|
        .ite (.Z 18) (
         .ret (.Z 1)) (
         .call 3 (aJ aA 9 (.p1 aA aF (.Z 0))) <|
         .bNU .not (.Z 19) <|
         .ite (.Z 20) (
          .ret (.Z 1)) (
          .call 5 (bB (.bNT aK (.bNT aI aB)) [(aJ aA 2 (.p1 aA aF (.Z 0))),(aO aD 1 (.Z 6)),(aJ aA 9 (.p1 aA aF (.Z 0)))]) <|
          .call 6 (bB (.bNT aT aT) [(aO aA 11 (.p1 aA aF (.Z 0))),(.p1 aI (.bNT aB .bool) (.Z 21)),(.ci .i64 0),(aO (.bNT aI (.bNT aB .bool)) 2 (.Z 21))]) <|
          .bNU (.ar .add .i64) (.bNV tI tI (.Z 2) (.ci .i64 1)) <|
          .bNU (.bNY 80 aD) (.bNV (.slice 80 aD) tI (aJ aA 5 (.Z 1)) (.Z 2)) <|
          .bNU (.bNY 80 aD) (.bNV (.slice 80 aD) tI (aJ aA 5 (.Z 1)) (.ci .i64 0)) <|
          .bNU (.bNX 80 aD) (aJ aA 5 (.Z 1)) <|
          .bNU (.bNZ 80 aD) (bB (.bNT (.slice 80 aD) aE) [(aJ aA 5 (.Z 1)),(.Z 23),(.Z 26)]) <|
          .bNU (.bNZ 80 aD) (bB (.bNT (.slice 80 aD) aE) [(aJ aA 5 (.Z 1)),(.Z 2),(.Z 23)]) <|
          .bNU (.bNZ 80 aD) (bB (.bNT (.slice 80 aD) aE) [(aJ aA 5 (.Z 1)),(.ci .i64 0),(.Z 2)]) <|
          .bNU (.bNX 80 aD) (aJ aA 5 (.Z 1)) <|
          .bNU (.bNZ 80 aD) (bB (.bNT (.slice 80 aD) aE) [(aJ aA 5 (.Z 1)),(.Z 23),(.Z 30)]) <|
          .bNU (.bO0 80 aD 32) (.bNV (.slice 80 aD) (.slice 80 aD) (.Z 29) (.Z 31)) <|
          .ret (bB aA [(.p1 tI cU (.Z 1)),(aJ aA 1 (.Z 1)),(aJ aA 2 (.Z 1)),(aJ aA 3 (.Z 1)),(aJ aA 4 (.Z 1)),(.Z 32),(.nl 112 aB),(aJ aA 7 (.Z 1)),(aJ aA 8 (.Z 1)),(.nl 3 tI),(aJ (.bNT aI (.bNT aB .bool)) 1 (.Z 21)),(.Z 22)])))))))))
theorem aQS:bM Tryz.prog [dZ,eB,dX,bJ,kL,rN,mZ] nJ false 3000 ⟨[(2968,20011,iT 51 33++iT 31 19++[.dr 0,.dr 1,.tm 12 0]),(2968,16011,iT 51 43++iT 40 33++iT 31 19++[.dr 0,.dr 1,.tm 12 0])],[(2947,292024,[],[31]),(2935,804026,[146,151],[]),(2935,548026,[146,151],[]),(2939,260023,[146,151],[]),(2947,288024,[],[31]),(2935,800026,[146,151],[]),(2935,544026,[146,151],[]),(2939,256023,[146,151],[])]⟩ = .ok xK:=by kernel_rfl
set_option maxHeartbeats 1000000 in
theorem aPG (x:bA × cC) (hx:okD (.bNT aA aF) x) (hp:(fun x=>bQ aA x.1≤1000000000) x):xK.wp [dZ,eB,dX,bJ,kL,rN,mZ] [⟨(.bNT aA aF),x⟩] [] (fun v=>v.as aA=(fun x=>uH x.1 x.2.1 x.2.2) x):=by
 obtain ⟨s,m,t⟩:=x
 delta xK dZ eB dX bJ kL rN mZ;refine dB ?_
 refine dT ?_
 refine ⟨hp,fun _ _=>⟨fun h=>fF (.inl h),fun h1=>⟨fun h=>fF (.inr (.inl h)),fun h2=>?_⟩⟩⟩
 have hf2:dU s.2.2.2.2.2.1 m<(s.2.2.2.2.2.1.length:Int):=(zO s.2.2.2.2.2.1 m s.2.2.2.2.2.1.length).2
 have hm:=(eI s).1 h1
 have hn8:=(bR _).1 hm.1
 have hou:(List.getD s.2.2.1 (s.2.2.1.length - 1) (aV bG)).2.2.1=eM s.2.2.1:=by unfold eM;rw[if_pos hm.1];rfl
 have hst:=(kA (t:=aA) hp).2.2.2.2.2.1.1
 replace hst:List.length s.2.2.2.2.2.1≤1000000000:=hst
 have hgs:jE s.2.2.2.2.2.2.2.2.2.2.2:=aU3 (kA (t:=aA) hp).2.2.2.2.2.2.2.2.2.2.2
 refine ⟨by omega,fun _=>⟨fun hre=>?_,fun hre=>?_⟩⟩
 ·rw[show s.2.2.2.2.2.2.1=mT s m from (bH6 hre).symm]
  refine fun _ _=>⟨by omega,fun _=>⟨fun h=>fF (.inr (.inr (.inl (aAT (.inl (by omega)))))),fun hlen=>?_⟩⟩
  refine yV (fun k=>(k:Int)) (fun k=>∀ i,i<k→eF (List.getD (mT s m) i []) (fX s.2.2.1 i)=true) s.2.2.1.length rfl (fun i hi=>absurd hi (Nat.not_lt_zero _)) fun I μ k hk hG _ go=>?_
  try dsimp only
  refine dT ?_
  intro _
  constructor
  ·intro hlt
   have hk':k<s.2.2.1.length:=by omega
   have esz:fX s.2.2.1 k=(List.getD s.2.2.1 k (aV bG)).2.1:=if_pos hk'
   have bad:¬ eF (List.getD (mT s m) k []) (fX s.2.2.1 k)=true→s=uH s m t:=fun h=>fF (.inr (.inr (.inl (aAT (.inr (Bool.eq_false_iff.2 fun hh=>h ((mK _ _ _).1 hh k hk')))))))
   rw[cE,esz] at bad
   (repeat' first|intro _|(refine go _ ?_ ?_ ?_)|(refine go _ ?_ ?_)|(with_reducible apply And.intro))
   all_goals first|omega|exact bad (fun h=>Bool.noConfusion (h.1.symm.trans (by assumption:_=false)))|exact bad (fun h=>absurd h.2 (by assumption))|exact vL hG ((cE _ _).2 ⟨by assumption,by rw[esz];assumption⟩) _ (by assumption)|rfl|skip
  ·intro hge
   have hk':k=s.2.2.1.length:=by omega
   subst hk'
   have hrow:qK s.2.2.1 (mT s m) s.2.2.1.length=true:=(mK _ _ _).2 hG
   clear go hG
   refine ⟨fun hla=>?_,fun hla=>?_⟩
   ·rw[show kD eP (List.getD (mT s m) s.2.2.1.length (aV aB)) t=gP s m t from (aRC hla).symm]
    (repeat' first|intro _|(with_reducible apply And.intro))
    all_goals first|omega|exact fF (.inr (.inr (.inr (Bool.eq_false_iff.2 fun h=>absurd ((cE _ _).1 h).2 (by first|assumption|(rw[← hou];assumption))))))|exact fF (.inr (.inr (.inr (aA9 (by assumption)).symm)))|exact ⟨hn8.2.1,by omega⟩|(unfold maxLen;omega)|exact fF (.inr (.inr (.inr (by assumption))))|exact ⟨by omega,by omega⟩|exact hgs|exact tT _ _ h1|(simp only[List.length_append,List.length_drop,List.length_take];omega)|(simp only[List.length_append,List.length_drop,List.length_take];unfold maxLen;omega)|skip
    all_goals refine (pX (by omega) ?_).trans (tZ h1 h2 (zD (by omega) hrow) ((cE _ _).2 ⟨by assumption,by rw[← hou];assumption⟩))
    all_goals first|rfl|(rw[iC (by assumption)];done)|(rw[show (gP s m t).2=true by assumption,Bool.true_or];done)|(rw[show (gP s m t).2=false by assumption,Bool.false_or];done)|skip
   ·have hgg:s.2.2.2.2.2.2.2.2.2.1=(gP s m t).1:=aPC hla
    have hg0:(gP s m t).2=false:=aPZ hla
    rw[hgg]
    (repeat' first|intro _|(with_reducible apply And.intro))
    all_goals first|omega|exact fF (.inr (.inr (.inr (Bool.eq_false_iff.2 fun h=>absurd ((cE _ _).1 h).2 (by first|assumption|(rw[← hou];assumption))))))|exact fF (.inr (.inr (.inr (aA9 (by assumption)).symm)))|exact ⟨hn8.2.1,by omega⟩|(unfold maxLen;omega)|exact fF (.inr (.inr (.inr (by assumption))))|exact ⟨by omega,by omega⟩|exact hgs|exact tT _ _ h1|(simp only[List.length_append,List.length_drop,List.length_take];omega)|(simp only[List.length_append,List.length_drop,List.length_take];unfold maxLen;omega)|skip
    all_goals refine (pX (by omega) ?_).trans (tZ h1 h2 (zD (by omega) hrow) ((cE _ _).2 ⟨by assumption,by rw[← hou];assumption⟩))
    all_goals first|rfl|(rw[iC (by assumption)];done)|(rw[show (gP s m t).2=true by assumption,Bool.true_or];done)|(rw[show (gP s m t).2=false by assumption,Bool.false_or];done)|skip
 ·rw[show (List.getD s.2.2.2.2.2.1 (dU s.2.2.2.2.2.1 m).toNat (aV aD)).2=mT s m from (bI8 hre).symm]
  refine fun _ _=>⟨by omega,fun _=>⟨fun h=>fF (.inr (.inr (.inl (aAT (.inl (by omega)))))),fun hlen=>?_⟩⟩
  refine yV (fun k=>(k:Int)) (fun k=>∀ i,i<k→eF (List.getD (mT s m) i []) (fX s.2.2.1 i)=true) s.2.2.1.length rfl (fun i hi=>absurd hi (Nat.not_lt_zero _)) fun I μ k hk hG _ go=>?_
  try dsimp only
  refine dT ?_
  intro _
  constructor
  ·intro hlt
   have hk':k<s.2.2.1.length:=by omega
   have esz:fX s.2.2.1 k=(List.getD s.2.2.1 k (aV bG)).2.1:=if_pos hk'
   have bad:¬ eF (List.getD (mT s m) k []) (fX s.2.2.1 k)=true→s=uH s m t:=fun h=>fF (.inr (.inr (.inl (aAT (.inr (Bool.eq_false_iff.2 fun hh=>h ((mK _ _ _).1 hh k hk')))))))
   rw[cE,esz] at bad
   (repeat' first|intro _|(refine go _ ?_ ?_ ?_)|(refine go _ ?_ ?_)|(with_reducible apply And.intro))
   all_goals first|omega|exact bad (fun h=>Bool.noConfusion (h.1.symm.trans (by assumption:_=false)))|exact bad (fun h=>absurd h.2 (by assumption))|exact vL hG ((cE _ _).2 ⟨by assumption,by rw[esz];assumption⟩) _ (by assumption)|rfl|skip
  ·intro hge
   have hk':k=s.2.2.1.length:=by omega
   subst hk'
   have hrow:qK s.2.2.1 (mT s m) s.2.2.1.length=true:=(mK _ _ _).2 hG
   clear go hG
   refine ⟨fun hla=>?_,fun hla=>?_⟩
   ·rw[show kD eP (List.getD (mT s m) s.2.2.1.length (aV aB)) t=gP s m t from (aRC hla).symm]
    (repeat' first|intro _|(with_reducible apply And.intro))
    all_goals first|omega|exact fF (.inr (.inr (.inr (Bool.eq_false_iff.2 fun h=>absurd ((cE _ _).1 h).2 (by first|assumption|(rw[← hou];assumption))))))|exact fF (.inr (.inr (.inr (aA9 (by assumption)).symm)))|exact ⟨hn8.2.1,by omega⟩|(unfold maxLen;omega)|exact fF (.inr (.inr (.inr (by assumption))))|exact ⟨by omega,by omega⟩|exact hgs|exact tT _ _ h1|(simp only[List.length_append,List.length_drop,List.length_take];omega)|(simp only[List.length_append,List.length_drop,List.length_take];unfold maxLen;omega)|skip
    all_goals refine (pX (by omega) ?_).trans (tZ h1 h2 (zD (by omega) hrow) ((cE _ _).2 ⟨by assumption,by rw[← hou];assumption⟩))
    all_goals first|rfl|(rw[iC (by assumption)];done)|(rw[show (gP s m t).2=true by assumption,Bool.true_or];done)|(rw[show (gP s m t).2=false by assumption,Bool.false_or];done)|skip
   ·have hgg:s.2.2.2.2.2.2.2.2.2.1=(gP s m t).1:=aPC hla
    have hg0:(gP s m t).2=false:=aPZ hla
    rw[hgg]
    (repeat' first|intro _|(with_reducible apply And.intro))
    all_goals first|omega|exact fF (.inr (.inr (.inr (Bool.eq_false_iff.2 fun h=>absurd ((cE _ _).1 h).2 (by first|assumption|(rw[← hou];assumption))))))|exact fF (.inr (.inr (.inr (aA9 (by assumption)).symm)))|exact ⟨hn8.2.1,by omega⟩|(unfold maxLen;omega)|exact fF (.inr (.inr (.inr (by assumption))))|exact ⟨by omega,by omega⟩|exact hgs|exact tT _ _ h1|(simp only[List.length_append,List.length_drop,List.length_take];omega)|(simp only[List.length_append,List.length_drop,List.length_take];unfold maxLen;omega)|skip
    all_goals refine (pX (by omega) ?_).trans (tZ h1 h2 (zD (by omega) hrow) ((cE _ _).2 ⟨by assumption,by rw[← hou];assumption⟩))
    all_goals first|rfl|(rw[iC (by assumption)];done)|(rw[show (gP s m t).2=true by assumption,Bool.true_or];done)|(rw[show (gP s m t).2=false by assumption,Bool.false_or];done)|skip
set_option maxHeartbeats 1000000 in
theorem aQ5:Con.Holds Tryz.prog nJ:=aS aW (aH tE (aH uE (aH tS (aH fD (aH aLN (aH aZF (aH aPU aR))))))) aQS aPG
end Go.Proofs.YtdeobhdbmehpgaaGreat
