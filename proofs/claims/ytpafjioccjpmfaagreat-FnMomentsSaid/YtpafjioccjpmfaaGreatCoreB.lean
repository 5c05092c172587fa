/- CoreB: lemmas. No conditions. -/
import Derived.Test.YtpafjioccjpmfaaGreatCore7
namespace Go.Proofs.YtpafjioccjpmfaaGreat
open Go.ChangeShapes Go.WideShapes Go.ChangeAt Go.RowKit Go.Deep
set_option linter.unusedVariables false
set_option linter.unusedSimpArgs false
theorem wJ {s:bG} {m:Int} {t:List Int} (h:dP s=false∨eE s.2.2.2.2.2.1 m<0∨aCV s.2.2.1 (rJ s m)=false∨cN (kD s m t).1 (cH s.2.2.1)=false):s=oI s m t:=by
 unfold oI;rw[if_neg]
 unfold aIH
 simp only[Bool.and_eq_true,decide_eq_true_eq]
 rintro ⟨h1,h2,h3,h4⟩
 rcases h with h|h|h|h
 ·rw[h] at h1;cases h1
 ·omega
 ·rw[h] at h3;cases h3
 ·rw[h] at h4;cases h4
theorem aJ8 {s:bG} {m:Int} {t:List Int} (h1:dP s=true) (h2:0≤eE s.2.2.2.2.2.1 m) (h3:aCV s.2.2.1 (rJ s m)=true) (h4:cN (kD s m t).1 (cH s.2.2.1)=true):aU4 s m t=oI s m t:=by
 unfold oI;rw[if_pos]
 unfold aIH
 simp only[Bool.and_eq_true,decide_eq_true_eq]
 exact ⟨h1,h2,h3,h4⟩
theorem bOH {s:bG} {m:Int} (h:s.2.2.2.2.1=true):rJ s m=s.2.2.2.2.2.2.1:=if_pos h
theorem bOM {s:bG} {m:Int} (h:s.2.2.2.2.1=false):rJ s m=(s.2.2.2.2.2.1.getD (eE s.2.2.2.2.2.1 m).toNat (aP aL)).2:=if_neg (by rw[h];simp)
theorem bK6 {s:bG} {m:Int} {t:List Int} (h:s.2.2.2.1=true):kD s m t=oT nD (List.getD (rJ s m) s.2.2.1.length (aP aB)) t:=if_pos h
theorem bGA {s:bG} {m:Int} {t:List Int} (h:s.2.2.2.1=false):s.2.2.2.2.2.2.2.2.2.1=(kD s m t).1:=by unfold kD;rw[if_neg (by rw[h];simp)]
theorem bIP {s:bG} {m:Int} {t:List Int} (h:s.2.2.2.1=false):(kD s m t).2=false:=by unfold kD;rw[if_neg (by rw[h];simp)]
theorem aSJ {m:List cZ} {r:dG} (h:¬ r.length=m.length+1∨sH m r m.length=false):aCV m r=false:=by
 unfold aCV
 rcases h with h|h
 ·rw[decide_eq_false h];rfl
 ·rw[h,Bool.and_false]
theorem aK9 {m:List cZ} {r:dG} (h:r.length=m.length+1) (h2:sH m r m.length=true):aCV m r=true:=by
 unfold aCV;rw[decide_eq_true h,h2];rfl
theorem aJC {s:bG} {r:dG} {d:List Int} (l:Int) (b:Bool) (h:dP s=true):oS ((oP s.2.2.1 r d).1,l,b):=by
 have hm:=((bM _).1 ((cD s).1 h).1).2.1
 refine ⟨?_,fun y hy=>Nat.le_trans (aK8 _ _ _ _ _ y hy) (by decide)⟩
 show (iD _ _ _ _ _).1.length≤1000000000
 rw[xG];omega
theorem aFO {s:bG} {m:Int} {t:List Int} {g:jB} (h:0≤eE s.2.2.2.2.2.1 m) (e:g=nU s.2.2.2.2.2.2.2.2.2.2.2 ((oP s.2.2.1 (rJ s m) (kD s m t).1).1,0,(kD s m t).2 || (oP s.2.2.1 (rJ s m) (kD s m t).1).2.2)) :
  (s.1,s.2.1,s.2.2.1,s.2.2.2.1,s.2.2.2.2.1,List.drop 0 (List.take (eE s.2.2.2.2.2.1 m).toNat s.2.2.2.2.2.1)++List.drop (eE s.2.2.2.2.2.1 m+1).toNat (List.take (List.length s.2.2.2.2.2.1) s.2.2.2.2.2.1),([]:dG),s.2.2.2.2.2.2.2.1,s.2.2.2.2.2.2.2.2.1,([]:List Int),(oP s.2.2.1 (rJ s m) (kD s m t).1).2.1,g)=aU4 s m t:=by
 rw[List.take_length,show (eE s.2.2.2.2.2.1 m+1).toNat=(eE s.2.2.2.2.2.1 m).toNat+1 by omega,e];rfl
noncomputable def oD:Con:=⟨77,(.bPW aA aI),aA,[.val ⟨true,aA,[]⟩,.val ⟨false,tI,[]⟩,.val ⟨false,aB,[]⟩],[⟨true,aA,[0,1,1,0,0,1,1,1,1,1,1,1,0,0]⟩],false,none,
 ((fun x=>bS aA x.1≤1000000000):(bG × eS)→Prop),
 ((fun x=>oI x.1 x.2.1 x.2.2):(bG × eS)→(bG))⟩
def yN:T:=.call 0 (.p1 aA aI (.Z 0)) <|.call 1 (.bPY (.slice 104 aL) tI (aH aA 5 (.p1 aA aI (.Z 0))) (aH (.bPW aA aI) 1 (.Z 0))) <|.call 2 (.p1 aA aI (.Z 0)) <|
 .bPX .not (.Z 3) <|
 .ite (.Z 4) (
  .ret (.Z 1)) (
  .bPX (.cmp .lss .i64) (.bPY tI tI (.Z 2) (.ci .i64 0)) <|
  .ite (.Z 5) (
   .ret (.Z 1)) (
   .bPX (.bQ1 104 aL) (.bPY (.slice 104 aL) tI (aH aA 5 (.Z 1)) (.Z 2)) <|
   .bPX (.bQ1 104 aL) (.bPY (.slice 104 aL) tI (aH aA 5 (.Z 1)) (.Z 2)) <|
   .ite (aH aA 4 (.p1 aA aI (.Z 0))) (
    .bPX (.bQ0 80 bU) (aH aA 2 (.p1 aA aI (.Z 0))) <|
    .bPX (.bQ0 134 aB) (aH aA 6 (.Z 1)) <|
    .bPX (.ar .add .i64) (.bPY tI tI (.Z 8) (.ci .i64 1)) <|
    .bPX (.cmp .neq .i64) (.bPY tI tI (.Z 9) (.Z 10)) <|
    .ite (.Z 11) (
     .ret (.Z 1)) (
     .call 3 (bP (.bPW aE (.bPW aO tI)) [(aH aA 2 (.p1 aA aI (.Z 0))),(aH aA 6 (.Z 1)),(.Z 8)]) <|
     .bPX .not (.Z 12) <|
     .ite (.Z 13) (
      .ret (.Z 1)) (
      .ite (aH aA 3 (.p1 aA aI (.Z 0))) (
       .bPX (.bQ1 134 aB) (.bPY aO tI (aH aA 6 (.Z 1)) (.Z 8)) <|
       .bPX (.bQ1 134 aB) (.bPY aO tI (aH aA 6 (.Z 1)) (.Z 8)) <|
       .call 4 (.bPY aB aB (.Z 15) (aS (.bPW aA aI) 2 (.Z 0))) <|
       .call 5 (.p1 aA aI (.Z 0)) <|
       .call 6 (.Z 17) <|
       .call 7 (.bPY aB tI (.p1 aB .bool (.Z 16)) (.Z 18)) <|
       .bPX .not (.Z 19) <|
       .ite (.Z 20) (
        .ret (.Z 1)) (
        .call 8 (bP (.bPW aE (.bPW aO aB)) [(aH aA 2 (.p1 aA aI (.Z 0))),(aH aA 6 (.Z 1)),(.p1 aB .bool (.Z 16))]) <|
        .ite (aS (.bPW aB .bool) 1 (.Z 16)) (
         .call 9 (bP (.bPW bJ bJ) [(aS aA 11 (.Z 1)),(.p1 aO (.bPW aB .bool) (.Z 21)),(.ci .i64 0),(.cb true)]) <|
         .bPX (.ar .add .i64) (.bPY tI tI (.Z 2) (.ci .i64 1)) <|
         .bPX (.bQ1 104 aL) (.bPY (.slice 104 aL) tI (aH aA 5 (.Z 1)) (.Z 2)) <|
         .bPX (.bQ1 104 aL) (.bPY (.slice 104 aL) tI (aH aA 5 (.Z 1)) (.ci .i64 0)) <|
         .bPX (.bQ0 104 aL) (aH aA 5 (.Z 1)) <|
         .bPX (.bQ2 104 aL) (bP (.bPW (.slice 104 aL) aD) [(aH aA 5 (.Z 1)),(.Z 23),(.Z 26)]) <|
         .bPX (.bQ2 104 aL) (bP (.bPW (.slice 104 aL) aD) [(aH aA 5 (.Z 1)),(.Z 2),(.Z 23)]) <|
         .bPX (.bQ2 104 aL) (bP (.bPW (.slice 104 aL) aD) [(aH aA 5 (.Z 1)),(.ci .i64 0),(.Z 2)]) <|
         .bPX (.bQ0 104 aL) (aH aA 5 (.Z 1)) <|
         .bPX (.bQ2 104 aL) (bP (.bPW (.slice 104 aL) aD) [(aH aA 5 (.Z 1)),(.Z 23),(.Z 30)]) <|
         .bPX (.bQ3 104 aL 32) (.bPY (.slice 104 aL) (.slice 104 aL) (.Z 29) (.Z 31)) <|
         .ret (bP aA [(.p1 tI gO (.Z 1)),(aH aA 1 (.Z 1)),(aH aA 2 (.Z 1)),(aH aA 3 (.Z 1)),(aH aA 4 (.Z 1)),(.Z 32),(.nl 134 aB),(aH aA 7 (.Z 1)),(aH aA 8 (.Z 1)),(.nl 3 tI),(aH (.bPW aO (.bPW aB .bool)) 1 (.Z 21)),(.Z 22)])) (
         .call 9 (bP (.bPW bJ bJ) [(aS aA 11 (.Z 1)),(.p1 aO (.bPW aB .bool) (.Z 21)),(.ci .i64 0),(aS (.bPW aO (.bPW aB .bool)) 2 (.Z 21))]) <|
         .bPX (.ar .add .i64) (.bPY tI tI (.Z 2) (.ci .i64 1)) <|
         .bPX (.bQ1 104 aL) (.bPY (.slice 104 aL) tI (aH aA 5 (.Z 1)) (.Z 2)) <|
         .bPX (.bQ1 104 aL) (.bPY (.slice 104 aL) tI (aH aA 5 (.Z 1)) (.ci .i64 0)) <|
         .bPX (.bQ0 104 aL) (aH aA 5 (.Z 1)) <|
         .bPX (.bQ2 104 aL) (bP (.bPW (.slice 104 aL) aD) [(aH aA 5 (.Z 1)),(.Z 23),(.Z 26)]) <|
         .bPX (.bQ2 104 aL) (bP (.bPW (.slice 104 aL) aD) [(aH aA 5 (.Z 1)),(.Z 2),(.Z 23)]) <|
         .bPX (.bQ2 104 aL) (bP (.bPW (.slice 104 aL) aD) [(aH aA 5 (.Z 1)),(.ci .i64 0),(.Z 2)]) <|
         .bPX (.bQ0 104 aL) (aH aA 5 (.Z 1)) <|
         .bPX (.bQ2 104 aL) (bP (.bPW (.slice 104 aL) aD) [(aH aA 5 (.Z 1)),(.Z 23),(.Z 30)]) <|
         .bPX (.bQ3 104 aL 32) (.bPY (.slice 104 aL) (.slice 104 aL) (.Z 29) (.Z 31)) <|
         .ret (bP aA [(.p1 tI gO (.Z 1)),(aH aA 1 (.Z 1)),(aH aA 2 (.Z 1)),(aH aA 3 (.Z 1)),(aH aA 4 (.Z 1)),(.Z 32),(.nl 134 aB),(aH aA 7 (.Z 1)),(aH aA 8 (.Z 1)),(.nl 3 tI),(aH (.bPW aO (.bPW aB .bool)) 1 (.Z 21)),(.Z 22)])))) (
       .call 5 (.p1 aA aI (.Z 0)) <|
       .call 6 (.Z 14) <|
       .call 7 (.bPY aB tI (aH aA 9 (.Z 1)) (.Z 15)) <|
       .bPX .not (.Z 16) <|
       .ite (.Z 17) (
        .ret (.Z 1)) (
        .call 8 (bP (.bPW aE (.bPW aO aB)) [(aH aA 2 (.p1 aA aI (.Z 0))),(aH aA 6 (.Z 1)),(aH aA 9 (.Z 1))]) <|
        .call 9 (bP (.bPW bJ bJ) [(aS aA 11 (.Z 1)),(.p1 aO (.bPW aB .bool) (.Z 18)),(.ci .i64 0),(aS (.bPW aO (.bPW aB .bool)) 2 (.Z 18))]) <|
        .bPX (.ar .add .i64) (.bPY tI tI (.Z 2) (.ci .i64 1)) <|
        .bPX (.bQ1 104 aL) (.bPY (.slice 104 aL) tI (aH aA 5 (.Z 1)) (.Z 2)) <|
        .bPX (.bQ1 104 aL) (.bPY (.slice 104 aL) tI (aH aA 5 (.Z 1)) (.ci .i64 0)) <|
        .bPX (.bQ0 104 aL) (aH aA 5 (.Z 1)) <|
        .bPX (.bQ2 104 aL) (bP (.bPW (.slice 104 aL) aD) [(aH aA 5 (.Z 1)),(.Z 20),(.Z 23)]) <|
        .bPX (.bQ2 104 aL) (bP (.bPW (.slice 104 aL) aD) [(aH aA 5 (.Z 1)),(.Z 2),(.Z 20)]) <|
        .bPX (.bQ2 104 aL) (bP (.bPW (.slice 104 aL) aD) [(aH aA 5 (.Z 1)),(.ci .i64 0),(.Z 2)]) <|
        .bPX (.bQ0 104 aL) (aH aA 5 (.Z 1)) <|
        .bPX (.bQ2 104 aL) (bP (.bPW (.slice 104 aL) aD) [(aH aA 5 (.Z 1)),(.Z 20),(.Z 27)]) <|
        .bPX (.bQ3 104 aL 32) (.bPY (.slice 104 aL) (.slice 104 aL) (.Z 26) (.Z 28)) <|
        .ret (bP aA [(.p1 tI gO (.Z 1)),(aH aA 1 (.Z 1)),(aH aA 2 (.Z 1)),(aH aA 3 (.Z 1)),(aH aA 4 (.Z 1)),(.Z 29),(.nl 134 aB),(aH aA 7 (.Z 1)),(aH aA 8 (.Z 1)),(.nl 3 tI),(aH (.bPW aO (.bPW aB .bool)) 1 (.Z 18)),(.Z 19)])))))) (
    .bPX (.bQ0 80 bU) (aH aA 2 (.p1 aA aI (.Z 0))) <|
    .bPX (.bQ0 134 aB) (aS aL 1 (.Z 7)) <|
    .bPX (.ar .add .i64) (.bPY tI tI (.Z 8) (.ci .i64 1)) <|
    .bPX (.cmp .neq .i64) (.bPY tI tI (.Z 9) (.Z 10)) <|
    .ite (.Z 11) (
     .ret (.Z 1)) (
     .call 3 (bP (.bPW aE (.bPW aO tI)) [(aH aA 2 (.p1 aA aI (.Z 0))),(aS aL 1 (.Z 7)),(.Z 8)]) <|
     .bPX .not (.Z 12) <|
     .ite (.Z 13) (
      .ret (.Z 1)) (
      .ite (aH aA 3 (.p1 aA aI (.Z 0))) (
       .bPX (.bQ1 134 aB) (.bPY aO tI (aS aL 1 (.Z 7)) (.Z 8)) <|
       .call 4 (.bPY aB aB (.Z 14) (aS (.bPW aA aI) 2 (.Z 0))) <|
       .call 5 (.p1 aA aI (.Z 0)) <|
       .call 6 (.Z 16) <|
       .call 7 (.bPY aB tI (.p1 aB .bool (.Z 15)) (.Z 17)) <|
       .bPX .not (.Z 18) <|
       .ite (.Z 19) (
        .ret (.Z 1)) (
        .call 8 (bP (.bPW aE (.bPW aO aB)) [(aH aA 2 (.p1 aA aI (.Z 0))),(aS aL 1 (.Z 7)),(.p1 aB .bool (.Z 15))]) <|
        .ite (aS (.bPW aB .bool) 1 (.Z 15)) (
         .call 9 (bP (.bPW bJ bJ) [(aS aA 11 (.Z 1)),(.p1 aO (.bPW aB .bool) (.Z 20)),(.ci .i64 0),(.cb true)]) <|
         .bPX (.ar .add .i64) (.bPY tI tI (.Z 2) (.ci .i64 1)) <|
         .bPX (.bQ1 104 aL) (.bPY (.slice 104 aL) tI (aH aA 5 (.Z 1)) (.Z 2)) <|
         .bPX (.bQ1 104 aL) (.bPY (.slice 104 aL) tI (aH aA 5 (.Z 1)) (.ci .i64 0)) <|
         .bPX (.bQ0 104 aL) (aH aA 5 (.Z 1)) <|
         .bPX (.bQ2 104 aL) (bP (.bPW (.slice 104 aL) aD) [(aH aA 5 (.Z 1)),(.Z 22),(.Z 25)]) <|
         .bPX (.bQ2 104 aL) (bP (.bPW (.slice 104 aL) aD) [(aH aA 5 (.Z 1)),(.Z 2),(.Z 22)]) <|
         .bPX (.bQ2 104 aL) (bP (.bPW (.slice 104 aL) aD) [(aH aA 5 (.Z 1)),(.ci .i64 0),(.Z 2)]) <|
         .bPX (.bQ0 104 aL) (aH aA 5 (.Z 1)) <|
         .bPX (.bQ2 104 aL) (bP (.bPW (.slice 104 aL) aD) [(aH aA 5 (.Z 1)),(.Z 22),(.Z 29)]) <|
         .bPX (.bQ3 104 aL 32) (.bPY (.slice 104 aL) (.slice 104 aL) (.Z 28) (.Z 30)) <|
         .ret (bP aA [(.p1 tI gO (.Z 1)),(aH aA 1 (.Z 1)),(aH aA 2 (.Z 1)),(aH aA 3 (.Z 1)),(aH aA 4 (.Z 1)),(.Z 31),(.nl 134 aB),(aH aA 7 (.Z 1)),(aH aA 8 (.Z 1)),(.nl 3 tI),(aH (.bPW aO (.bPW aB .bool)) 1 (.Z 20)),(.Z 21)])) (
         .call 9 (bP (.bPW bJ bJ) [(aS aA 11 (.Z 1)),(.p1 aO (.bPW aB .bool) (.Z 20)),(.ci .i64 0),(aS (.bPW aO (.bPW aB .bool)) 2 (.Z 20))]) <|
         .bPX (.ar .add .i64) (.bPY tI tI (.Z 2) (.ci .i64 1)) <|
         .bPX (.bQ1 104 aL) (.bPY (.slice 104 aL) tI (aH aA 5 (.Z 1)) (.Z 2)) <|
         .bPX (.bQ1 104 aL) (.bPY (.slice 104 aL) tI (aH aA 5 (.Z 1)) (.ci .i64 0)) <|
         .bPX (.bQ0 104 aL) (aH aA 5 (.Z 1)) <|
         .bPX (.bQ2 104 aL) (bP (.bPW (.slice 104 aL) aD) [(aH aA 5 (.Z 1)),(.Z 22),(.Z 25)]) <|
         .bPX (.bQ2 104 aL) (bP (.bPW (.slice 104 aL) aD) [(aH aA 5 (.Z 1)),(.Z 2),(.Z 22)]) <|
         .bPX (.bQ2 104 aL) (bP (.bPW (.slice 104 aL) aD) [(aH aA 5 (.Z 1)),(.ci .i64 0),(.Z 2)]) <|
         .bPX (.bQ0 104 aL) (aH aA 5 (.Z 1)) <|
         .bPX (.bQ2 104 aL) (bP (.bPW (.slice 104 aL) aD) [(aH aA 5 (.Z 1)),(.Z 22),(.Z 29)]) <|
         .bPX (.bQ3 104 aL 32) (.bPY (.slice 104 aL) (.slice 104 aL) (.Z 28) (.Z 30)) <|
         .ret (bP aA [(.p1 tI gO (.Z 1)),(aH aA 1 (.Z 1)),(aH aA 2 (.Z 1)),(aH aA 3 (.Z 1)),(aH aA 4 (.Z 1)),(.Z 31),(.nl 134 aB),(aH aA 7 (.Z 1)),(aH aA 8 (.Z 1)),(.nl 3 tI),(aH (.bPW aO (.bPW aB .bool)) 1 (.Z 20)),(.Z 21)])))) (
       .call 5 (.p1 aA aI (.Z 0)) <|
       .call 6 (.Z 14) <|
       .call 7 (.bPY aB tI (aH aA 9 (.Z 1)) (.Z 15)) <|
       .bPX .not (.Z 16) <|
       .ite (.Z 17) (
        .ret (.Z 1)) (
        .call 8 (bP (.bPW aE (.bPW aO aB)) [(aH aA 2 (.p1 aA aI (.Z 0))),(aS aL 1 (.Z 7)),(aH aA 9 (.Z 1))]) <|
        .call 9 (bP (.bPW bJ bJ) [(aS aA 11 (.Z 1)),(.p1 aO (.bPW aB .bool) (.Z 18)),(.ci .i64 0),(aS (.bPW aO (.bPW aB .bool)) 2 (.Z 18))]) <|
        .bPX (.ar .add .i64) (.bPY tI tI (.Z 2) (.ci .i64 1)) <|
        .bPX (.bQ1 104 aL) (.bPY (.slice 104 aL) tI (aH aA 5 (.Z 1)) (.Z 2)) <|
        .bPX (.bQ1 104 aL) (.bPY (.slice 104 aL) tI (aH aA 5 (.Z 1)) (.ci .i64 0)) <|
        .bPX (.bQ0 104 aL) (aH aA 5 (.Z 1)) <|
        .bPX (.bQ2 104 aL) (bP (.bPW (.slice 104 aL) aD) [(aH aA 5 (.Z 1)),(.Z 20),(.Z 23)]) <|
        .bPX (.bQ2 104 aL) (bP (.bPW (.slice 104 aL) aD) [(aH aA 5 (.Z 1)),(.Z 2),(.Z 20)]) <|
        .bPX (.bQ2 104 aL) (bP (.bPW (.slice 104 aL) aD) [(aH aA 5 (.Z 1)),(.ci .i64 0),(.Z 2)]) <|
        .bPX (.bQ0 104 aL) (aH aA 5 (.Z 1)) <|
        .bPX (.bQ2 104 aL) (bP (.bPW (.slice 104 aL) aD) [(aH aA 5 (.Z 1)),(.Z 20),(.Z 27)]) <|
        .bPX (.bQ3 104 aL 32) (.bPY (.slice 104 aL) (.slice 104 aL) (.Z 26) (.Z 28)) <|
        .ret (bP aA [(.p1 tI gO (.Z 1)),(aH aA 1 (.Z 1)),(aH aA 2 (.Z 1)),(aH aA 3 (.Z 1)),(aH aA 4 (.Z 1)),(.Z 29),(.nl 134 aB),(aH aA 7 (.Z 1)),(aH aA 8 (.Z 1)),(.nl 3 tI),(aH (.bPW aO (.bPW aB .bool)) 1 (.Z 18)),(.Z 19)]))))))))
set_option maxRecDepth 100000 in
theorem aQI:bW Tryz.prog [dI,eL,eG,lQ,lN,eF,gF,cG,uC,nY] oD false 3000 ⟨[],[(2961,164021,[],[15,31]),(2951,420023,[103,108],[]),(2951,292023,[103,108],[]),(2961,132018,[],[15,18]),(2951,132020,[103,108],[]),(2961,160020,[],[31]),(2951,416022,[103,108],[]),(2951,288022,[103,108],[]),(2961,128018,[],[18]),(2951,128020,[103,108],[])]⟩ = .ok yN:=by kernel_rfl
set_option maxHeartbeats 1000000 in
theorem aQN (x:bG × eS) (hx:okD (.bPW aA aI) x) (hp:(fun x=>bS aA x.1≤1000000000) x):yN.wp [dI,eL,eG,lQ,lN,eF,gF,cG,uC,nY] [⟨(.bPW aA aI),x⟩] [] (fun v=>v.as aA=(fun x=>oI x.1 x.2.1 x.2.2) x):=by
 obtain ⟨s,m,t⟩:=x
 delta yN dI eL eG lQ lN eF gF cG uC nY;refine dY ?_
 refine eD ?_
 refine ⟨hp,fun _ _=>⟨fun h=>wJ (.inl h),fun h1=>⟨fun h=>wJ (.inr (.inl h)),fun h2=>?_⟩⟩⟩
 have hf2:eE s.2.2.2.2.2.1 m<(s.2.2.2.2.2.1.length:Int):=(aLW s.2.2.2.2.2.1 m s.2.2.2.2.2.1.length).2
 have hm:=(cD s).1 h1
 have hn8:=(bM _).1 hm.1
 have hst:=(rC (t:=aA) hp).2.2.2.2.2.1.1
 replace hst:List.length s.2.2.2.2.2.1≤1000000000:=hst
 have hgs:oS s.2.2.2.2.2.2.2.2.2.2.2:=bK4 (rC (t:=aA) hp).2.2.2.2.2.2.2.2.2.2.2
 refine ⟨by omega,fun _=>⟨by omega,fun _=>⟨fun hre=>?_,fun hre=>?_⟩⟩⟩
 ·rw[show s.2.2.2.2.2.2.1=rJ s m from (bOH hre).symm]
  refine fun _ _=>⟨by omega,fun _=>⟨fun h=>wJ (.inr (.inr (.inl (aSJ (.inl (by omega)))))),fun hlen=>⟨⟨hm.1,by omega⟩,fun h=>wJ (.inr (.inr (.inl (aSJ (.inr h))))),fun hrow=>⟨fun hla=>?_,fun hla=>?_⟩⟩⟩⟩
  ·rw[show oT nD (List.getD (rJ s m) s.2.2.1.length (aP aB)) t=kD s m t from (bK6 hla).symm]
   (repeat' first|intro _|(with_reducible apply And.intro))
   all_goals first|omega|(unfold maxLen;omega)|exact wJ (.inr (.inr (.inr (by assumption))))|exact ⟨by omega,by omega⟩|exact hgs|exact aJC _ _ h1|(simp only[List.length_append,List.length_drop,List.length_take];omega)|(simp only[List.length_append,List.length_drop,List.length_take];unfold maxLen;omega)|skip
   all_goals refine (aFO (by omega) ?_).trans (aJ8 h1 h2 (aK9 (by omega) hrow) (by assumption))
   all_goals first|rfl|(rw[uY (by assumption)];done)|(rw[show (kD s m t).2=true by assumption,Bool.true_or];done)|(rw[show (kD s m t).2=false by assumption,Bool.false_or];done)|skip
  ·have hgg:s.2.2.2.2.2.2.2.2.2.1=(kD s m t).1:=bGA hla
   have hg0:(kD s m t).2=false:=bIP hla
   rw[hgg]
   (repeat' first|intro _|(with_reducible apply And.intro))
   all_goals first|omega|(unfold maxLen;omega)|exact wJ (.inr (.inr (.inr (by assumption))))|exact ⟨by omega,by omega⟩|exact hgs|exact aJC _ _ h1|(simp only[List.length_append,List.length_drop,List.length_take];omega)|(simp only[List.length_append,List.length_drop,List.length_take];unfold maxLen;omega)|skip
   all_goals refine (aFO (by omega) ?_).trans (aJ8 h1 h2 (aK9 (by omega) hrow) (by assumption))
   all_goals first|rfl|(rw[uY (by assumption)];done)|(rw[show (kD s m t).2=true by assumption,Bool.true_or];done)|(rw[show (kD s m t).2=false by assumption,Bool.false_or];done)|skip
 ·rw[show (List.getD s.2.2.2.2.2.1 (eE s.2.2.2.2.2.1 m).toNat (aP aL)).2=rJ s m from (bOM hre).symm]
  refine fun _ _=>⟨by omega,fun _=>⟨fun h=>wJ (.inr (.inr (.inl (aSJ (.inl (by omega)))))),fun hlen=>⟨⟨hm.1,by omega⟩,fun h=>wJ (.inr (.inr (.inl (aSJ (.inr h))))),fun hrow=>⟨fun hla=>?_,fun hla=>?_⟩⟩⟩⟩
  ·rw[show oT nD (List.getD (rJ s m) s.2.2.1.length (aP aB)) t=kD s m t from (bK6 hla).symm]
   (repeat' first|intro _|(with_reducible apply And.intro))
   all_goals first|omega|(unfold maxLen;omega)|exact wJ (.inr (.inr (.inr (by assumption))))|exact ⟨by omega,by omega⟩|exact hgs|exact aJC _ _ h1|(simp only[List.length_append,List.length_drop,List.length_take];omega)|(simp only[List.length_append,List.length_drop,List.length_take];unfold maxLen;omega)|skip
   all_goals refine (aFO (by omega) ?_).trans (aJ8 h1 h2 (aK9 (by omega) hrow) (by assumption))
   all_goals first|rfl|(rw[uY (by assumption)];done)|(rw[show (kD s m t).2=true by assumption,Bool.true_or];done)|(rw[show (kD s m t).2=false by assumption,Bool.false_or];done)|skip
  ·have hgg:s.2.2.2.2.2.2.2.2.2.1=(kD s m t).1:=bGA hla
   have hg0:(kD s m t).2=false:=bIP hla
   rw[hgg]
   (repeat' first|intro _|(with_reducible apply And.intro))
   all_goals first|omega|(unfold maxLen;omega)|exact wJ (.inr (.inr (.inr (by assumption))))|exact ⟨by omega,by omega⟩|exact hgs|exact aJC _ _ h1|(simp only[List.length_append,List.length_drop,List.length_take];omega)|(simp only[List.length_append,List.length_drop,List.length_take];unfold maxLen;omega)|skip
   all_goals refine (aFO (by omega) ?_).trans (aJ8 h1 h2 (aK9 (by omega) hrow) (by assumption))
   all_goals first|rfl|(rw[uY (by assumption)];done)|(rw[show (kD s m t).2=true by assumption,Bool.true_or];done)|(rw[show (kD s m t).2=false by assumption,Bool.false_or];done)|skip
set_option maxHeartbeats 1000000 in
theorem aQO:Con.Holds Tryz.prog oD:=aX aZ (aG pM (aG vW (aG uK (aG aMC (aG aKV (aG uI (aG aCA (aG jN (aG aXY (aG aRP aT)))))))))) aQI aQN
end Go.Proofs.YtpafjioccjpmfaaGreat
