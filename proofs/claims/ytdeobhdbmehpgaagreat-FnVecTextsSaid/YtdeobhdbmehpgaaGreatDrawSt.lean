/- DrawSt: lemmas. No conditions. -/
import Derived.Test.YtdeobhdbmehpgaaGreatDrawR
import Derived.Test.YtdeobhdbmehpgaaGreatCoreS
import Derived.Test.YtdeobhdbmehpgaaGreatCoreM
namespace Go.Proofs.YtdeobhdbmehpgaaGreat
noncomputable section
set_option maxRecDepth 100000
open Go.ChangeShapes Go.WideShapes Go.ChangeAt Go.RowKit Go.Deep
set_option linter.unusedVariables false
set_option linter.unusedSimpArgs false
def sF (s:aM):Nat:=List.length s.2.2.2.2.2.2.2.2.2.2.2.1
theorem bA7 (s:aM) (m:Int) (x t:List Int):sF (aH9 s m x t)=sF s:=by unfold aH9;split <;> rfl
theorem aXG (s:aM) (m:Int):sF (uP s m)=sF s:=by unfold uP;split <;> rfl
theorem aZV (s:aM) (m:Int) (t:List Int):sF (aCW s m t)=sF s:=by
 unfold aCW
 split
 ·rename_i h
  unfold aNR at h
  simp only[Bool.and_eq_true] at h
  have hf:=((iS _ _).1 ((bV s).1 h.1).2.2.1).1
  show (fN s.2.2.2.2.2.2.2.2.2.2.2.1 (gO s.2.2.1 (lN s m) (iO s m t).1 s.2.2.1.length s.2.2.1.length).1).length=_
  rw[mW,xW]
  unfold sF
  omega
 ·rfl
theorem aZM (s:aM) (v:List Int):sF (bBU s v)=sF s:=rfl
theorem aS8 {m:bL} {plan:List eY} {a b:Bool} (h:cX m=true):sF (tL m plan a b)=List.length m:=by
 unfold tL yR
 rw[if_pos h,if_pos h]
 exact nW m
theorem aW8 {m:bL} {plan:List eY} {a b:Bool}:eB aB (tL m plan a b)≤eB aF m+List.length plan+400:=by
 unfold tL
 split
 ·rw[kQ]
  dsimp only
  have h1:=bB7 plan
  have h4:=bA0 m
  have h5:=aLI (e:=112) h4.1 h4.2
  have e0:eB tF ([]:List dQ)=0:=rfl
  have e1:eB aE ([]:bX)=0:=rfl
  have h5':eB aE (yR m).1≤8+8 * 36:=h5
  simp only[List.length_nil]
  rw[e0,e1];omega
 ·exact Nat.zero_le _
theorem bCQ {B:Nat}:{l:List Nat}→(∀ x∈l,x≤B)→l.sum≤l.length * B
 | [],_=>by simp
 | x :: l,h=>by
  have h1:=bCQ (fun y hy=>h y (List.mem_cons_of_mem _ hy)) (l:=l)
  have h2:=h x (by simp)
  rw[List.sum_cons,List.length_cons,Nat.succ_mul];omega
theorem bAH {m:bL} (h1:List.length m≤9) (h2:∀ o∈m,List.length o.2.2.2≤40):eB aF m≤1000:=by
 have e:eB aF m=List.length m+((m:List dR).map (eB bC)).sum:=rfl
 have g1:=bCQ (B:=40) (l:=(m:List dR).map (eB bC)) (fun x hx=>by
  obtain ⟨o,ho,rfl⟩:=List.mem_map.1 hx
  have e2:eB bC o=0+(0+(0+eB aA o.2.2.2)):=rfl
  have:=h2 o ho
  rw[e2,kP];omega)
 rw[List.length_map] at g1
 rw[e];omega
def tN:Con:=⟨59,(.bEL (.slice 5 (.int .u8)) aD),(.bEL aB (.bEL aA (.bEL (.slice 5 (.int .u8)) aD))),[.box 97 ⟨true,(.bEL (.slice 5 (.int .u8)) aD),[]⟩],[⟨true,aB,[0,0,0,0,0,0,0,0,0,0,0,0,0,0]⟩,⟨false,aA,[0]⟩],true,none,
 ((fun x=>0≤x.2.1):(aJ)→Prop),
 ((fun _=>bG (.bEL aB (.bEL aA (.bEL (.slice 5 (.int .u8)) aD)))):(aJ)→(aM × (aW × aJ)))⟩
def sX:T:=.call 0 (.Z 0) <|.call 1 (.bEN (.bEL (.slice 5 (.int .u8)) aD) tI (aN (.bEL aF (.bEL (.slice 5 (.int .u8)) aD)) 1 (.Z 1)) (.ci .i64 2)) <|.call 2 (aY (.bEL tI (.bEL tI (.bEL tI (.bEL tI .bool)))) [(.ci .i64 2),(.ci .i64 2),(.ci .i64 1),(.ci .i64 3),(.cb false)]) <|.call 1 (.bEN (.bEL (.slice 5 (.int .u8)) aD) tI (aN (.bEL .bool (.bEL (.slice 5 (.int .u8)) aD)) 1 (.Z 2)) (.ci .i64 2)) <|.call 3 (aY (.bEL aF (.bEL aL (.bEL .bool .bool))) [(.p1 aF (.bEL (.slice 5 (.int .u8)) aD) (.Z 1)),(.Z 3),(.p1 .bool (.bEL (.slice 5 (.int .u8)) aD) (.Z 2)),(.p1 .bool (.bEL (.slice 5 (.int .u8)) aD) (.Z 4))]) <|
 .bEM .not (.cb true) <|
 .call 4 (.p1 aF (.bEL (.slice 5 (.int .u8)) aD) (.Z 1)) <|
 .call 5 (.bEN (.bEL (.slice 5 (.int .u8)) aD) tI (aN (.bEL .bool (.bEL (.slice 5 (.int .u8)) aD)) 1 (.Z 4)) (.Z 7)) <|
 .call 6 (.bEN (.bEL (.slice 5 (.int .u8)) aD) tI (aN (.bEL aA (.bEL (.slice 5 (.int .u8)) aD)) 1 (.Z 8)) (.ci .i64 4)) <|
 .loop (.bEL tI (.bEL (.slice 5 (.int .u8)) (.bEL tI (.bEL tI (.bEL tI (.bEL .bool (.bEL .bool (.bEL tI (.bEL .bool (.bEL aL (.bEL aF (.bEL (.slice 80 aC) (.bEL aE (.bEL aA (.bEL aA (.bEL aA (.bEL aA aE))))))))))))))))) (aY (.bEL tI (.bEL (.slice 5 (.int .u8)) (.bEL tI (.bEL tI (.bEL tI (.bEL .bool (.bEL .bool (.bEL tI (.bEL .bool (.bEL aL (.bEL aF (.bEL (.slice 80 aC) (.bEL aE (.bEL aA (.bEL aA (.bEL aA (.bEL aA aE))))))))))))))))) [(.p1 tI (.bEL (.slice 5 (.int .u8)) aD) (.Z 9)),(aI (.bEL tI (.bEL (.slice 5 (.int .u8)) aD)) 1 (.Z 9)),(aI (.bEL tI (.bEL (.slice 5 (.int .u8)) aD)) 2 (.Z 9)),(aN (.bEL tI (.bEL (.slice 5 (.int .u8)) aD)) 3 (.Z 9)),(.p1 tI iT (.Z 5)),(aI aB 3 (.Z 5)),(aI aB 4 (.Z 5)),(aI aB 12 (.Z 5)),(aN aB 13 (.Z 5)),(aI aB 1 (.Z 5)),(aI aB 2 (.Z 5)),(aI aB 5 (.Z 5)),(aI aB 6 (.Z 5)),(aI aB 7 (.Z 5)),(aI aB 8 (.Z 5)),(aI aB 9 (.Z 5)),(aI aB 10 (.Z 5)),(aI aB 11 (.Z 5))]) <|
  .bEM (.cmp .gtr .i64) (.bEN tI tI (.p1 tI (.bEL (.slice 5 (.int .u8)) (.bEL tI (.bEL tI (.bEL tI (.bEL .bool (.bEL .bool (.bEL tI (.bEL .bool (.bEL aL (.bEL aF (.bEL (.slice 80 aC) (.bEL aE (.bEL aA (.bEL aA (.bEL aA (.bEL aA aE)))))))))))))))) (.Z 10)) (.ci .i64 0)) <|
  .ite (.Z 11) (
   .call 6 (.bEN (.bEL (.slice 5 (.int .u8)) aD) tI (aY (.bEL (.slice 5 (.int .u8)) aD) [(aI (.bEL tI (.bEL (.slice 5 (.int .u8)) (.bEL tI (.bEL tI (.bEL tI (.bEL .bool (.bEL .bool (.bEL tI (.bEL .bool (.bEL aL (.bEL aF (.bEL (.slice 80 aC) (.bEL aE (.bEL aA (.bEL aA (.bEL aA (.bEL aA aE))))))))))))))))) 1 (.Z 10)),(aI (.bEL tI (.bEL (.slice 5 (.int .u8)) (.bEL tI (.bEL tI (.bEL tI (.bEL .bool (.bEL .bool (.bEL tI (.bEL .bool (.bEL aL (.bEL aF (.bEL (.slice 80 aC) (.bEL aE (.bEL aA (.bEL aA (.bEL aA (.bEL aA aE))))))))))))))))) 2 (.Z 10)),(aI (.bEL tI (.bEL (.slice 5 (.int .u8)) (.bEL tI (.bEL tI (.bEL tI (.bEL .bool (.bEL .bool (.bEL tI (.bEL .bool (.bEL aL (.bEL aF (.bEL (.slice 80 aC) (.bEL aE (.bEL aA (.bEL aA (.bEL aA (.bEL aA aE))))))))))))))))) 3 (.Z 10))]) (.ci .i64 4)) <|
   .call 7 (.p1 aF (.bEL (.slice 5 (.int .u8)) aD) (.Z 1)) <|
   .call 5 (.bEN (.bEL (.slice 5 (.int .u8)) aD) tI (aN (.bEL tI (.bEL (.slice 5 (.int .u8)) aD)) 1 (.Z 12)) (.Z 13)) <|
   .call 8 (aY (.bEL aB (.bEL tI aU)) [(aY aB [(aI (.bEL tI (.bEL (.slice 5 (.int .u8)) (.bEL tI (.bEL tI (.bEL tI (.bEL .bool (.bEL .bool (.bEL tI (.bEL .bool (.bEL aL (.bEL aF (.bEL (.slice 80 aC) (.bEL aE (.bEL aA (.bEL aA (.bEL aA (.bEL aA aE))))))))))))))))) 4 (.Z 10)),(aI (.bEL tI (.bEL (.slice 5 (.int .u8)) (.bEL tI (.bEL tI (.bEL tI (.bEL .bool (.bEL .bool (.bEL tI (.bEL .bool (.bEL aL (.bEL aF (.bEL (.slice 80 aC) (.bEL aE (.bEL aA (.bEL aA (.bEL aA (.bEL aA aE))))))))))))))))) 9 (.Z 10)),(aI (.bEL tI (.bEL (.slice 5 (.int .u8)) (.bEL tI (.bEL tI (.bEL tI (.bEL .bool (.bEL .bool (.bEL tI (.bEL .bool (.bEL aL (.bEL aF (.bEL (.slice 80 aC) (.bEL aE (.bEL aA (.bEL aA (.bEL aA (.bEL aA aE))))))))))))))))) 10 (.Z 10)),(aI (.bEL tI (.bEL (.slice 5 (.int .u8)) (.bEL tI (.bEL tI (.bEL tI (.bEL .bool (.bEL .bool (.bEL tI (.bEL .bool (.bEL aL (.bEL aF (.bEL (.slice 80 aC) (.bEL aE (.bEL aA (.bEL aA (.bEL aA (.bEL aA aE))))))))))))))))) 5 (.Z 10)),(aI (.bEL tI (.bEL (.slice 5 (.int .u8)) (.bEL tI (.bEL tI (.bEL tI (.bEL .bool (.bEL .bool (.bEL tI (.bEL .bool (.bEL aL (.bEL aF (.bEL (.slice 80 aC) (.bEL aE (.bEL aA (.bEL aA (.bEL aA (.bEL aA aE))))))))))))))))) 6 (.Z 10)),(aI (.bEL tI (.bEL (.slice 5 (.int .u8)) (.bEL tI (.bEL tI (.bEL tI (.bEL .bool (.bEL .bool (.bEL tI (.bEL .bool (.bEL aL (.bEL aF (.bEL (.slice 80 aC) (.bEL aE (.bEL aA (.bEL aA (.bEL aA (.bEL aA aE))))))))))))))))) 11 (.Z 10)),(aI (.bEL tI (.bEL (.slice 5 (.int .u8)) (.bEL tI (.bEL tI (.bEL tI (.bEL .bool (.bEL .bool (.bEL tI (.bEL .bool (.bEL aL (.bEL aF (.bEL (.slice 80 aC) (.bEL aE (.bEL aA (.bEL aA (.bEL aA (.bEL aA aE))))))))))))))))) 12 (.Z 10)),(aI (.bEL tI (.bEL (.slice 5 (.int .u8)) (.bEL tI (.bEL tI (.bEL tI (.bEL .bool (.bEL .bool (.bEL tI (.bEL .bool (.bEL aL (.bEL aF (.bEL (.slice 80 aC) (.bEL aE (.bEL aA (.bEL aA (.bEL aA (.bEL aA aE))))))))))))))))) 13 (.Z 10)),(aI (.bEL tI (.bEL (.slice 5 (.int .u8)) (.bEL tI (.bEL tI (.bEL tI (.bEL .bool (.bEL .bool (.bEL tI (.bEL .bool (.bEL aL (.bEL aF (.bEL (.slice 80 aC) (.bEL aE (.bEL aA (.bEL aA (.bEL aA (.bEL aA aE))))))))))))))))) 14 (.Z 10)),(aI (.bEL tI (.bEL (.slice 5 (.int .u8)) (.bEL tI (.bEL tI (.bEL tI (.bEL .bool (.bEL .bool (.bEL tI (.bEL .bool (.bEL aL (.bEL aF (.bEL (.slice 80 aC) (.bEL aE (.bEL aA (.bEL aA (.bEL aA (.bEL aA aE))))))))))))))))) 15 (.Z 10)),(aI (.bEL tI (.bEL (.slice 5 (.int .u8)) (.bEL tI (.bEL tI (.bEL tI (.bEL .bool (.bEL .bool (.bEL tI (.bEL .bool (.bEL aL (.bEL aF (.bEL (.slice 80 aC) (.bEL aE (.bEL aA (.bEL aA (.bEL aA (.bEL aA aE))))))))))))))))) 16 (.Z 10)),(aN (.bEL tI (.bEL (.slice 5 (.int .u8)) (.bEL tI (.bEL tI (.bEL tI (.bEL .bool (.bEL .bool (.bEL tI (.bEL .bool (.bEL aL (.bEL aF (.bEL (.slice 80 aC) (.bEL aE (.bEL aA (.bEL aA (.bEL aA (.bEL aA aE))))))))))))))))) 17 (.Z 10)),(aI (.bEL tI (.bEL (.slice 5 (.int .u8)) (.bEL tI (.bEL tI (.bEL tI (.bEL .bool (.bEL .bool (.bEL tI (.bEL .bool (.bEL aL (.bEL aF (.bEL (.slice 80 aC) (.bEL aE (.bEL aA (.bEL aA (.bEL aA (.bEL aA aE))))))))))))))))) 7 (.Z 10)),(aI (.bEL tI (.bEL (.slice 5 (.int .u8)) (.bEL tI (.bEL tI (.bEL tI (.bEL .bool (.bEL .bool (.bEL tI (.bEL .bool (.bEL aL (.bEL aF (.bEL (.slice 80 aC) (.bEL aE (.bEL aA (.bEL aA (.bEL aA (.bEL aA aE))))))))))))))))) 8 (.Z 10))]),(.p1 tI (.bEL (.slice 5 (.int .u8)) aD) (.Z 12)),(.p1 aA (.bEL (.slice 5 (.int .u8)) aD) (.Z 14)),(.p1 aA (.bEL (.slice 5 (.int .u8)) aD) (.Z 8))]) <|
   .call 1 (.bEN (.bEL (.slice 5 (.int .u8)) aD) tI (aN (.bEL aA (.bEL (.slice 5 (.int .u8)) aD)) 1 (.Z 14)) (.ci .i64 3)) <|
   .ite (.p1 .bool (.bEL (.slice 5 (.int .u8)) aD) (.Z 16)) (
    .call 4 (.p1 aF (.bEL (.slice 5 (.int .u8)) aD) (.Z 1)) <|
    .call 5 (.bEN (.bEL (.slice 5 (.int .u8)) aD) tI (aN (.bEL .bool (.bEL (.slice 5 (.int .u8)) aD)) 1 (.Z 16)) (.Z 17)) <|
    .call 6 (.bEN (.bEL (.slice 5 (.int .u8)) aD) tI (aN (.bEL aA (.bEL (.slice 5 (.int .u8)) aD)) 1 (.Z 18)) (.ci .i64 4)) <|
    .call 9 (.bEN aB tI (aY aB [(.p1 tI iT (.Z 15)),(aI aB 1 (.Z 15)),(aI aB 2 (.Z 15)),(aI aB 3 (.Z 15)),(aI aB 4 (.Z 15)),(aI aB 5 (.Z 15)),(aI aB 6 (.Z 15)),(aI aB 7 (.Z 15)),(aI aB 8 (.Z 15)),(.p1 aA (.bEL (.slice 5 (.int .u8)) aD) (.Z 18)),(aN aB 10 (.Z 15))]) (.p1 tI (.bEL (.slice 5 (.int .u8)) aD) (.Z 19))) <|
    .call 10 (aY (.bEL aB aK) [(.Z 20),(.p1 tI (.bEL (.slice 5 (.int .u8)) aD) (.Z 19)),(.p1 aA (.bEL (.slice 5 (.int .u8)) aD) (.Z 8))]) <|
    .bEM (.ar .sub .i64) (.bEN tI tI (.p1 tI (.bEL (.slice 5 (.int .u8)) (.bEL tI (.bEL tI (.bEL tI (.bEL .bool (.bEL .bool (.bEL tI (.bEL .bool (.bEL aL (.bEL aF (.bEL (.slice 80 aC) (.bEL aE (.bEL aA (.bEL aA (.bEL aA (.bEL aA aE)))))))))))))))) (.Z 10)) (.ci .i64 1)) <|
    .bEO 0 (aY (.bEL tI (.bEL (.slice 5 (.int .u8)) (.bEL tI (.bEL tI (.bEL tI (.bEL .bool (.bEL .bool (.bEL tI (.bEL .bool (.bEL aL (.bEL aF (.bEL (.slice 80 aC) (.bEL aE (.bEL aA (.bEL aA (.bEL aA (.bEL aA aE))))))))))))))))) [(.Z 22),(aI (.bEL tI (.bEL (.slice 5 (.int .u8)) aD)) 1 (.Z 19)),(aI (.bEL tI (.bEL (.slice 5 (.int .u8)) aD)) 2 (.Z 19)),(aN (.bEL tI (.bEL (.slice 5 (.int .u8)) aD)) 3 (.Z 19)),(.p1 tI iT (.Z 21)),(aI aB 3 (.Z 21)),(aI aB 4 (.Z 21)),(aI aB 12 (.Z 21)),(aN aB 13 (.Z 21)),(aI aB 1 (.Z 21)),(aI aB 2 (.Z 21)),(aI aB 5 (.Z 21)),(aI aB 6 (.Z 21)),(aI aB 7 (.Z 21)),(aI aB 8 (.Z 21)),(aI aB 9 (.Z 21)),(aI aB 10 (.Z 21)),(aI aB 11 (.Z 21))])) (
    .bEM (.ar .sub .i64) (.bEN tI tI (.p1 tI (.bEL (.slice 5 (.int .u8)) (.bEL tI (.bEL tI (.bEL tI (.bEL .bool (.bEL .bool (.bEL tI (.bEL .bool (.bEL aL (.bEL aF (.bEL (.slice 80 aC) (.bEL aE (.bEL aA (.bEL aA (.bEL aA (.bEL aA aE)))))))))))))))) (.Z 10)) (.ci .i64 1)) <|
    .bEO 0 (aY (.bEL tI (.bEL (.slice 5 (.int .u8)) (.bEL tI (.bEL tI (.bEL tI (.bEL .bool (.bEL .bool (.bEL tI (.bEL .bool (.bEL aL (.bEL aF (.bEL (.slice 80 aC) (.bEL aE (.bEL aA (.bEL aA (.bEL aA (.bEL aA aE))))))))))))))))) [(.Z 17),(aI (.bEL .bool (.bEL (.slice 5 (.int .u8)) aD)) 1 (.Z 16)),(aI (.bEL .bool (.bEL (.slice 5 (.int .u8)) aD)) 2 (.Z 16)),(aN (.bEL .bool (.bEL (.slice 5 (.int .u8)) aD)) 3 (.Z 16)),(.p1 tI iT (.Z 15)),(aI aB 3 (.Z 15)),(aI aB 4 (.Z 15)),(aI aB 12 (.Z 15)),(aN aB 13 (.Z 15)),(aI aB 1 (.Z 15)),(aI aB 2 (.Z 15)),(aI aB 5 (.Z 15)),(aI aB 6 (.Z 15)),(aI aB 7 (.Z 15)),(aI aB 8 (.Z 15)),(aI aB 9 (.Z 15)),(aI aB 10 (.Z 15)),(aI aB 11 (.Z 15))]))) (
   .ret (aY (.bEL aB (.bEL aA (.bEL (.slice 5 (.int .u8)) aD))) [(aY aB [(aI (.bEL tI (.bEL (.slice 5 (.int .u8)) (.bEL tI (.bEL tI (.bEL tI (.bEL .bool (.bEL .bool (.bEL tI (.bEL .bool (.bEL aL (.bEL aF (.bEL (.slice 80 aC) (.bEL aE (.bEL aA (.bEL aA (.bEL aA (.bEL aA aE))))))))))))))))) 4 (.Z 10)),(aI (.bEL tI (.bEL (.slice 5 (.int .u8)) (.bEL tI (.bEL tI (.bEL tI (.bEL .bool (.bEL .bool (.bEL tI (.bEL .bool (.bEL aL (.bEL aF (.bEL (.slice 80 aC) (.bEL aE (.bEL aA (.bEL aA (.bEL aA (.bEL aA aE))))))))))))))))) 9 (.Z 10)),(aI (.bEL tI (.bEL (.slice 5 (.int .u8)) (.bEL tI (.bEL tI (.bEL tI (.bEL .bool (.bEL .bool (.bEL tI (.bEL .bool (.bEL aL (.bEL aF (.bEL (.slice 80 aC) (.bEL aE (.bEL aA (.bEL aA (.bEL aA (.bEL aA aE))))))))))))))))) 10 (.Z 10)),(aI (.bEL tI (.bEL (.slice 5 (.int .u8)) (.bEL tI (.bEL tI (.bEL tI (.bEL .bool (.bEL .bool (.bEL tI (.bEL .bool (.bEL aL (.bEL aF (.bEL (.slice 80 aC) (.bEL aE (.bEL aA (.bEL aA (.bEL aA (.bEL aA aE))))))))))))))))) 5 (.Z 10)),(aI (.bEL tI (.bEL (.slice 5 (.int .u8)) (.bEL tI (.bEL tI (.bEL tI (.bEL .bool (.bEL .bool (.bEL tI (.bEL .bool (.bEL aL (.bEL aF (.bEL (.slice 80 aC) (.bEL aE (.bEL aA (.bEL aA (.bEL aA (.bEL aA aE))))))))))))))))) 6 (.Z 10)),(aI (.bEL tI (.bEL (.slice 5 (.int .u8)) (.bEL tI (.bEL tI (.bEL tI (.bEL .bool (.bEL .bool (.bEL tI (.bEL .bool (.bEL aL (.bEL aF (.bEL (.slice 80 aC) (.bEL aE (.bEL aA (.bEL aA (.bEL aA (.bEL aA aE))))))))))))))))) 11 (.Z 10)),(aI (.bEL tI (.bEL (.slice 5 (.int .u8)) (.bEL tI (.bEL tI (.bEL tI (.bEL .bool (.bEL .bool (.bEL tI (.bEL .bool (.bEL aL (.bEL aF (.bEL (.slice 80 aC) (.bEL aE (.bEL aA (.bEL aA (.bEL aA (.bEL aA aE))))))))))))))))) 12 (.Z 10)),(aI (.bEL tI (.bEL (.slice 5 (.int .u8)) (.bEL tI (.bEL tI (.bEL tI (.bEL .bool (.bEL .bool (.bEL tI (.bEL .bool (.bEL aL (.bEL aF (.bEL (.slice 80 aC) (.bEL aE (.bEL aA (.bEL aA (.bEL aA (.bEL aA aE))))))))))))))))) 13 (.Z 10)),(aI (.bEL tI (.bEL (.slice 5 (.int .u8)) (.bEL tI (.bEL tI (.bEL tI (.bEL .bool (.bEL .bool (.bEL tI (.bEL .bool (.bEL aL (.bEL aF (.bEL (.slice 80 aC) (.bEL aE (.bEL aA (.bEL aA (.bEL aA (.bEL aA aE))))))))))))))))) 14 (.Z 10)),(aI (.bEL tI (.bEL (.slice 5 (.int .u8)) (.bEL tI (.bEL tI (.bEL tI (.bEL .bool (.bEL .bool (.bEL tI (.bEL .bool (.bEL aL (.bEL aF (.bEL (.slice 80 aC) (.bEL aE (.bEL aA (.bEL aA (.bEL aA (.bEL aA aE))))))))))))))))) 15 (.Z 10)),(aI (.bEL tI (.bEL (.slice 5 (.int .u8)) (.bEL tI (.bEL tI (.bEL tI (.bEL .bool (.bEL .bool (.bEL tI (.bEL .bool (.bEL aL (.bEL aF (.bEL (.slice 80 aC) (.bEL aE (.bEL aA (.bEL aA (.bEL aA (.bEL aA aE))))))))))))))))) 16 (.Z 10)),(aN (.bEL tI (.bEL (.slice 5 (.int .u8)) (.bEL tI (.bEL tI (.bEL tI (.bEL .bool (.bEL .bool (.bEL tI (.bEL .bool (.bEL aL (.bEL aF (.bEL (.slice 80 aC) (.bEL aE (.bEL aA (.bEL aA (.bEL aA (.bEL aA aE))))))))))))))))) 17 (.Z 10)),(aI (.bEL tI (.bEL (.slice 5 (.int .u8)) (.bEL tI (.bEL tI (.bEL tI (.bEL .bool (.bEL .bool (.bEL tI (.bEL .bool (.bEL aL (.bEL aF (.bEL (.slice 80 aC) (.bEL aE (.bEL aA (.bEL aA (.bEL aA (.bEL aA aE))))))))))))))))) 7 (.Z 10)),(aI (.bEL tI (.bEL (.slice 5 (.int .u8)) (.bEL tI (.bEL tI (.bEL tI (.bEL .bool (.bEL .bool (.bEL tI (.bEL .bool (.bEL aL (.bEL aF (.bEL (.slice 80 aC) (.bEL aE (.bEL aA (.bEL aA (.bEL aA (.bEL aA aE))))))))))))))))) 8 (.Z 10))]),(.p1 aA (.bEL (.slice 5 (.int .u8)) aD) (.Z 8)),(aI (.bEL tI (.bEL (.slice 5 (.int .u8)) (.bEL tI (.bEL tI (.bEL tI (.bEL .bool (.bEL .bool (.bEL tI (.bEL .bool (.bEL aL (.bEL aF (.bEL (.slice 80 aC) (.bEL aE (.bEL aA (.bEL aA (.bEL aA (.bEL aA aE))))))))))))))))) 1 (.Z 10)),(aI (.bEL tI (.bEL (.slice 5 (.int .u8)) (.bEL tI (.bEL tI (.bEL tI (.bEL .bool (.bEL .bool (.bEL tI (.bEL .bool (.bEL aL (.bEL aF (.bEL (.slice 80 aC) (.bEL aE (.bEL aA (.bEL aA (.bEL aA (.bEL aA aE))))))))))))))))) 2 (.Z 10)),(aI (.bEL tI (.bEL (.slice 5 (.int .u8)) (.bEL tI (.bEL tI (.bEL tI (.bEL .bool (.bEL .bool (.bEL tI (.bEL .bool (.bEL aL (.bEL aF (.bEL (.slice 80 aC) (.bEL aE (.bEL aA (.bEL aA (.bEL aA (.bEL aA aE))))))))))))))))) 3 (.Z 10))]))
theorem aM1 (f:(aJ)→(aM × (aW × aJ))):bJ Tryz.prog [qR,fU,vC,lE,sA,hM,aV,vJ,lA,jP,kR] { tN with fn:=f } false 3000 ⟨[(2985,1010,jT 26 19++[.dr 16,.dr 15,.dr 18,.dr 17,.dr 14,.dr 5]++jT 13 10++[.tm 8 0,.fz 35,.bx 1 0,.bx 1 1,.bx 1 2,.fz 26,.fz 27,.fz 28,.fz 29,.fz 30,.fz 31,.fz 32,.fz 33,.fz 34,.bx 15 0,.bx 15 3,.bx 15 4,.bx 15 12,.bx 15 13,.nb 15,.bx 15 1,.dk 26,.bx 15 2,.dk 27,.bx 15 5,.dk 28,.bx 15 6,.dk 29,.bx 15 7,.dk 30,.bx 15 8,.dk 31,.bx 15 9,.dk 32,.bx 15 10,.dk 33,.bx 15 11,.dk 34])],[(2968,7020,[51],[])]⟩ = .ok sX:=by kernel_rfl
set_option maxHeartbeats 1000000 in
theorem aLX (x:aJ) (hx:okD (.bEL (.slice 5 (.int .u8)) aD) x) (hp:(fun x=>0≤x.2.1) x):sX.wp [qR,fU,vC,lE,sA,hM,aV,vJ,lA,jP,kR] [⟨(.bEL (.slice 5 (.int .u8)) aD),x⟩] [] (fun v=>(fun x r=>(eB aB r.1≤100000∧1≤sF r.1)∧0≤r.2.2.2.1:(aJ)→(aM × (aW × aJ))→Prop) x (v.as (.bEL aB (.bEL aA (.bEL (.slice 5 (.int .u8)) aD))))):=by
 have q1:=aMB x hx hp
 delta sX qR fU vC lE sA hM aV vJ lA jP kR;refine eE ?_
 refine fJ ?_
 refine ⟨hp,fun _=>?_⟩
 generalize nF x=r at q1 ⊢;obtain ⟨m,c1⟩:=r;obtain ⟨k1,u1⟩:=q1;have km:=k1.1;replace k1:okD iF c1:=k1.2;dsimp only at u1 ⊢
 change List dR at m
 obtain ⟨⟨hl1,hmB⟩,hl6,hop,hc1⟩:=u1
 have hP:∀ o∈m,List.length o.2.2.2≤40:=fun o ho=>by have:=bCJ (hop o ho);omega
 have hms:=bAH (m:=m) (by omega) hP
 have q2:=pH (c1,2) ⟨k1,okI (by omega) (by omega)⟩ hc1
 refine ⟨hc1,fun _ hpl=>?_⟩
 generalize gQ (c1,2)=r at q2 ⊢;obtain ⟨b2,c2⟩:=r;obtain ⟨k2,u2⟩:=q2;replace k2:okD iF c2:=k2.2;dsimp only at u2 ⊢
 have q3:=pH (c2,2) ⟨k2,okI (by omega) (by omega)⟩ u2
 refine ⟨u2,fun _=>?_⟩
 generalize gQ (c2,2)=r at q3 ⊢;obtain ⟨b3,c3⟩:=r;obtain ⟨k3,u3⟩:=q3;replace k3:okD iF c3:=k3.2;dsimp only at u3 ⊢
 have hpl60:=aVZ 2 2 1 3 false
 have ib:=bDT m
 have ob:=bCE m
 refine ⟨⟨by omega,by omega⟩,fun _ ho=>⟨⟨u3,by omega⟩,fun _=>?_⟩⟩
 have q4:=lO (c3,dJ m) ⟨k3,ho⟩ ⟨u3,by show dJ m≤1000;omega⟩
 generalize kB (c3,dJ m)=r at q4 ⊢;obtain ⟨v4,c4⟩:=r;obtain ⟨k4,u4⟩:=q4;replace k4:okD iF c4:=k4.2;dsimp only at u4 ⊢
 have hc4:=u4.2.2
 clear u4
 have s0:=aW8 (m:=m) (plan:=wZ 2 2 1 3 false) (a:=b2) (b:=b3)
 have s1:=aS8 (plan:=wZ 2 2 1 3 false) (a:=b2) (b:=b3) hmB
 generalize tL m (wZ 2 2 1 3 false) b2 b3=S0 at s0 s1 ⊢
 have q5:=bN (c4,4) ⟨k4,okI (by omega) (by omega)⟩ hc4
 refine ⟨hc4,fun _=>?_⟩
 generalize bK (c4,4)=r at q5 ⊢;obtain ⟨n5,c5⟩:=r;obtain ⟨k5,u5⟩:=q5;replace k5:okD iF c5:=k5.2;dsimp only at u5 ⊢
 have hn5:0≤n5∧n5<4:=⟨u5.1,u5.2.1 (by decide)⟩
 refine ⟨fun s=>@LE.le Int _ 0 s.1∧(eB aB ((s.2.2.2.2.1,s.2.2.2.2.2.2.2.2.2.1,s.2.2.2.2.2.2.2.2.2.2.1,s.2.2.2.2.2.1,s.2.2.2.2.2.2.1,s.2.2.2.2.2.2.2.2.2.2.2.1,s.2.2.2.2.2.2.2.2.2.2.2.2.1,s.2.2.2.2.2.2.2.2.2.2.2.2.2.1,s.2.2.2.2.2.2.2.2.2.2.2.2.2.2.1,s.2.2.2.2.2.2.2.2.2.2.2.2.2.2.2.1,s.2.2.2.2.2.2.2.2.2.2.2.2.2.2.2.2.1,s.2.2.2.2.2.2.2.2.2.2.2.2.2.2.2.2.2,s.2.2.2.2.2.2.2.1,s.2.2.2.2.2.2.2.2.1):aM):Int)+500 * s.1≤90000∧1≤sF ((s.2.2.2.2.1,s.2.2.2.2.2.2.2.2.2.1,s.2.2.2.2.2.2.2.2.2.2.1,s.2.2.2.2.2.1,s.2.2.2.2.2.2.1,s.2.2.2.2.2.2.2.2.2.2.2.1,s.2.2.2.2.2.2.2.2.2.2.2.2.1,s.2.2.2.2.2.2.2.2.2.2.2.2.2.1,s.2.2.2.2.2.2.2.2.2.2.2.2.2.2.1,s.2.2.2.2.2.2.2.2.2.2.2.2.2.2.2.1,s.2.2.2.2.2.2.2.2.2.2.2.2.2.2.2.2.1,s.2.2.2.2.2.2.2.2.2.2.2.2.2.2.2.2.2,s.2.2.2.2.2.2.2.1,s.2.2.2.2.2.2.2.2.1):aM)∧@LE.le Int _ 0 s.2.2.1,fun s=>(s.1:Int).toNat,⟨hn5.1,by show (eB aB S0:Int)+500 * n5≤90000;omega,by show 1≤sF S0;omega,u5.2.2.2⟩,fun s hs hI=>?_⟩
 obtain ⟨j,bf,i,h,pc,la,re,lo,sa,pl,op,sh,fu,X,Y,G,D,ro⟩:=s
 obtain ⟨e1,e2,e3,e4⟩:=hI
 change Int at j
 change (0:Int)≤j at e1
 change (eB aB (pc,pl,op,la,re,sh,fu,X,Y,G,D,ro,lo,sa):Int)+500 * j≤90000 at e2
 change 1≤sF (pc,pl,op,la,re,sh,fu,X,Y,G,D,ro,lo,sa) at e3
 change 0≤(i:Int) at e4
 have kq:okD iF (bf,i,h):=⟨hs.2.1,hs.2.2.1,hs.2.2.2.1⟩
 clear hs
 generalize hS:((pc,pl,op,la,re,sh,fu,X,Y,G,D,ro,lo,sa):aM)=S at e2 e3 ⊢
 try dsimp only
 try refine fJ ?_
 refine ⟨fun hlt=>⟨e4,fun _ hin=>?_⟩,fun hge=>?_⟩
 ·have q6:=bN ((bf,i,h),4) ⟨kq,okI (by omega) (by omega)⟩ e4
  generalize bK ((bf,i,h),4)=r at q6 ⊢;obtain ⟨n6,c6⟩:=r;obtain ⟨k6,u6⟩:=q6;replace k6:okD iF c6:=k6.2;dsimp only at u6 ⊢
  refine ⟨⟨u6.2.2.2,by omega⟩,fun _=>?_⟩
  have q7:=lO (c6,iA m) ⟨k6,hin⟩ ⟨u6.2.2.2,by show iA m≤1000;omega⟩
  generalize kB (c6,iA m)=r at q7 ⊢;obtain ⟨v7,c7⟩:=r;obtain ⟨k7,u7⟩:=q7;replace k7:okD iF c7:=k7.2;dsimp only at u7 ⊢
  have hc7:=u7.2.2
  have f1:=bCC S n6 v7 v4
  have f2:=bA7 S n6 v7 v4
  refine ⟨by omega,fun _=>⟨hc7,fun _=>?_⟩⟩
  generalize aH9 S n6 v7 v4=S1 at f1 f2 ⊢
  have q8:=pH (c7,3) ⟨k7,okI (by omega) (by omega)⟩ hc7
  generalize gQ (c7,3)=r at q8 ⊢;obtain ⟨b8,c8⟩:=r;obtain ⟨k8,u8⟩:=q8;replace k8:okD iF c8:=k8.2;dsimp only at u8 ⊢
  refine ⟨fun hb ho=>?_,fun hb=>?_⟩
  ·refine ⟨⟨u8,by omega⟩,fun _=>?_⟩
   have q9:=lO (c8,dJ m) ⟨k8,ho⟩ ⟨u8,by show dJ m≤1000;omega⟩
   generalize kB (c8,dJ m)=r at q9 ⊢;obtain ⟨v9,c9⟩:=r;obtain ⟨k9,u9⟩:=q9;replace k9:okD iF c9:=k9.2;dsimp only at u9 ⊢
   have hc9:=u9.2.2
   refine ⟨hc9,fun _=>?_⟩
   have q10:=bN (c9,4) ⟨k9,okI (by omega) (by omega)⟩ hc9
   generalize bK (c9,4)=r at q10 ⊢;obtain ⟨n10,c10⟩:=r;obtain ⟨k10,u10⟩:=q10;replace k10:okD iF c10:=k10.2;dsimp only at u10 ⊢
   have h9:v9.length≤6:=by have:=u9.1;omega
   have g1:=bBW S1 v9 h9
   have g6:=aZM S1 v9
   generalize hT:((S1.1,S1.2.1,S1.2.2.1,S1.2.2.2.1,S1.2.2.2.2.1,S1.2.2.2.2.2.1,S1.2.2.2.2.2.2.1,S1.2.2.2.2.2.2.2.1,S1.2.2.2.2.2.2.2.2.1,v9,S1.2.2.2.2.2.2.2.2.2.2):aM)=T9
   have hT':bBU S1 v9=T9:=hT
   rw[hT'] at g1 g6
   clear hT hT'
   have g2:=aYZ T9 n10
   have g5:=aXG T9 n10
   generalize uP T9 n10=T10 at g2 g5 ⊢
   have g3:=bAU T10 n10 v4
   have g4:=aZV T10 n10 v4
   generalize aCW T10 n10 v4=S2 at g3 g4 ⊢
   exact ⟨by omega,fun _=>⟨by omega,fun _=>⟨⟨by omega,by omega⟩,fun _=>⟨⟨by omega,by show (eB aB S2:Int)+500 * (j - 1)≤90000;omega,by show 1≤sF S2;omega,u10.2.2.2⟩,by omega⟩⟩⟩⟩
  ·exact ⟨⟨by omega,by omega⟩,fun _=>⟨⟨by omega,by show (eB aB S1:Int)+500 * (j - 1)≤90000;omega,by show 1≤sF S1;omega,u8⟩,by omega⟩⟩
 ·exact ⟨⟨by omega,e3⟩,e4⟩
theorem sW:∃ f:(aJ)→(aM × (aW × aJ)),(∀ x,okD (.bEL (.slice 5 (.int .u8)) aD) x→(fun x=>0≤x.2.1) x→(fun x r=>(eB aB r.1≤100000∧1≤sF r.1)∧0≤r.2.2.2.1:(aJ)→(aM × (aW × aJ))→Prop) x (f x))∧Con.Holds Tryz.prog { tN with fn:=f }:=iR (C:=tN) aR (aG aE3 (aG uE (aG bAL (aG aL8 (aG aVF (aG xU (aG dM (aG aYW (aG aK4 (aG aIC (aG aM8 aO))))))))))) aM1 (fun x r=>(eB aB r.1≤100000∧1≤sF r.1)∧0≤r.2.2.2.1:(aJ)→(aM × (aW × aJ))→Prop) aLX
def lG:(aJ)→(aM × (aW × aJ)):=Classical.choose sW
def nZ:Con:=⟨59,(.bEL (.slice 5 (.int .u8)) aD),(.bEL aB (.bEL aA (.bEL (.slice 5 (.int .u8)) aD))),[.box 97 ⟨true,(.bEL (.slice 5 (.int .u8)) aD),[]⟩],[⟨true,aB,[0,0,0,0,0,0,0,0,0,0,0,0,0,0]⟩,⟨false,aA,[0]⟩],true,none,
 ((fun x=>0≤x.2.1):(aJ)→Prop),
 ((lG):(aJ)→(aM × (aW × aJ)))⟩
theorem aKP:∀ x,okD (.bEL (.slice 5 (.int .u8)) aD) x→(fun x=>0≤x.2.1) x→(fun x r=>(eB aB r.1≤100000∧1≤sF r.1)∧0≤r.2.2.2.1:(aJ)→(aM × (aW × aJ))→Prop) x (lG x):=(Classical.choose_spec sW).1
theorem aB4:Con.Holds Tryz.prog nZ:=(Classical.choose_spec sW).2
theorem aLK (x:aJ) (hx:okD (.bEL (.slice 5 (.int .u8)) aD) x) (hp:(fun x=>0≤x.2.1) x):okD (.bEL aB (.bEL aA (.bEL (.slice 5 (.int .u8)) aD))) (lG x)∧(fun x r=>(eB aB r.1≤100000∧1≤sF r.1)∧0≤r.2.2.2.1:(aJ)→(aM × (aW × aJ))→Prop) x (lG x):=⟨aB4.ok x hp hx,aKP x hx hp⟩
def aAG:Con:=⟨32,(.bEL (.slice 5 (.int .u8)) aD),(.bEL aB (.bEL aA (.bEL (.slice 5 (.int .u8)) aD))),[.box 97 ⟨true,(.bEL (.slice 5 (.int .u8)) aD),[]⟩],[⟨true,aB,[0,0,0,0,0,0,0,0,0,0,0,0,0,0]⟩,⟨false,aA,[0]⟩],true,none,
 ((fun x=>0≤x.2.1):(aJ)→Prop),
 ((fun _=>bG (.bEL aB (.bEL aA (.bEL (.slice 5 (.int .u8)) aD)))):(aJ)→(aM × (aW × aJ)))⟩
def aA6:T:=.call 0 (.Z 0) <|.call 1 (.bEN (.bEL (.slice 5 (.int .u8)) aD) tI (aN (.bEL aB (.bEL aA (.bEL (.slice 5 (.int .u8)) aD))) 2 (.Z 1)) (.ci .i64 14)) <|
 .bEM (.cmp .eql .i64) (.bEN tI tI (.p1 tI (.bEL (.slice 5 (.int .u8)) aD) (.Z 2)) (.ci .i64 0)) <|
 .ite (.Z 3) (
  .bEM (.lit 3 tI 2) (.bEN tI tI (.ci .i64 (-1)) (.ci .i64 99)) <|
  .call 2 (.bEN (.bEL (.slice 5 (.int .u8)) aD) aA (aN (.bEL tI (.bEL (.slice 5 (.int .u8)) aD)) 1 (.Z 2)) (.Z 4)) <|
  .ret (aY (.bEL aB (.bEL aA (.bEL (.slice 5 (.int .u8)) aD))) [(.bEN tI iT (.p1 tI (.bEL (.slice 5 (.int .u8)) aD) (.Z 5)) (aN aB 1 (.p1 aB (.bEL aA (.bEL (.slice 5 (.int .u8)) aD)) (.Z 1)))),(aI (.bEL aB (.bEL aA (.bEL (.slice 5 (.int .u8)) aD))) 1 (.Z 1)),(aN (.bEL tI (.bEL (.slice 5 (.int .u8)) aD)) 1 (.Z 5))])) (
  .bEM (.cmp .eql .i64) (.bEN tI tI (.p1 tI (.bEL (.slice 5 (.int .u8)) aD) (.Z 2)) (.ci .i64 1)) <|
  .ite (.Z 4) (
   .call 3 (aN (.bEL tI (.bEL (.slice 5 (.int .u8)) aD)) 1 (.Z 2)) <|
   .ret (aY (.bEL aB (.bEL aA (.bEL (.slice 5 (.int .u8)) aD))) [(aY aB [(.p1 tI iT (.p1 aB (.bEL aA (.bEL (.slice 5 (.int .u8)) aD)) (.Z 1))),(aI aB 1 (.p1 aB (.bEL aA (.bEL (.slice 5 (.int .u8)) aD)) (.Z 1))),(aI aB 2 (.p1 aB (.bEL aA (.bEL (.slice 5 (.int .u8)) aD)) (.Z 1))),(aI aB 3 (.p1 aB (.bEL aA (.bEL (.slice 5 (.int .u8)) aD)) (.Z 1))),(aI aB 4 (.p1 aB (.bEL aA (.bEL (.slice 5 (.int .u8)) aD)) (.Z 1))),(aI aB 5 (.p1 aB (.bEL aA (.bEL (.slice 5 (.int .u8)) aD)) (.Z 1))),(aI aB 6 (.p1 aB (.bEL aA (.bEL (.slice 5 (.int .u8)) aD)) (.Z 1))),(.p1 aA (.bEL (.slice 5 (.int .u8)) aD) (.Z 5)),(aN aB 8 (.p1 aB (.bEL aA (.bEL (.slice 5 (.int .u8)) aD)) (.Z 1)))]),(aI (.bEL aB (.bEL aA (.bEL (.slice 5 (.int .u8)) aD))) 1 (.Z 1)),(aN (.bEL aA (.bEL (.slice 5 (.int .u8)) aD)) 1 (.Z 5))])) (
   .bEM (.cmp .eql .i64) (.bEN tI tI (.p1 tI (.bEL (.slice 5 (.int .u8)) aD) (.Z 2)) (.ci .i64 2)) <|
   .ite (.Z 5) (
    .bEM .not (aI aB 4 (.p1 aB (.bEL aA (.bEL (.slice 5 (.int .u8)) aD)) (.Z 1))) <|
    .ret (aY (.bEL aB (.bEL aA (.bEL (.slice 5 (.int .u8)) aD))) [(aY aB [(.p1 tI iT (.p1 aB (.bEL aA (.bEL (.slice 5 (.int .u8)) aD)) (.Z 1))),(aI aB 1 (.p1 aB (.bEL aA (.bEL (.slice 5 (.int .u8)) aD)) (.Z 1))),(aI aB 2 (.p1 aB (.bEL aA (.bEL (.slice 5 (.int .u8)) aD)) (.Z 1))),(aI aB 3 (.p1 aB (.bEL aA (.bEL (.slice 5 (.int .u8)) aD)) (.Z 1))),(.Z 6),(aN aB 5 (.p1 aB (.bEL aA (.bEL (.slice 5 (.int .u8)) aD)) (.Z 1)))]),(aI (.bEL aB (.bEL aA (.bEL (.slice 5 (.int .u8)) aD))) 1 (.Z 1)),(aN (.bEL tI (.bEL (.slice 5 (.int .u8)) aD)) 1 (.Z 2))])) (
    .bEM (.cmp .eql .i64) (.bEN tI tI (.p1 tI (.bEL (.slice 5 (.int .u8)) aD) (.Z 2)) (.ci .i64 3)) <|
    .ite (.Z 6) (
     .bEM (.bEP 112 aA) (aI aB 11 (.p1 aB (.bEL aA (.bEL (.slice 5 (.int .u8)) aD)) (.Z 1))) <|
     .bEM (.ar .sub .i64) (.bEN tI tI (.Z 7) (.ci .i64 1)) <|
     .bEM (.bER 112 aA) (aY (.bEL aE aD) [(aI aB 11 (.p1 aB (.bEL aA (.bEL (.slice 5 (.int .u8)) aD)) (.Z 1))),(.ci .i64 0),(.Z 8)]) <|
     .ret (aY (.bEL aB (.bEL aA (.bEL (.slice 5 (.int .u8)) aD))) [(aY aB [(.p1 tI iT (.p1 aB (.bEL aA (.bEL (.slice 5 (.int .u8)) aD)) (.Z 1))),(aI aB 1 (.p1 aB (.bEL aA (.bEL (.slice 5 (.int .u8)) aD)) (.Z 1))),(aI aB 2 (.p1 aB (.bEL aA (.bEL (.slice 5 (.int .u8)) aD)) (.Z 1))),(aI aB 3 (.p1 aB (.bEL aA (.bEL (.slice 5 (.int .u8)) aD)) (.Z 1))),(aI aB 4 (.p1 aB (.bEL aA (.bEL (.slice 5 (.int .u8)) aD)) (.Z 1))),(aI aB 5 (.p1 aB (.bEL aA (.bEL (.slice 5 (.int .u8)) aD)) (.Z 1))),(aI aB 6 (.p1 aB (.bEL aA (.bEL (.slice 5 (.int .u8)) aD)) (.Z 1))),(aI aB 7 (.p1 aB (.bEL aA (.bEL (.slice 5 (.int .u8)) aD)) (.Z 1))),(aI aB 8 (.p1 aB (.bEL aA (.bEL (.slice 5 (.int .u8)) aD)) (.Z 1))),(aI aB 9 (.p1 aB (.bEL aA (.bEL (.slice 5 (.int .u8)) aD)) (.Z 1))),(aI aB 10 (.p1 aB (.bEL aA (.bEL (.slice 5 (.int .u8)) aD)) (.Z 1))),(.Z 9),(aN aB 12 (.p1 aB (.bEL aA (.bEL (.slice 5 (.int .u8)) aD)) (.Z 1)))]),(aI (.bEL aB (.bEL aA (.bEL (.slice 5 (.int .u8)) aD))) 1 (.Z 1)),(aN (.bEL tI (.bEL (.slice 5 (.int .u8)) aD)) 1 (.Z 2))])) (
     .ret (aY (.bEL aB (.bEL aA (.bEL (.slice 5 (.int .u8)) aD))) [(.p1 aB (.bEL aA (.bEL (.slice 5 (.int .u8)) aD)) (.Z 1)),(aI (.bEL aB (.bEL aA (.bEL (.slice 5 (.int .u8)) aD))) 1 (.Z 1)),(aN (.bEL tI (.bEL (.slice 5 (.int .u8)) aD)) 1 (.Z 2))])))))
theorem aSN (f:(aJ)→(aM × (aW × aJ))):bJ Tryz.prog [nZ,aV,bZ,hK] { aAG with fn:=f } false 3000 ⟨[],[(2988,3004,[16],[])]⟩ = .ok aA6:=by kernel_rfl
theorem aQI (x:aJ) (hx:okD (.bEL (.slice 5 (.int .u8)) aD) x) (hp:(fun x=>0≤x.2.1) x):aA6.wp [nZ,aV,bZ,hK] [⟨(.bEL (.slice 5 (.int .u8)) aD),x⟩] [] (fun v=>(fun x r=>True:(aJ)→(aM × (aW × aJ))→Prop) x (v.as (.bEL aB (.bEL aA (.bEL (.slice 5 (.int .u8)) aD))))):=by
 have q1:=aLK x hx hp
 delta aA6 nZ aV bZ hK;refine eE ?_
 refine fJ ?_
 refine ⟨hp,fun _=>?_⟩
 generalize lG x=r at q1 ⊢;obtain ⟨s,t,c1⟩:=r;obtain ⟨k1,u1⟩:=q1;replace k1:okD iF c1:=k1.2.2;dsimp only at u1 ⊢
 obtain ⟨⟨z1,z2⟩,hc1⟩:=u1
 have q2:=bN (c1,14) ⟨k1,okI (by omega) (by omega)⟩ hc1
 refine ⟨hc1,fun _=>?_⟩
 generalize bK (c1,14)=r at q2 ⊢;obtain ⟨n2,c2⟩:=r;obtain ⟨k2,u2⟩:=q2;replace k2:okD iF c2:=k2.2;dsimp only at u2 ⊢
 have hc2:=u2.2.2.2
 have z3:1≤List.length s.2.2.2.2.2.2.2.2.2.2.2.1:=z2
 have z4:List.length s.2.2.2.2.2.2.2.2.2.2.2.1≤100000:=by
  have h5:List.length s.2.2.2.2.2.2.2.2.2.2.2.1≤eB aE s.2.2.2.2.2.2.2.2.2.2.2.1:=aT9 (e:=112) (t:=aE6) _
  rw[kQ] at z1;omega
 (repeat' first|intro _|(with_reducible apply And.intro))
 all_goals first|omega|(unfold maxLen;omega)|(with_reducible exact hc2)|trivial|(rename_i hh;cases hh;done)|skip
theorem aH6:∃ f:(aJ)→(aM × (aW × aJ)),(∀ x,okD (.bEL (.slice 5 (.int .u8)) aD) x→(fun x=>0≤x.2.1) x→(fun x r=>True:(aJ)→(aM × (aW × aJ))→Prop) x (f x))∧Con.Holds Tryz.prog { aAG with fn:=f }:=iR (C:=aAG) aR (aG aB4 (aG dM (aG hN (aG yD aO)))) aSN (fun x r=>True:(aJ)→(aM × (aW × aJ))→Prop) aQI
def aRN:(aJ)→(aM × (aW × aJ)):=Classical.choose aH6
def sT:Con:=⟨32,(.bEL (.slice 5 (.int .u8)) aD),(.bEL aB (.bEL aA (.bEL (.slice 5 (.int .u8)) aD))),[.box 97 ⟨true,(.bEL (.slice 5 (.int .u8)) aD),[]⟩],[⟨true,aB,[0,0,0,0,0,0,0,0,0,0,0,0,0,0]⟩,⟨false,aA,[0]⟩],true,none,
 ((fun x=>0≤x.2.1):(aJ)→Prop),
 ((aRN):(aJ)→(aM × (aW × aJ)))⟩
theorem aQL:Con.Holds Tryz.prog sT:=(Classical.choose_spec aH6).2
def kY:Con:=⟨12,(.slice 5 (.int .u8)),aB,[.val ⟨false,(.slice 5 (.int .u8)),[]⟩],[⟨true,aB,[0,0,0,0,0,0,0,0,0,0,0,0,0,0]⟩],true,none,
 ((fun x=>x.length≤1048576):(List Int)→Prop),
 ((fun _=>bG aB):(List Int)→(aM))⟩
def kX:T:=.call 0 (.Z 0) <|.call 1 (.Z 1) <|.ret (.p1 aB (.bEL aA (.bEL (.slice 5 (.int .u8)) aD)) (.Z 2))
theorem aAV (f:(List Int)→(aM)):bJ Tryz.prog [cT,sT] { kY with fn:=f } false 3000 ⟨[],[]⟩ = .ok kX:=by kernel_rfl
theorem aAW (x:List Int) (hx:okD (.slice 5 (.int .u8)) x) (hp:(fun x=>x.length≤1048576) x):kX.wp [cT,sT] [⟨(.slice 5 (.int .u8)),x⟩] [] (fun v=>(fun x r=>True:(List Int)→(aM)→Prop) x (v.as aB)):=by
 have hp':List.length x≤1048576:=hp
 delta kX cT sT;refine eE ?_
 refine fJ ?_
 exact ⟨hp',fun hc=>⟨Int.le_refl _,fun _=>trivial⟩⟩
theorem qN:∃ f:(List Int)→(aM),(∀ x,okD (.slice 5 (.int .u8)) x→(fun x=>x.length≤1048576) x→(fun x r=>True:(List Int)→(aM)→Prop) x (f x))∧Con.Holds Tryz.prog { kY with fn:=f }:=iR (C:=kY) aR (aG aCG (aG aQL aO)) aAV (fun x r=>True:(List Int)→(aM)→Prop) aAW
def qF:(List Int)→(aM):=Classical.choose qN
def iD:Con:=⟨12,(.slice 5 (.int .u8)),aB,[.val ⟨false,(.slice 5 (.int .u8)),[]⟩],[⟨true,aB,[0,0,0,0,0,0,0,0,0,0,0,0,0,0]⟩],true,none,
 ((fun x=>x.length≤1048576):(List Int)→Prop),
 ((qF):(List Int)→(aM))⟩
theorem aBC:Con.Holds Tryz.prog iD:=(Classical.choose_spec qN).2
end
end Go.Proofs.YtdeobhdbmehpgaaGreat
