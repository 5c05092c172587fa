/- CoreL: lemmas. No conditions. -/
import Derived.Test.YtdeobhdbmehpgaaGreatCore9
namespace Go.Proofs.YtdeobhdbmehpgaaGreat
noncomputable section
set_option maxRecDepth 100000
open Go.ChangeShapes Go.WideShapes Go.ChangeAt Go.RowKit Go.Deep
set_option linter.unusedVariables false
set_option linter.unusedSimpArgs false
def aI5 (p:aY):Nat→List Int
 | 0=>[]
 | k+1=>aI5 p k++(if dQ p (k:Int)=true then [(k:Int)] else [])
def aA0 (p:aY):List Int:=aI5 p p.2.1.length
theorem aFC (p:aY):(k:Nat)→(aI5 p k).length≤k
 | 0=>Nat.le_refl _
 | k+1=>by
  have:=aFC p k
  rw[aI5,List.length_append]
  split
  ·simp;omega
  ·simp;omega
def kK:Con:=⟨44,aC,aB,[.val ⟨true,aC,[]⟩],[⟨false,aB,[2]⟩],false,none,
 ((fun x=>bQ aC x≤1000000000):(aY)→Prop),
 ((fun x=>aA0 x):(aY)→(List Int))⟩
def rZ:T :=
 .bNU (.bNX 38 aA) (aJ aC 1 (.Z 0)) <|
 .loop aF (.bNV tI aB (.ci .i64 0) (.nl 3 tI)) <|
  .bNU (.cmp .lss .i64) (.bNV tI tI (.p1 tI aB (.Z 2)) (.Z 1)) <|
  .ite (.Z 3) (
   .call 0 (.bNV aC tI (.Z 0) (.p1 tI aB (.Z 2))) <|
   .ite (.Z 4) (
    .bNU (.lit 3 tI 1) (.p1 tI aB (.Z 2)) <|
    .bNU (.bO0 3 tI 8) (.bNV aB aB (aO aF 1 (.Z 2)) (.Z 5)) <|
    .bNU (.ar .add .i64) (.bNV tI tI (.p1 tI aB (.Z 2)) (.ci .i64 1)) <|
    .bNW 0 (.bNV tI aB (.Z 7) (.Z 6))) (
    .bNU (.ar .add .i64) (.bNV tI tI (.p1 tI aB (.Z 2)) (.ci .i64 1)) <|
    .bNW 0 (.bNV tI aB (.Z 5) (aO aF 1 (.Z 2))))) (
   .ret (aO aF 1 (.Z 2)))
theorem aJU:bM Tryz.prog [jG] kK false 3000 ⟨[(2991,1002,iT 7 5++[.dr 0,.tm 9 0,.on 3,.sl 2])],[]⟩ = .ok rZ:=by kernel_rfl
theorem aJB (x:aY) (hx:okD aC x) (hp:(fun x=>bQ aC x≤1000000000) x):rZ.wp [jG] [⟨aC,x⟩] [] (fun v=>v.as aB=(fun x=>aA0 x) x):=by
 have hp:bQ aC x≤1000000000:=hp
 have hz:=qL x
 have hl:List.length x.2.1≤bQ (.slice 38 aA) x.2.1:=nP (e:=38) (t:=aA) x.2.1
 delta rZ jG;refine dB ?_
 refine dT ?_
 intro _
 refine cZ (fun k=>((k:Int),aI5 x k)) (List.length x.2.1) rfl fun I μ k hk _ go=>?_
 dsimp only
 refine dT ?_
 have hw:=aFC x k
 (repeat' first|intro _|(refine go _ ?_ ?_ ?_)|(refine go _ ?_ ?_)|(with_reducible apply And.intro))
 all_goals first|omega|(unfold maxLen;omega)|(rw[aI5,if_pos (by assumption)];rfl)|(rw[aI5,if_neg (by simp_all),List.append_nil];rfl)|(have e:k=List.length x.2.1:=(by omega);subst e;rfl)|skip
theorem aL2:Con.Holds Tryz.prog kK:=aS aW (aH aHO aR) aJU aJB
def lF:Con:=⟨18,aC,aB,[.val ⟨true,aC,[]⟩],[⟨false,aB,[2]⟩],false,none,
 ((fun x=>bQ aC x≤1000000000):(aY)→Prop),
 ((fun x=>aA0 x):(aY)→(List Int))⟩
def rB:T:=.loop aF (.bNV tI aB (.ci .i64 0) (.nl 3 tI)) <|
 .bNU (.bNX 38 aA) (aJ aC 1 (.Z 0)) <|
 .bNU (.cmp .lss .i64) (.bNV tI tI (.p1 tI aB (.Z 1)) (.Z 2)) <|
 .ite (.Z 3) (
  .call 0 (.bNV aC tI (.Z 0) (.p1 tI aB (.Z 1))) <|
  .ite (.Z 4) (
   .bNU (.lit 3 tI 1) (.p1 tI aB (.Z 1)) <|
   .bNU (.bO0 3 tI 8) (.bNV aB aB (aO aF 1 (.Z 1)) (.Z 5)) <|
   .bNU (.ar .add .i64) (.bNV tI tI (.p1 tI aB (.Z 1)) (.ci .i64 1)) <|
   .bNW 0 (.bNV tI aB (.Z 7) (.Z 6))) (
   .bNU (.ar .add .i64) (.bNV tI tI (.p1 tI aB (.Z 1)) (.ci .i64 1)) <|
   .bNW 0 (.bNV tI aB (.Z 5) (aO aF 1 (.Z 1))))) (
  .ret (aO aF 1 (.Z 1)))
theorem aIY:bM Tryz.prog [jK] lF false 3000 ⟨[(2991,1001,[.dr 5,.dr 0,.tm 4 0,.on 3,.sl 2])],[]⟩ = .ok rB:=by kernel_rfl
theorem aKF (x:aY) (hx:okD aC x) (hp:(fun x=>bQ aC x≤1000000000) x):rB.wp [jK] [⟨aC,x⟩] [] (fun v=>v.as aB=(fun x=>aA0 x) x):=by
 have hp:bQ aC x≤1000000000:=hp
 have hz:=qL x
 have hl:List.length x.2.1≤bQ (.slice 38 aA) x.2.1:=nP (e:=38) (t:=aA) x.2.1
 delta rB jK;refine dB ?_
 refine dT ?_
 refine cZ (fun k=>((k:Int),aI5 x k)) (List.length x.2.1) rfl fun I μ k hk _ go=>?_
 dsimp only
 refine dT ?_
 have hw:=aFC x k
 (repeat' first|intro _|(refine go _ ?_ ?_ ?_)|(refine go _ ?_ ?_)|(with_reducible apply And.intro))
 all_goals first|omega|(unfold maxLen;omega)|(rw[aI5,if_pos (by assumption)];rfl)|(rw[aI5,if_neg (by simp_all),List.append_nil];rfl)|(have e:k=List.length x.2.1:=(by omega);subst e;rfl)|skip
theorem aIX:Con.Holds Tryz.prog lF:=aS aW (aH aI0 aR) aIY aKF
end
end Go.Proofs.YtdeobhdbmehpgaaGreat
