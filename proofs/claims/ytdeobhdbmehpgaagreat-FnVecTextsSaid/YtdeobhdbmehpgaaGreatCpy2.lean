/- Cpy2: lemmas. No conditions. -/
import Derived.Test.YtdeobhdbmehpgaaGreatLin2
import Derived.Test.YtdeobhdbmehpgaaGreatCe
namespace Go.Proofs.YtdeobhdbmehpgaaGreat
open Go.ChangeShapes Go.WideShapes Go.ChangeAt Go.RowKit Go.Deep
set_option linter.unusedVariables false
set_option linter.unusedSimpArgs false
theorem aJC:{t:Ty}→{d:t.D}→eB t d≤1000000000→aV9 t d:=by
 intro t
 induction t with
 | int k=>intros;trivial
 | bool=>intros;trivial
 | str=>intros;trivial
 | bEL a b iha ihb =>
  intro d h
  have h':eB a d.1+eB b d.2≤1000000000:=h
  exact ⟨iha (by omega),ihb (by omega)⟩
 | slice e t ih =>
  intro l h
  exact ⟨Nat.le_trans (aT9 (e:=e) l) h,fun x hx=>ih (Nat.le_trans (bCD (e:=e) hx) h)⟩
noncomputable def iQ:Con:=⟨124,aF,aF,[.val ⟨false,aF,[]⟩],[⟨false,aF,[2]⟩],false,none,
 ((fun x=>eB aF x≤1000000000):(bL)→Prop),
 ((fun x=>x):(bL)→(bL))⟩
def zN:T:=.loop (.bEL tI aF) (.bEN tI aF (.ci .i64 0) (.nl 78 bC)) <|
 .bEM (.bEP 78 bC) (.Z 0) <|
 .bEM (.cmp .lss .i64) (.bEN tI tI (.p1 tI aF (.Z 1)) (.Z 2)) <|
 .ite (.Z 3) (
  .bEM (.bEQ 78 bC) (.bEN aF tI (.Z 0) (.p1 tI aF (.Z 1))) <|
  .bEM (.bEQ 78 bC) (.bEN aF tI (.Z 0) (.p1 tI aF (.Z 1))) <|
  .bEM (.bES 3 tI 8) (.bEN aA aA (.nl 3 tI) (aN bC 3 (.Z 5))) <|
  .bEM (.lit 78 bC 1) (aY bC [(.p1 tI (.bEL tI aK) (.Z 4)),(aI bC 1 (.Z 4)),(aI bC 2 (.Z 4)),(.Z 6)]) <|
  .bEM (.bES 78 bC 48) (.bEN aF aF (aN (.bEL tI aF) 1 (.Z 1)) (.Z 7)) <|
  .bEM (.ar .add .i64) (.bEN tI tI (.p1 tI aF (.Z 1)) (.ci .i64 1)) <|
  .bEO 0 (.bEN tI aF (.Z 9) (.Z 8))) (
  .ret (aN (.bEL tI aF) 1 (.Z 1)))
set_option maxRecDepth 100000 in
theorem aSM:bJ Tryz.prog [] iQ false 3000 ⟨[(2991,1001,[.dr 6,.tm 4 0,.on 3,.sl 1])],[(2979,3007,[],[4])]⟩ = .ok zN:=by kernel_rfl
theorem aRH (x:bL) (hx:okD aF x) (hp:(fun x=>eB aF x≤1000000000) x):zN.wp [] [⟨aF,x⟩] [] (fun v=>v.as aF=(fun x=>x) x):=by
 have hB:=aJC (t:=aF) hp
 delta zN;refine eE ?_;try with_reducible exact True.intro
 (repeat' first|intro _|(with_reducible apply And.intro))
 all_goals first|omega|(unfold maxLen;omega)|skip
 refine jC (fun k=>((k:Int),List.take k x)) (List.length x) rfl fun I μ k hk _ go=>?_
 dsimp only
 refine fJ ?_
 by_cases hkn:k<List.length x
 ·have hm:=hB.2 _ (List.getElem_mem hkn)
  have hn:=hB.1
  rw[bE hkn]
  (repeat' first|intro _|(refine go _ ?_ ?_ ?_)|(refine go _ ?_ ?_)|(with_reducible apply And.intro))
  all_goals first|omega|(have hn2:=hm.2.2.2.1;omega)|(have hn2:=hm.2.2.2.1;unfold maxLen;omega)|(simp only[List.length_take];unfold maxLen;omega)|(simp only[List.length_take];omega)|(rw[aKX hkn];rfl)
 ·(repeat' first|intro _|(refine go _ ?_ ?_ ?_)|(refine go _ ?_ ?_)|(with_reducible apply And.intro))
  all_goals first|omega|(have e:k=List.length x:=(by omega);subst e;exact List.take_length)
theorem aHN:Con.Holds Tryz.prog iQ:=aQ aR aO aSM aRH
end Go.Proofs.YtdeobhdbmehpgaaGreat
