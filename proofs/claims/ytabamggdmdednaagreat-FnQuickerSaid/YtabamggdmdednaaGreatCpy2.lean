/- Cpy2: lemmas. No conditions. -/
import Derived.Test.YtabamggdmdednaaGreatLin2
import Derived.Test.YtabamggdmdednaaGreatCe
namespace Go.Proofs.YtabamggdmdednaaGreat
set_option maxRecDepth 100000
open Go.ChangeShapes Go.WideShapes Go.ChangeAt Go.RowKit Go.Deep
set_option linter.unusedVariables false
set_option linter.unusedSimpArgs false
theorem gZ:{t:Ty}→{d:t.D}→bM t d≤1000000000→bHR t d:=by
 intro t
 induction t with
 | int k=>intros;trivial
 | bool=>intros;trivial
 | str=>intros;trivial
 | bRW a b iha ihb =>
  intro d h
  have h':bM a d.1+bM b d.2≤1000000000:=h
  exact ⟨iha (by omega),ihb (by omega)⟩
 | slice e t ih =>
  intro l h
  exact ⟨Nat.le_trans (mI (e:=e) l) h,fun x hx=>ih (Nat.le_trans (sC (e:=e) hx) h)⟩
noncomputable def kC:Con:=⟨58,aE,aE,[.val ⟨false,aE,[]⟩],[⟨false,aE,[2]⟩],false,none,
 ((fun x=>bM aE x≤1000000000):(aY)→Prop),
 ((fun x=>x):(aY)→(aY))⟩
def aAM:T :=
 .bRX (.bS0 88 bF) (.Z 0) <|
 .loop (.bRW tI aE) (.bRY tI aE (.ci .i64 0) (.nl 88 bF)) <|
  .bRX (.cmp .lss .i64) (.bRY tI tI (.p1 tI aE (.Z 2)) (.Z 1)) <|
  .ite (.Z 3) (
   .bRX (.bS1 88 bF) (.bRY aE tI (.Z 0) (.p1 tI aE (.Z 2))) <|
   .call 0 (aP bF 3 (.Z 4)) <|
   .bRX (.lit 88 bF 1) (bB bF [(.p1 tI (.bRW tI aH) (.Z 4)),(aK bF 1 (.Z 4)),(aK bF 2 (.Z 4)),(.Z 5)]) <|
   .bRX (.bS3 88 bF 48) (.bRY aE aE (aP (.bRW tI aE) 1 (.Z 2)) (.Z 6)) <|
   .bRX (.ar .add .i64) (.bRY tI tI (.p1 tI aE (.Z 2)) (.ci .i64 1)) <|
   .bRZ 0 (.bRY tI aE (.Z 8) (.Z 7))) (
   .ret (aP (.bRW tI aE) 1 (.Z 2)))
theorem aY8:bI Tryz.prog [bR] kC false 3000 ⟨[(2991,1002,[.dr 6,.dr 0,.tm 9 0,.on 3,.sl 1])],[(2981,3005,[22],[])]⟩ = .ok aAM:=by kernel_rfl
theorem aYO (x:aY) (hx:okD aE x) (hp:(fun x=>bM aE x≤1000000000) x):aAM.wp [bR] [⟨aE,x⟩] [] (fun v=>v.as aE=(fun x=>x) x):=by
 have hB:=gZ (t:=aE) hp
 delta aAM bR;refine cW ?_;try with_reducible exact True.intro
 (repeat' first|intro _|(with_reducible apply And.intro))
 all_goals first|omega|(unfold maxLen;omega)|skip
 refine cN (fun k=>((k:Int),List.take k x)) (List.length x) rfl fun I μ k hk _ go=>?_
 dsimp only
 refine dB ?_
 by_cases hkn:k<List.length x
 ·have hm:=hB.2 _ (List.getElem_mem hkn)
  have hn:=hB.1
  rw[aZ hkn]
  (repeat' first|intro _|(refine go _ ?_ ?_ ?_)|(refine go _ ?_ ?_)|(with_reducible apply And.intro))
  all_goals first|omega|exact hm.2.2.2.1|(simp only[List.length_take];unfold maxLen;omega)|(simp only[List.length_take];omega)|(rw[iW hkn];rfl)
 ·(repeat' first|intro _|(refine go _ ?_ ?_ ?_)|(refine go _ ?_ ?_)|(with_reducible apply And.intro))
  all_goals first|omega|(have e:k=List.length x:=(by omega);subst e;exact List.take_length)
theorem aKA:Con.Holds Tryz.prog kC:=aS aV (aI gS aQ) aY8 aYO
noncomputable def mC:Con:=⟨114,aE,aE,[.val ⟨false,aE,[]⟩],[⟨false,aE,[2]⟩],false,none,
 ((fun x=>bM aE x≤1000000000):(aY)→Prop),
 ((fun x=>x):(aY)→(aY))⟩
def aG8:T:=.loop (.bRW tI aE) (.bRY tI aE (.ci .i64 0) (.nl 88 bF)) <|
 .bRX (.bS0 88 bF) (.Z 0) <|
 .bRX (.cmp .lss .i64) (.bRY tI tI (.p1 tI aE (.Z 1)) (.Z 2)) <|
 .ite (.Z 3) (
  .bRX (.bS1 88 bF) (.bRY aE tI (.Z 0) (.p1 tI aE (.Z 1))) <|
  .bRX (.bS1 88 bF) (.bRY aE tI (.Z 0) (.p1 tI aE (.Z 1))) <|
  .bRX (.bS3 3 tI 8) (.bRY aB aB (.nl 3 tI) (aP bF 3 (.Z 5))) <|
  .bRX (.lit 88 bF 1) (bB bF [(.p1 tI (.bRW tI aH) (.Z 4)),(aK bF 1 (.Z 4)),(aK bF 2 (.Z 4)),(.Z 6)]) <|
  .bRX (.bS3 88 bF 48) (.bRY aE aE (aP (.bRW tI aE) 1 (.Z 1)) (.Z 7)) <|
  .bRX (.ar .add .i64) (.bRY tI tI (.p1 tI aE (.Z 1)) (.ci .i64 1)) <|
  .bRZ 0 (.bRY tI aE (.Z 9) (.Z 8))) (
  .ret (aP (.bRW tI aE) 1 (.Z 1)))
theorem bDO:bI Tryz.prog [] mC false 3000 ⟨[(2991,1001,[.dr 6,.tm 4 0,.on 3,.sl 1])],[(2979,3007,[],[4])]⟩ = .ok aG8:=by kernel_rfl
theorem bB0 (x:aY) (hx:okD aE x) (hp:(fun x=>bM aE x≤1000000000) x):aG8.wp [] [⟨aE,x⟩] [] (fun v=>v.as aE=(fun x=>x) x):=by
 have hB:=gZ (t:=aE) hp
 delta aG8;refine cW ?_;try with_reducible exact True.intro
 (repeat' first|intro _|(with_reducible apply And.intro))
 all_goals first|omega|(unfold maxLen;omega)|skip
 refine cN (fun k=>((k:Int),List.take k x)) (List.length x) rfl fun I μ k hk _ go=>?_
 dsimp only
 refine dB ?_
 by_cases hkn:k<List.length x
 ·have hm:=hB.2 _ (List.getElem_mem hkn)
  have hn:=hB.1
  rw[aZ hkn]
  (repeat' first|intro _|(refine go _ ?_ ?_ ?_)|(refine go _ ?_ ?_)|(with_reducible apply And.intro))
  all_goals first|omega|(have hn2:=hm.2.2.2.1;omega)|(have hn2:=hm.2.2.2.1;unfold maxLen;omega)|(simp only[List.length_take];unfold maxLen;omega)|(simp only[List.length_take];omega)|(rw[iW hkn];rfl)
 ·(repeat' first|intro _|(refine go _ ?_ ?_ ?_)|(refine go _ ?_ ?_)|(with_reducible apply And.intro))
  all_goals first|omega|(have e:k=List.length x:=(by omega);subst e;exact List.take_length)
theorem aP0:Con.Holds Tryz.prog mC:=aS aV aQ bDO bB0
end Go.Proofs.YtabamggdmdednaaGreat
