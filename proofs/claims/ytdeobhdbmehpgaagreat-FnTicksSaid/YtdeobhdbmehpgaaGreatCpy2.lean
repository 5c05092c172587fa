/- Cpy2: lemmas. No conditions. -/
import Derived.Test.YtdeobhdbmehpgaaGreatLin2
import Derived.Test.YtdeobhdbmehpgaaGreatCe
namespace Go.Proofs.YtdeobhdbmehpgaaGreat
set_option maxRecDepth 100000
open Go.ChangeShapes Go.WideShapes Go.ChangeAt Go.RowKit Go.Deep
set_option linter.unusedVariables false
set_option linter.unusedSimpArgs false
theorem kA:{t:Ty}→{d:t.D}→bQ t d≤1000000000→bCU t d:=by
 intro t
 induction t with
 | int k=>intros;trivial
 | bool=>intros;trivial
 | str=>intros;trivial
 | bNT a b iha ihb =>
  intro d h
  have h':bQ a d.1+bQ b d.2≤1000000000:=h
  exact ⟨iha (by omega),ihb (by omega)⟩
 | slice e t ih =>
  intro l h
  exact ⟨Nat.le_trans (nP (e:=e) l) h,fun x hx=>ih (Nat.le_trans (aEO (e:=e) hx) h)⟩
noncomputable def pY:Con:=⟨110,aK,aK,[.val ⟨false,aK,[]⟩],[⟨false,aK,[2]⟩],false,none,
 ((fun x=>bQ aK x≤1000000000):(bD)→Prop),
 ((fun x=>x):(bD)→(bD))⟩
def aB2:T :=
 .bNU (.bNX 78 bG) (.Z 0) <|
 .loop (.bNT tI aK) (.bNV tI aK (.ci .i64 0) (.nl 78 bG)) <|
  .bNU (.cmp .lss .i64) (.bNV tI tI (.p1 tI aK (.Z 2)) (.Z 1)) <|
  .ite (.Z 3) (
   .bNU (.bNY 78 bG) (.bNV aK tI (.Z 0) (.p1 tI aK (.Z 2))) <|
   .call 0 (aO bG 3 (.Z 4)) <|
   .bNU (.lit 78 bG 1) (bB bG [(.p1 tI (.bNT tI aF) (.Z 4)),(aJ bG 1 (.Z 4)),(aJ bG 2 (.Z 4)),(.Z 5)]) <|
   .bNU (.bO0 78 bG 48) (.bNV aK aK (aO (.bNT tI aK) 1 (.Z 2)) (.Z 6)) <|
   .bNU (.ar .add .i64) (.bNV tI tI (.p1 tI aK (.Z 2)) (.ci .i64 1)) <|
   .bNW 0 (.bNV tI aK (.Z 8) (.Z 7))) (
   .ret (aO (.bNT tI aK) 1 (.Z 2)))
theorem aU7:bM Tryz.prog [bN] pY false 3000 ⟨[(2991,1002,[.dr 6,.dr 0,.tm 9 0,.on 3,.sl 1])],[(2981,3005,[22],[])]⟩ = .ok aB2:=by kernel_rfl
theorem aTC (x:bD) (hx:okD aK x) (hp:(fun x=>bQ aK x≤1000000000) x):aB2.wp [bN] [⟨aK,x⟩] [] (fun v=>v.as aK=(fun x=>x) x):=by
 have hB:=kA (t:=aK) hp
 delta aB2 bN;refine dB ?_;try with_reducible exact True.intro
 (repeat' first|intro _|(with_reducible apply And.intro))
 all_goals first|omega|(unfold maxLen;omega)|skip
 refine cZ (fun k=>((k:Int),List.take k x)) (List.length x) rfl fun I μ k hk _ go=>?_
 dsimp only
 refine dT ?_
 by_cases hkn:k<List.length x
 ·have hm:=hB.2 _ (List.getElem_mem hkn)
  have hn:=hB.1
  rw[aZ hkn]
  (repeat' first|intro _|(refine go _ ?_ ?_ ?_)|(refine go _ ?_ ?_)|(with_reducible apply And.intro))
  all_goals first|omega|exact hm.2.2.2.1|(simp only[List.length_take];unfold maxLen;omega)|(simp only[List.length_take];omega)|(rw[iI hkn];rfl)
 ·(repeat' first|intro _|(refine go _ ?_ ?_ ?_)|(refine go _ ?_ ?_)|(with_reducible apply And.intro))
  all_goals first|omega|(have e:k=List.length x:=(by omega);subst e;exact List.take_length)
theorem aSX:Con.Holds Tryz.prog pY:=aS aW (aH gK aR) aU7 aTC
noncomputable def kQ:Con:=⟨124,aK,aK,[.val ⟨false,aK,[]⟩],[⟨false,aK,[2]⟩],false,none,
 ((fun x=>bQ aK x≤1000000000):(bD)→Prop),
 ((fun x=>x):(bD)→(bD))⟩
def aCL:T:=.loop (.bNT tI aK) (.bNV tI aK (.ci .i64 0) (.nl 78 bG)) <|
 .bNU (.bNX 78 bG) (.Z 0) <|
 .bNU (.cmp .lss .i64) (.bNV tI tI (.p1 tI aK (.Z 1)) (.Z 2)) <|
 .ite (.Z 3) (
  .bNU (.bNY 78 bG) (.bNV aK tI (.Z 0) (.p1 tI aK (.Z 1))) <|
  .bNU (.bNY 78 bG) (.bNV aK tI (.Z 0) (.p1 tI aK (.Z 1))) <|
  .bNU (.bO0 3 tI 8) (.bNV aB aB (.nl 3 tI) (aO bG 3 (.Z 5))) <|
  .bNU (.lit 78 bG 1) (bB bG [(.p1 tI (.bNT tI aF) (.Z 4)),(aJ bG 1 (.Z 4)),(aJ bG 2 (.Z 4)),(.Z 6)]) <|
  .bNU (.bO0 78 bG 48) (.bNV aK aK (aO (.bNT tI aK) 1 (.Z 1)) (.Z 7)) <|
  .bNU (.ar .add .i64) (.bNV tI tI (.p1 tI aK (.Z 1)) (.ci .i64 1)) <|
  .bNW 0 (.bNV tI aK (.Z 9) (.Z 8))) (
  .ret (aO (.bNT tI aK) 1 (.Z 1)))
theorem bAE:bM Tryz.prog [] kQ false 3000 ⟨[(2991,1001,[.dr 6,.tm 4 0,.on 3,.sl 1])],[(2979,3007,[],[4])]⟩ = .ok aCL:=by kernel_rfl
theorem aXS (x:bD) (hx:okD aK x) (hp:(fun x=>bQ aK x≤1000000000) x):aCL.wp [] [⟨aK,x⟩] [] (fun v=>v.as aK=(fun x=>x) x):=by
 have hB:=kA (t:=aK) hp
 delta aCL;refine dB ?_;try with_reducible exact True.intro
 (repeat' first|intro _|(with_reducible apply And.intro))
 all_goals first|omega|(unfold maxLen;omega)|skip
 refine cZ (fun k=>((k:Int),List.take k x)) (List.length x) rfl fun I μ k hk _ go=>?_
 dsimp only
 refine dT ?_
 by_cases hkn:k<List.length x
 ·have hm:=hB.2 _ (List.getElem_mem hkn)
  have hn:=hB.1
  rw[aZ hkn]
  (repeat' first|intro _|(refine go _ ?_ ?_ ?_)|(refine go _ ?_ ?_)|(with_reducible apply And.intro))
  all_goals first|omega|(have hn2:=hm.2.2.2.1;omega)|(have hn2:=hm.2.2.2.1;unfold maxLen;omega)|(simp only[List.length_take];unfold maxLen;omega)|(simp only[List.length_take];omega)|(rw[iI hkn];rfl)
 ·(repeat' first|intro _|(refine go _ ?_ ?_ ?_)|(refine go _ ?_ ?_)|(with_reducible apply And.intro))
  all_goals first|omega|(have e:k=List.length x:=(by omega);subst e;exact List.take_length)
theorem aJR:Con.Holds Tryz.prog kQ:=aS aW aR bAE aXS
end Go.Proofs.YtdeobhdbmehpgaaGreat
