/- Cpy2: lemmas. No conditions. -/
import Derived.Test.YtpleleanibgniaaGreatLin2
import Derived.Test.YtpleleanibgniaaGreatCe
namespace Go.Proofs.YtpleleanibgniaaGreat
set_option maxRecDepth 100000
open Go.ChangeShapes Go.WideShapes Go.ChangeAt Go.RowKit Go.Deep
set_option linter.unusedVariables false
set_option linter.unusedSimpArgs false
theorem qL:{t:Ty}→{d:t.D}→bW t d≤1000000000→aYU t d:=by
 intro t
 induction t with
 | int k=>intros;trivial
 | bool=>intros;trivial
 | str=>intros;trivial
 | bJ2 a b iha ihb =>
  intro d h
  have h':bW a d.1+bW b d.2≤1000000000:=h
  exact ⟨iha (by omega),ihb (by omega)⟩
 | slice e t ih =>
  intro l h
  exact ⟨Nat.le_trans (oE (e:=e) l) h,fun x hx=>ih (Nat.le_trans (aC3 (e:=e) hx) h)⟩
noncomputable def nB:Con:=⟨90,aD,aD,[.val ⟨false,aD,[]⟩],[⟨false,aD,[2]⟩],false,none,
 ((fun x=>bW aD x≤1000000000):(aW)→Prop),
 ((fun x=>x):(aW)→(aW))⟩
def xE:T :=
 .bJ3 (.bJ6 93 bN) (.Z 0) <|
 .loop (.bJ2 tI aD) (.bJ4 tI aD (.ci .i64 0) (.nl 93 bN)) <|
  .bJ3 (.cmp .lss .i64) (.bJ4 tI tI (.p1 tI aD (.Z 2)) (.Z 1)) <|
  .ite (.Z 3) (
   .bJ3 (.bJ7 93 bN) (.bJ4 aD tI (.Z 0) (.p1 tI aD (.Z 2))) <|
   .call 0 (aR bN 3 (.Z 4)) <|
   .bJ3 (.lit 93 bN 1) (bJ bN [(.p1 tI (.bJ2 tI aI) (.Z 4)),(aJ bN 1 (.Z 4)),(aJ bN 2 (.Z 4)),(.Z 5)]) <|
   .bJ3 (.bJ9 93 bN 48) (.bJ4 aD aD (aR (.bJ2 tI aD) 1 (.Z 2)) (.Z 6)) <|
   .bJ3 (.ar .add .i64) (.bJ4 tI tI (.p1 tI aD (.Z 2)) (.ci .i64 1)) <|
   .bJ5 0 (.bJ4 tI aD (.Z 8) (.Z 7))) (
   .ret (aR (.bJ2 tI aD) 1 (.Z 2)))
theorem aR4:bV Tryz.prog [bM] nB false 3000 ⟨[(2991,1002,[.dr 6,.dr 0,.tm 9 0,.on 3,.sl 1])],[(2981,3005,[22],[])]⟩ = .ok xE:=by kernel_rfl
theorem aPO (x:aW) (hx:okD aD x) (hp:(fun x=>bW aD x≤1000000000) x):xE.wp [bM] [⟨aD,x⟩] [] (fun v=>v.as aD=(fun x=>x) x):=by
 have hB:=qL (t:=aD) hp
 delta xE bM;refine eE ?_;try with_reducible exact True.intro
 (repeat' first|intro _|(with_reducible apply And.intro))
 all_goals first|omega|(unfold maxLen;omega)|skip
 refine fC (fun k=>((k:Int),List.take k x)) (List.length x) rfl fun I μ k hk _ go=>?_
 dsimp only
 refine eL ?_
 by_cases hkn:k<List.length x
 ·have hm:=hB.2 _ (List.getElem_mem hkn)
  have hn:=hB.1
  rw[bD hkn]
  (repeat' first|intro _|(refine go _ ?_ ?_ ?_)|(refine go _ ?_ ?_)|(with_reducible apply And.intro))
  all_goals first|omega|exact hm.2.2.2.1|(simp only[List.length_take];unfold maxLen;omega)|(simp only[List.length_take];omega)|(rw[iQ hkn];rfl)
 ·(repeat' first|intro _|(refine go _ ?_ ?_ ?_)|(refine go _ ?_ ?_)|(with_reducible apply And.intro))
  all_goals first|omega|(have e:k=List.length x:=(by omega);subst e;exact List.take_length)
theorem aQU:Con.Holds Tryz.prog nB:=aV aX (aG fM aT) aR4 aPO
noncomputable def pZ:Con:=⟨48,aD,aD,[.val ⟨false,aD,[]⟩],[⟨false,aD,[2]⟩],false,none,
 ((fun x=>bW aD x≤1000000000):(aW)→Prop),
 ((fun x=>x):(aW)→(aW))⟩
def aBL:T:=.loop (.bJ2 tI aD) (.bJ4 tI aD (.ci .i64 0) (.nl 93 bN)) <|
 .bJ3 (.bJ6 93 bN) (.Z 0) <|
 .bJ3 (.cmp .lss .i64) (.bJ4 tI tI (.p1 tI aD (.Z 1)) (.Z 2)) <|
 .ite (.Z 3) (
  .bJ3 (.bJ7 93 bN) (.bJ4 aD tI (.Z 0) (.p1 tI aD (.Z 1))) <|
  .bJ3 (.bJ7 93 bN) (.bJ4 aD tI (.Z 0) (.p1 tI aD (.Z 1))) <|
  .bJ3 (.bJ9 3 tI 8) (.bJ4 aB aB (.nl 3 tI) (aR bN 3 (.Z 5))) <|
  .bJ3 (.lit 93 bN 1) (bJ bN [(.p1 tI (.bJ2 tI aI) (.Z 4)),(aJ bN 1 (.Z 4)),(aJ bN 2 (.Z 4)),(.Z 6)]) <|
  .bJ3 (.bJ9 93 bN 48) (.bJ4 aD aD (aR (.bJ2 tI aD) 1 (.Z 1)) (.Z 7)) <|
  .bJ3 (.ar .add .i64) (.bJ4 tI tI (.p1 tI aD (.Z 1)) (.ci .i64 1)) <|
  .bJ5 0 (.bJ4 tI aD (.Z 9) (.Z 8))) (
  .ret (aR (.bJ2 tI aD) 1 (.Z 1)))
theorem aUM:bV Tryz.prog [] pZ false 3000 ⟨[(2991,1001,[.dr 6,.tm 4 0,.on 3,.sl 1])],[(2979,3007,[],[4])]⟩ = .ok aBL:=by kernel_rfl
theorem aTY (x:aW) (hx:okD aD x) (hp:(fun x=>bW aD x≤1000000000) x):aBL.wp [] [⟨aD,x⟩] [] (fun v=>v.as aD=(fun x=>x) x):=by
 have hB:=qL (t:=aD) hp
 delta aBL;refine eE ?_;try with_reducible exact True.intro
 (repeat' first|intro _|(with_reducible apply And.intro))
 all_goals first|omega|(unfold maxLen;omega)|skip
 refine fC (fun k=>((k:Int),List.take k x)) (List.length x) rfl fun I μ k hk _ go=>?_
 dsimp only
 refine eL ?_
 by_cases hkn:k<List.length x
 ·have hm:=hB.2 _ (List.getElem_mem hkn)
  have hn:=hB.1
  rw[bD hkn]
  (repeat' first|intro _|(refine go _ ?_ ?_ ?_)|(refine go _ ?_ ?_)|(with_reducible apply And.intro))
  all_goals first|omega|(have hn2:=hm.2.2.2.1;omega)|(have hn2:=hm.2.2.2.1;unfold maxLen;omega)|(simp only[List.length_take];unfold maxLen;omega)|(simp only[List.length_take];omega)|(rw[iQ hkn];rfl)
 ·(repeat' first|intro _|(refine go _ ?_ ?_ ?_)|(refine go _ ?_ ?_)|(with_reducible apply And.intro))
  all_goals first|omega|(have e:k=List.length x:=(by omega);subst e;exact List.take_length)
theorem aU8:Con.Holds Tryz.prog pZ:=aV aX aT aUM aTY
end Go.Proofs.YtpleleanibgniaaGreat
