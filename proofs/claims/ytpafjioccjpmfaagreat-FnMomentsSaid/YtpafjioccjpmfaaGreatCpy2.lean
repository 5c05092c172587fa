/- Cpy2: lemmas. No conditions. -/
import Derived.Test.YtpafjioccjpmfaaGreatLin2
import Derived.Test.YtpafjioccjpmfaaGreatCe
namespace Go.Proofs.YtpafjioccjpmfaaGreat
open Go.ChangeShapes Go.WideShapes Go.ChangeAt Go.RowKit Go.Deep
set_option linter.unusedVariables false
set_option linter.unusedSimpArgs false
theorem rC:{t:Ty}→{d:t.D}→bS t d≤1000000000→bE5 t d:=by
 intro t
 induction t with
 | int k=>intros;trivial
 | bool=>intros;trivial
 | str=>intros;trivial
 | bPW a b iha ihb =>
  intro d h
  have h':bS a d.1+bS b d.2≤1000000000:=h
  exact ⟨iha (by omega),ihb (by omega)⟩
 | slice e t ih =>
  intro l h
  exact ⟨Nat.le_trans (pN (e:=e) l) h,fun x hx=>ih (Nat.le_trans (rN (e:=e) hx) h)⟩
noncomputable def kA:Con:=⟨89,aE,aE,[.val ⟨false,aE,[]⟩],[⟨false,aE,[2]⟩],false,none,
 ((fun x=>bS aE x≤1000000000):(bE)→Prop),
 ((fun x=>x):(bE)→(bE))⟩
def aAF:T :=
 .bPX (.bQ0 80 bU) (.Z 0) <|
 .loop (.bPW tI aE) (.bPY tI aE (.ci .i64 0) (.nl 80 bU)) <|
  .bPX (.cmp .lss .i64) (.bPY tI tI (.p1 tI aE (.Z 2)) (.Z 1)) <|
  .ite (.Z 3) (
   .bPX (.bQ1 80 bU) (.bPY aE tI (.Z 0) (.p1 tI aE (.Z 2))) <|
   .call 0 (aS bU 3 (.Z 4)) <|
   .bPX (.lit 80 bU 1) (bP bU [(.p1 tI (.bPW tI aI) (.Z 4)),(aH bU 1 (.Z 4)),(aH bU 2 (.Z 4)),(.Z 5)]) <|
   .bPX (.bQ3 80 bU 48) (.bPY aE aE (aS (.bPW tI aE) 1 (.Z 2)) (.Z 6)) <|
   .bPX (.ar .add .i64) (.bPY tI tI (.p1 tI aE (.Z 2)) (.ci .i64 1)) <|
   .bPZ 0 (.bPY tI aE (.Z 8) (.Z 7))) (
   .ret (aS (.bPW tI aE) 1 (.Z 2)))
set_option maxRecDepth 100000 in
theorem aTB:bW Tryz.prog [bT] kA false 3000 ⟨[(2991,1002,[.dr 6,.dr 0,.tm 9 0,.on 3,.sl 1])],[(2981,3005,[22],[])]⟩ = .ok aAF:=by kernel_rfl
theorem aW4 (x:bE) (hx:okD aE x) (hp:(fun x=>bS aE x≤1000000000) x):aAF.wp [bT] [⟨aE,x⟩] [] (fun v=>v.as aE=(fun x=>x) x):=by
 have hB:=rC (t:=aE) hp
 delta aAF bT;refine dY ?_;try with_reducible exact True.intro
 (repeat' first|intro _|(with_reducible apply And.intro))
 all_goals first|omega|(unfold maxLen;omega)|skip
 refine eW (fun k=>((k:Int),List.take k x)) (List.length x) rfl fun I μ k hk _ go=>?_
 dsimp only
 refine eD ?_
 by_cases hkn:k<List.length x
 ·have hm:=hB.2 _ (List.getElem_mem hkn)
  have hn:=hB.1
  rw[aW hkn]
  (repeat' first|intro _|(refine go _ ?_ ?_ ?_)|(refine go _ ?_ ?_)|(with_reducible apply And.intro))
  all_goals first|omega|exact hm.2.2.2.1|(simp only[List.length_take];unfold maxLen;omega)|(simp only[List.length_take];omega)|(rw[mC hkn];rfl)
 ·(repeat' first|intro _|(refine go _ ?_ ?_ ?_)|(refine go _ ?_ ?_)|(with_reducible apply And.intro))
  all_goals first|omega|(have e:k=List.length x:=(by omega);subst e;exact List.take_length)
theorem aIJ:Con.Holds Tryz.prog kA:=aX aZ (aG gT aT) aTB aW4
end Go.Proofs.YtpafjioccjpmfaaGreat
