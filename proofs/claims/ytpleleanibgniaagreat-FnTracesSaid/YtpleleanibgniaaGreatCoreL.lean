/- CoreL: lemmas. No conditions. -/
import Derived.Test.YtpleleanibgniaaGreatCore9
namespace Go.Proofs.YtpleleanibgniaaGreat
open Go.ChangeShapes Go.WideShapes Go.ChangeAt Go.RowKit Go.Deep
set_option linter.unusedVariables false
set_option linter.unusedSimpArgs false
def nK (s:bC):Nat:=s.2.1.length - s.1.toNat
def aF1 (p:bI):Int:=(((p.2.1.map nK).sum:Nat):Int)
theorem aKH {α:Type} (f g:α→Nat):(l:List α)→(∀ x∈l,f x≤g x)→(l.map f).sum≤(l.map g).sum
 | [],_=>Nat.le_refl _
 | a :: l,h=>by
  have h1:=h a (by simp)
  have h2:=aKH f g l fun x hx=>h x (by simp[hx])
  simp only[List.map_cons,List.sum_cons];omega
theorem aCY {α:Type} (f:α→Nat) (l:List α) (k:Nat):((l.take k).map f).sum≤(l.map f).sum:=by
 have e:(l.map f).sum=((l.take k++l.drop k).map f).sum:=by rw[List.take_append_drop]
 rw[e,List.map_append,List.sum_append];omega
theorem bAM (s:bC):nK s≤bW aA s:=by
 have h:List.length s.2.1≤bW aY s.2.1:=oE (e:=52) (t:=aC) s.2.1
 have h3:=fD s
 unfold nK;omega
theorem aVK (l:List bC):(l.map nK).sum≤bW (.slice 50 aA) l:=by
 have h:=aKH nK (bW aA) l fun x _=>bAM x
 have e:bW (.slice 50 aA) l=l.length+(l.map (bW aA)).sum:=rfl
 omega
theorem aVE (p:bI):0≤aF1 p∧aF1 p≤(bW aO p:Nat):=by
 have h:=aVK p.2.1
 have e:=aHL p
 unfold aF1;omega
theorem bFP (s:bC):List.length s.2.1≤bW aA s:=by
 have h:List.length s.2.1≤bW aY s.2.1:=oE (e:=52) (t:=aC) s.2.1
 have h3:=fD s
 omega
theorem aXI {p:bI} (hz:bW aO p=bW aF p.1+(bW (.slice 50 aA) p.2.1+(bW aH p.2.2.1+bW aH p.2.2.2))) (hp:bW aO p≤1000000000) {k:Nat} (hk:k<List.length p.2.1):List.length (p.2.1[k]).2.1≤1000000000:=by
 have h5:bW aA (p.2.1[k])≤bW (.slice 50 aA) p.2.1:=aC3 (List.getElem_mem hk)
 have h6:=bFP (p.2.1[k])
 omega
noncomputable def xV:Con:=⟨16,aO,tI,[.val ⟨true,aO,[]⟩],[⟨false,tI,[0]⟩],false,none,
 ((fun x=>bW aO x≤1000000000):(bI)→Prop),
 ((fun x=>aF1 x):(bI)→(Int))⟩
def aIU:T:=.loop aC (.bJ4 tI tI (.ci .i64 0) (.ci .i64 0)) <|
 .bJ3 (.bJ6 50 aA) (aJ aO 1 (.Z 0)) <|
 .bJ3 (.cmp .lss .i64) (.bJ4 tI tI (.p1 tI tI (.Z 1)) (.Z 2)) <|
 .ite (.Z 3) (
  .bJ3 (.bJ7 50 aA) (.bJ4 (.slice 50 aA) tI (aJ aO 1 (.Z 0)) (.p1 tI tI (.Z 1))) <|
  .bJ3 (.bJ6 52 aC) (aJ aA 1 (.Z 4)) <|
  .bJ3 (.bJ7 50 aA) (.bJ4 (.slice 50 aA) tI (aJ aO 1 (.Z 0)) (.p1 tI tI (.Z 1))) <|
  .bJ3 (.mx .i64) (.bJ4 tI tI (.ci .i64 0) (.p1 tI fJ (.Z 6))) <|
  .bJ3 (.ar .sub .i64) (.bJ4 tI tI (.Z 5) (.Z 7)) <|
  .bJ3 (.mx .i64) (.bJ4 tI tI (.ci .i64 0) (.Z 8)) <|
  .bJ3 (.ar .add .i64) (.bJ4 tI tI (aR aC 1 (.Z 1)) (.Z 9)) <|
  .bJ3 (.ar .add .i64) (.bJ4 tI tI (.p1 tI tI (.Z 1)) (.ci .i64 1)) <|
  .bJ5 0 (.bJ4 tI tI (.Z 11) (.Z 10))) (
  .ret (aR aC 1 (.Z 1)))
set_option maxRecDepth 100000 in
theorem bC7:bV Tryz.prog [] xV false 3000 ⟨[(2991,1001,[.dr 0,.tm 4 0,.tm 3 0])],[]⟩ = .ok aIU:=by kernel_rfl
theorem bBI (x:bI) (hx:okD aO x) (hp:(fun x=>bW aO x≤1000000000) x):aIU.wp [] [⟨aO,x⟩] [] (fun v=>v.as tI=(fun x=>aF1 x) x):=by
 have hp:bW aO x≤1000000000:=hp
 have hs0:=aVK x.2.1
 have hz:=aHL x
 have hl:List.length x.2.1≤bW (.slice 50 aA) x.2.1:=oE (e:=50) (t:=aA) x.2.1
 delta aIU;refine eE ?_
 refine eL ?_
 refine fC (fun k=>((k:Int),((((List.take k x.2.1).map nK).sum:Nat):Int))) (List.length x.2.1) rfl fun I μ k hk _ go=>?_
 dsimp only
 refine eL ?_
 have hs:=aCY nK x.2.1 k
 have hs2:=aCY nK x.2.1 (k+1)
 by_cases hk':k<List.length x.2.1
 ·have e:=rS nK x.2.1 k hk'
  have hlk:=aXI hz hp hk'
  have hpcb:-9223372036854775808≤(x.2.1[k]).1∧(x.2.1[k]).1≤9223372036854775807:=(hx.2.1.2 _ (List.getElem_mem hk')).1
  simp only[bD hk']
  have e9:nK (x.2.1[k])=List.length (x.2.1[k]).2.1 - (x.2.1[k]).1.toNat:=rfl
  (repeat' first|intro _|(refine go _ ?_ ?_ ?_)|(refine go _ ?_ ?_)|(with_reducible apply And.intro))
  all_goals first|omega|(refine Prod.ext rfl ?_;refine @Eq.trans Int _ _ _ ?_ rfl;dsimp only;omega)|skip
 ·(repeat' first|intro _|(refine go _ ?_ ?_ ?_)|(refine go _ ?_ ?_)|(with_reducible apply And.intro))
  all_goals first|omega|(rw[List.take_of_length_le (by omega)];rfl)|skip
theorem bAW:Con.Holds Tryz.prog xV:=aV aX aT bC7 bBI
end Go.Proofs.YtpleleanibgniaaGreat
