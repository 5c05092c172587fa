/- CoreT: lemmas. No conditions. -/
import Derived.Test.YtiihghfoeinbbaaGreatCoreP
import Derived.Test.YtiihghfoeinbbaaGreatCoreL
namespace Go.Proofs.YtiihghfoeinbbaaGreat
open Go.ChangeShapes Go.WideShapes Go.ChangeAt Go.RowKit Go.Deep
set_option linter.unusedVariables false
set_option linter.unusedSimpArgs false
theorem aKJ {l:List Int} {k:Nat} (h:k<l.length):l.take (k+1)=l.take k++[l[k]]:=List.take_succ_eq_append_getElem h
theorem aO0 {α:Type} {l:List α} {k:Nat} (h:k=min l.length 2000):l.take k=l.take 2000:=by
 rcases Nat.le_total l.length 2000 with h1|h1
 ·rw[List.take_of_length_le (by omega),List.take_of_length_le h1]
 ·rw[h,Nat.min_eq_right h1]
theorem wD {p:bO} {l:List Int} {k:Nat} (h:k<l.length):pD p (l.take (k+1))=dQ (pD p (l.take k)) l[k]:=by rw[aKJ h,bEP]
theorem aI0 {p:bO} (l:List Int) (k:Nat) (hk:k≤2000) (hp:bD aL p≤100000000):bD aL (pD p (l.take k))≤1000000000:=by
 have h:=bAJ p (l.take k)
 have h2:(l.take k).length≤k:=by rw[List.length_take];omega
 omega
noncomputable def lI:Con:=⟨88,aB,aB,[.val ⟨false,aB,[]⟩],[⟨false,aB,[0]⟩],true,none,
 ((fun _=>True):(List Int)→Prop),
 ((fun x=>List.take 2000 x):(List Int)→(List Int))⟩
def rF:T :=
 .bMD (.bMG 3 tI) (.Z 0) <|
 .bMD (.mn .i64) (.bME tI tI (.Z 1) (.ci .i64 2000)) <|
 .bMD (.bMI 3 tI) (bE (.bMC aB aO) [(.Z 0),(.ci .i64 0),(.Z 2)]) <|
 .ret (.Z 3)
set_option maxRecDepth 100000 in
theorem aLJ:bL Tryz.prog [] lI false 3000 ⟨[],[]⟩ = .ok rF:=by kernel_rfl
theorem aJB (x:List Int) (hx:okD aB x) (hp:(fun _=>True) x):rF.wp [] [⟨aB,x⟩] [] (fun v=>v.as aB=(fun x=>List.take 2000 x) x):=by
 delta rF;refine dD ?_
 refine eE ?_
 refine fun _ _=>⟨⟨by omega,by omega,by omega⟩,fun _=>?_⟩
 exact aO0 (l:=x) (by omega)
theorem aKR:Con.Holds Tryz.prog lI:=aR aW aS aLJ aJB
end Go.Proofs.YtiihghfoeinbbaaGreat
