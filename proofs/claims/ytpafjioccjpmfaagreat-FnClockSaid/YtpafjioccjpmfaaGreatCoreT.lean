/- CoreT: lemmas. No conditions. -/
import Derived.Test.YtpafjioccjpmfaaGreatCoreP
import Derived.Test.YtpafjioccjpmfaaGreatCoreL
namespace Go.Proofs.YtpafjioccjpmfaaGreat
open Go.ChangeShapes Go.WideShapes Go.ChangeAt Go.RowKit Go.Deep
set_option linter.unusedVariables false
set_option linter.unusedSimpArgs false
abbrev tM:=Int × (cP × Bool)
noncomputable def aKX (p:bF):List Int→List tM
 | []=>[]
 | s :: l=>(s,aV p s,cC p s) :: aKX (bR p s) l
theorem aKL {l:List Int} {k:Nat} (h:k<l.length):l.take (k+1)=l.take k++[l[k]]:=List.take_succ_eq_append_getElem h
theorem bEC {α:Type} {l:List α} {k:Nat} (h:k=min l.length 2000):l.take k=l.take 2000:=by
 rcases Nat.le_total l.length 2000 with h1|h1
 ·rw[List.take_of_length_le (by omega),List.take_of_length_le h1]
 ·rw[h,Nat.min_eq_right h1]
theorem aJZ {p:bF} {l:List Int} {k:Nat} (h:k<l.length):hK p (l.take (k+1))=bR (hK p (l.take k)) l[k]:=by rw[aKL h,aMR]
theorem bCQ {p:bF} (l:List Int) (k:Nat) (hk:k≤2000) (hp:bS aK p≤100000000):bS aK (hK p (l.take k))≤1000000000:=by
 have h:=aIW p (l.take k)
 have h2:(l.take k).length≤k:=by rw[List.length_take];omega
 omega
noncomputable def lU:Con:=⟨40,aB,aB,[.val ⟨false,aB,[]⟩],[⟨false,aB,[0]⟩],true,none,
 ((fun _=>True):(List Int)→Prop),
 ((fun x=>List.take 2000 x):(List Int)→(List Int))⟩
def tL:T :=
 .bPX (.bQ0 3 tI) (.Z 0) <|
 .bPX (.mn .i64) (.bPY tI tI (.Z 1) (.ci .i64 2000)) <|
 .bPX (.bQ2 3 tI) (bP (.bPW aB aD) [(.Z 0),(.ci .i64 0),(.Z 2)]) <|
 .ret (.Z 3)
set_option maxRecDepth 100000 in
theorem aN8:bW Tryz.prog [] lU false 3000 ⟨[],[]⟩ = .ok tL:=by kernel_rfl
theorem aM4 (x:List Int) (hx:okD aB x) (hp:(fun _=>True) x):tL.wp [] [⟨aB,x⟩] [] (fun v=>v.as aB=(fun x=>List.take 2000 x) x):=by
 delta tL;refine dY ?_
 refine eD ?_
 refine fun _ _=>⟨⟨by omega,by omega,by omega⟩,fun _=>?_⟩
 exact bEC (l:=x) (by omega)
theorem aN5:Con.Holds Tryz.prog lU:=aX aZ aT aN8 aM4
end Go.Proofs.YtpafjioccjpmfaaGreat
