/- RunS: lemmas. No conditions. -/
import Derived.Test.YtiihghfoeinbbaaGreatCoreO
import Derived.Test.YtiihghfoeinbbaaGreatRunS0
import Derived.Test.YtiihghfoeinbbaaGreatCe
import Derived.Test.YtiihghfoeinbbaaGreatTConfig
import Derived.Test.YtiihghfoeinbbaaGreatTPair
import Derived.Test.YtiihghfoeinbbaaGreatTMoment
namespace Go.Proofs.YtiihghfoeinbbaaGreat
open Go.ChangeShapes Go.WideShapes Go.ChangeAt Go.RowKit Go.Deep
set_option linter.unusedVariables false
theorem bLO (d:bN) (l:List bW) (v:List Int) (hz0:((bD aC d:Nat):Int)≤1048576) (hz1:((bD aN l:Nat):Int)≤1048576 - (bD aC d:Nat)) (hz2:((bD aB v:Nat):Int)≤1048576):(bD aC d≤2000000∧bD aN l≤2000000)∧(bD aC d≤2000000∧bD aN l≤2000000):=aYN d l hz0 hz1
noncomputable def aNO (x:bN × (List bW × List Int)):List bLY:=qV (pG x.1 x.2.1) (List.take 2000 x.2.2)
theorem bLD (d:bN) (l:List bW) (v:List Int) (hz0:((bD aC d:Nat):Int)≤1048576) (hz1:((bD aN l:Nat):Int)≤1048576 - (bD aC d:Nat)) (hz2:((bD aB v:Nat):Int)≤1048576):(iP (.slice 128 bK) (aNO (d,l,v)):Int)≤1000000000:=by
 have h:=aFH (pG d l) (List.take 2000 v)
 rw[List.length_take] at h
 have h1:=xK (iP bK) 2 (aNO (d,l,v)) (fun x _=>Nat.le_refl 2)
 have h2:(aNO (d,l,v)).length=(qV (pG d l) (List.take 2000 v)).length:=rfl
 rw[lR];omega
end Go.Proofs.YtiihghfoeinbbaaGreat
