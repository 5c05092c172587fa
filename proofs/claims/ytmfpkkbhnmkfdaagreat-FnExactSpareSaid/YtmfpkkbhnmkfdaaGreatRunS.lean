/- RunS: lemmas. No conditions. -/
import Derived.Test.YtmfpkkbhnmkfdaaGreatCoreO
import Derived.Test.YtmfpkkbhnmkfdaaGreatRunS0
import Derived.Test.YtmfpkkbhnmkfdaaGreatCe
import Derived.Test.YtmfpkkbhnmkfdaaGreatTConfig
import Derived.Test.YtmfpkkbhnmkfdaaGreatTPair
import Derived.Test.YtmfpkkbhnmkfdaaGreatTMoment
namespace Go.Proofs.YtmfpkkbhnmkfdaaGreat
open Go.ChangeShapes Go.WideShapes Go.ChangeAt Go.RowKit Go.Deep
set_option linter.unusedVariables false
theorem bMV (d:bI) (l:List bP) (hz0:((aY aC d:Nat):Int)≤1048576) (hz1:((aY aM l:Nat):Int)≤1048576 - (aY aC d:Nat)):(aY aC d≤2000000∧aY aM l≤2000000)∧(aY aC d≤2000000∧aY aM l≤2000000):=aFS d l hz0 hz1
theorem aXP (d:bI) (l:List bP) (hz0:((aY aC d:Nat):Int)≤1048576) (hz1:((aY aM l:Nat):Int)≤1048576 - (aY aC d:Nat)):(aY aC d≤2000000∧aY aM l≤2000000)∧(aY aC d≤2000000∧aY aM l≤2000000):=aFS d l hz0 hz1
noncomputable def aIB (x:bI × List bP):List Int:=aFC x.1 x.2
noncomputable def aYP (x:bI × List bP):Int:=aFT x.1 x.2
theorem bN4 (d:bI) (l:List bP) (hz0:((aY aC d:Nat):Int)≤1048576) (hz1:((aY aM l:Nat):Int)≤1048576 - (aY aC d:Nat)):(jD aB (aIB (d,l)):Int)≤1000000000:=by
 have h:=aTZ (c:=d) (b:=l)
 have h1:=gA (aIB (d,l))
 have h2:(aIB (d,l)).length=(iJ d l).2.2.1.length:=eM _ _
 omega
end Go.Proofs.YtmfpkkbhnmkfdaaGreat
