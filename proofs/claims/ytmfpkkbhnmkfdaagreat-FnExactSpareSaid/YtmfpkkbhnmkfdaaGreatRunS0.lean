/- RunS0: lemmas. No conditions. -/
import Derived.Test.YtmfpkkbhnmkfdaaGreatCoreM
import Derived.Test.YtmfpkkbhnmkfdaaGreatCe
import Derived.Test.YtmfpkkbhnmkfdaaGreatTConfig
import Derived.Test.YtmfpkkbhnmkfdaaGreatTPair
import Derived.Test.YtmfpkkbhnmkfdaaGreatTSim
namespace Go.Proofs.YtmfpkkbhnmkfdaaGreat
open Go.ChangeShapes Go.WideShapes Go.ChangeAt Go.RowKit Go.Deep
set_option linter.unusedVariables false
theorem aFS (d:bI) (l:List bP) (hz0:((aY aC d:Nat):Int)≤1048576) (hz1:((aY aM l:Nat):Int)≤1048576 - (aY aC d:Nat)):(aY aC d≤2000000∧aY aM l≤2000000)∧(aY aC d≤2000000∧aY aM l≤2000000):=⟨⟨by omega,by omega⟩,by omega,by omega⟩
noncomputable def bIX (x:bI × List bP):aTI:=iJ x.1 x.2
theorem aTZ {c:bI} {b:List bP}:(iJ c b).2.1.length≤4∧(iJ c b).2.2.1.length≤4:=by
 by_cases h:eL c b=0
 ·have hl:=aCX h
  obtain ⟨m,hm,e⟩:=aH3 (lG c b) 1000 0
  rw[bCQ h] at e
  rw[e]
  have h1:=wV (lG c b) m
  have h2:=aDA (lG c b) m
  exact ⟨by show (mY _ _).length≤4;omega,by show (qC _ _).length≤4;omega⟩
 ·rw[← aVP h];exact ⟨Nat.zero_le _,Nat.zero_le _⟩
theorem aY5 (d:bI) (l:List bP) (hz0:((aY aC d:Nat):Int)≤1048576) (hz1:((aY aM l:Nat):Int)≤1048576 - (aY aC d:Nat)):(jX pG (bIX (d,l)):Int)≤1000000000:=by
 have h:=aTZ (c:=d) (b:=l)
 have e:jX pG (bIX (d,l))=0+(jD aB (iJ d l).2.1+(jD aB (iJ d l).2.2.1+0)):=rfl
 have h1:=gA (iJ d l).2.1
 have h2:=gA (iJ d l).2.2.1
 omega
end Go.Proofs.YtmfpkkbhnmkfdaaGreat
