/- Traces: what is asked ahead, what comes back. -/
import Derived.Test.YtmfpkkbhnmkfdaaGreatCoreT
import Derived.Test.YtmfpkkbhnmkfdaaGreatCe
import Derived.Test.YtmfpkkbhnmkfdaaGreatTPipe
import Derived.Test.YtmfpkkbhnmkfdaaGreatTAct
namespace Go.Proofs.YtmfpkkbhnmkfdaaGreat
open Go.ChangeShapes Go.WideShapes Go.ChangeAt Go.RowKit Go.Deep
set_option linter.unusedVariables false
noncomputable def aEX (x:bL × List Int):List bDF:=fT x.1 (List.take 2000 x.2)
theorem aX0 (d:bL) (l:List Int) (hz0:((aW aF d:Nat):Int)≤1048576) (hz1:((aW aB l:Nat):Int)≤1048576):aW aF d≤100000000∧aW aF d≤100000000:=⟨by omega,by omega⟩
theorem bAK (l:List bDF) (h:l.length≤2000):bK (.slice 99 cZ) l≤8000:=by
 have h1:=aAT (bK cZ) 4 l (fun x _=>Nat.le_refl 4)
 rw[dB];omega
theorem aWV (d:bL) (l:List Int) (hz0:((aW aF d:Nat):Int)≤1048576) (hz1:((aW aB l:Nat):Int)≤1048576):(bK (.slice 99 cZ) (aEX (d,l)):Int)≤1000000000:=by
 have h:=bAK (aEX (d,l)) (by show (fT _ _).length≤2000;rw[uV,List.length_take];omega)
 omega
end Go.Proofs.YtmfpkkbhnmkfdaaGreat
