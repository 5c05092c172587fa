/- CoreM: lemmas. No conditions. -/
import Derived.Test.YtdeobhdbmehpgaaGreatCoreS
namespace Go.Proofs.YtdeobhdbmehpgaaGreat
noncomputable section
open Go.ChangeShapes Go.WideShapes Go.ChangeAt Go.RowKit Go.Deep
set_option linter.unusedVariables false
set_option linter.unusedSimpArgs false
theorem bB7 (l:List eY):eB aL l=l.length:=by
 have e:eB aL l=l.length+(l.map (eB aD)).sum:=rfl
 rw[e,aM9 (eB aD) l (fun _=>rfl)];rfl
end
end Go.Proofs.YtdeobhdbmehpgaaGreat
