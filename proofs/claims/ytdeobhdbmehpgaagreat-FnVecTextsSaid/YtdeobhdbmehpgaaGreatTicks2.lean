/- Ticks2: lemmas. No conditions. -/
import Derived.Test.YtdeobhdbmehpgaaGreatPlan2
import Derived.Test.YtdeobhdbmehpgaaGreatZero2
namespace Go.Proofs.YtdeobhdbmehpgaaGreat
open Go.ChangeShapes Go.WideShapes Go.ChangeAt Go.RowKit Go.Deep
set_option linter.unusedVariables false
set_option linter.unusedSimpArgs false
def cutAt (c:List Int) (n:Nat) (i:Nat):Bool:=decide (1≤c.getD i 0∧c.getD i 0≤(n:Int) - 1∧(i=0∨c.getD (i - 1) 0<c.getD i 0))
theorem aVZ (ds st s micro:Int) (r:Bool):(wZ ds st s micro r).length≤60:=by
 unfold wZ
 split
 ·rename_i h
  have h1:=aD0 st s micro (pW ds st s micro) r micro.toNat
  have h2:=aY6 (ds:=ds) h.2
  have h3:=(jD _ _ _).1 h.2
  rw[List.length_append,List.length_singleton]
  omega
 ·simp
end Go.Proofs.YtdeobhdbmehpgaaGreat
