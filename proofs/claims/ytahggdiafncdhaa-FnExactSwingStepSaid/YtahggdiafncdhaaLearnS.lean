/- Learning: what is asked ahead, what comes back. -/
import Derived.Test.YtahggdiafncdhaaLearn3
import Derived.Test.YtahggdiafncdhaaTModel
import Derived.Test.YtahggdiafncdhaaTGrads
namespace Go.Proofs.Ytahggdiafncdhaa
open Go.ChangeShapes Go.WideShapes Go.ChangeAt Go.RowKit Go.Deep
set_option linter.unusedVariables false
set_option linter.unusedSimpArgs false
theorem lrnK_sz (r:Int) (m:List OpD) (g:RowsD) (k:Nat):(lrnK r m g k).map (szT tOp)=m.map (szT tOp):=by
 refine List.ext_getElem (by rw[List.length_map,List.length_map,lrnK_len]) fun i h1 h2=>?_
 rw[List.length_map] at h2
 have hk:i<(lrnK r m g k).length:=by rw[lrnK_len];exact h2
 have e:(lrnK r m g k)[i]=if i<k then lrnO r (m.getD i zOp) (g.getD i []) else m.getD i zOp:=by
  rw[← getD_at hk (d:=zOp)];exact mp_getD _ _ _ h2
 rw[List.getElem_map,List.getElem_map,e,← getD_at h2 (d:=zOp)]
 split
 ·show 0+(0+(0+szT tInts (lrnV r (m.getD i zOp).2.2.2 (g.getD i []) (m.getD i zOp).2.2.2.length)))=0+(0+(0+szT tInts (m.getD i zOp).2.2.2))
  rw[szT_ints,szT_ints]
  show 0+(0+(0+(mp _ _).length))=_
  rw[mp_len]
 ·rfl
theorem learnF_sz (m:List OpD) (g:GradsD) (r:Int):szT tModel (learnF m g r).1=szT tModel m:=by
 unfold learnF
 split
 ·show (lrnK r m g.1 m.length).length+((lrnK r m g.1 m.length).map (szT tOp)).sum=m.length+(m.map (szT tOp)).sum
  rw[lrnK_sz,lrnK_len]
 ·rfl
theorem p_Learn (d:ModelD) (g:GradsD) (x:Int) (hz0:((szT tModel d:Nat):Int)≤1048576) (hz1:((szT tGrads g:Nat):Int)≤1048576 - (szT tModel d:Nat)):LearnP (d,g,x)∧LearnP (d,g,x) :=
 have h:LearnP (d,g,x):=⟨show szT tModel d≤1000000000 by omega,show szT tGrads g≤1000000000 by omega⟩
 ⟨h,h⟩
def learnP (x:ModelD × (GradsD × Int)):ModelD × Bool:=learnF x.1 x.2.1 x.2.2
theorem q_Learn (d:ModelD) (g:GradsD) (x:Int) (hz0:((szT tModel d:Nat):Int)≤1048576) (hz1:((szT tGrads g:Nat):Int)≤1048576 - (szT tModel d:Nat)):(cntt tModel (learnP (d,g,x)).1:Int)≤1000000000:=by
 have h1:=cntt_le tModel (learnP (d,g,x)).1 (by decide)
 have h2:szT tModel (learnP (d,g,x)).1=szT tModel d:=learnF_sz d g x
 omega
end Go.Proofs.Ytahggdiafncdhaa
