/- The laws' own helpers over Grads: copy, compare, count, mark, look at the marks. -/
import Derived.Test.YtepjkojfjdcegaaGreatTRow
namespace Go.Proofs.YtepjkojfjdcegaaGreat
open Go.ChangeShapes Go.WideShapes Go.ChangeAt Go.RowKit
set_option linter.unusedVariables false
set_option linter.unusedSimpArgs false
theorem fmGrads {w:World} {cs:List Value} {x0:Ty.D (.slice 158 tRow)} {x1:Ty.D tInt} {x2:Ty.D .bool} (h:rd tGrads w cs (x0,(x1,x2))) :
  ∃ p0 n0 q0,cs = [.slice p0 n0 q0,.int .i64 x1,.bool x2]∧SlRd (Ty.n tRow) (rd tRow w) w p0 n0 q0 x0∧(Lit.int .i64 x1).wf = true:=by
 obtain ⟨_,_,hcs,⟨p0,n0,q0,rfl,s0⟩,⟨_,_,rfl,⟨rfl,w1⟩,rfl⟩⟩:=h
 exact ⟨_,_,_,hcs,s0,w1⟩
set_option maxHeartbeats 1000000 in
set_option maxRecDepth 100000 in
theorem eqGrads_any (ca cb:Array Value) (d:tGrads.D) (w:World) (ha:rd tGrads w ca.toList d) (hb:rd tGrads w cb.toList d) :
  Calls Tryz.prog 188 #[.agg ca,.agg cb] w (RetV (.bool true) w):=by
 obtain ⟨x0,⟨x1,x2⟩⟩:=d
 obtain ⟨ap0,an0,aq0,ahcs,as0,aw1⟩:=fmGrads ha
 obtain ⟨bp0,bn0,bq0,bhcs,bs0,bw1⟩:=fmGrads hb
 obtain rfl:ca = #[.slice ap0 an0 aq0,.int .i64 x1,.bool x2]:=arr_of ahcs
 obtain rfl:cb = #[.slice bp0 bn0 bq0,.int .i64 x1,.bool x2]:=arr_of bhcs
 clear ahcs bhcs
 go_enter Tryz.func188,Tryz.ntmps188
 go_wp2_with fail
 refine (eqRowS_any _ _ _ _ _ _ x0 _ (by exact as0.below belx) (by exact bs0.below belx)).mono ?_
 rintro e w90 ⟨rfl,b0⟩
 obtain ⟨u0,v0⟩:=bcell b0
 have y0:=b0.size
 try simp only [World.size_alloc,World.size_setCell] at u0 v0 y0
 have yy00:w.heap.size < w90.heap.size:=fcx
 have yy01:w.heap.size + 1 < w90.heap.size:=fcx
 go_wp2
 go_ret
 exact ⟨rfl,belx⟩
end Go.Proofs.YtepjkojfjdcegaaGreat
