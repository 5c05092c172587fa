/- TGrads: lemmas. No conditions. -/
import Derived.Test.YtlabadaccldkaaaGreatTRow
namespace Go.Proofs.YtlabadaccldkaaaGreat
open Go.ChangeShapes Go.WideShapes Go.ChangeAt Go.RowKit
set_option linter.unusedVariables false
set_option linter.unusedSimpArgs false
theorem aOS {w:World} {cs:List Value} {x0:Ty.D (.slice 117 bC)} {x1:Ty.D eI} {x2:Ty.D .bool} (h:rd aCI w cs (x0,(x1,x2))) :
  ∃ p0 n0 q0,cs=[.slice p0 n0 q0,.int .i64 x1,.bool x2]∧bY (Ty.n bC) (rd bC w) w p0 n0 q0 x0∧(Lit.int .i64 x1).wf=true:=by
 obtain ⟨_,_,hcs,⟨p0,n0,q0,rfl,s0⟩,⟨_,_,rfl,⟨rfl,w1⟩,rfl⟩⟩:=h
 exact ⟨_,_,_,hcs,s0,w1⟩
set_option maxHeartbeats 1000000 in
set_option maxRecDepth 100000 in
theorem aIN (ca cb:Array Value) (d:aCI.D) (w:World) (ha:rd aCI w ca.toList d) (hb:rd aCI w cb.toList d) :
  Calls Tryz.prog 71 #[.agg ca,.agg cb] w (jI (.bool true) w):=by
 obtain ⟨x0,⟨x1,x2⟩⟩:=d
 obtain ⟨ap0,an0,aq0,ahcs,as0,aw1⟩:=aOS ha
 obtain ⟨bp0,bn0,bq0,bhcs,bs0,bw1⟩:=aOS hb
 obtain rfl:ca = #[.slice ap0 an0 aq0,.int .i64 x1,.bool x2]:=eZ ahcs
 obtain rfl:cb = #[.slice bp0 bn0 bq0,.int .i64 x1,.bool x2]:=eZ bhcs
 clear ahcs bhcs
 go_enter Tryz.func71,Tryz.ntmps71
 go_wp2_with fail
 refine (wL _ _ _ _ _ _ x0 _ (by exact as0.below dU) (by exact bs0.below dU)).mono ?_
 rintro e w90 ⟨rfl,b0⟩
 obtain ⟨u0,v0⟩:=iD b0
 have y0:=b0.size
 try simp only[szy] at u0 v0 y0
 have yy00:w.heap.size<w90.heap.size:=bM
 have yy01:w.heap.size+1<w90.heap.size:=bM
 go_wp2
 go_ret
 exact ⟨rfl,dU⟩
end Go.Proofs.YtlabadaccldkaaaGreat
