/- The laws' own helpers over Pipe: copy, compare, count, mark, look at the marks. -/
import Derived.Test.YtepjkojfjdcegaaGreatTPair
import Derived.Test.YtepjkojfjdcegaaGreatTQueue
import Derived.Test.YtepjkojfjdcegaaGreatTStage
namespace Go.Proofs.YtepjkojfjdcegaaGreat
open Go.ChangeShapes Go.WideShapes Go.ChangeAt Go.RowKit
set_option linter.unusedVariables false
set_option linter.unusedSimpArgs false
theorem fmPipe {w:World} {cs:List Value} {x0:Ty.D (.slice 128 tPair)} {x1:Ty.D (.slice 38 tStage)} {x2:Ty.D (.slice 133 tQueue)} {x3:Ty.D (.slice 133 tQueue)} (h:rd tPipe w cs (x0,(x1,(x2,x3)))) :
  ∃ p0 n0 q0 p1 n1 q1 p2 n2 q2 p3 n3 q3,cs = [.slice p0 n0 q0,.slice p1 n1 q1,.slice p2 n2 q2,.slice p3 n3 q3]∧SlRd (Ty.n tPair) (rd tPair w) w p0 n0 q0 x0∧SlRd (Ty.n tStage) (rd tStage w) w p1 n1 q1 x1∧SlRd (Ty.n tQueue) (rd tQueue w) w p2 n2 q2 x2∧SlRd (Ty.n tQueue) (rd tQueue w) w p3 n3 q3 x3:=by
 obtain ⟨_,_,hcs,⟨p0,n0,q0,rfl,s0⟩,⟨_,_,rfl,⟨p1,n1,q1,rfl,s1⟩,⟨_,_,rfl,⟨p2,n2,q2,rfl,s2⟩,⟨p3,n3,q3,rfl,s3⟩⟩⟩⟩:=h
 exact ⟨_,_,_,_,_,_,_,_,_,_,_,_,hcs,s0,s1,s2,s3⟩
set_option maxHeartbeats 1000000 in
set_option maxRecDepth 100000 in
theorem eqPipe_any (ca cb:Array Value) (d:tPipe.D) (w:World) (ha:rd tPipe w ca.toList d) (hb:rd tPipe w cb.toList d) :
  Calls Tryz.prog 33 #[.agg ca,.agg cb] w (RetV (.bool true) w):=by
 obtain ⟨x0,⟨x1,⟨x2,x3⟩⟩⟩:=d
 obtain ⟨ap0,an0,aq0,ap1,an1,aq1,ap2,an2,aq2,ap3,an3,aq3,ahcs,as0,as1,as2,as3⟩:=fmPipe ha
 obtain ⟨bp0,bn0,bq0,bp1,bn1,bq1,bp2,bn2,bq2,bp3,bn3,bq3,bhcs,bs0,bs1,bs2,bs3⟩:=fmPipe hb
 obtain rfl:ca = #[.slice ap0 an0 aq0,.slice ap1 an1 aq1,.slice ap2 an2 aq2,.slice ap3 an3 aq3]:=arr_of ahcs
 obtain rfl:cb = #[.slice bp0 bn0 bq0,.slice bp1 bn1 bq1,.slice bp2 bn2 bq2,.slice bp3 bn3 bq3]:=arr_of bhcs
 clear ahcs bhcs
 go_enter Tryz.func33,Tryz.ntmps33
 go_wp2_with fail
 refine (eqPairS_any _ _ _ _ _ _ x0 _ (by exact as0.below belx) (by exact bs0.below belx)).mono ?_
 rintro e w90 ⟨rfl,b0⟩
 obtain ⟨u0,v0⟩:=bcell b0
 have y0:=b0.size
 try simp only [World.size_alloc,World.size_setCell] at u0 v0 y0
 have yy00:w.heap.size < w90.heap.size:=fcx
 have yy01:w.heap.size + 1 < w90.heap.size:=fcx
 go_wp2_with fail
 refine (eqStageS_any _ _ _ _ _ _ x1 _ (by exact as1.below belx) (by exact bs1.below belx)).mono ?_
 rintro e w91 ⟨rfl,b1⟩
 obtain ⟨u1,v1⟩:=bcell b1
 have y1:=b1.size
 try simp only [World.size_alloc,World.size_setCell] at u1 v1 y1
 have yy10:w.heap.size < w91.heap.size:=fcx
 have yy11:w.heap.size + 1 < w91.heap.size:=fcx
 go_wp2_with fail
 refine (eqQueueS_any _ _ _ _ _ _ x2 _ (by exact as2.below belx) (by exact bs2.below belx)).mono ?_
 rintro e w92 ⟨rfl,b2⟩
 obtain ⟨u2,v2⟩:=bcell b2
 have y2:=b2.size
 try simp only [World.size_alloc,World.size_setCell] at u2 v2 y2
 have yy20:w.heap.size < w92.heap.size:=fcx
 have yy21:w.heap.size + 1 < w92.heap.size:=fcx
 go_wp2_with fail
 refine (eqQueueS_any _ _ _ _ _ _ x3 _ (by exact as3.below belx) (by exact bs3.below belx)).mono ?_
 rintro e w93 ⟨rfl,b3⟩
 obtain ⟨u3,v3⟩:=bcell b3
 have y3:=b3.size
 try simp only [World.size_alloc,World.size_setCell] at u3 v3 y3
 have yy30:w.heap.size < w93.heap.size:=fcx
 have yy31:w.heap.size + 1 < w93.heap.size:=fcx
 go_wp2
 go_ret
 exact ⟨rfl,belx⟩
end Go.Proofs.YtepjkojfjdcegaaGreat
