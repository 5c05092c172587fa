/- TPipe: lemmas. No conditions. -/
import Derived.Test.YtlabadaccldkaaaGreatTPair
import Derived.Test.YtlabadaccldkaaaGreatTQueue
import Derived.Test.YtlabadaccldkaaaGreatTStage
namespace Go.Proofs.YtlabadaccldkaaaGreat
open Go.ChangeShapes Go.WideShapes Go.ChangeAt Go.RowKit
set_option linter.unusedVariables false
set_option linter.unusedSimpArgs false
theorem aHM {w:World} {cs:List Value} {x0:Ty.D (.slice 49 aM)} {x1:Ty.D (.slice 57 aB)} {x2:Ty.D (.slice 62 aE)} {x3:Ty.D (.slice 62 aE)} (h:rd aH w cs (x0,(x1,(x2,x3)))) :
  ∃ p0 n0 q0 p1 n1 q1 p2 n2 q2 p3 n3 q3,cs=[.slice p0 n0 q0,.slice p1 n1 q1,.slice p2 n2 q2,.slice p3 n3 q3]∧bY (Ty.n aM) (rd aM w) w p0 n0 q0 x0∧bY (Ty.n aB) (rd aB w) w p1 n1 q1 x1∧bY (Ty.n aE) (rd aE w) w p2 n2 q2 x2∧bY (Ty.n aE) (rd aE w) w p3 n3 q3 x3:=by
 obtain ⟨_,_,hcs,⟨p0,n0,q0,rfl,s0⟩,⟨_,_,rfl,⟨p1,n1,q1,rfl,s1⟩,⟨_,_,rfl,⟨p2,n2,q2,rfl,s2⟩,⟨p3,n3,q3,rfl,s3⟩⟩⟩⟩:=h
 exact ⟨_,_,_,_,_,_,_,_,_,_,_,_,hcs,s0,s1,s2,s3⟩
set_option maxHeartbeats 1000000 in
set_option maxRecDepth 100000 in
theorem wD (ca cb:Array Value) (d:aH.D) (w:World) (ha:rd aH w ca.toList d) (hb:rd aH w cb.toList d) :
  Calls Tryz.prog 8 #[.agg ca,.agg cb] w (jI (.bool true) w):=by
 obtain ⟨x0,⟨x1,⟨x2,x3⟩⟩⟩:=d
 obtain ⟨ap0,an0,aq0,ap1,an1,aq1,ap2,an2,aq2,ap3,an3,aq3,ahcs,as0,as1,as2,as3⟩:=aHM ha
 obtain ⟨bp0,bn0,bq0,bp1,bn1,bq1,bp2,bn2,bq2,bp3,bn3,bq3,bhcs,bs0,bs1,bs2,bs3⟩:=aHM hb
 obtain rfl:ca = #[.slice ap0 an0 aq0,.slice ap1 an1 aq1,.slice ap2 an2 aq2,.slice ap3 an3 aq3]:=eZ ahcs
 obtain rfl:cb = #[.slice bp0 bn0 bq0,.slice bp1 bn1 bq1,.slice bp2 bn2 bq2,.slice bp3 bn3 bq3]:=eZ bhcs
 clear ahcs bhcs
 go_enter Tryz.func8,Tryz.ntmps8
 go_wp2_with fail
 refine (aK8 _ _ _ _ _ _ x0 _ (by exact as0.below dU) (by exact bs0.below dU)).mono ?_
 rintro e w90 ⟨rfl,b0⟩
 obtain ⟨u0,v0⟩:=iD b0
 have y0:=b0.size
 try simp only[szy] at u0 v0 y0
 have yy00:w.heap.size<w90.heap.size:=bM
 have yy01:w.heap.size+1<w90.heap.size:=bM
 go_wp2_with fail
 refine (aIK _ _ _ _ _ _ x1 _ (by exact as1.below dU) (by exact bs1.below dU)).mono ?_
 rintro e w91 ⟨rfl,b1⟩
 obtain ⟨u1,v1⟩:=iD b1
 have y1:=b1.size
 try simp only[szy] at u1 v1 y1
 have yy10:w.heap.size<w91.heap.size:=bM
 have yy11:w.heap.size+1<w91.heap.size:=bM
 go_wp2_with fail
 refine (yM _ _ _ _ _ _ x2 _ (by exact as2.below dU) (by exact bs2.below dU)).mono ?_
 rintro e w92 ⟨rfl,b2⟩
 obtain ⟨u2,v2⟩:=iD b2
 have y2:=b2.size
 try simp only[szy] at u2 v2 y2
 have yy20:w.heap.size<w92.heap.size:=bM
 have yy21:w.heap.size+1<w92.heap.size:=bM
 go_wp2_with fail
 refine (yM _ _ _ _ _ _ x3 _ (by exact as3.below dU) (by exact bs3.below dU)).mono ?_
 rintro e w93 ⟨rfl,b3⟩
 obtain ⟨u3,v3⟩:=iD b3
 have y3:=b3.size
 try simp only[szy] at u3 v3 y3
 have yy30:w.heap.size<w93.heap.size:=bM
 have yy31:w.heap.size+1<w93.heap.size:=bM
 go_wp2
 go_ret
 exact ⟨rfl,dU⟩
end Go.Proofs.YtlabadaccldkaaaGreat
