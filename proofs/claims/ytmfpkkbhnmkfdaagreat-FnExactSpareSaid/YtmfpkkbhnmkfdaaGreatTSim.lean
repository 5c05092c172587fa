/- TSim: lemmas. No conditions. -/
import Derived.Test.YtmfpkkbhnmkfdaaGreatCe
namespace Go.Proofs.YtmfpkkbhnmkfdaaGreat
open Go.ChangeShapes Go.WideShapes Go.ChangeAt Go.RowKit
set_option linter.unusedVariables false
set_option linter.unusedSimpArgs false
theorem bDJ {w:World} {cs:List Value} {x0:Ty.D fG} {x1:Ty.D aB} {x2:Ty.D aB} {x3:Ty.D .bool} (h:rd pG w cs (x0,(x1,(x2,x3)))) :
  ∃ p1 n1 q1 p2 n2 q2,cs=[.int .i64 x0,.slice p1 n1 q1,.slice p2 n2 q2,.bool x3]∧(Lit.int .i64 x0).wf=true∧dY (Ty.n fG) (rd fG w) w p1 n1 q1 x1∧dY (Ty.n fG) (rd fG w) w p2 n2 q2 x2:=by
 obtain ⟨_,_,hcs,⟨rfl,w0⟩,⟨_,_,rfl,⟨p1,n1,q1,rfl,s1⟩,⟨_,_,rfl,⟨p2,n2,q2,rfl,s2⟩,rfl⟩⟩⟩:=h
 exact ⟨_,_,_,_,_,_,hcs,w0,s1,s2⟩
set_option maxHeartbeats 1000000 in
set_option maxRecDepth 100000 in
theorem aH4 (ca cb:Array Value) (d:pG.D) (w:World) (ha:rd pG w ca.toList d) (hb:rd pG w cb.toList d) :
  Calls Tryz.prog 38 #[.agg ca,.agg cb] w (lK (.bool true) w):=by
 obtain ⟨x0,⟨x1,⟨x2,x3⟩⟩⟩:=d
 obtain ⟨ap1,an1,aq1,ap2,an2,aq2,ahcs,aw0,as1,as2⟩:=bDJ ha
 obtain ⟨bp1,bn1,bq1,bp2,bn2,bq2,bhcs,bw0,bs1,bs2⟩:=bDJ hb
 obtain rfl:ca = #[.int .i64 x0,.slice ap1 an1 aq1,.slice ap2 an2 aq2,.bool x3]:=dZ ahcs
 obtain rfl:cb = #[.int .i64 x0,.slice bp1 bn1 bq1,.slice bp2 bn2 bq2,.bool x3]:=dZ bhcs
 clear ahcs bhcs
 go_enter Tryz.func38,Tryz.ntmps38
 go_wp2_with fail
 refine (iY _ _ _ _ _ _ x1 _ (by exact as1.below cP) (by exact bs1.below cP)).mono ?_
 rintro e w91 ⟨rfl,b1⟩
 obtain ⟨u1,v1⟩:=dK b1
 have y1:=b1.size
 try simp only[rF] at u1 v1 y1
 have yy10:w.heap.size<w91.heap.size:=aN
 have yy11:w.heap.size+1<w91.heap.size:=aN
 go_wp2_with fail
 refine (iY _ _ _ _ _ _ x2 _ (by exact as2.below cP) (by exact bs2.below cP)).mono ?_
 rintro e w92 ⟨rfl,b2⟩
 obtain ⟨u2,v2⟩:=dK b2
 have y2:=b2.size
 try simp only[rF] at u2 v2 y2
 have yy20:w.heap.size<w92.heap.size:=aN
 have yy21:w.heap.size+1<w92.heap.size:=aN
 go_wp2
 go_ret
 exact ⟨rfl,cP⟩
end Go.Proofs.YtmfpkkbhnmkfdaaGreat
