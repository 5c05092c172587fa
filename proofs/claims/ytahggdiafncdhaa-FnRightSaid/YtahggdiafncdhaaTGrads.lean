/- The laws' own helpers over Grads: copy, compare, count, mark, look at the marks. -/
import Derived.Test.YtahggdiafncdhaaTRow
namespace Go.Proofs.Ytahggdiafncdhaa
open Go.ChangeShapes Go.WideShapes Go.ChangeAt Go.RowKit
set_option linter.unusedVariables false
set_option linter.unusedSimpArgs false
theorem fmGrads {w:World} {cs:List Value} {x0:Ty.D (.slice 92 tRow)} {x1:Ty.D tInt} {x2:Ty.D .bool} (h:rd tGrads w cs (x0,(x1,x2))) :
  ∃ p0 n0 q0,cs=[.slice p0 n0 q0,.int .i64 x1,.bool x2]∧SlRd (Ty.n tRow) (rd tRow w) w p0 n0 q0 x0∧(Lit.int .i64 x1).wf=true:=by
 obtain ⟨_,_,hcs,⟨p0,n0,q0,rfl,s0⟩,⟨_,_,rfl,⟨rfl,w1⟩,rfl⟩⟩:=h
 exact ⟨_,_,_,hcs,s0,w1⟩

set_option maxHeartbeats 1000000 in
set_option maxRecDepth 100000 in
theorem toGrads_any (cs:Array Value) (d:tGrads.D) (w:World) (h:rd tGrads w cs.toList d) (hz:szT tGrads d≤1048576) :
  Calls Try.prog 35 #[.agg cs] w (RetAg tGrads w d):=by
 obtain ⟨x0,⟨x1,x2⟩⟩:=d
 obtain ⟨p0,n0,q0,hcs,s0,w1⟩:=fmGrads h
 obtain rfl:cs = #[.slice p0 n0 q0,.int .i64 x1,.bool x2]:=arr_of hcs
 have z0:szT (.slice 92 tRow) x0≤1048576:=by simp only[szT] at hz ⊢;omega
 clear hz hcs
 go_enter Try.func35,Try.ntmps35
 go_wp2_with fail
 refine (toRowS_any _ _ _ x0 _ (by exact s0.below belx) z0).mono ?_
 rintro e w90 ⟨r0,rc0,rfl,f0,b0⟩
 obtain ⟨u0,v0⟩:=bcell b0
 have y0:=b0.size
 simp only[World.size_alloc,World.size_setCell] at u0 v0 y0
 have yy00:w.heap.size<w90.heap.size:=fcx
 have yy01:w.heap.size+1<w90.heap.size:=fcx
 have yy02:w.heap.size+1+1<w90.heap.size:=fcx
 go_wp2
 refine bodyPost_ret (v:=.agg #[.slice r0 (List.length x0) rc0,.int .i64 x1,.bool x2]) (by simp[results,Try.results35,go_sem,u0,yy00,yy01,yy02]) rfl ⟨_,rfl,?_,?_⟩
 ·refine FrIn.pair (c1:=[_]) (c2:=[_,_]) (mid:=w90.heap.size) ?_ ?_ fcx fcx
  ·refine FrIn.mono (lo:=w.heap.size+1+1+1) (hi:=w90.heap.size) ?_ fcx fcx fcx
   (repeat' first|refine FrIn.set1 ?_ fcx _|refine FrIn.alloc ?_ _)
   exact f0.mono fcx (Nat.le_refl _) (Nat.le_refl _)
  ·refine FrIn.pair (c1:=[_]) (c2:=[_]) (mid:=w90.heap.size) ?_ ?_ fcx fcx
   ·exact FrIn.int w1 fcx
   ·exact FrIn.bool fcx
 ·exact belx


set_option maxHeartbeats 1000000 in
set_option maxRecDepth 100000 in
theorem szGrads_any (ca:Array Value) (d:tGrads.D) (left:Int) (w:World) (ha:rd tGrads w ca.toList d) (h0:0≤left) (h2:left≤9223372036854775807) :
  Calls Try.prog 31 #[.agg ca,.int .i64 left] w (RetV (.int .i64 (szR left (szT tGrads d))) w):=by
 obtain ⟨x0,⟨x1,x2⟩⟩:=d
 obtain ⟨ap0,an0,aq0,ahcs,as0,aw1⟩:=fmGrads ha
 obtain rfl:ca = #[.slice ap0 an0 aq0,.int .i64 x1,.bool x2]:=arr_of ahcs
 clear ahcs
 have e0:szT tGrads (x0,(x1,x2))=szT (.slice 92 tRow) x0:=by first|rfl|(simp only[szT];omega)
 have HS:Hid (szT tGrads (x0,(x1,x2))=szT (.slice 92 tRow) x0):=e0.trans (by rfl)
 clear e0 
 by_cases hf0:((szT (.slice 92 tRow) x0:Nat):Int)≤left
 rotate_left
 ·go_enter Try.func31,Try.ntmps31
  go_wp2_with fail
  refine (szRowS_no _ _ _ x0 _ _ (by exact as0.below belx) (by omega) (by omega) (by omega)).mono ?_
  rintro e w90 ⟨rfl,b0⟩
  obtain ⟨u0,v0⟩:=bcell b0
  have y0:=b0.size
  try simp only[World.size_alloc,World.size_setCell] at u0 v0 y0
  have yy00:w.heap.size<w90.heap.size:=fcx
  go_wp2
  go_ret
  exact ⟨ret_int (by (first|rw[HS.out]|skip);unfold szR;rw[if_neg (by omega)]),belx⟩
 go_enter Try.func31,Try.ntmps31
 go_wp2_with fail
 refine (szRowS_ok _ _ _ x0 _ _ (by exact as0.below belx) (by omega) (by omega) (by omega)).mono ?_
 rintro e w90 ⟨rfl,b0⟩
 obtain ⟨u0,v0⟩:=bcell b0
 have y0:=b0.size
 try simp only[World.size_alloc,World.size_setCell] at u0 v0 y0
 have yy00:w.heap.size<w90.heap.size:=fcx
 go_wp2
 go_ret
 exact ⟨ret_int (by (first|rw[HS.out]|skip);unfold szR;rw[if_pos (by omega)];try omega),belx⟩

theorem szGrads_ok (ca:Array Value) (d:tGrads.D) (left:Int) (w:World) (ha:rd tGrads w ca.toList d) (h0:0≤left) (h2:left≤9223372036854775807) (h:((szT tGrads d:Nat):Int)≤left) :
  Calls Try.prog 31 #[.agg ca,.int .i64 left] w (RetV (.int .i64 (left - (szT tGrads d:Nat))) w):=by
 have:=szGrads_any ca d left w ha h0 h2
 rwa [szR_pos h] at this
theorem szGrads_no (ca:Array Value) (d:tGrads.D) (left:Int) (w:World) (ha:rd tGrads w ca.toList d) (h0:0≤left) (h2:left≤9223372036854775807) (h:¬ ((szT tGrads d:Nat):Int)≤left) :
  Calls Try.prog 31 #[.agg ca,.int .i64 left] w (RetV (.int .i64 (-1)) w):=by
 have:=szGrads_any ca d left w ha h0 h2
 rwa [szR_neg h] at this


set_option maxHeartbeats 1000000 in
set_option maxRecDepth 100000 in
theorem eqGrads_any (ca cb:Array Value) (d:tGrads.D) (w:World) (ha:rd tGrads w ca.toList d) (hb:rd tGrads w cb.toList d) :
  Calls Try.prog 39 #[.agg ca,.agg cb] w (RetV (.bool true) w):=by
 obtain ⟨x0,⟨x1,x2⟩⟩:=d
 obtain ⟨ap0,an0,aq0,ahcs,as0,aw1⟩:=fmGrads ha
 obtain ⟨bp0,bn0,bq0,bhcs,bs0,bw1⟩:=fmGrads hb
 obtain rfl:ca = #[.slice ap0 an0 aq0,.int .i64 x1,.bool x2]:=arr_of ahcs
 obtain rfl:cb = #[.slice bp0 bn0 bq0,.int .i64 x1,.bool x2]:=arr_of bhcs
 clear ahcs bhcs
 go_enter Try.func39,Try.ntmps39
 go_wp2_with fail
 refine (eqRowS_any _ _ _ _ _ _ x0 _ (by exact as0.below belx) (by exact bs0.below belx)).mono ?_
 rintro e w90 ⟨rfl,b0⟩
 obtain ⟨u0,v0⟩:=bcell b0
 have y0:=b0.size
 try simp only[World.size_alloc,World.size_setCell] at u0 v0 y0
 have yy00:w.heap.size<w90.heap.size:=fcx
 have yy01:w.heap.size+1<w90.heap.size:=fcx
 go_wp2
 go_ret
 exact ⟨rfl,belx⟩


end Go.Proofs.Ytahggdiafncdhaa
