/- The laws' own helpers over Model: copy, compare, count, mark, look at the marks. -/
import Derived.Test.YtahggdiafncdhaaTOp
namespace Go.Proofs.Ytahggdiafncdhaa
open Go.ChangeShapes Go.WideShapes Go.ChangeAt Go.RowKit
set_option linter.unusedVariables false
set_option linter.unusedSimpArgs false
set_option maxHeartbeats 1000000 in
set_option maxRecDepth 100000 in
theorem toModel_any (cs:Array Value) (d:tModel.D) (w:World) (h:rd tModel w cs.toList d) (hz:szT tModel d≤1048576) :
  Calls Try.prog 33 #[.agg cs] w (RetAg tModel w d):=by
 obtain ⟨x0,hx0⟩:∃ x,x=d:=⟨_,rfl⟩
 subst hx0
 obtain ⟨p0,n0,q0,hcs,s0⟩:=h
 obtain rfl:cs = #[.slice p0 n0 q0]:=arr_of hcs
 have z0:szT (.slice 61 tOp) x0≤1048576:=by simp only[szT] at hz ⊢;omega
 clear hz hcs
 go_enter Try.func33,Try.ntmps33
 go_wp2_with fail
 refine (toOpS_any _ _ _ x0 _ (by exact s0.below belx) z0).mono ?_
 rintro e w90 ⟨r0,rc0,rfl,f0,b0⟩
 obtain ⟨u0,v0⟩:=bcell b0
 have y0:=b0.size
 simp only[World.size_alloc,World.size_setCell] at u0 v0 y0
 have yy00:w.heap.size<w90.heap.size:=fcx
 have yy01:w.heap.size+1<w90.heap.size:=fcx
 have yy02:w.heap.size+1+1<w90.heap.size:=fcx
 go_wp2
 refine bodyPost_ret (v:=.agg #[.slice r0 (List.length x0) rc0]) (by simp[results,Try.results33,go_sem,u0,yy00,yy01,yy02]) rfl ⟨_,rfl,?_,?_⟩
 ·refine FrIn.mono (lo:=w.heap.size+1+1+1) (hi:=w90.heap.size) ?_ fcx fcx fcx
  (repeat' first|refine FrIn.set1 ?_ fcx _|refine FrIn.alloc ?_ _)
  exact f0.mono fcx (Nat.le_refl _) (Nat.le_refl _)
 ·exact belx


set_option maxHeartbeats 1000000 in
set_option maxRecDepth 100000 in
theorem szModel_any (ca:Array Value) (d:tModel.D) (left:Int) (w:World) (ha:rd tModel w ca.toList d) (h0:0≤left) (h2:left≤9223372036854775807) :
  Calls Try.prog 29 #[.agg ca,.int .i64 left] w (RetV (.int .i64 (szR left (szT tModel d))) w):=by
 obtain ⟨x0,hx0⟩:∃ y,y=d:=⟨_,rfl⟩
 subst hx0
 obtain ⟨ap0,an0,aq0,ahcs,as0⟩:=ha
 obtain rfl:ca = #[.slice ap0 an0 aq0]:=arr_of ahcs
 clear ahcs
 have e0:szT tModel x0=szT (.slice 61 tOp) x0:=by first|rfl|(simp only[szT];omega)
 have e9:szT tModel x0=szT (.slice 61 tOp) x0:=rfl
 rw[e9]
 have HS:Hid (szT tModel x0=szT (.slice 61 tOp) x0):=e0.trans (by rfl)
 clear e0 
 by_cases hf0:((szT (.slice 61 tOp) x0:Nat):Int)≤left
 rotate_left
 ·go_enter Try.func29,Try.ntmps29
  go_wp2_with fail
  refine (szOpS_no _ _ _ x0 _ _ (by exact as0.below belx) (by omega) (by omega) (by omega)).mono ?_
  rintro e w90 ⟨rfl,b0⟩
  obtain ⟨u0,v0⟩:=bcell b0
  have y0:=b0.size
  try simp only[World.size_alloc,World.size_setCell] at u0 v0 y0
  have yy00:w.heap.size<w90.heap.size:=fcx
  go_wp2
  go_ret
  exact ⟨ret_int (by (first|rw[HS.out]|skip);unfold szR;rw[if_neg (by omega)]),belx⟩
 go_enter Try.func29,Try.ntmps29
 go_wp2_with fail
 refine (szOpS_ok _ _ _ x0 _ _ (by exact as0.below belx) (by omega) (by omega) (by omega)).mono ?_
 rintro e w90 ⟨rfl,b0⟩
 obtain ⟨u0,v0⟩:=bcell b0
 have y0:=b0.size
 try simp only[World.size_alloc,World.size_setCell] at u0 v0 y0
 have yy00:w.heap.size<w90.heap.size:=fcx
 go_wp2
 go_ret
 exact ⟨ret_int (by (first|rw[HS.out]|skip);unfold szR;rw[if_pos (by omega)];try omega),belx⟩

theorem szModel_ok (ca:Array Value) (d:tModel.D) (left:Int) (w:World) (ha:rd tModel w ca.toList d) (h0:0≤left) (h2:left≤9223372036854775807) (h:((szT tModel d:Nat):Int)≤left) :
  Calls Try.prog 29 #[.agg ca,.int .i64 left] w (RetV (.int .i64 (left - (szT tModel d:Nat))) w):=by
 have:=szModel_any ca d left w ha h0 h2
 rwa [szR_pos h] at this
theorem szModel_no (ca:Array Value) (d:tModel.D) (left:Int) (w:World) (ha:rd tModel w ca.toList d) (h0:0≤left) (h2:left≤9223372036854775807) (h:¬ ((szT tModel d:Nat):Int)≤left) :
  Calls Try.prog 29 #[.agg ca,.int .i64 left] w (RetV (.int .i64 (-1)) w):=by
 have:=szModel_any ca d left w ha h0 h2
 rwa [szR_neg h] at this


set_option maxHeartbeats 1000000 in
set_option maxRecDepth 100000 in
theorem eqModel_any (ca cb:Array Value) (d:tModel.D) (w:World) (ha:rd tModel w ca.toList d) (hb:rd tModel w cb.toList d) :
  Calls Try.prog 37 #[.agg ca,.agg cb] w (RetV (.bool true) w):=by
 obtain ⟨x0,hx0⟩:∃ y,y=d:=⟨_,rfl⟩
 subst hx0
 obtain ⟨ap0,an0,aq0,ahcs,as0⟩:=ha
 obtain ⟨bp0,bn0,bq0,bhcs,bs0⟩:=hb
 obtain rfl:ca = #[.slice ap0 an0 aq0]:=arr_of ahcs
 obtain rfl:cb = #[.slice bp0 bn0 bq0]:=arr_of bhcs
 clear ahcs bhcs
 go_enter Try.func37,Try.ntmps37
 go_wp2_with fail
 refine (eqOpS_any _ _ _ _ _ _ x0 _ (by exact as0.below belx) (by exact bs0.below belx)).mono ?_
 rintro e w90 ⟨rfl,b0⟩
 obtain ⟨u0,v0⟩:=bcell b0
 have y0:=b0.size
 try simp only[World.size_alloc,World.size_setCell] at u0 v0 y0
 have yy00:w.heap.size<w90.heap.size:=fcx
 have yy01:w.heap.size+1<w90.heap.size:=fcx
 go_wp2
 go_ret
 exact ⟨rfl,belx⟩


end Go.Proofs.Ytahggdiafncdhaa
