/- TModel: lemmas. No conditions. -/
import Derived.Test.YtmfpkkbhnmkfdaaGreatTOp
namespace Go.Proofs.YtmfpkkbhnmkfdaaGreat
set_option maxRecDepth 100000
open Go.ChangeShapes Go.WideShapes Go.ChangeAt Go.RowKit
set_option linter.unusedVariables false
set_option linter.unusedSimpArgs false
set_option maxHeartbeats 1000000 in
theorem aWV (cs:Array Value) (d:aE.D) (w:World) (h:rd aE w cs.toList d) (hz:aY aE d≤1048576) :
  Calls Tryz.prog 82 #[.agg cs] w (bCA aE w d):=by
 obtain ⟨x0,hx0⟩:∃ x,x=d:=⟨_,rfl⟩
 subst hx0
 obtain ⟨p0,n0,q0,hcs,s0⟩:=h
 obtain rfl:cs = #[.slice p0 n0 q0]:=dZ hcs
 have z0:aY (.slice 219 bD) x0≤1048576:=by simp only[aY] at hz ⊢;omega
 clear hz hcs
 go_enter Tryz.func82,Tryz.ntmps82
 go_wp2_with fail
 refine (bF7 _ _ _ x0 _ (by exact s0.below cP) z0).mono ?_
 rintro e w90 ⟨r0,rc0,rfl,f0,b0⟩
 obtain ⟨u0,v0⟩:=dK b0
 have y0:=b0.size
 simp only[rF] at u0 v0 y0
 have yy00:w.heap.size<w90.heap.size:=aN
 have yy01:w.heap.size+1<w90.heap.size:=aN
 have yy02:w.heap.size+1+1<w90.heap.size:=aN
 go_wp2
 refine bodyPost_ret (v:=.agg #[.slice r0 (List.length x0) rc0]) (by simp[results,Tryz.results82,go_sem,u0,yy00,yy01,yy02]) rfl ⟨_,rfl,?_,?_⟩
 ·refine bU.mono (lo:=w.heap.size+1+1+1) (hi:=w90.heap.size) ?_ aN aN aN
  (repeat' first|refine bU.set1 ?_ aN _|refine bU.alloc ?_ _)
  exact f0.mono aN (Nat.le_refl _) (Nat.le_refl _)
 ·exact cP
set_option maxHeartbeats 1000000 in
theorem aIQ (ca:Array Value) (d:aE.D) (left:Int) (w:World) (ha:rd aE w ca.toList d) (h0:0≤left) (h2:left≤9223372036854775807) :
  Calls Tryz.prog 76 #[.agg ca,.int .i64 left] w (lK (.int .i64 (szR left (aY aE d))) w):=by
 obtain ⟨x0,hx0⟩:∃ y,y=d:=⟨_,rfl⟩
 subst hx0
 obtain ⟨ap0,an0,aq0,ahcs,as0⟩:=ha
 obtain rfl:ca = #[.slice ap0 an0 aq0]:=dZ ahcs
 clear ahcs
 have e0:aY aE x0=aY (.slice 219 bD) x0:=by first|rfl|(simp only[aY];omega)
 have e9:aY aE x0=aY (.slice 219 bD) x0:=rfl
 rw[e9]
 have HS:Hid (aY aE x0=aY (.slice 219 bD) x0):=e0.trans (by rfl)
 clear e0
 by_cases hf0:((aY (.slice 219 bD) x0:Nat):Int)≤left
 rotate_left
 ·go_enter Tryz.func76,Tryz.ntmps76
  go_wp2_with fail
  refine (bHD _ _ _ x0 _ _ (by exact as0.below cP) (by omega) (by omega) (by omega)).mono ?_
  rintro e w90 ⟨rfl,b0⟩
  obtain ⟨u0,v0⟩:=dK b0
  have y0:=b0.size
  try simp only[rF] at u0 v0 y0
  have yy00:w.heap.size<w90.heap.size:=aN
  go_wp2
  go_ret
  exact ⟨dH (by (first|rw[HS.out]|skip);unfold szR;rw[if_neg (by omega)]),cP⟩
 go_enter Tryz.func76,Tryz.ntmps76
 go_wp2_with fail
 refine (bJU _ _ _ x0 _ _ (by exact as0.below cP) (by omega) (by omega) (by omega)).mono ?_
 rintro e w90 ⟨rfl,b0⟩
 obtain ⟨u0,v0⟩:=dK b0
 have y0:=b0.size
 try simp only[rF] at u0 v0 y0
 have yy00:w.heap.size<w90.heap.size:=aN
 go_wp2
 go_ret
 exact ⟨dH (by (first|rw[HS.out]|skip);unfold szR;rw[if_pos (by omega)];try omega),cP⟩
theorem uJ (ca:Array Value) (d:aE.D) (left:Int) (w:World) (ha:rd aE w ca.toList d) (h0:0≤left) (h2:left≤9223372036854775807) (h:((aY aE d:Nat):Int)≤left) :
  Calls Tryz.prog 76 #[.agg ca,.int .i64 left] w (lK (.int .i64 (left - (aY aE d:Nat))) w):=by
 have:=aIQ ca d left w ha h0 h2
 rwa [vQ h] at this
theorem aZE (ca:Array Value) (d:aE.D) (left:Int) (w:World) (ha:rd aE w ca.toList d) (h0:0≤left) (h2:left≤9223372036854775807) (h:¬ ((aY aE d:Nat):Int)≤left) :
  Calls Tryz.prog 76 #[.agg ca,.int .i64 left] w (lK (.int .i64 (-1)) w):=by
 have:=aIQ ca d left w ha h0 h2
 rwa [vO h] at this
set_option maxHeartbeats 1000000 in
theorem aTO (ca cb:Array Value) (d:aE.D) (w:World) (ha:rd aE w ca.toList d) (hb:rd aE w cb.toList d) :
  Calls Tryz.prog 88 #[.agg ca,.agg cb] w (lK (.bool true) w):=by
 obtain ⟨x0,hx0⟩:∃ y,y=d:=⟨_,rfl⟩
 subst hx0
 obtain ⟨ap0,an0,aq0,ahcs,as0⟩:=ha
 obtain ⟨bp0,bn0,bq0,bhcs,bs0⟩:=hb
 obtain rfl:ca = #[.slice ap0 an0 aq0]:=dZ ahcs
 obtain rfl:cb = #[.slice bp0 bn0 bq0]:=dZ bhcs
 clear ahcs bhcs
 go_enter Tryz.func88,Tryz.ntmps88
 go_wp2_with fail
 refine (bGC _ _ _ _ _ _ x0 _ (by exact as0.below cP) (by exact bs0.below cP)).mono ?_
 rintro e w90 ⟨rfl,b0⟩
 obtain ⟨u0,v0⟩:=dK b0
 have y0:=b0.size
 try simp only[rF] at u0 v0 y0
 have yy00:w.heap.size<w90.heap.size:=aN
 have yy01:w.heap.size+1<w90.heap.size:=aN
 go_wp2
 go_ret
 exact ⟨rfl,cP⟩
end Go.Proofs.YtmfpkkbhnmkfdaaGreat
