/- TModel: lemmas. No conditions. -/
import Derived.Test.YtiihghfoeinbbaaGreatTOp
namespace Go.Proofs.YtiihghfoeinbbaaGreat
set_option maxRecDepth 100000
open Go.ChangeShapes Go.WideShapes Go.ChangeAt Go.RowKit
set_option linter.unusedVariables false
set_option linter.unusedSimpArgs false
set_option maxHeartbeats 1000000 in
theorem aSX (cs:Array Value) (d:aE.D) (w:World) (h:rd aE w cs.toList d) (hz:bD aE d≤1048576) :
  Calls Tryz.prog 11 #[.agg cs] w (bB9 aE w d):=by
 obtain ⟨x0,hx0⟩:∃ x,x=d:=⟨_,rfl⟩
 subst hx0
 obtain ⟨p0,n0,q0,hcs,s0⟩:=h
 obtain rfl:cs = #[.slice p0 n0 q0]:=gL hcs
 have z0:bD (.slice 146 bA) x0≤1048576:=by simp only[bD] at hz ⊢;omega
 clear hz hcs
 go_enter Tryz.func11,Tryz.ntmps11
 go_wp2_with fail
 refine (bDS _ _ _ x0 _ (by exact s0.below dR) z0).mono ?_
 rintro e w90 ⟨r0,rc0,rfl,f0,b0⟩
 obtain ⟨u0,v0⟩:=dL b0
 have y0:=b0.size
 simp only[rY] at u0 v0 y0
 have yy00:w.heap.size<w90.heap.size:=aV
 have yy01:w.heap.size+1<w90.heap.size:=aV
 have yy02:w.heap.size+1+1<w90.heap.size:=aV
 go_wp2
 refine bodyPost_ret (v:=.agg #[.slice r0 (List.length x0) rc0]) (by simp[results,Tryz.results11,go_sem,u0,yy00,yy01,yy02]) rfl ⟨_,rfl,?_,?_⟩
 ·refine bT.mono (lo:=w.heap.size+1+1+1) (hi:=w90.heap.size) ?_ aV aV aV
  (repeat' first|refine bT.set1 ?_ aV _|refine bT.alloc ?_ _)
  exact f0.mono aV (Nat.le_refl _) (Nat.le_refl _)
 ·exact dR
set_option maxHeartbeats 1000000 in
theorem aHB (ca:Array Value) (d:aE.D) (left:Int) (w:World) (ha:rd aE w ca.toList d) (h0:0≤left) (h2:left≤9223372036854775807) :
  Calls Tryz.prog 8 #[.agg ca,.int .i64 left] w (kZ (.int .i64 (szR left (bD aE d))) w):=by
 obtain ⟨x0,hx0⟩:∃ y,y=d:=⟨_,rfl⟩
 subst hx0
 obtain ⟨ap0,an0,aq0,ahcs,as0⟩:=ha
 obtain rfl:ca = #[.slice ap0 an0 aq0]:=gL ahcs
 clear ahcs
 have e0:bD aE x0=bD (.slice 146 bA) x0:=by first|rfl|(simp only[bD];omega)
 have e9:bD aE x0=bD (.slice 146 bA) x0:=rfl
 rw[e9]
 have HS:Hid (bD aE x0=bD (.slice 146 bA) x0):=e0.trans (by rfl)
 clear e0
 by_cases hf0:((bD (.slice 146 bA) x0:Nat):Int)≤left
 rotate_left
 ·go_enter Tryz.func8,Tryz.ntmps8
  go_wp2_with fail
  refine (bG1 _ _ _ x0 _ _ (by exact as0.below dR) (by omega) (by omega) (by omega)).mono ?_
  rintro e w90 ⟨rfl,b0⟩
  obtain ⟨u0,v0⟩:=dL b0
  have y0:=b0.size
  try simp only[rY] at u0 v0 y0
  have yy00:w.heap.size<w90.heap.size:=aV
  go_wp2
  go_ret
  exact ⟨dC (by (first|rw[HS.out]|skip);unfold szR;rw[if_neg (by omega)]),dR⟩
 go_enter Tryz.func8,Tryz.ntmps8
 go_wp2_with fail
 refine (bFD _ _ _ x0 _ _ (by exact as0.below dR) (by omega) (by omega) (by omega)).mono ?_
 rintro e w90 ⟨rfl,b0⟩
 obtain ⟨u0,v0⟩:=dL b0
 have y0:=b0.size
 try simp only[rY] at u0 v0 y0
 have yy00:w.heap.size<w90.heap.size:=aV
 go_wp2
 go_ret
 exact ⟨dC (by (first|rw[HS.out]|skip);unfold szR;rw[if_pos (by omega)];try omega),dR⟩
theorem sB (ca:Array Value) (d:aE.D) (left:Int) (w:World) (ha:rd aE w ca.toList d) (h0:0≤left) (h2:left≤9223372036854775807) (h:((bD aE d:Nat):Int)≤left) :
  Calls Tryz.prog 8 #[.agg ca,.int .i64 left] w (kZ (.int .i64 (left - (bD aE d:Nat))) w):=by
 have:=aHB ca d left w ha h0 h2
 rwa [uO h] at this
theorem aVN (ca:Array Value) (d:aE.D) (left:Int) (w:World) (ha:rd aE w ca.toList d) (h0:0≤left) (h2:left≤9223372036854775807) (h:¬ ((bD aE d:Nat):Int)≤left) :
  Calls Tryz.prog 8 #[.agg ca,.int .i64 left] w (kZ (.int .i64 (-1)) w):=by
 have:=aHB ca d left w ha h0 h2
 rwa [uN h] at this
set_option maxHeartbeats 1000000 in
theorem aV4 (ca cb:Array Value) (d:aE.D) (w:World) (ha:rd aE w ca.toList d) (hb:rd aE w cb.toList d) :
  Calls Tryz.prog 14 #[.agg ca,.agg cb] w (kZ (.bool true) w):=by
 obtain ⟨x0,hx0⟩:∃ y,y=d:=⟨_,rfl⟩
 subst hx0
 obtain ⟨ap0,an0,aq0,ahcs,as0⟩:=ha
 obtain ⟨bp0,bn0,bq0,bhcs,bs0⟩:=hb
 obtain rfl:ca = #[.slice ap0 an0 aq0]:=gL ahcs
 obtain rfl:cb = #[.slice bp0 bn0 bq0]:=gL bhcs
 clear ahcs bhcs
 go_enter Tryz.func14,Tryz.ntmps14
 go_wp2_with fail
 refine (bDQ _ _ _ _ _ _ x0 _ (by exact as0.below dR) (by exact bs0.below dR)).mono ?_
 rintro e w90 ⟨rfl,b0⟩
 obtain ⟨u0,v0⟩:=dL b0
 have y0:=b0.size
 try simp only[rY] at u0 v0 y0
 have yy00:w.heap.size<w90.heap.size:=aV
 have yy01:w.heap.size+1<w90.heap.size:=aV
 go_wp2
 go_ret
 exact ⟨rfl,dR⟩
end Go.Proofs.YtiihghfoeinbbaaGreat
