/- The laws' own helpers over Grads: copy, compare, count, mark, look at the marks. -/
import Derived.Test.YtmfpkkbhnmkfdaaGreatTRow
namespace Go.Proofs.YtmfpkkbhnmkfdaaGreat
open Go.ChangeShapes Go.WideShapes Go.ChangeAt Go.RowKit
set_option linter.unusedVariables false
set_option linter.unusedSimpArgs false
theorem aB6 {w:World} {cs:List Value} {x0:Ty.D (.slice 188 bG)} {x1:Ty.D cP} {x2:Ty.D .bool} (h:rd aM w cs (x0,(x1,x2))) :
  ∃ p0 n0 q0,cs = [.slice p0 n0 q0,.int .i64 x1,.bool x2]∧cM (Ty.n bG) (rd bG w) w p0 n0 q0 x0∧(Lit.int .i64 x1).wf = true:=by
 obtain ⟨_,_,hcs,⟨p0,n0,q0,rfl,s0⟩,⟨_,_,rfl,⟨rfl,w1⟩,rfl⟩⟩:=h
 exact ⟨_,_,_,hcs,s0,w1⟩
set_option maxHeartbeats 1000000 in
set_option maxRecDepth 100000 in
theorem aOC (cs:Array Value) (d:aM.D) (w:World) (h:rd aM w cs.toList d) (hz:aW aM d≤1048576) :
  Calls Tryz.prog 203 #[.agg cs] w (yY aM w d):=by
 obtain ⟨x0,⟨x1,x2⟩⟩:=d
 obtain ⟨p0,n0,q0,hcs,s0,w1⟩:=aB6 h
 obtain rfl:cs = #[.slice p0 n0 q0,.int .i64 x1,.bool x2]:=cA hcs
 have z0:aW (.slice 188 bG) x0≤1048576:=by simp only [aW] at hz ⊢;omega
 clear hz hcs
 go_enter Tryz.func203,Tryz.ntmps203
 go_wp2_with fail
 refine (zQ _ _ _ x0 _ (by exact s0.below bO) z0).mono ?_
 rintro e w90 ⟨r0,rc0,rfl,f0,b0⟩
 obtain ⟨u0,v0⟩:=bR b0
 have y0:=b0.size
 simp only [World.size_alloc,World.size_setCell] at u0 v0 y0
 have yy00:w.heap.size < w90.heap.size:=aP
 have yy01:w.heap.size + 1 < w90.heap.size:=aP
 have yy02:w.heap.size + 1 + 1 < w90.heap.size:=aP
 go_wp2
 refine bodyPost_ret (v:=.agg #[.slice r0 (List.length x0) rc0,.int .i64 x1,.bool x2]) (by simp [results,Tryz.results203,go_sem,u0,yy00,yy01,yy02]) rfl ⟨_,rfl,?_,?_⟩
 ·refine aR.pair (c1:=[_]) (c2:=[_,_]) (mid:=w90.heap.size) ?_ ?_ aP aP
  ·refine aR.mono (lo:=w.heap.size + 1 + 1 + 1) (hi:=w90.heap.size) ?_ aP aP aP
   (repeat' first | refine aR.set1 ?_ aP _ | refine aR.alloc ?_ _)
   exact f0.mono aP (Nat.le_refl _) (Nat.le_refl _)
  ·refine aR.pair (c1:=[_]) (c2:=[_]) (mid:=w90.heap.size) ?_ ?_ aP aP
   ·exact aR.int w1 aP
   ·exact aR.bool aP
 ·exact bO
set_option maxHeartbeats 1000000 in
set_option maxRecDepth 100000 in
theorem aO7 (ca:Array Value) (d:aM.D) (left:Int) (w:World) (ha:rd aM w ca.toList d) (h0:0≤left) (h2:left≤9223372036854775807) :
  Calls Tryz.prog 189 #[.agg ca,.int .i64 left] w (dO (.int .i64 (gM left (aW aM d))) w):=by
 obtain ⟨x0,⟨x1,x2⟩⟩:=d
 obtain ⟨ap0,an0,aq0,ahcs,as0,aw1⟩:=aB6 ha
 obtain rfl:ca = #[.slice ap0 an0 aq0,.int .i64 x1,.bool x2]:=cA ahcs
 clear ahcs
 have e0:aW aM (x0,(x1,x2)) = aW (.slice 188 bG) x0:=by first | rfl | (simp only [aW];omega)
 have HS:Hid (aW aM (x0,(x1,x2)) = aW (.slice 188 bG) x0):=e0.trans (by rfl)
 clear e0
 by_cases hf0:((aW (.slice 188 bG) x0:Nat):Int)≤left
 rotate_left
 ·go_enter Tryz.func189,Tryz.ntmps189
  go_wp2_with fail
  refine (aJ2 _ _ _ x0 _ _ (by exact as0.below bO) (by omega) (by omega) (by omega)).mono ?_
  rintro e w90 ⟨rfl,b0⟩
  obtain ⟨u0,v0⟩:=bR b0
  have y0:=b0.size
  try simp only [World.size_alloc,World.size_setCell] at u0 v0 y0
  have yy00:w.heap.size < w90.heap.size:=aP
  go_wp2
  go_ret
  exact ⟨bH (by (first | rw [HS.out] | skip);unfold gM;rw [if_neg (by omega)]),bO⟩
 go_enter Tryz.func189,Tryz.ntmps189
 go_wp2_with fail
 refine (aJI _ _ _ x0 _ _ (by exact as0.below bO) (by omega) (by omega) (by omega)).mono ?_
 rintro e w90 ⟨rfl,b0⟩
 obtain ⟨u0,v0⟩:=bR b0
 have y0:=b0.size
 try simp only [World.size_alloc,World.size_setCell] at u0 v0 y0
 have yy00:w.heap.size < w90.heap.size:=aP
 go_wp2
 go_ret
 exact ⟨bH (by (first | rw [HS.out] | skip);unfold gM;rw [if_pos (by omega)];try omega),bO⟩
set_option maxHeartbeats 1000000 in
set_option maxRecDepth 100000 in
theorem aO0 (ca cb:Array Value) (d:aM.D) (w:World) (ha:rd aM w ca.toList d) (hb:rd aM w cb.toList d) :
  Calls Tryz.prog 223 #[.agg ca,.agg cb] w (dO (.bool true) w):=by
 obtain ⟨x0,⟨x1,x2⟩⟩:=d
 obtain ⟨ap0,an0,aq0,ahcs,as0,aw1⟩:=aB6 ha
 obtain ⟨bp0,bn0,bq0,bhcs,bs0,bw1⟩:=aB6 hb
 obtain rfl:ca = #[.slice ap0 an0 aq0,.int .i64 x1,.bool x2]:=cA ahcs
 obtain rfl:cb = #[.slice bp0 bn0 bq0,.int .i64 x1,.bool x2]:=cA bhcs
 clear ahcs bhcs
 go_enter Tryz.func223,Tryz.ntmps223
 go_wp2_with fail
 refine (aA2 _ _ _ _ _ _ x0 _ (by exact as0.below bO) (by exact bs0.below bO)).mono ?_
 rintro e w90 ⟨rfl,b0⟩
 obtain ⟨u0,v0⟩:=bR b0
 have y0:=b0.size
 try simp only [World.size_alloc,World.size_setCell] at u0 v0 y0
 have yy00:w.heap.size < w90.heap.size:=aP
 have yy01:w.heap.size + 1 < w90.heap.size:=aP
 go_wp2
 go_ret
 exact ⟨rfl,bO⟩
end Go.Proofs.YtmfpkkbhnmkfdaaGreat
