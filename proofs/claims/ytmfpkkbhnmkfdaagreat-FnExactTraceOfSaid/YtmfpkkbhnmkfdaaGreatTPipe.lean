/- The laws' own helpers over Pipe: copy, compare, count, mark, look at the marks. -/
import Derived.Test.YtmfpkkbhnmkfdaaGreatTPair
import Derived.Test.YtmfpkkbhnmkfdaaGreatTQueue
import Derived.Test.YtmfpkkbhnmkfdaaGreatTStage
namespace Go.Proofs.YtmfpkkbhnmkfdaaGreat
open Go.ChangeShapes Go.WideShapes Go.ChangeAt Go.RowKit
set_option linter.unusedVariables false
set_option linter.unusedSimpArgs false
theorem aHB {w:World} {cs:List Value} {x0:Ty.D (.slice 126 aI)} {x1:Ty.D (.slice 121 aA)} {x2:Ty.D (.slice 157 aE)} {x3:Ty.D (.slice 157 aE)} (h:rd aF w cs (x0,(x1,(x2,x3)))) :
  ∃ p0 n0 q0 p1 n1 q1 p2 n2 q2 p3 n3 q3,cs = [.slice p0 n0 q0,.slice p1 n1 q1,.slice p2 n2 q2,.slice p3 n3 q3]∧cM (Ty.n aI) (rd aI w) w p0 n0 q0 x0∧cM (Ty.n aA) (rd aA w) w p1 n1 q1 x1∧cM (Ty.n aE) (rd aE w) w p2 n2 q2 x2∧cM (Ty.n aE) (rd aE w) w p3 n3 q3 x3:=by
 obtain ⟨_,_,hcs,⟨p0,n0,q0,rfl,s0⟩,⟨_,_,rfl,⟨p1,n1,q1,rfl,s1⟩,⟨_,_,rfl,⟨p2,n2,q2,rfl,s2⟩,⟨p3,n3,q3,rfl,s3⟩⟩⟩⟩:=h
 exact ⟨_,_,_,_,_,_,_,_,_,_,_,_,hcs,s0,s1,s2,s3⟩
set_option maxHeartbeats 1000000 in
set_option maxRecDepth 100000 in
theorem uX (cs:Array Value) (d:aF.D) (w:World) (h:rd aF w cs.toList d) (hz:aW aF d≤1048576) :
  Calls Tryz.prog 13 #[.agg cs] w (yY aF w d):=by
 obtain ⟨x0,⟨x1,⟨x2,x3⟩⟩⟩:=d
 obtain ⟨p0,n0,q0,p1,n1,q1,p2,n2,q2,p3,n3,q3,hcs,s0,s1,s2,s3⟩:=aHB h
 obtain rfl:cs = #[.slice p0 n0 q0,.slice p1 n1 q1,.slice p2 n2 q2,.slice p3 n3 q3]:=cA hcs
 have z0:aW (.slice 126 aI) x0≤1048576:=by simp only [aW] at hz ⊢;omega
 have z1:aW (.slice 121 aA) x1≤1048576:=by simp only [aW] at hz ⊢;omega
 have z2:aW (.slice 157 aE) x2≤1048576:=by simp only [aW] at hz ⊢;omega
 have z3:aW (.slice 157 aE) x3≤1048576:=by simp only [aW] at hz ⊢;omega
 clear hz hcs
 go_enter Tryz.func13,Tryz.ntmps13
 go_wp2_with fail
 refine (aN9 _ _ _ x0 _ (by exact s0.below bO) z0).mono ?_
 rintro e w90 ⟨r0,rc0,rfl,f0,b0⟩
 obtain ⟨u0,v0⟩:=bR b0
 have y0:=b0.size
 simp only [World.size_alloc,World.size_setCell] at u0 v0 y0
 have yy00:w.heap.size < w90.heap.size:=aP
 have yy01:w.heap.size + 1 < w90.heap.size:=aP
 have yy02:w.heap.size + 1 + 1 < w90.heap.size:=aP
 go_wp2_with fail
 refine (aKQ _ _ _ x1 _ (by exact s1.below bO) z1).mono ?_
 rintro e w91 ⟨r1,rc1,rfl,f1,b1⟩
 obtain ⟨u1,v1⟩:=bR b1
 have y1:=b1.size
 simp only [World.size_alloc,World.size_setCell] at u1 v1 y1
 have yy10:w.heap.size < w91.heap.size:=aP
 have yy11:w.heap.size + 1 < w91.heap.size:=aP
 have yy12:w.heap.size + 1 + 1 < w91.heap.size:=aP
 go_wp2_with fail
 refine (aBK _ _ _ x2 _ (by exact s2.below bO) z2).mono ?_
 rintro e w92 ⟨r2,rc2,rfl,f2,b2⟩
 obtain ⟨u2,v2⟩:=bR b2
 have y2:=b2.size
 simp only [World.size_alloc,World.size_setCell] at u2 v2 y2
 have yy20:w.heap.size < w92.heap.size:=aP
 have yy21:w.heap.size + 1 < w92.heap.size:=aP
 have yy22:w.heap.size + 1 + 1 < w92.heap.size:=aP
 go_wp2_with fail
 refine (aBK _ _ _ x3 _ (by exact s3.below bO) z3).mono ?_
 rintro e w93 ⟨r3,rc3,rfl,f3,b3⟩
 obtain ⟨u3,v3⟩:=bR b3
 have y3:=b3.size
 simp only [World.size_alloc,World.size_setCell] at u3 v3 y3
 have yy30:w.heap.size < w93.heap.size:=aP
 have yy31:w.heap.size + 1 < w93.heap.size:=aP
 have yy32:w.heap.size + 1 + 1 < w93.heap.size:=aP
 go_wp2
 refine bodyPost_ret (v:=.agg #[.slice r0 (List.length x0) rc0,.slice r1 (List.length x1) rc1,.slice r2 (List.length x2) rc2,.slice r3 (List.length x3) rc3]) (by simp [results,Tryz.results13,go_sem,u0,yy00,yy01,yy02,u1,yy10,yy11,yy12,u2,yy20,yy21,yy22,u3,yy30,yy31,yy32]) rfl ⟨_,rfl,?_,?_⟩
 ·refine aR.pair (c1:=[_]) (c2:=[_,_,_]) (mid:=w90.heap.size) ?_ ?_ aP aP
  ·refine aR.mono (lo:=w.heap.size + 1 + 1 + 1) (hi:=w90.heap.size) ?_ aP aP aP
   (repeat' first | refine aR.set1 ?_ aP _ | refine aR.alloc ?_ _)
   refine aR.below ?_ b3 aP
   (repeat' first | refine aR.set1 ?_ aP _ | refine aR.alloc ?_ _)
   refine aR.below ?_ b2 aP
   (repeat' first | refine aR.set1 ?_ aP _ | refine aR.alloc ?_ _)
   refine aR.below ?_ b1 aP
   (repeat' first | refine aR.set1 ?_ aP _ | refine aR.alloc ?_ _)
   exact f0.mono aP (Nat.le_refl _) (Nat.le_refl _)
  ·refine aR.pair (c1:=[_]) (c2:=[_,_]) (mid:=w91.heap.size) ?_ ?_ aP aP
   ·refine aR.mono (lo:=w90.heap.size) (hi:=w91.heap.size) ?_ aP aP aP
    (repeat' first | refine aR.set1 ?_ aP _ | refine aR.alloc ?_ _)
    refine aR.below ?_ b3 aP
    (repeat' first | refine aR.set1 ?_ aP _ | refine aR.alloc ?_ _)
    refine aR.below ?_ b2 aP
    (repeat' first | refine aR.set1 ?_ aP _ | refine aR.alloc ?_ _)
    exact f1.mono aP (Nat.le_refl _) (Nat.le_refl _)
   ·refine aR.pair (c1:=[_]) (c2:=[_]) (mid:=w92.heap.size) ?_ ?_ aP aP
    ·refine aR.mono (lo:=w91.heap.size) (hi:=w92.heap.size) ?_ aP aP aP
     (repeat' first | refine aR.set1 ?_ aP _ | refine aR.alloc ?_ _)
     refine aR.below ?_ b3 aP
     (repeat' first | refine aR.set1 ?_ aP _ | refine aR.alloc ?_ _)
     exact f2.mono aP (Nat.le_refl _) (Nat.le_refl _)
    ·refine aR.mono (lo:=w92.heap.size) (hi:=w93.heap.size) ?_ aP aP aP
     (repeat' first | refine aR.set1 ?_ aP _ | refine aR.alloc ?_ _)
     exact f3.mono aP (Nat.le_refl _) (Nat.le_refl _)
 ·exact bO
set_option maxHeartbeats 1000000 in
set_option maxRecDepth 100000 in
theorem aH6 (ca:Array Value) (d:aF.D) (left:Int) (w:World) (ha:rd aF w ca.toList d) (h0:0≤left) (h2:left≤9223372036854775807) :
  Calls Tryz.prog 11 #[.agg ca,.int .i64 left] w (dO (.int .i64 (gM left (aW aF d))) w):=by
 obtain ⟨x0,⟨x1,⟨x2,x3⟩⟩⟩:=d
 obtain ⟨ap0,an0,aq0,ap1,an1,aq1,ap2,an2,aq2,ap3,an3,aq3,ahcs,as0,as1,as2,as3⟩:=aHB ha
 obtain rfl:ca = #[.slice ap0 an0 aq0,.slice ap1 an1 aq1,.slice ap2 an2 aq2,.slice ap3 an3 aq3]:=cA ahcs
 clear ahcs
 have e0:aW aF (x0,(x1,(x2,x3))) = aW (.slice 126 aI) x0 + aW (.slice 121 aA) x1 + aW (.slice 157 aE) x2 + aW (.slice 157 aE) x3:=by first | rfl | (simp only [aW];omega)
 have HS:Hid (aW aF (x0,(x1,(x2,x3))) = aW (.slice 126 aI) x0 + aW (.slice 121 aA) x1 + aW (.slice 157 aE) x2 + aW (.slice 157 aE) x3):=e0.trans (by rfl)
 clear e0
 by_cases hf0:((aW (.slice 126 aI) x0:Nat):Int)≤left
 rotate_left
 ·go_enter Tryz.func11,Tryz.ntmps11
  go_wp2_with fail
  refine (aT0 _ _ _ x0 _ _ (by exact as0.below bO) (by omega) (by omega) (by omega)).mono ?_
  rintro e w90 ⟨rfl,b0⟩
  obtain ⟨u0,v0⟩:=bR b0
  have y0:=b0.size
  try simp only [World.size_alloc,World.size_setCell] at u0 v0 y0
  have yy00:w.heap.size < w90.heap.size:=aP
  go_wp2
  go_ret
  exact ⟨bH (by (first | rw [HS.out] | skip);unfold gM;rw [if_neg (by omega)]),bO⟩
 by_cases hf1:((aW (.slice 121 aA) x1:Nat):Int)≤left - (aW (.slice 126 aI) x0:Nat)
 rotate_left
 ·go_enter Tryz.func11,Tryz.ntmps11
  go_wp2_with fail
  refine (tU _ _ _ x0 _ _ (by exact as0.below bO) (by omega) (by omega) (by omega)).mono ?_
  rintro e w90 ⟨rfl,b0⟩
  obtain ⟨u0,v0⟩:=bR b0
  have y0:=b0.size
  try simp only [World.size_alloc,World.size_setCell] at u0 v0 y0
  have yy00:w.heap.size < w90.heap.size:=aP
  go_wp2_with fail
  refine (aNR _ _ _ x1 _ _ (by exact as1.below bO) (by omega) (by omega) (by omega)).mono ?_
  rintro e w91 ⟨rfl,b1⟩
  obtain ⟨u1,v1⟩:=bR b1
  have y1:=b1.size
  try simp only [World.size_alloc,World.size_setCell] at u1 v1 y1
  have yy10:w.heap.size < w91.heap.size:=aP
  go_wp2
  go_ret
  exact ⟨bH (by (first | rw [HS.out] | skip);unfold gM;rw [if_neg (by omega)]),bO⟩
 by_cases hf2:((aW (.slice 157 aE) x2:Nat):Int)≤left - (aW (.slice 126 aI) x0:Nat) - (aW (.slice 121 aA) x1:Nat)
 rotate_left
 ·go_enter Tryz.func11,Tryz.ntmps11
  go_wp2_with fail
  refine (tU _ _ _ x0 _ _ (by exact as0.below bO) (by omega) (by omega) (by omega)).mono ?_
  rintro e w90 ⟨rfl,b0⟩
  obtain ⟨u0,v0⟩:=bR b0
  have y0:=b0.size
  try simp only [World.size_alloc,World.size_setCell] at u0 v0 y0
  have yy00:w.heap.size < w90.heap.size:=aP
  go_wp2_with fail
  refine (wT _ _ _ x1 _ _ (by exact as1.below bO) (by omega) (by omega) (by omega)).mono ?_
  rintro e w91 ⟨rfl,b1⟩
  obtain ⟨u1,v1⟩:=bR b1
  have y1:=b1.size
  try simp only [World.size_alloc,World.size_setCell] at u1 v1 y1
  have yy10:w.heap.size < w91.heap.size:=aP
  go_wp2_with fail
  refine (aDV _ _ _ x2 _ _ (by exact as2.below bO) (by omega) (by omega) (by omega)).mono ?_
  rintro e w92 ⟨rfl,b2⟩
  obtain ⟨u2,v2⟩:=bR b2
  have y2:=b2.size
  try simp only [World.size_alloc,World.size_setCell] at u2 v2 y2
  have yy20:w.heap.size < w92.heap.size:=aP
  go_wp2
  go_ret
  exact ⟨bH (by (first | rw [HS.out] | skip);unfold gM;rw [if_neg (by omega)]),bO⟩
 by_cases hf3:((aW (.slice 157 aE) x3:Nat):Int)≤left - (aW (.slice 126 aI) x0:Nat) - (aW (.slice 121 aA) x1:Nat) - (aW (.slice 157 aE) x2:Nat)
 rotate_left
 ·go_enter Tryz.func11,Tryz.ntmps11
  go_wp2_with fail
  refine (tU _ _ _ x0 _ _ (by exact as0.below bO) (by omega) (by omega) (by omega)).mono ?_
  rintro e w90 ⟨rfl,b0⟩
  obtain ⟨u0,v0⟩:=bR b0
  have y0:=b0.size
  try simp only [World.size_alloc,World.size_setCell] at u0 v0 y0
  have yy00:w.heap.size < w90.heap.size:=aP
  go_wp2_with fail
  refine (wT _ _ _ x1 _ _ (by exact as1.below bO) (by omega) (by omega) (by omega)).mono ?_
  rintro e w91 ⟨rfl,b1⟩
  obtain ⟨u1,v1⟩:=bR b1
  have y1:=b1.size
  try simp only [World.size_alloc,World.size_setCell] at u1 v1 y1
  have yy10:w.heap.size < w91.heap.size:=aP
  go_wp2_with fail
  refine (xB _ _ _ x2 _ _ (by exact as2.below bO) (by omega) (by omega) (by omega)).mono ?_
  rintro e w92 ⟨rfl,b2⟩
  obtain ⟨u2,v2⟩:=bR b2
  have y2:=b2.size
  try simp only [World.size_alloc,World.size_setCell] at u2 v2 y2
  have yy20:w.heap.size < w92.heap.size:=aP
  go_wp2_with fail
  refine (aDV _ _ _ x3 _ _ (by exact as3.below bO) (by omega) (by omega) (by omega)).mono ?_
  rintro e w93 ⟨rfl,b3⟩
  obtain ⟨u3,v3⟩:=bR b3
  have y3:=b3.size
  try simp only [World.size_alloc,World.size_setCell] at u3 v3 y3
  have yy30:w.heap.size < w93.heap.size:=aP
  go_wp2
  go_ret
  exact ⟨bH (by (first | rw [HS.out] | skip);unfold gM;rw [if_neg (by omega)]),bO⟩
 go_enter Tryz.func11,Tryz.ntmps11
 go_wp2_with fail
 refine (tU _ _ _ x0 _ _ (by exact as0.below bO) (by omega) (by omega) (by omega)).mono ?_
 rintro e w90 ⟨rfl,b0⟩
 obtain ⟨u0,v0⟩:=bR b0
 have y0:=b0.size
 try simp only [World.size_alloc,World.size_setCell] at u0 v0 y0
 have yy00:w.heap.size < w90.heap.size:=aP
 go_wp2_with fail
 refine (wT _ _ _ x1 _ _ (by exact as1.below bO) (by omega) (by omega) (by omega)).mono ?_
 rintro e w91 ⟨rfl,b1⟩
 obtain ⟨u1,v1⟩:=bR b1
 have y1:=b1.size
 try simp only [World.size_alloc,World.size_setCell] at u1 v1 y1
 have yy10:w.heap.size < w91.heap.size:=aP
 go_wp2_with fail
 refine (xB _ _ _ x2 _ _ (by exact as2.below bO) (by omega) (by omega) (by omega)).mono ?_
 rintro e w92 ⟨rfl,b2⟩
 obtain ⟨u2,v2⟩:=bR b2
 have y2:=b2.size
 try simp only [World.size_alloc,World.size_setCell] at u2 v2 y2
 have yy20:w.heap.size < w92.heap.size:=aP
 go_wp2_with fail
 refine (xB _ _ _ x3 _ _ (by exact as3.below bO) (by omega) (by omega) (by omega)).mono ?_
 rintro e w93 ⟨rfl,b3⟩
 obtain ⟨u3,v3⟩:=bR b3
 have y3:=b3.size
 try simp only [World.size_alloc,World.size_setCell] at u3 v3 y3
 have yy30:w.heap.size < w93.heap.size:=aP
 go_wp2
 go_ret
 exact ⟨bH (by (first | rw [HS.out] | skip);unfold gM;rw [if_pos (by omega)];try omega),bO⟩
theorem aWB (ca:Array Value) (d:aF.D) (left:Int) (w:World) (ha:rd aF w ca.toList d) (h0:0≤left) (h2:left≤9223372036854775807) (h:((aW aF d:Nat):Int)≤left) :
  Calls Tryz.prog 11 #[.agg ca,.int .i64 left] w (dO (.int .i64 (left - (aW aF d:Nat))) w):=by
 have:=aH6 ca d left w ha h0 h2
 rwa [jL h] at this
theorem aW8 (ca:Array Value) (d:aF.D) (left:Int) (w:World) (ha:rd aF w ca.toList d) (h0:0≤left) (h2:left≤9223372036854775807) (h:¬ ((aW aF d:Nat):Int)≤left) :
  Calls Tryz.prog 11 #[.agg ca,.int .i64 left] w (dO (.int .i64 (-1)) w):=by
 have:=aH6 ca d left w ha h0 h2
 rwa [jN h] at this
set_option maxHeartbeats 1000000 in
set_option maxRecDepth 100000 in
theorem aS2 (ca cb:Array Value) (d:aF.D) (w:World) (ha:rd aF w ca.toList d) (hb:rd aF w cb.toList d) :
  Calls Tryz.prog 17 #[.agg ca,.agg cb] w (dO (.bool true) w):=by
 obtain ⟨x0,⟨x1,⟨x2,x3⟩⟩⟩:=d
 obtain ⟨ap0,an0,aq0,ap1,an1,aq1,ap2,an2,aq2,ap3,an3,aq3,ahcs,as0,as1,as2,as3⟩:=aHB ha
 obtain ⟨bp0,bn0,bq0,bp1,bn1,bq1,bp2,bn2,bq2,bp3,bn3,bq3,bhcs,bs0,bs1,bs2,bs3⟩:=aHB hb
 obtain rfl:ca = #[.slice ap0 an0 aq0,.slice ap1 an1 aq1,.slice ap2 an2 aq2,.slice ap3 an3 aq3]:=cA ahcs
 obtain rfl:cb = #[.slice bp0 bn0 bq0,.slice bp1 bn1 bq1,.slice bp2 bn2 bq2,.slice bp3 bn3 bq3]:=cA bhcs
 clear ahcs bhcs
 go_enter Tryz.func17,Tryz.ntmps17
 go_wp2_with fail
 refine (aOI _ _ _ _ _ _ x0 _ (by exact as0.below bO) (by exact bs0.below bO)).mono ?_
 rintro e w90 ⟨rfl,b0⟩
 obtain ⟨u0,v0⟩:=bR b0
 have y0:=b0.size
 try simp only [World.size_alloc,World.size_setCell] at u0 v0 y0
 have yy00:w.heap.size < w90.heap.size:=aP
 have yy01:w.heap.size + 1 < w90.heap.size:=aP
 go_wp2_with fail
 refine (aK8 _ _ _ _ _ _ x1 _ (by exact as1.below bO) (by exact bs1.below bO)).mono ?_
 rintro e w91 ⟨rfl,b1⟩
 obtain ⟨u1,v1⟩:=bR b1
 have y1:=b1.size
 try simp only [World.size_alloc,World.size_setCell] at u1 v1 y1
 have yy10:w.heap.size < w91.heap.size:=aP
 have yy11:w.heap.size + 1 < w91.heap.size:=aP
 go_wp2_with fail
 refine (aBC _ _ _ _ _ _ x2 _ (by exact as2.below bO) (by exact bs2.below bO)).mono ?_
 rintro e w92 ⟨rfl,b2⟩
 obtain ⟨u2,v2⟩:=bR b2
 have y2:=b2.size
 try simp only [World.size_alloc,World.size_setCell] at u2 v2 y2
 have yy20:w.heap.size < w92.heap.size:=aP
 have yy21:w.heap.size + 1 < w92.heap.size:=aP
 go_wp2_with fail
 refine (aBC _ _ _ _ _ _ x3 _ (by exact as3.below bO) (by exact bs3.below bO)).mono ?_
 rintro e w93 ⟨rfl,b3⟩
 obtain ⟨u3,v3⟩:=bR b3
 have y3:=b3.size
 try simp only [World.size_alloc,World.size_setCell] at u3 v3 y3
 have yy30:w.heap.size < w93.heap.size:=aP
 have yy31:w.heap.size + 1 < w93.heap.size:=aP
 go_wp2
 go_ret
 exact ⟨rfl,bO⟩
end Go.Proofs.YtmfpkkbhnmkfdaaGreat
