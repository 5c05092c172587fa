/- TConfig: lemmas. No conditions. -/
import Derived.Test.YtmfpkkbhnmkfdaaGreatBools
import Derived.Test.YtmfpkkbhnmkfdaaGreatTModel
namespace Go.Proofs.YtmfpkkbhnmkfdaaGreat
set_option maxRecDepth 100000
open Go.ChangeShapes Go.WideShapes Go.ChangeAt Go.RowKit
set_option linter.unusedVariables false
set_option linter.unusedSimpArgs false
theorem aBY {w:World} {cs:List Value} {x0:Ty.D (.slice 219 bD)} {x1:Ty.D aB} {x2:Ty.D fG} {x3:Ty.D bW} {x4:Ty.D aB} {x5:Ty.D aB} (h:rd aC w cs (x0,(x1,(x2,(x3,(x4,x5)))))) :
  ∃ p0 n0 q0 p1 n1 q1 p3 n3 q3 p4 n4 q4 p5 n5 q5,cs=[.slice p0 n0 q0,.slice p1 n1 q1,.int .i64 x2,.slice p3 n3 q3,.slice p4 n4 q4,.slice p5 n5 q5]∧dY (Ty.n bD) (rd bD w) w p0 n0 q0 x0∧dY (Ty.n fG) (rd fG w) w p1 n1 q1 x1∧(Lit.int .i64 x2).wf=true∧dY (Ty.n .bool) (rd .bool w) w p3 n3 q3 x3∧dY (Ty.n fG) (rd fG w) w p4 n4 q4 x4∧dY (Ty.n fG) (rd fG w) w p5 n5 q5 x5:=by
 obtain ⟨_,_,hcs,⟨p0,n0,q0,rfl,s0⟩,⟨_,_,rfl,⟨p1,n1,q1,rfl,s1⟩,⟨_,_,rfl,⟨rfl,w2⟩,⟨_,_,rfl,⟨p3,n3,q3,rfl,s3⟩,⟨_,_,rfl,⟨p4,n4,q4,rfl,s4⟩,⟨p5,n5,q5,rfl,s5⟩⟩⟩⟩⟩⟩:=h
 exact ⟨_,_,_,_,_,_,_,_,_,_,_,_,_,_,_,hcs,s0,s1,w2,s3,s4,s5⟩
set_option maxHeartbeats 1000000 in
theorem fH (cs:Array Value) (d:aC.D) (w:World) (h:rd aC w cs.toList d) (hz:aY aC d≤1048576) :
  Calls Tryz.prog 26 #[.agg cs] w (bCA aC w d):=by
 obtain ⟨x0,⟨x1,⟨x2,⟨x3,⟨x4,x5⟩⟩⟩⟩⟩:=d
 obtain ⟨p0,n0,q0,p1,n1,q1,p3,n3,q3,p4,n4,q4,p5,n5,q5,hcs,s0,s1,w2,s3,s4,s5⟩:=aBY h
 obtain rfl:cs = #[.slice p0 n0 q0,.slice p1 n1 q1,.int .i64 x2,.slice p3 n3 q3,.slice p4 n4 q4,.slice p5 n5 q5]:=dZ hcs
 have z0:aY aE x0≤1048576:=by simp only[aY] at hz ⊢;omega
 have z1:aY aB x1≤1048576:=by simp only[aY] at hz ⊢;omega
 have z3:aY bW x3≤1048576:=by simp only[aY] at hz ⊢;omega
 have z4:aY aB x4≤1048576:=by simp only[aY] at hz ⊢;omega
 have z5:aY aB x5≤1048576:=by simp only[aY] at hz ⊢;omega
 clear hz hcs
 go_enter Tryz.func26,Tryz.ntmps26
 go_wp2_with fail
 refine (aWV _ x0 _ (by exact ⟨_,_,_,rfl,s0.below cP⟩) z0).mono ?_
 rintro e w90 ⟨cs0,rfl,f0,b0⟩
 obtain ⟨u0,v0⟩:=dK b0
 have y0:=b0.size
 simp only[rF] at u0 v0 y0
 have yy00:w.heap.size<w90.heap.size:=aN
 have yy01:w.heap.size+1<w90.heap.size:=aN
 have yy02:w.heap.size+1+1<w90.heap.size:=aN
 have rr0:=f0.rd
 obtain ⟨c0p0,c0n0,c0q0,hcs0,c0s0⟩:=rr0
 obtain rfl:cs0 = #[.slice c0p0 c0n0 c0q0]:=dZ hcs0
 clear hcs0
 go_wp2_with fail
 refine (pI _ _ _ x1 _ (by exact s1.below cP) (by simp only[bZ] at z1;omega)).mono ?_
 rintro e w91 ⟨r1,rc1,rfl,f1,b1⟩
 obtain ⟨u1,v1⟩:=dK b1
 have y1:=b1.size
 simp only[rF] at u1 v1 y1
 have yy10:w.heap.size<w91.heap.size:=aN
 have yy11:w.heap.size+1<w91.heap.size:=aN
 have yy12:w.heap.size+1+1<w91.heap.size:=aN
 go_wp2_with fail
 refine (aUF _ _ _ x3 _ (by exact s3.below cP) (by simp only[bZ] at z3;omega)).mono ?_
 rintro e w93 ⟨r3,rc3,rfl,f3,b3⟩
 obtain ⟨u3,v3⟩:=dK b3
 have y3:=b3.size
 simp only[rF] at u3 v3 y3
 have yy30:w.heap.size<w93.heap.size:=aN
 have yy31:w.heap.size+1<w93.heap.size:=aN
 have yy32:w.heap.size+1+1<w93.heap.size:=aN
 go_wp2_with fail
 refine (pI _ _ _ x4 _ (by exact s4.below cP) (by simp only[bZ] at z4;omega)).mono ?_
 rintro e w94 ⟨r4,rc4,rfl,f4,b4⟩
 obtain ⟨u4,v4⟩:=dK b4
 have y4:=b4.size
 simp only[rF] at u4 v4 y4
 have yy40:w.heap.size<w94.heap.size:=aN
 have yy41:w.heap.size+1<w94.heap.size:=aN
 have yy42:w.heap.size+1+1<w94.heap.size:=aN
 go_wp2_with fail
 refine (pI _ _ _ x5 _ (by exact s5.below cP) (by simp only[bZ] at z5;omega)).mono ?_
 rintro e w95 ⟨r5,rc5,rfl,f5,b5⟩
 obtain ⟨u5,v5⟩:=dK b5
 have y5:=b5.size
 simp only[rF] at u5 v5 y5
 have yy50:w.heap.size<w95.heap.size:=aN
 have yy51:w.heap.size+1<w95.heap.size:=aN
 have yy52:w.heap.size+1+1<w95.heap.size:=aN
 go_wp2
 refine bodyPost_ret (v:=.agg #[.slice c0p0 c0n0 c0q0,.slice r1 (List.length x1) rc1,.int .i64 x2,.slice r3 (List.length x3) rc3,.slice r4 (List.length x4) rc4,.slice r5 (List.length x5) rc5]) (by simp[results,Tryz.results26,go_sem,u0,yy00,yy01,yy02,u1,yy10,yy11,yy12,u3,yy30,yy31,yy32,u4,yy40,yy41,yy42,u5,yy50,yy51,yy52]) rfl ⟨_,rfl,?_,?_⟩
 ·refine bU.bP9 (c1:=[_]) (c2:=[_,_,_,_,_]) (mid:=w90.heap.size) ?_ ?_ aN aN
  ·refine bU.mono (lo:=w.heap.size+1+1+1) (hi:=w90.heap.size) ?_ aN aN aN
   (repeat' first|refine bU.set1 ?_ aN _|refine bU.alloc ?_ _)
   refine bU.below ?_ b5 aN
   (repeat' first|refine bU.set1 ?_ aN _|refine bU.alloc ?_ _)
   refine bU.below ?_ b4 aN
   (repeat' first|refine bU.set1 ?_ aN _|refine bU.alloc ?_ _)
   refine bU.below ?_ b3 aN
   (repeat' first|refine bU.set1 ?_ aN _|refine bU.alloc ?_ _)
   refine bU.below ?_ b1 aN
   (repeat' first|refine bU.set1 ?_ aN _|refine bU.alloc ?_ _)
   exact f0.mono aN (Nat.le_refl _) (Nat.le_refl _)
  ·refine bU.bP9 (c1:=[_]) (c2:=[_,_,_,_]) (mid:=w91.heap.size) ?_ ?_ aN aN
   ·refine bU.mono (lo:=w90.heap.size) (hi:=w91.heap.size) ?_ aN aN aN
    (repeat' first|refine bU.set1 ?_ aN _|refine bU.alloc ?_ _)
    refine bU.below ?_ b5 aN
    (repeat' first|refine bU.set1 ?_ aN _|refine bU.alloc ?_ _)
    refine bU.below ?_ b4 aN
    (repeat' first|refine bU.set1 ?_ aN _|refine bU.alloc ?_ _)
    refine bU.below ?_ b3 aN
    (repeat' first|refine bU.set1 ?_ aN _|refine bU.alloc ?_ _)
    exact f1.mono aN (Nat.le_refl _) (Nat.le_refl _)
   ·refine bU.bP9 (c1:=[_]) (c2:=[_,_,_]) (mid:=w91.heap.size) ?_ ?_ aN aN
    ·exact bU.int w2 aN
    ·refine bU.bP9 (c1:=[_]) (c2:=[_,_]) (mid:=w93.heap.size) ?_ ?_ aN aN
     ·refine bU.mono (lo:=w91.heap.size) (hi:=w93.heap.size) ?_ aN aN aN
      (repeat' first|refine bU.set1 ?_ aN _|refine bU.alloc ?_ _)
      refine bU.below ?_ b5 aN
      (repeat' first|refine bU.set1 ?_ aN _|refine bU.alloc ?_ _)
      refine bU.below ?_ b4 aN
      (repeat' first|refine bU.set1 ?_ aN _|refine bU.alloc ?_ _)
      exact f3.mono aN (Nat.le_refl _) (Nat.le_refl _)
     ·refine bU.bP9 (c1:=[_]) (c2:=[_]) (mid:=w94.heap.size) ?_ ?_ aN aN
      ·refine bU.mono (lo:=w93.heap.size) (hi:=w94.heap.size) ?_ aN aN aN
       (repeat' first|refine bU.set1 ?_ aN _|refine bU.alloc ?_ _)
       refine bU.below ?_ b5 aN
       (repeat' first|refine bU.set1 ?_ aN _|refine bU.alloc ?_ _)
       exact f4.mono aN (Nat.le_refl _) (Nat.le_refl _)
      ·refine bU.mono (lo:=w94.heap.size) (hi:=w95.heap.size) ?_ aN aN aN
       (repeat' first|refine bU.set1 ?_ aN _|refine bU.alloc ?_ _)
       exact f5.mono aN (Nat.le_refl _) (Nat.le_refl _)
 ·exact cP
set_option maxHeartbeats 1000000 in
theorem aGG (ca:Array Value) (d:aC.D) (left:Int) (w:World) (ha:rd aC w ca.toList d) (h0:0≤left) (h2:left≤9223372036854775807) :
  Calls Tryz.prog 23 #[.agg ca,.int .i64 left] w (lK (.int .i64 (szR left (aY aC d))) w):=by
 obtain ⟨x0,⟨x1,⟨x2,⟨x3,⟨x4,x5⟩⟩⟩⟩⟩:=d
 obtain ⟨ap0,an0,aq0,ap1,an1,aq1,ap3,an3,aq3,ap4,an4,aq4,ap5,an5,aq5,ahcs,as0,as1,aw2,as3,as4,as5⟩:=aBY ha
 obtain rfl:ca = #[.slice ap0 an0 aq0,.slice ap1 an1 aq1,.int .i64 x2,.slice ap3 an3 aq3,.slice ap4 an4 aq4,.slice ap5 an5 aq5]:=dZ ahcs
 clear ahcs
 have e0:aY aC (x0,(x1,(x2,(x3,(x4,x5)))))=aY aE x0+aY aB x1+aY bW x3+aY aB x4+aY aB x5:=by first|rfl|(simp only[aY];omega)
 have hl1:aY aB x1=an1:=by rw[as1.lens];exact gZ x1
 have hm1:an1≤maxLen:=Nat.le_trans as1.2.1 as1.2.2.1
 have hl3:aY bW x3=an3:=by rw[as3.lens];exact bG4 x3
 have hm3:an3≤maxLen:=Nat.le_trans as3.2.1 as3.2.2.1
 have hl4:aY aB x4=an4:=by rw[as4.lens];exact gZ x4
 have hm4:an4≤maxLen:=Nat.le_trans as4.2.1 as4.2.2.1
 have hl5:aY aB x5=an5:=by rw[as5.lens];exact gZ x5
 have hm5:an5≤maxLen:=Nat.le_trans as5.2.1 as5.2.2.1
 have HS:Hid (aY aC (x0,(x1,(x2,(x3,(x4,x5)))))=aY aE x0+an1+an3+an4+an5):=e0.trans (by rw[hl1,hl3,hl4,hl5])
 clear e0 hl1 hl3 hl4 hl5
 by_cases hf0:((aY aE x0:Nat):Int)≤left
 rotate_left
 ·go_enter Tryz.func23,Tryz.ntmps23
  go_wp2_with fail
  refine (aZE _ x0 _ _ (by exact ⟨_,_,_,rfl,as0.below cP⟩) (by omega) (by omega) (by omega)).mono ?_
  rintro e w90 ⟨rfl,b0⟩
  obtain ⟨u0,v0⟩:=dK b0
  have y0:=b0.size
  try simp only[rF] at u0 v0 y0
  have yy00:w.heap.size<w90.heap.size:=aN
  go_wp2
  go_ret
  exact ⟨dH (by (first|rw[HS.out]|skip);unfold szR;rw[if_neg (by omega)]),cP⟩
 by_cases hf1:((an1:Nat):Int)≤left - (aY aE x0:Nat)
 rotate_left
 ·go_enter Tryz.func23,Tryz.ntmps23
  go_wp2_with fail
  refine (uJ _ x0 _ _ (by exact ⟨_,_,_,rfl,as0.below cP⟩) (by omega) (by omega) (by omega)).mono ?_
  rintro e w90 ⟨rfl,b0⟩
  obtain ⟨u0,v0⟩:=dK b0
  have y0:=b0.size
  try simp only[rF] at u0 v0 y0
  have yy00:w.heap.size<w90.heap.size:=aN
  go_wp2_with fail
  refine (sA _ _ _ _ _ hm1 (by omega) (by omega) (by omega)).mono ?_
  rintro e w91 ⟨rfl,b1⟩
  obtain ⟨u1,v1⟩:=dK b1
  have y1:=b1.size
  try simp only[rF] at u1 v1 y1
  have yy10:w.heap.size<w91.heap.size:=aN
  go_wp2
  go_ret
  exact ⟨dH (by (first|rw[HS.out]|skip);unfold szR;rw[if_neg (by omega)]),cP⟩
 by_cases hf3:((an3:Nat):Int)≤left - (aY aE x0:Nat) - (an1:Nat)
 rotate_left
 ·go_enter Tryz.func23,Tryz.ntmps23
  go_wp2_with fail
  refine (uJ _ x0 _ _ (by exact ⟨_,_,_,rfl,as0.below cP⟩) (by omega) (by omega) (by omega)).mono ?_
  rintro e w90 ⟨rfl,b0⟩
  obtain ⟨u0,v0⟩:=dK b0
  have y0:=b0.size
  try simp only[rF] at u0 v0 y0
  have yy00:w.heap.size<w90.heap.size:=aN
  go_wp2_with fail
  refine (jV _ _ _ _ _ hm1 (by omega) (by omega) (by omega)).mono ?_
  rintro e w91 ⟨rfl,b1⟩
  obtain ⟨u1,v1⟩:=dK b1
  have y1:=b1.size
  try simp only[rF] at u1 v1 y1
  have yy10:w.heap.size<w91.heap.size:=aN
  go_wp2_with fail
  refine (bAY _ _ _ _ _ hm3 (by omega) (by omega) (by omega)).mono ?_
  rintro e w93 ⟨rfl,b3⟩
  obtain ⟨u3,v3⟩:=dK b3
  have y3:=b3.size
  try simp only[rF] at u3 v3 y3
  have yy30:w.heap.size<w93.heap.size:=aN
  go_wp2
  go_ret
  exact ⟨dH (by (first|rw[HS.out]|skip);unfold szR;rw[if_neg (by omega)]),cP⟩
 by_cases hf4:((an4:Nat):Int)≤left - (aY aE x0:Nat) - (an1:Nat) - (an3:Nat)
 rotate_left
 ·go_enter Tryz.func23,Tryz.ntmps23
  go_wp2_with fail
  refine (uJ _ x0 _ _ (by exact ⟨_,_,_,rfl,as0.below cP⟩) (by omega) (by omega) (by omega)).mono ?_
  rintro e w90 ⟨rfl,b0⟩
  obtain ⟨u0,v0⟩:=dK b0
  have y0:=b0.size
  try simp only[rF] at u0 v0 y0
  have yy00:w.heap.size<w90.heap.size:=aN
  go_wp2_with fail
  refine (jV _ _ _ _ _ hm1 (by omega) (by omega) (by omega)).mono ?_
  rintro e w91 ⟨rfl,b1⟩
  obtain ⟨u1,v1⟩:=dK b1
  have y1:=b1.size
  try simp only[rF] at u1 v1 y1
  have yy10:w.heap.size<w91.heap.size:=aN
  go_wp2_with fail
  refine (aFE _ _ _ _ _ hm3 (by omega) (by omega) (by omega)).mono ?_
  rintro e w93 ⟨rfl,b3⟩
  obtain ⟨u3,v3⟩:=dK b3
  have y3:=b3.size
  try simp only[rF] at u3 v3 y3
  have yy30:w.heap.size<w93.heap.size:=aN
  go_wp2_with fail
  refine (sA _ _ _ _ _ hm4 (by omega) (by omega) (by omega)).mono ?_
  rintro e w94 ⟨rfl,b4⟩
  obtain ⟨u4,v4⟩:=dK b4
  have y4:=b4.size
  try simp only[rF] at u4 v4 y4
  have yy40:w.heap.size<w94.heap.size:=aN
  go_wp2
  go_ret
  exact ⟨dH (by (first|rw[HS.out]|skip);unfold szR;rw[if_neg (by omega)]),cP⟩
 by_cases hf5:((an5:Nat):Int)≤left - (aY aE x0:Nat) - (an1:Nat) - (an3:Nat) - (an4:Nat)
 rotate_left
 ·go_enter Tryz.func23,Tryz.ntmps23
  go_wp2_with fail
  refine (uJ _ x0 _ _ (by exact ⟨_,_,_,rfl,as0.below cP⟩) (by omega) (by omega) (by omega)).mono ?_
  rintro e w90 ⟨rfl,b0⟩
  obtain ⟨u0,v0⟩:=dK b0
  have y0:=b0.size
  try simp only[rF] at u0 v0 y0
  have yy00:w.heap.size<w90.heap.size:=aN
  go_wp2_with fail
  refine (jV _ _ _ _ _ hm1 (by omega) (by omega) (by omega)).mono ?_
  rintro e w91 ⟨rfl,b1⟩
  obtain ⟨u1,v1⟩:=dK b1
  have y1:=b1.size
  try simp only[rF] at u1 v1 y1
  have yy10:w.heap.size<w91.heap.size:=aN
  go_wp2_with fail
  refine (aFE _ _ _ _ _ hm3 (by omega) (by omega) (by omega)).mono ?_
  rintro e w93 ⟨rfl,b3⟩
  obtain ⟨u3,v3⟩:=dK b3
  have y3:=b3.size
  try simp only[rF] at u3 v3 y3
  have yy30:w.heap.size<w93.heap.size:=aN
  go_wp2_with fail
  refine (jV _ _ _ _ _ hm4 (by omega) (by omega) (by omega)).mono ?_
  rintro e w94 ⟨rfl,b4⟩
  obtain ⟨u4,v4⟩:=dK b4
  have y4:=b4.size
  try simp only[rF] at u4 v4 y4
  have yy40:w.heap.size<w94.heap.size:=aN
  go_wp2_with fail
  refine (sA _ _ _ _ _ hm5 (by omega) (by omega) (by omega)).mono ?_
  rintro e w95 ⟨rfl,b5⟩
  obtain ⟨u5,v5⟩:=dK b5
  have y5:=b5.size
  try simp only[rF] at u5 v5 y5
  have yy50:w.heap.size<w95.heap.size:=aN
  go_wp2
  go_ret
  exact ⟨dH (by (first|rw[HS.out]|skip);unfold szR;rw[if_neg (by omega)]),cP⟩
 go_enter Tryz.func23,Tryz.ntmps23
 go_wp2_with fail
 refine (uJ _ x0 _ _ (by exact ⟨_,_,_,rfl,as0.below cP⟩) (by omega) (by omega) (by omega)).mono ?_
 rintro e w90 ⟨rfl,b0⟩
 obtain ⟨u0,v0⟩:=dK b0
 have y0:=b0.size
 try simp only[rF] at u0 v0 y0
 have yy00:w.heap.size<w90.heap.size:=aN
 go_wp2_with fail
 refine (jV _ _ _ _ _ hm1 (by omega) (by omega) (by omega)).mono ?_
 rintro e w91 ⟨rfl,b1⟩
 obtain ⟨u1,v1⟩:=dK b1
 have y1:=b1.size
 try simp only[rF] at u1 v1 y1
 have yy10:w.heap.size<w91.heap.size:=aN
 go_wp2_with fail
 refine (aFE _ _ _ _ _ hm3 (by omega) (by omega) (by omega)).mono ?_
 rintro e w93 ⟨rfl,b3⟩
 obtain ⟨u3,v3⟩:=dK b3
 have y3:=b3.size
 try simp only[rF] at u3 v3 y3
 have yy30:w.heap.size<w93.heap.size:=aN
 go_wp2_with fail
 refine (jV _ _ _ _ _ hm4 (by omega) (by omega) (by omega)).mono ?_
 rintro e w94 ⟨rfl,b4⟩
 obtain ⟨u4,v4⟩:=dK b4
 have y4:=b4.size
 try simp only[rF] at u4 v4 y4
 have yy40:w.heap.size<w94.heap.size:=aN
 go_wp2_with fail
 refine (jV _ _ _ _ _ hm5 (by omega) (by omega) (by omega)).mono ?_
 rintro e w95 ⟨rfl,b5⟩
 obtain ⟨u5,v5⟩:=dK b5
 have y5:=b5.size
 try simp only[rF] at u5 v5 y5
 have yy50:w.heap.size<w95.heap.size:=aN
 go_wp2
 go_ret
 exact ⟨dH (by (first|rw[HS.out]|skip);unfold szR;rw[if_pos (by omega)];try omega),cP⟩
theorem nQ (ca:Array Value) (d:aC.D) (left:Int) (w:World) (ha:rd aC w ca.toList d) (h0:0≤left) (h2:left≤9223372036854775807) (h:((aY aC d:Nat):Int)≤left) :
  Calls Tryz.prog 23 #[.agg ca,.int .i64 left] w (lK (.int .i64 (left - (aY aC d:Nat))) w):=by
 have:=aGG ca d left w ha h0 h2
 rwa [vQ h] at this
theorem aBV (ca:Array Value) (d:aC.D) (left:Int) (w:World) (ha:rd aC w ca.toList d) (h0:0≤left) (h2:left≤9223372036854775807) (h:¬ ((aY aC d:Nat):Int)≤left) :
  Calls Tryz.prog 23 #[.agg ca,.int .i64 left] w (lK (.int .i64 (-1)) w):=by
 have:=aGG ca d left w ha h0 h2
 rwa [vO h] at this
set_option maxHeartbeats 1000000 in
theorem zH (ca cb:Array Value) (d:aC.D) (w:World) (ha:rd aC w ca.toList d) (hb:rd aC w cb.toList d) :
  Calls Tryz.prog 30 #[.agg ca,.agg cb] w (lK (.bool true) w):=by
 obtain ⟨x0,⟨x1,⟨x2,⟨x3,⟨x4,x5⟩⟩⟩⟩⟩:=d
 obtain ⟨ap0,an0,aq0,ap1,an1,aq1,ap3,an3,aq3,ap4,an4,aq4,ap5,an5,aq5,ahcs,as0,as1,aw2,as3,as4,as5⟩:=aBY ha
 obtain ⟨bp0,bn0,bq0,bp1,bn1,bq1,bp3,bn3,bq3,bp4,bn4,bq4,bp5,bn5,bq5,bhcs,bs0,bs1,bw2,bs3,bs4,bs5⟩:=aBY hb
 obtain rfl:ca = #[.slice ap0 an0 aq0,.slice ap1 an1 aq1,.int .i64 x2,.slice ap3 an3 aq3,.slice ap4 an4 aq4,.slice ap5 an5 aq5]:=dZ ahcs
 obtain rfl:cb = #[.slice bp0 bn0 bq0,.slice bp1 bn1 bq1,.int .i64 x2,.slice bp3 bn3 bq3,.slice bp4 bn4 bq4,.slice bp5 bn5 bq5]:=dZ bhcs
 clear ahcs bhcs
 go_enter Tryz.func30,Tryz.ntmps30
 go_wp2_with fail
 refine (aTO _ _ x0 _ (by exact ⟨_,_,_,rfl,as0.below cP⟩) (by exact ⟨_,_,_,rfl,bs0.below cP⟩)).mono ?_
 rintro e w90 ⟨rfl,b0⟩
 obtain ⟨u0,v0⟩:=dK b0
 have y0:=b0.size
 try simp only[rF] at u0 v0 y0
 have yy00:w.heap.size<w90.heap.size:=aN
 have yy01:w.heap.size+1<w90.heap.size:=aN
 go_wp2_with fail
 refine (iY _ _ _ _ _ _ x1 _ (by exact as1.below cP) (by exact bs1.below cP)).mono ?_
 rintro e w91 ⟨rfl,b1⟩
 obtain ⟨u1,v1⟩:=dK b1
 have y1:=b1.size
 try simp only[rF] at u1 v1 y1
 have yy10:w.heap.size<w91.heap.size:=aN
 have yy11:w.heap.size+1<w91.heap.size:=aN
 go_wp2_with fail
 refine (aUS _ _ _ _ _ _ x3 _ (by exact as3.below cP) (by exact bs3.below cP)).mono ?_
 rintro e w93 ⟨rfl,b3⟩
 obtain ⟨u3,v3⟩:=dK b3
 have y3:=b3.size
 try simp only[rF] at u3 v3 y3
 have yy30:w.heap.size<w93.heap.size:=aN
 have yy31:w.heap.size+1<w93.heap.size:=aN
 go_wp2_with fail
 refine (iY _ _ _ _ _ _ x4 _ (by exact as4.below cP) (by exact bs4.below cP)).mono ?_
 rintro e w94 ⟨rfl,b4⟩
 obtain ⟨u4,v4⟩:=dK b4
 have y4:=b4.size
 try simp only[rF] at u4 v4 y4
 have yy40:w.heap.size<w94.heap.size:=aN
 have yy41:w.heap.size+1<w94.heap.size:=aN
 go_wp2_with fail
 refine (iY _ _ _ _ _ _ x5 _ (by exact as5.below cP) (by exact bs5.below cP)).mono ?_
 rintro e w95 ⟨rfl,b5⟩
 obtain ⟨u5,v5⟩:=dK b5
 have y5:=b5.size
 try simp only[rF] at u5 v5 y5
 have yy50:w.heap.size<w95.heap.size:=aN
 have yy51:w.heap.size+1<w95.heap.size:=aN
 go_wp2
 go_ret
 exact ⟨rfl,cP⟩
end Go.Proofs.YtmfpkkbhnmkfdaaGreat
