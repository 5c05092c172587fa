/- TConfig: lemmas. No conditions. -/
import Derived.Test.YtiihghfoeinbbaaGreatBools
import Derived.Test.YtiihghfoeinbbaaGreatTModel
namespace Go.Proofs.YtiihghfoeinbbaaGreat
set_option maxRecDepth 100000
open Go.ChangeShapes Go.WideShapes Go.ChangeAt Go.RowKit
set_option linter.unusedVariables false
set_option linter.unusedSimpArgs false
theorem aB2 {w:World} {cs:List Value} {x0:Ty.D (.slice 146 bA)} {x1:Ty.D aB} {x2:Ty.D fP} {x3:Ty.D bX} {x4:Ty.D aB} {x5:Ty.D aB} (h:rd aC w cs (x0,(x1,(x2,(x3,(x4,x5)))))) :
  ∃ p0 n0 q0 p1 n1 q1 p3 n3 q3 p4 n4 q4 p5 n5 q5,cs=[.slice p0 n0 q0,.slice p1 n1 q1,.int .i64 x2,.slice p3 n3 q3,.slice p4 n4 q4,.slice p5 n5 q5]∧eN (Ty.n bA) (rd bA w) w p0 n0 q0 x0∧eN (Ty.n fP) (rd fP w) w p1 n1 q1 x1∧(Lit.int .i64 x2).wf=true∧eN (Ty.n .bool) (rd .bool w) w p3 n3 q3 x3∧eN (Ty.n fP) (rd fP w) w p4 n4 q4 x4∧eN (Ty.n fP) (rd fP w) w p5 n5 q5 x5:=by
 obtain ⟨_,_,hcs,⟨p0,n0,q0,rfl,s0⟩,⟨_,_,rfl,⟨p1,n1,q1,rfl,s1⟩,⟨_,_,rfl,⟨rfl,w2⟩,⟨_,_,rfl,⟨p3,n3,q3,rfl,s3⟩,⟨_,_,rfl,⟨p4,n4,q4,rfl,s4⟩,⟨p5,n5,q5,rfl,s5⟩⟩⟩⟩⟩⟩:=h
 exact ⟨_,_,_,_,_,_,_,_,_,_,_,_,_,_,_,hcs,s0,s1,w2,s3,s4,s5⟩
set_option maxHeartbeats 1000000 in
theorem qR (cs:Array Value) (d:aC.D) (w:World) (h:rd aC w cs.toList d) (hz:bD aC d≤1048576) :
  Calls Tryz.prog 34 #[.agg cs] w (bB9 aC w d):=by
 obtain ⟨x0,⟨x1,⟨x2,⟨x3,⟨x4,x5⟩⟩⟩⟩⟩:=d
 obtain ⟨p0,n0,q0,p1,n1,q1,p3,n3,q3,p4,n4,q4,p5,n5,q5,hcs,s0,s1,w2,s3,s4,s5⟩:=aB2 h
 obtain rfl:cs = #[.slice p0 n0 q0,.slice p1 n1 q1,.int .i64 x2,.slice p3 n3 q3,.slice p4 n4 q4,.slice p5 n5 q5]:=gL hcs
 have z0:bD aE x0≤1048576:=by simp only[bD] at hz ⊢;omega
 have z1:bD aB x1≤1048576:=by simp only[bD] at hz ⊢;omega
 have z3:bD bX x3≤1048576:=by simp only[bD] at hz ⊢;omega
 have z4:bD aB x4≤1048576:=by simp only[bD] at hz ⊢;omega
 have z5:bD aB x5≤1048576:=by simp only[bD] at hz ⊢;omega
 clear hz hcs
 go_enter Tryz.func34,Tryz.ntmps34
 go_wp2_with fail
 refine (aSX _ x0 _ (by exact ⟨_,_,_,rfl,s0.below dR⟩) z0).mono ?_
 rintro e w90 ⟨cs0,rfl,f0,b0⟩
 obtain ⟨u0,v0⟩:=dL b0
 have y0:=b0.size
 simp only[rY] at u0 v0 y0
 have yy00:w.heap.size<w90.heap.size:=aV
 have yy01:w.heap.size+1<w90.heap.size:=aV
 have yy02:w.heap.size+1+1<w90.heap.size:=aV
 have rr0:=f0.rd
 obtain ⟨c0p0,c0n0,c0q0,hcs0,c0s0⟩:=rr0
 obtain rfl:cs0 = #[.slice c0p0 c0n0 c0q0]:=gL hcs0
 clear hcs0
 go_wp2_with fail
 refine (iZ _ _ _ x1 _ (by exact s1.below dR) (by simp only[bZ] at z1;omega)).mono ?_
 rintro e w91 ⟨r1,rc1,rfl,f1,b1⟩
 obtain ⟨u1,v1⟩:=dL b1
 have y1:=b1.size
 simp only[rY] at u1 v1 y1
 have yy10:w.heap.size<w91.heap.size:=aV
 have yy11:w.heap.size+1<w91.heap.size:=aV
 have yy12:w.heap.size+1+1<w91.heap.size:=aV
 go_wp2_with fail
 refine (aRX _ _ _ x3 _ (by exact s3.below dR) (by simp only[bZ] at z3;omega)).mono ?_
 rintro e w93 ⟨r3,rc3,rfl,f3,b3⟩
 obtain ⟨u3,v3⟩:=dL b3
 have y3:=b3.size
 simp only[rY] at u3 v3 y3
 have yy30:w.heap.size<w93.heap.size:=aV
 have yy31:w.heap.size+1<w93.heap.size:=aV
 have yy32:w.heap.size+1+1<w93.heap.size:=aV
 go_wp2_with fail
 refine (iZ _ _ _ x4 _ (by exact s4.below dR) (by simp only[bZ] at z4;omega)).mono ?_
 rintro e w94 ⟨r4,rc4,rfl,f4,b4⟩
 obtain ⟨u4,v4⟩:=dL b4
 have y4:=b4.size
 simp only[rY] at u4 v4 y4
 have yy40:w.heap.size<w94.heap.size:=aV
 have yy41:w.heap.size+1<w94.heap.size:=aV
 have yy42:w.heap.size+1+1<w94.heap.size:=aV
 go_wp2_with fail
 refine (iZ _ _ _ x5 _ (by exact s5.below dR) (by simp only[bZ] at z5;omega)).mono ?_
 rintro e w95 ⟨r5,rc5,rfl,f5,b5⟩
 obtain ⟨u5,v5⟩:=dL b5
 have y5:=b5.size
 simp only[rY] at u5 v5 y5
 have yy50:w.heap.size<w95.heap.size:=aV
 have yy51:w.heap.size+1<w95.heap.size:=aV
 have yy52:w.heap.size+1+1<w95.heap.size:=aV
 go_wp2
 refine bodyPost_ret (v:=.agg #[.slice c0p0 c0n0 c0q0,.slice r1 (List.length x1) rc1,.int .i64 x2,.slice r3 (List.length x3) rc3,.slice r4 (List.length x4) rc4,.slice r5 (List.length x5) rc5]) (by simp[results,Tryz.results34,go_sem,u0,yy00,yy01,yy02,u1,yy10,yy11,yy12,u3,yy30,yy31,yy32,u4,yy40,yy41,yy42,u5,yy50,yy51,yy52]) rfl ⟨_,rfl,?_,?_⟩
 ·refine bT.bMC (c1:=[_]) (c2:=[_,_,_,_,_]) (mid:=w90.heap.size) ?_ ?_ aV aV
  ·refine bT.mono (lo:=w.heap.size+1+1+1) (hi:=w90.heap.size) ?_ aV aV aV
   (repeat' first|refine bT.set1 ?_ aV _|refine bT.alloc ?_ _)
   refine bT.below ?_ b5 aV
   (repeat' first|refine bT.set1 ?_ aV _|refine bT.alloc ?_ _)
   refine bT.below ?_ b4 aV
   (repeat' first|refine bT.set1 ?_ aV _|refine bT.alloc ?_ _)
   refine bT.below ?_ b3 aV
   (repeat' first|refine bT.set1 ?_ aV _|refine bT.alloc ?_ _)
   refine bT.below ?_ b1 aV
   (repeat' first|refine bT.set1 ?_ aV _|refine bT.alloc ?_ _)
   exact f0.mono aV (Nat.le_refl _) (Nat.le_refl _)
  ·refine bT.bMC (c1:=[_]) (c2:=[_,_,_,_]) (mid:=w91.heap.size) ?_ ?_ aV aV
   ·refine bT.mono (lo:=w90.heap.size) (hi:=w91.heap.size) ?_ aV aV aV
    (repeat' first|refine bT.set1 ?_ aV _|refine bT.alloc ?_ _)
    refine bT.below ?_ b5 aV
    (repeat' first|refine bT.set1 ?_ aV _|refine bT.alloc ?_ _)
    refine bT.below ?_ b4 aV
    (repeat' first|refine bT.set1 ?_ aV _|refine bT.alloc ?_ _)
    refine bT.below ?_ b3 aV
    (repeat' first|refine bT.set1 ?_ aV _|refine bT.alloc ?_ _)
    exact f1.mono aV (Nat.le_refl _) (Nat.le_refl _)
   ·refine bT.bMC (c1:=[_]) (c2:=[_,_,_]) (mid:=w91.heap.size) ?_ ?_ aV aV
    ·exact bT.int w2 aV
    ·refine bT.bMC (c1:=[_]) (c2:=[_,_]) (mid:=w93.heap.size) ?_ ?_ aV aV
     ·refine bT.mono (lo:=w91.heap.size) (hi:=w93.heap.size) ?_ aV aV aV
      (repeat' first|refine bT.set1 ?_ aV _|refine bT.alloc ?_ _)
      refine bT.below ?_ b5 aV
      (repeat' first|refine bT.set1 ?_ aV _|refine bT.alloc ?_ _)
      refine bT.below ?_ b4 aV
      (repeat' first|refine bT.set1 ?_ aV _|refine bT.alloc ?_ _)
      exact f3.mono aV (Nat.le_refl _) (Nat.le_refl _)
     ·refine bT.bMC (c1:=[_]) (c2:=[_]) (mid:=w94.heap.size) ?_ ?_ aV aV
      ·refine bT.mono (lo:=w93.heap.size) (hi:=w94.heap.size) ?_ aV aV aV
       (repeat' first|refine bT.set1 ?_ aV _|refine bT.alloc ?_ _)
       refine bT.below ?_ b5 aV
       (repeat' first|refine bT.set1 ?_ aV _|refine bT.alloc ?_ _)
       exact f4.mono aV (Nat.le_refl _) (Nat.le_refl _)
      ·refine bT.mono (lo:=w94.heap.size) (hi:=w95.heap.size) ?_ aV aV aV
       (repeat' first|refine bT.set1 ?_ aV _|refine bT.alloc ?_ _)
       exact f5.mono aV (Nat.le_refl _) (Nat.le_refl _)
 ·exact dR
set_option maxHeartbeats 1000000 in
theorem aF9 (ca:Array Value) (d:aC.D) (left:Int) (w:World) (ha:rd aC w ca.toList d) (h0:0≤left) (h2:left≤9223372036854775807) :
  Calls Tryz.prog 31 #[.agg ca,.int .i64 left] w (kZ (.int .i64 (szR left (bD aC d))) w):=by
 obtain ⟨x0,⟨x1,⟨x2,⟨x3,⟨x4,x5⟩⟩⟩⟩⟩:=d
 obtain ⟨ap0,an0,aq0,ap1,an1,aq1,ap3,an3,aq3,ap4,an4,aq4,ap5,an5,aq5,ahcs,as0,as1,aw2,as3,as4,as5⟩:=aB2 ha
 obtain rfl:ca = #[.slice ap0 an0 aq0,.slice ap1 an1 aq1,.int .i64 x2,.slice ap3 an3 aq3,.slice ap4 an4 aq4,.slice ap5 an5 aq5]:=gL ahcs
 clear ahcs
 have e0:bD aC (x0,(x1,(x2,(x3,(x4,x5)))))=bD aE x0+bD aB x1+bD bX x3+bD aB x4+bD aB x5:=by first|rfl|(simp only[bD];omega)
 have hl1:bD aB x1=an1:=by rw[as1.lens];exact eA x1
 have hm1:an1≤maxLen:=Nat.le_trans as1.2.1 as1.2.2.1
 have hl3:bD bX x3=an3:=by rw[as3.lens];exact bDH x3
 have hm3:an3≤maxLen:=Nat.le_trans as3.2.1 as3.2.2.1
 have hl4:bD aB x4=an4:=by rw[as4.lens];exact eA x4
 have hm4:an4≤maxLen:=Nat.le_trans as4.2.1 as4.2.2.1
 have hl5:bD aB x5=an5:=by rw[as5.lens];exact eA x5
 have hm5:an5≤maxLen:=Nat.le_trans as5.2.1 as5.2.2.1
 have HS:Hid (bD aC (x0,(x1,(x2,(x3,(x4,x5)))))=bD aE x0+an1+an3+an4+an5):=e0.trans (by rw[hl1,hl3,hl4,hl5])
 clear e0 hl1 hl3 hl4 hl5
 by_cases hf0:((bD aE x0:Nat):Int)≤left
 rotate_left
 ·go_enter Tryz.func31,Tryz.ntmps31
  go_wp2_with fail
  refine (aVN _ x0 _ _ (by exact ⟨_,_,_,rfl,as0.below dR⟩) (by omega) (by omega) (by omega)).mono ?_
  rintro e w90 ⟨rfl,b0⟩
  obtain ⟨u0,v0⟩:=dL b0
  have y0:=b0.size
  try simp only[rY] at u0 v0 y0
  have yy00:w.heap.size<w90.heap.size:=aV
  go_wp2
  go_ret
  exact ⟨dC (by (first|rw[HS.out]|skip);unfold szR;rw[if_neg (by omega)]),dR⟩
 by_cases hf1:((an1:Nat):Int)≤left - (bD aE x0:Nat)
 rotate_left
 ·go_enter Tryz.func31,Tryz.ntmps31
  go_wp2_with fail
  refine (sB _ x0 _ _ (by exact ⟨_,_,_,rfl,as0.below dR⟩) (by omega) (by omega) (by omega)).mono ?_
  rintro e w90 ⟨rfl,b0⟩
  obtain ⟨u0,v0⟩:=dL b0
  have y0:=b0.size
  try simp only[rY] at u0 v0 y0
  have yy00:w.heap.size<w90.heap.size:=aV
  go_wp2_with fail
  refine (rE _ _ _ _ _ hm1 (by omega) (by omega) (by omega)).mono ?_
  rintro e w91 ⟨rfl,b1⟩
  obtain ⟨u1,v1⟩:=dL b1
  have y1:=b1.size
  try simp only[rY] at u1 v1 y1
  have yy10:w.heap.size<w91.heap.size:=aV
  go_wp2
  go_ret
  exact ⟨dC (by (first|rw[HS.out]|skip);unfold szR;rw[if_neg (by omega)]),dR⟩
 by_cases hf3:((an3:Nat):Int)≤left - (bD aE x0:Nat) - (an1:Nat)
 rotate_left
 ·go_enter Tryz.func31,Tryz.ntmps31
  go_wp2_with fail
  refine (sB _ x0 _ _ (by exact ⟨_,_,_,rfl,as0.below dR⟩) (by omega) (by omega) (by omega)).mono ?_
  rintro e w90 ⟨rfl,b0⟩
  obtain ⟨u0,v0⟩:=dL b0
  have y0:=b0.size
  try simp only[rY] at u0 v0 y0
  have yy00:w.heap.size<w90.heap.size:=aV
  go_wp2_with fail
  refine (jL _ _ _ _ _ hm1 (by omega) (by omega) (by omega)).mono ?_
  rintro e w91 ⟨rfl,b1⟩
  obtain ⟨u1,v1⟩:=dL b1
  have y1:=b1.size
  try simp only[rY] at u1 v1 y1
  have yy10:w.heap.size<w91.heap.size:=aV
  go_wp2_with fail
  refine (aZ0 _ _ _ _ _ hm3 (by omega) (by omega) (by omega)).mono ?_
  rintro e w93 ⟨rfl,b3⟩
  obtain ⟨u3,v3⟩:=dL b3
  have y3:=b3.size
  try simp only[rY] at u3 v3 y3
  have yy30:w.heap.size<w93.heap.size:=aV
  go_wp2
  go_ret
  exact ⟨dC (by (first|rw[HS.out]|skip);unfold szR;rw[if_neg (by omega)]),dR⟩
 by_cases hf4:((an4:Nat):Int)≤left - (bD aE x0:Nat) - (an1:Nat) - (an3:Nat)
 rotate_left
 ·go_enter Tryz.func31,Tryz.ntmps31
  go_wp2_with fail
  refine (sB _ x0 _ _ (by exact ⟨_,_,_,rfl,as0.below dR⟩) (by omega) (by omega) (by omega)).mono ?_
  rintro e w90 ⟨rfl,b0⟩
  obtain ⟨u0,v0⟩:=dL b0
  have y0:=b0.size
  try simp only[rY] at u0 v0 y0
  have yy00:w.heap.size<w90.heap.size:=aV
  go_wp2_with fail
  refine (jL _ _ _ _ _ hm1 (by omega) (by omega) (by omega)).mono ?_
  rintro e w91 ⟨rfl,b1⟩
  obtain ⟨u1,v1⟩:=dL b1
  have y1:=b1.size
  try simp only[rY] at u1 v1 y1
  have yy10:w.heap.size<w91.heap.size:=aV
  go_wp2_with fail
  refine (aDI _ _ _ _ _ hm3 (by omega) (by omega) (by omega)).mono ?_
  rintro e w93 ⟨rfl,b3⟩
  obtain ⟨u3,v3⟩:=dL b3
  have y3:=b3.size
  try simp only[rY] at u3 v3 y3
  have yy30:w.heap.size<w93.heap.size:=aV
  go_wp2_with fail
  refine (rE _ _ _ _ _ hm4 (by omega) (by omega) (by omega)).mono ?_
  rintro e w94 ⟨rfl,b4⟩
  obtain ⟨u4,v4⟩:=dL b4
  have y4:=b4.size
  try simp only[rY] at u4 v4 y4
  have yy40:w.heap.size<w94.heap.size:=aV
  go_wp2
  go_ret
  exact ⟨dC (by (first|rw[HS.out]|skip);unfold szR;rw[if_neg (by omega)]),dR⟩
 by_cases hf5:((an5:Nat):Int)≤left - (bD aE x0:Nat) - (an1:Nat) - (an3:Nat) - (an4:Nat)
 rotate_left
 ·go_enter Tryz.func31,Tryz.ntmps31
  go_wp2_with fail
  refine (sB _ x0 _ _ (by exact ⟨_,_,_,rfl,as0.below dR⟩) (by omega) (by omega) (by omega)).mono ?_
  rintro e w90 ⟨rfl,b0⟩
  obtain ⟨u0,v0⟩:=dL b0
  have y0:=b0.size
  try simp only[rY] at u0 v0 y0
  have yy00:w.heap.size<w90.heap.size:=aV
  go_wp2_with fail
  refine (jL _ _ _ _ _ hm1 (by omega) (by omega) (by omega)).mono ?_
  rintro e w91 ⟨rfl,b1⟩
  obtain ⟨u1,v1⟩:=dL b1
  have y1:=b1.size
  try simp only[rY] at u1 v1 y1
  have yy10:w.heap.size<w91.heap.size:=aV
  go_wp2_with fail
  refine (aDI _ _ _ _ _ hm3 (by omega) (by omega) (by omega)).mono ?_
  rintro e w93 ⟨rfl,b3⟩
  obtain ⟨u3,v3⟩:=dL b3
  have y3:=b3.size
  try simp only[rY] at u3 v3 y3
  have yy30:w.heap.size<w93.heap.size:=aV
  go_wp2_with fail
  refine (jL _ _ _ _ _ hm4 (by omega) (by omega) (by omega)).mono ?_
  rintro e w94 ⟨rfl,b4⟩
  obtain ⟨u4,v4⟩:=dL b4
  have y4:=b4.size
  try simp only[rY] at u4 v4 y4
  have yy40:w.heap.size<w94.heap.size:=aV
  go_wp2_with fail
  refine (rE _ _ _ _ _ hm5 (by omega) (by omega) (by omega)).mono ?_
  rintro e w95 ⟨rfl,b5⟩
  obtain ⟨u5,v5⟩:=dL b5
  have y5:=b5.size
  try simp only[rY] at u5 v5 y5
  have yy50:w.heap.size<w95.heap.size:=aV
  go_wp2
  go_ret
  exact ⟨dC (by (first|rw[HS.out]|skip);unfold szR;rw[if_neg (by omega)]),dR⟩
 go_enter Tryz.func31,Tryz.ntmps31
 go_wp2_with fail
 refine (sB _ x0 _ _ (by exact ⟨_,_,_,rfl,as0.below dR⟩) (by omega) (by omega) (by omega)).mono ?_
 rintro e w90 ⟨rfl,b0⟩
 obtain ⟨u0,v0⟩:=dL b0
 have y0:=b0.size
 try simp only[rY] at u0 v0 y0
 have yy00:w.heap.size<w90.heap.size:=aV
 go_wp2_with fail
 refine (jL _ _ _ _ _ hm1 (by omega) (by omega) (by omega)).mono ?_
 rintro e w91 ⟨rfl,b1⟩
 obtain ⟨u1,v1⟩:=dL b1
 have y1:=b1.size
 try simp only[rY] at u1 v1 y1
 have yy10:w.heap.size<w91.heap.size:=aV
 go_wp2_with fail
 refine (aDI _ _ _ _ _ hm3 (by omega) (by omega) (by omega)).mono ?_
 rintro e w93 ⟨rfl,b3⟩
 obtain ⟨u3,v3⟩:=dL b3
 have y3:=b3.size
 try simp only[rY] at u3 v3 y3
 have yy30:w.heap.size<w93.heap.size:=aV
 go_wp2_with fail
 refine (jL _ _ _ _ _ hm4 (by omega) (by omega) (by omega)).mono ?_
 rintro e w94 ⟨rfl,b4⟩
 obtain ⟨u4,v4⟩:=dL b4
 have y4:=b4.size
 try simp only[rY] at u4 v4 y4
 have yy40:w.heap.size<w94.heap.size:=aV
 go_wp2_with fail
 refine (jL _ _ _ _ _ hm5 (by omega) (by omega) (by omega)).mono ?_
 rintro e w95 ⟨rfl,b5⟩
 obtain ⟨u5,v5⟩:=dL b5
 have y5:=b5.size
 try simp only[rY] at u5 v5 y5
 have yy50:w.heap.size<w95.heap.size:=aV
 go_wp2
 go_ret
 exact ⟨dC (by (first|rw[HS.out]|skip);unfold szR;rw[if_pos (by omega)];try omega),dR⟩
theorem aHG (ca:Array Value) (d:aC.D) (left:Int) (w:World) (ha:rd aC w ca.toList d) (h0:0≤left) (h2:left≤9223372036854775807) (h:((bD aC d:Nat):Int)≤left) :
  Calls Tryz.prog 31 #[.agg ca,.int .i64 left] w (kZ (.int .i64 (left - (bD aC d:Nat))) w):=by
 have:=aF9 ca d left w ha h0 h2
 rwa [uO h] at this
theorem aSQ (ca:Array Value) (d:aC.D) (left:Int) (w:World) (ha:rd aC w ca.toList d) (h0:0≤left) (h2:left≤9223372036854775807) (h:¬ ((bD aC d:Nat):Int)≤left) :
  Calls Tryz.prog 31 #[.agg ca,.int .i64 left] w (kZ (.int .i64 (-1)) w):=by
 have:=aF9 ca d left w ha h0 h2
 rwa [uN h] at this
set_option maxHeartbeats 1000000 in
theorem aOQ (ca cb:Array Value) (d:aC.D) (w:World) (ha:rd aC w ca.toList d) (hb:rd aC w cb.toList d) :
  Calls Tryz.prog 39 #[.agg ca,.agg cb] w (kZ (.bool true) w):=by
 obtain ⟨x0,⟨x1,⟨x2,⟨x3,⟨x4,x5⟩⟩⟩⟩⟩:=d
 obtain ⟨ap0,an0,aq0,ap1,an1,aq1,ap3,an3,aq3,ap4,an4,aq4,ap5,an5,aq5,ahcs,as0,as1,aw2,as3,as4,as5⟩:=aB2 ha
 obtain ⟨bp0,bn0,bq0,bp1,bn1,bq1,bp3,bn3,bq3,bp4,bn4,bq4,bp5,bn5,bq5,bhcs,bs0,bs1,bw2,bs3,bs4,bs5⟩:=aB2 hb
 obtain rfl:ca = #[.slice ap0 an0 aq0,.slice ap1 an1 aq1,.int .i64 x2,.slice ap3 an3 aq3,.slice ap4 an4 aq4,.slice ap5 an5 aq5]:=gL ahcs
 obtain rfl:cb = #[.slice bp0 bn0 bq0,.slice bp1 bn1 bq1,.int .i64 x2,.slice bp3 bn3 bq3,.slice bp4 bn4 bq4,.slice bp5 bn5 bq5]:=gL bhcs
 clear ahcs bhcs
 go_enter Tryz.func39,Tryz.ntmps39
 go_wp2_with fail
 refine (aV4 _ _ x0 _ (by exact ⟨_,_,_,rfl,as0.below dR⟩) (by exact ⟨_,_,_,rfl,bs0.below dR⟩)).mono ?_
 rintro e w90 ⟨rfl,b0⟩
 obtain ⟨u0,v0⟩:=dL b0
 have y0:=b0.size
 try simp only[rY] at u0 v0 y0
 have yy00:w.heap.size<w90.heap.size:=aV
 have yy01:w.heap.size+1<w90.heap.size:=aV
 go_wp2_with fail
 refine (mP _ _ _ _ _ _ x1 _ (by exact as1.below dR) (by exact bs1.below dR)).mono ?_
 rintro e w91 ⟨rfl,b1⟩
 obtain ⟨u1,v1⟩:=dL b1
 have y1:=b1.size
 try simp only[rY] at u1 v1 y1
 have yy10:w.heap.size<w91.heap.size:=aV
 have yy11:w.heap.size+1<w91.heap.size:=aV
 go_wp2_with fail
 refine (aU5 _ _ _ _ _ _ x3 _ (by exact as3.below dR) (by exact bs3.below dR)).mono ?_
 rintro e w93 ⟨rfl,b3⟩
 obtain ⟨u3,v3⟩:=dL b3
 have y3:=b3.size
 try simp only[rY] at u3 v3 y3
 have yy30:w.heap.size<w93.heap.size:=aV
 have yy31:w.heap.size+1<w93.heap.size:=aV
 go_wp2_with fail
 refine (mP _ _ _ _ _ _ x4 _ (by exact as4.below dR) (by exact bs4.below dR)).mono ?_
 rintro e w94 ⟨rfl,b4⟩
 obtain ⟨u4,v4⟩:=dL b4
 have y4:=b4.size
 try simp only[rY] at u4 v4 y4
 have yy40:w.heap.size<w94.heap.size:=aV
 have yy41:w.heap.size+1<w94.heap.size:=aV
 go_wp2_with fail
 refine (mP _ _ _ _ _ _ x5 _ (by exact as5.below dR) (by exact bs5.below dR)).mono ?_
 rintro e w95 ⟨rfl,b5⟩
 obtain ⟨u5,v5⟩:=dL b5
 have y5:=b5.size
 try simp only[rY] at u5 v5 y5
 have yy50:w.heap.size<w95.heap.size:=aV
 have yy51:w.heap.size+1<w95.heap.size:=aV
 go_wp2
 go_ret
 exact ⟨rfl,dR⟩
end Go.Proofs.YtiihghfoeinbbaaGreat
