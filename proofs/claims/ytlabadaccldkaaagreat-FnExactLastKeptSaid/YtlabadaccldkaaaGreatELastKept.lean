/- ELastKept: lemmas. No conditions. -/
import Derived.Test.YtlabadaccldkaaaGreatBLastKept
import Derived.Test.YtlabadaccldkaaaGreatTPipe
import Derived.Test.YtlabadaccldkaaaGreatUPipe
import Derived.Deep.RegionHeld3
namespace Go.Proofs.YtlabadaccldkaaaGreat
open Go.ChangeShapes Go.WideShapes Go.ChangeAt Go.RowKit
set_option linter.unusedVariables false
set_option linter.unusedSimpArgs false
set_option maxRecDepth 100000 in
set_option maxHeartbeats 4000000 in
theorem fnExactLastKept_walk (w:World) (p0:Option Addr) (len0 cap0:Nat) (l0:List (Ty.D .str)) (h0:bY (Ty.n .str) (rd .str w) w p0 len0 cap0 l0) :
  Calls Tryz.prog 3 #[.slice p0 len0 cap0] w fun e w'=>e = .returned (.bool true)∧Below w.heap.size w w':=by
 by_cases hz0:((zU l0:Nat):Int)≤(1048576:Int)
 rotate_left
 ·skip
  go_enter Tryz.func3,Tryz.ntmps3
  go_wp2_with fail
  refine (aGD _ _ _ l0 _ _ (by exact h0.below (Below.refl _ _)) (by omega) (by omega) (by omega)).mono ?_
  rintro e w1 ⟨rfl,b1⟩
  have B1:Below w.heap.size w w1:=Below.trans (Below.refl _ _) (b1.mono bM)
  have z1:w.heap.size+0≤w1.heap.size:=by have:=b1.size;(try simp only[sQ] at this ⊢) <;> omega
  go_wp2
  go_ret
  exact ⟨rfl,B1⟩
 obtain ⟨R0,R1,hS,hI,hcr⟩:=aEW l0 (by omega)
 have HS:=Lib.hid hS;have HI:=Lib.hid hI;clear hS hI
 have hcb0:=rI l0
 go_enter Tryz.func3,Tryz.ntmps3
 go_wp2_with fail
 refine (aH2 _ _ _ l0 _ _ (by exact h0.below (Below.refl _ _)) (by omega) (by omega) (by omega)).mono ?_
 rintro e w1 ⟨rfl,b1⟩
 have B1:Below w.heap.size w w1:=Below.trans (Below.refl _ _) (b1.mono bM)
 have z1:w.heap.size+0≤w1.heap.size:=by have:=b1.size;(try simp only[sQ] at this ⊢) <;> omega
 obtain ⟨lf0,hlf0⟩:∃ z:Int,z=(1048576:Int) - (zU l0:Nat):=⟨_,rfl⟩
 rw[← hlf0]
 have hnl0:¬ (lf0<0):=by omega
 have hnm0:lf0≤1048576:=by omega
 have HLF0:=Lib.hid hlf0;have hle0:=Int.le_of_eq hlf0;have hge0:=Int.le_of_eq hlf0.symm;clear hlf0
 go_wp2_with fail
 refine (mL _ _ _ l0 _ (by exact h0.below B1) (by have:=rI l0;omega)).mono ?_
 rintro e w2 ⟨tp0,tc0,rfl,tf0,b2⟩
 have B2:Below w.heap.size w w2:=Below.trans B1 (b2.mono bM)
 have z2:w1.heap.size+0≤w2.heap.size:=by have:=b2.size;(try simp only[sQ] at this ⊢) <;> omega
 have Ft0_2:=Lib.hid tf0;clear tf0
 go_wp2_with fail
 refine (HS.out _ _ _ (by exact (Ft0_2.out).sl)).mono ?_
 rintro e w3 ⟨w0rcs0,rfl,w0rf0,b3⟩
 have B3:Below w.heap.size w w3:=Below.trans B2 (b3.mono bM)
 have z3:w2.heap.size+0≤w3.heap.size:=by have:=b3.size;(try simp only[sQ] at this ⊢) <;> omega
 have Ft0_3:=Lib.hid (Ft0_2.out.below b3 bM)
 clear Ft0_2
 clear Ft0_3
 have rrw0r0d:=w0rf0.rd
 obtain ⟨_,_,w0r0dhcs,⟨w0r0dp0,w0r0dn0,w0r0dq0,rfl,w0r0ds0⟩,⟨_,_,rfl,⟨w0r0dp1,w0r0dn1,w0r0dq1,rfl,w0r0ds1⟩,⟨_,_,rfl,⟨w0r0dp2,w0r0dn2,w0r0dq2,rfl,w0r0ds2⟩,⟨w0r0dp3,w0r0dn3,w0r0dq3,rfl,w0r0ds3⟩⟩⟩⟩:=rrw0r0d
 obtain rfl:w0rcs0 = #[.slice w0r0dp0 w0r0dn0 w0r0dq0,.slice w0r0dp1 w0r0dn1 w0r0dq1,.slice w0r0dp2 w0r0dn2 w0r0dq2,.slice w0r0dp3 w0r0dn3 w0r0dq3]:=eZ w0r0dhcs
 clear w0r0dhcs
 have Fw0r0_3:=Lib.hid w0rf0;clear w0rf0
 go_wp2_with fail
 refine (mL _ _ _ l0 _ (by exact h0.below dU) (by have:=rI l0;omega)).mono ?_
 rintro e w4 ⟨xp0,xc0,rfl,xf0,b4⟩
 have B4:Below w.heap.size w w4:=Below.trans dU (b4.mono bM)
 have z4:w3.heap.size+1≤w4.heap.size:=by have:=b4.size;(try simp only[sQ] at this ⊢) <;> omega
 have qw0r00_4:w4.cell? ⟨w3.heap.size,0,none⟩=some (.slice w0r0dp0 w0r0dn0 w0r0dq0):=(b4.cell (p:=⟨w3.heap.size,0,none⟩) bM).trans (by simp)
 have qw0r01_4:w4.cell? ⟨w3.heap.size,1,none⟩=some (.slice w0r0dp1 w0r0dn1 w0r0dq1):=(b4.cell (p:=⟨w3.heap.size,1,none⟩) bM).trans (by simp)
 have qw0r02_4:w4.cell? ⟨w3.heap.size,2,none⟩=some (.slice w0r0dp2 w0r0dn2 w0r0dq2):=(b4.cell (p:=⟨w3.heap.size,2,none⟩) bM).trans (by simp)
 have qw0r03_4:w4.cell? ⟨w3.heap.size,3,none⟩=some (.slice w0r0dp3 w0r0dn3 w0r0dq3):=(b4.cell (p:=⟨w3.heap.size,3,none⟩) bM).trans (by simp)
 have zbw0r0_4:w3.heap.size<w4.heap.size:=bM
 have Fw0r0_4:=Lib.hid ((Fw0r0_3.out.alloc _).below b4 bM)
 clear Fw0r0_3
 have Fx0_4:=Lib.hid xf0;clear xf0
 go_wp2_with fail
 refine (HI.out _ _ _ (by exact (Fx0_4.out).sl)).mono ?_
 rintro e w5 ⟨g0rcs0,rfl,g0rf0,b5⟩
 have B5:Below w.heap.size w w5:=Below.trans B4 (b5.mono bM)
 have z5:w4.heap.size+0≤w5.heap.size:=by have:=b5.size;(try simp only[sQ] at this ⊢) <;> omega
 have qw0r00_5:w5.cell? ⟨w3.heap.size,0,none⟩=some (.slice w0r0dp0 w0r0dn0 w0r0dq0):=(b5.cell (p:=⟨w3.heap.size,0,none⟩) bM).trans qw0r00_4
 have qw0r01_5:w5.cell? ⟨w3.heap.size,1,none⟩=some (.slice w0r0dp1 w0r0dn1 w0r0dq1):=(b5.cell (p:=⟨w3.heap.size,1,none⟩) bM).trans qw0r01_4
 have qw0r02_5:w5.cell? ⟨w3.heap.size,2,none⟩=some (.slice w0r0dp2 w0r0dn2 w0r0dq2):=(b5.cell (p:=⟨w3.heap.size,2,none⟩) bM).trans qw0r02_4
 have qw0r03_5:w5.cell? ⟨w3.heap.size,3,none⟩=some (.slice w0r0dp3 w0r0dn3 w0r0dq3):=(b5.cell (p:=⟨w3.heap.size,3,none⟩) bM).trans qw0r03_4
 have zbw0r0_5:w3.heap.size<w5.heap.size:=bM
 clear qw0r00_4 qw0r01_4 qw0r02_4 qw0r03_4
 have Fw0r0_5:=Lib.hid (Fw0r0_4.out.below b5 bM)
 clear Fw0r0_4
 have Fx0_5:=Lib.hid (Fx0_4.out.below b5 bM)
 clear Fx0_4
 have rrg0r0d:=g0rf0.rd
 obtain ⟨_,_,g0r0dhcs,⟨g0r0dp0,g0r0dn0,g0r0dq0,rfl,g0r0ds0⟩,⟨_,_,rfl,⟨g0r0dp1,g0r0dn1,g0r0dq1,rfl,g0r0ds1⟩,⟨_,_,rfl,⟨g0r0dp2,g0r0dn2,g0r0dq2,rfl,g0r0ds2⟩,⟨g0r0dp3,g0r0dn3,g0r0dq3,rfl,g0r0ds3⟩⟩⟩⟩:=rrg0r0d
 obtain rfl:g0rcs0 = #[.slice g0r0dp0 g0r0dn0 g0r0dq0,.slice g0r0dp1 g0r0dn1 g0r0dq1,.slice g0r0dp2 g0r0dn2 g0r0dq2,.slice g0r0dp3 g0r0dn3 g0r0dq3]:=eZ g0r0dhcs
 clear g0r0dhcs
 have Fg0r0_5:=Lib.hid g0rf0;clear g0rf0
 go_wp2_with fail
 refine (wD _ _ R0 _ (by exact ((Fg0r0_5.out.alloc _)).rd) (by exact ((Fw0r0_5.out.alloc _)).rd)).mono ?_
 rintro e w6 ⟨rfl,b6⟩
 have B6:Below w.heap.size w w6:=Below.trans dU (b6.mono bM)
 have z6:w5.heap.size+1≤w6.heap.size:=by have:=b6.size;(try simp only[sQ] at this ⊢) <;> omega
 have qw0r00_6:w6.cell? ⟨w3.heap.size,0,none⟩=some (.slice w0r0dp0 w0r0dn0 w0r0dq0):=(b6.cell (p:=⟨w3.heap.size,0,none⟩) bM).trans ((eY (a:=⟨w3.heap.size,0,none⟩) bM).trans qw0r00_5)
 have qw0r01_6:w6.cell? ⟨w3.heap.size,1,none⟩=some (.slice w0r0dp1 w0r0dn1 w0r0dq1):=(b6.cell (p:=⟨w3.heap.size,1,none⟩) bM).trans ((eY (a:=⟨w3.heap.size,1,none⟩) bM).trans qw0r01_5)
 have qw0r02_6:w6.cell? ⟨w3.heap.size,2,none⟩=some (.slice w0r0dp2 w0r0dn2 w0r0dq2):=(b6.cell (p:=⟨w3.heap.size,2,none⟩) bM).trans ((eY (a:=⟨w3.heap.size,2,none⟩) bM).trans qw0r02_5)
 have qw0r03_6:w6.cell? ⟨w3.heap.size,3,none⟩=some (.slice w0r0dp3 w0r0dn3 w0r0dq3):=(b6.cell (p:=⟨w3.heap.size,3,none⟩) bM).trans ((eY (a:=⟨w3.heap.size,3,none⟩) bM).trans qw0r03_5)
 have zbw0r0_6:w3.heap.size<w6.heap.size:=bM
 clear qw0r00_5 qw0r01_5 qw0r02_5 qw0r03_5
 have qg0r00_6:w6.cell? ⟨w5.heap.size,0,none⟩=some (.slice g0r0dp0 g0r0dn0 g0r0dq0):=(b6.cell (p:=⟨w5.heap.size,0,none⟩) bM).trans (by simp)
 have qg0r01_6:w6.cell? ⟨w5.heap.size,1,none⟩=some (.slice g0r0dp1 g0r0dn1 g0r0dq1):=(b6.cell (p:=⟨w5.heap.size,1,none⟩) bM).trans (by simp)
 have qg0r02_6:w6.cell? ⟨w5.heap.size,2,none⟩=some (.slice g0r0dp2 g0r0dn2 g0r0dq2):=(b6.cell (p:=⟨w5.heap.size,2,none⟩) bM).trans (by simp)
 have qg0r03_6:w6.cell? ⟨w5.heap.size,3,none⟩=some (.slice g0r0dp3 g0r0dn3 g0r0dq3):=(b6.cell (p:=⟨w5.heap.size,3,none⟩) bM).trans (by simp)
 have zbg0r0_6:w5.heap.size<w6.heap.size:=bM
 have Fw0r0_6:=Lib.hid ((Fw0r0_5.out.alloc _).below b6 bM)
 clear Fw0r0_5
 have Fx0_6:=Lib.hid ((Fx0_5.out.alloc _).below b6 bM)
 clear Fx0_5
 have Fg0r0_6:=Lib.hid ((Fg0r0_5.out.alloc _).below b6 bM)
 clear Fg0r0_5
 go_wp2_with fail
 refine (mL _ _ _ l0 _ (by exact h0.below B6) (by have:=rI l0;omega)).mono ?_
 rintro e w7 ⟨yp0,yc0,rfl,yf0,b7⟩
 have B7:Below w.heap.size w w7:=Below.trans B6 (b7.mono bM)
 have z7:w6.heap.size+0≤w7.heap.size:=by have:=b7.size;(try simp only[sQ] at this ⊢) <;> omega
 have qw0r00_7:w7.cell? ⟨w3.heap.size,0,none⟩=some (.slice w0r0dp0 w0r0dn0 w0r0dq0):=(b7.cell (p:=⟨w3.heap.size,0,none⟩) bM).trans qw0r00_6
 have qw0r01_7:w7.cell? ⟨w3.heap.size,1,none⟩=some (.slice w0r0dp1 w0r0dn1 w0r0dq1):=(b7.cell (p:=⟨w3.heap.size,1,none⟩) bM).trans qw0r01_6
 have qw0r02_7:w7.cell? ⟨w3.heap.size,2,none⟩=some (.slice w0r0dp2 w0r0dn2 w0r0dq2):=(b7.cell (p:=⟨w3.heap.size,2,none⟩) bM).trans qw0r02_6
 have qw0r03_7:w7.cell? ⟨w3.heap.size,3,none⟩=some (.slice w0r0dp3 w0r0dn3 w0r0dq3):=(b7.cell (p:=⟨w3.heap.size,3,none⟩) bM).trans qw0r03_6
 have zbw0r0_7:w3.heap.size<w7.heap.size:=bM
 clear qw0r00_6 qw0r01_6 qw0r02_6 qw0r03_6
 have qg0r00_7:w7.cell? ⟨w5.heap.size,0,none⟩=some (.slice g0r0dp0 g0r0dn0 g0r0dq0):=(b7.cell (p:=⟨w5.heap.size,0,none⟩) bM).trans qg0r00_6
 have qg0r01_7:w7.cell? ⟨w5.heap.size,1,none⟩=some (.slice g0r0dp1 g0r0dn1 g0r0dq1):=(b7.cell (p:=⟨w5.heap.size,1,none⟩) bM).trans qg0r01_6
 have qg0r02_7:w7.cell? ⟨w5.heap.size,2,none⟩=some (.slice g0r0dp2 g0r0dn2 g0r0dq2):=(b7.cell (p:=⟨w5.heap.size,2,none⟩) bM).trans qg0r02_6
 have qg0r03_7:w7.cell? ⟨w5.heap.size,3,none⟩=some (.slice g0r0dp3 g0r0dn3 g0r0dq3):=(b7.cell (p:=⟨w5.heap.size,3,none⟩) bM).trans qg0r03_6
 have zbg0r0_7:w5.heap.size<w7.heap.size:=bM
 clear qg0r00_6 qg0r01_6 qg0r02_6 qg0r03_6
 have Fw0r0_7:=Lib.hid (Fw0r0_6.out.below b7 bM)
 clear Fw0r0_6
 have Fx0_7:=Lib.hid (Fx0_6.out.below b7 bM)
 clear Fx0_6
 have Fg0r0_7:=Lib.hid (Fg0r0_6.out.below b7 bM)
 clear Fg0r0_6
 have Fy0_7:=Lib.hid yf0;clear yf0
 go_wp2_with fail
 refine (aEN _ _ _ _ _ _ l0 _ (by exact (Fx0_7.out).sl) (by exact (Fy0_7.out).sl)).mono ?_
 rintro e w8 ⟨rfl,b8⟩
 have B8:Below w.heap.size w w8:=Below.trans B7 (b8.mono bM)
 have z8:w7.heap.size+0≤w8.heap.size:=by have:=b8.size;(try simp only[sQ] at this ⊢) <;> omega
 have qw0r00_8:w8.cell? ⟨w3.heap.size,0,none⟩=some (.slice w0r0dp0 w0r0dn0 w0r0dq0):=(b8.cell (p:=⟨w3.heap.size,0,none⟩) bM).trans qw0r00_7
 have qw0r01_8:w8.cell? ⟨w3.heap.size,1,none⟩=some (.slice w0r0dp1 w0r0dn1 w0r0dq1):=(b8.cell (p:=⟨w3.heap.size,1,none⟩) bM).trans qw0r01_7
 have qw0r02_8:w8.cell? ⟨w3.heap.size,2,none⟩=some (.slice w0r0dp2 w0r0dn2 w0r0dq2):=(b8.cell (p:=⟨w3.heap.size,2,none⟩) bM).trans qw0r02_7
 have qw0r03_8:w8.cell? ⟨w3.heap.size,3,none⟩=some (.slice w0r0dp3 w0r0dn3 w0r0dq3):=(b8.cell (p:=⟨w3.heap.size,3,none⟩) bM).trans qw0r03_7
 have zbw0r0_8:w3.heap.size<w8.heap.size:=bM
 clear qw0r00_7 qw0r01_7 qw0r02_7 qw0r03_7
 have qg0r00_8:w8.cell? ⟨w5.heap.size,0,none⟩=some (.slice g0r0dp0 g0r0dn0 g0r0dq0):=(b8.cell (p:=⟨w5.heap.size,0,none⟩) bM).trans qg0r00_7
 have qg0r01_8:w8.cell? ⟨w5.heap.size,1,none⟩=some (.slice g0r0dp1 g0r0dn1 g0r0dq1):=(b8.cell (p:=⟨w5.heap.size,1,none⟩) bM).trans qg0r01_7
 have qg0r02_8:w8.cell? ⟨w5.heap.size,2,none⟩=some (.slice g0r0dp2 g0r0dn2 g0r0dq2):=(b8.cell (p:=⟨w5.heap.size,2,none⟩) bM).trans qg0r02_7
 have qg0r03_8:w8.cell? ⟨w5.heap.size,3,none⟩=some (.slice g0r0dp3 g0r0dn3 g0r0dq3):=(b8.cell (p:=⟨w5.heap.size,3,none⟩) bM).trans qg0r03_7
 have zbg0r0_8:w5.heap.size<w8.heap.size:=bM
 clear qg0r00_7 qg0r01_7 qg0r02_7 qg0r03_7
 have Fw0r0_8:=Lib.hid (Fw0r0_7.out.below b8 bM)
 clear Fw0r0_7
 have Fx0_8:=Lib.hid (Fx0_7.out.below b8 bM)
 clear Fx0_7
 have Fg0r0_8:=Lib.hid (Fg0r0_7.out.below b8 bM)
 clear Fg0r0_7
 have Fy0_8:=Lib.hid (Fy0_7.out.below b8 bM)
 clear Fy0_7
 clear Fy0_8
 go_wp2_with fail
 obtain ⟨bl9,rep9,nd9,in9⟩:=(Fx0_8.out).un
 clear Fx0_8
 refine (aD8 _ _ _ _ l0 _ _ (by exact rep9) nd9 (by omega) (by omega)).mono ?_
 rintro e w9 ⟨M9,hM9,rfl,rp9,on9⟩
 have B9:Below w.heap.size w w9:=Below.trans B8 (on9.below (fun b hb=>by have:=in9 b hb;(try simp only[sQ] at this ⊢) <;> omega) bM)
 have z9:w8.heap.size+0≤w9.heap.size:=by have:=on9.size;(try simp only[sQ] at this ⊢) <;> omega
 have qw0r00_9:w9.cell? ⟨w3.heap.size,0,none⟩=some (.slice w0r0dp0 w0r0dn0 w0r0dq0):=(on9.cell (a:=⟨w3.heap.size,0,none⟩) (fun hm=>by have:=in9 _ hm;(try simp only[sQ] at this ⊢) <;> omega) bM).trans qw0r00_8
 have qw0r01_9:w9.cell? ⟨w3.heap.size,1,none⟩=some (.slice w0r0dp1 w0r0dn1 w0r0dq1):=(on9.cell (a:=⟨w3.heap.size,1,none⟩) (fun hm=>by have:=in9 _ hm;(try simp only[sQ] at this ⊢) <;> omega) bM).trans qw0r01_8
 have qw0r02_9:w9.cell? ⟨w3.heap.size,2,none⟩=some (.slice w0r0dp2 w0r0dn2 w0r0dq2):=(on9.cell (a:=⟨w3.heap.size,2,none⟩) (fun hm=>by have:=in9 _ hm;(try simp only[sQ] at this ⊢) <;> omega) bM).trans qw0r02_8
 have qw0r03_9:w9.cell? ⟨w3.heap.size,3,none⟩=some (.slice w0r0dp3 w0r0dn3 w0r0dq3):=(on9.cell (a:=⟨w3.heap.size,3,none⟩) (fun hm=>by have:=in9 _ hm;(try simp only[sQ] at this ⊢) <;> omega) bM).trans qw0r03_8
 have zbw0r0_9:w3.heap.size<w9.heap.size:=bM
 clear qw0r00_8 qw0r01_8 qw0r02_8 qw0r03_8
 have qg0r00_9:w9.cell? ⟨w5.heap.size,0,none⟩=some (.slice g0r0dp0 g0r0dn0 g0r0dq0):=(on9.cell (a:=⟨w5.heap.size,0,none⟩) (fun hm=>by have:=in9 _ hm;(try simp only[sQ] at this ⊢) <;> omega) bM).trans qg0r00_8
 have qg0r01_9:w9.cell? ⟨w5.heap.size,1,none⟩=some (.slice g0r0dp1 g0r0dn1 g0r0dq1):=(on9.cell (a:=⟨w5.heap.size,1,none⟩) (fun hm=>by have:=in9 _ hm;(try simp only[sQ] at this ⊢) <;> omega) bM).trans qg0r01_8
 have qg0r02_9:w9.cell? ⟨w5.heap.size,2,none⟩=some (.slice g0r0dp2 g0r0dn2 g0r0dq2):=(on9.cell (a:=⟨w5.heap.size,2,none⟩) (fun hm=>by have:=in9 _ hm;(try simp only[sQ] at this ⊢) <;> omega) bM).trans qg0r02_8
 have qg0r03_9:w9.cell? ⟨w5.heap.size,3,none⟩=some (.slice g0r0dp3 g0r0dn3 g0r0dq3):=(on9.cell (a:=⟨w5.heap.size,3,none⟩) (fun hm=>by have:=in9 _ hm;(try simp only[sQ] at this ⊢) <;> omega) bM).trans qg0r03_8
 have zbg0r0_9:w5.heap.size<w9.heap.size:=bM
 clear qg0r00_8 qg0r01_8 qg0r02_8 qg0r03_8
 have Fw0r0_9:=Lib.hid (Fw0r0_8.out.only on9 (fun b hb=>by have:=in9 b hb;(try simp only[sQ] at this ⊢) <;> omega))
 clear Fw0r0_8
 have Fg0r0_9:=Lib.hid (Fg0r0_8.out.only on9 (fun b hb=>by have:=in9 b hb;(try simp only[sQ] at this ⊢) <;> omega))
 clear Fg0r0_8
 have G9:=sN.of_un rp9 nd9 in9 bM
 clear rep9 rp9
 have Fx0_9:=Lib.hid G9;clear G9
 clear Fx0_9
 go_wp2_with fail
 refine (wD _ _ R0 _ (by exact (Fg0r0_9.out).rd) (by exact (Fw0r0_9.out).rd)).mono ?_
 rintro e w10 ⟨rfl,b10⟩
 have B10:Below w.heap.size w w10:=Below.trans B9 (b10.mono bM)
 have z10:w9.heap.size+0≤w10.heap.size:=by have:=b10.size;(try simp only[sQ] at this ⊢) <;> omega
 have qw0r00_10:w10.cell? ⟨w3.heap.size,0,none⟩=some (.slice w0r0dp0 w0r0dn0 w0r0dq0):=(b10.cell (p:=⟨w3.heap.size,0,none⟩) bM).trans qw0r00_9
 have qw0r01_10:w10.cell? ⟨w3.heap.size,1,none⟩=some (.slice w0r0dp1 w0r0dn1 w0r0dq1):=(b10.cell (p:=⟨w3.heap.size,1,none⟩) bM).trans qw0r01_9
 have qw0r02_10:w10.cell? ⟨w3.heap.size,2,none⟩=some (.slice w0r0dp2 w0r0dn2 w0r0dq2):=(b10.cell (p:=⟨w3.heap.size,2,none⟩) bM).trans qw0r02_9
 have qw0r03_10:w10.cell? ⟨w3.heap.size,3,none⟩=some (.slice w0r0dp3 w0r0dn3 w0r0dq3):=(b10.cell (p:=⟨w3.heap.size,3,none⟩) bM).trans qw0r03_9
 have zbw0r0_10:w3.heap.size<w10.heap.size:=bM
 clear qw0r00_9 qw0r01_9 qw0r02_9 qw0r03_9
 have qg0r00_10:w10.cell? ⟨w5.heap.size,0,none⟩=some (.slice g0r0dp0 g0r0dn0 g0r0dq0):=(b10.cell (p:=⟨w5.heap.size,0,none⟩) bM).trans qg0r00_9
 have qg0r01_10:w10.cell? ⟨w5.heap.size,1,none⟩=some (.slice g0r0dp1 g0r0dn1 g0r0dq1):=(b10.cell (p:=⟨w5.heap.size,1,none⟩) bM).trans qg0r01_9
 have qg0r02_10:w10.cell? ⟨w5.heap.size,2,none⟩=some (.slice g0r0dp2 g0r0dn2 g0r0dq2):=(b10.cell (p:=⟨w5.heap.size,2,none⟩) bM).trans qg0r02_9
 have qg0r03_10:w10.cell? ⟨w5.heap.size,3,none⟩=some (.slice g0r0dp3 g0r0dn3 g0r0dq3):=(b10.cell (p:=⟨w5.heap.size,3,none⟩) bM).trans qg0r03_9
 have zbg0r0_10:w5.heap.size<w10.heap.size:=bM
 clear qg0r00_9 qg0r01_9 qg0r02_9 qg0r03_9
 have Fw0r0_10:=Lib.hid (Fw0r0_9.out.below b10 bM)
 clear Fw0r0_9
 have Fg0r0_10:=Lib.hid (Fg0r0_9.out.below b10 bM)
 clear Fg0r0_9
 go_wp2_with fail
 obtain ⟨bl11,rep11,nd11,in11⟩:=(Fg0r0_10.out).un
 clear Fg0r0_10
 refine (aKX _ _ R0 _ _ (by exact rep11) nd11 (by omega) (by omega)).mono ?_
 rintro e w11 ⟨rfl,rp11,on11⟩
 have B11:Below w.heap.size w w11:=Below.trans B10 (on11.below (fun b hb=>by have:=in11 b hb;(try simp only[sQ] at this ⊢) <;> omega) bM)
 have z11:w10.heap.size+0≤w11.heap.size:=by have:=on11.size;(try simp only[sQ] at this ⊢) <;> omega
 have qw0r00_11:w11.cell? ⟨w3.heap.size,0,none⟩=some (.slice w0r0dp0 w0r0dn0 w0r0dq0):=(on11.cell (a:=⟨w3.heap.size,0,none⟩) (fun hm=>by have:=in11 _ hm;(try simp only[sQ] at this ⊢) <;> omega) bM).trans qw0r00_10
 have qw0r01_11:w11.cell? ⟨w3.heap.size,1,none⟩=some (.slice w0r0dp1 w0r0dn1 w0r0dq1):=(on11.cell (a:=⟨w3.heap.size,1,none⟩) (fun hm=>by have:=in11 _ hm;(try simp only[sQ] at this ⊢) <;> omega) bM).trans qw0r01_10
 have qw0r02_11:w11.cell? ⟨w3.heap.size,2,none⟩=some (.slice w0r0dp2 w0r0dn2 w0r0dq2):=(on11.cell (a:=⟨w3.heap.size,2,none⟩) (fun hm=>by have:=in11 _ hm;(try simp only[sQ] at this ⊢) <;> omega) bM).trans qw0r02_10
 have qw0r03_11:w11.cell? ⟨w3.heap.size,3,none⟩=some (.slice w0r0dp3 w0r0dn3 w0r0dq3):=(on11.cell (a:=⟨w3.heap.size,3,none⟩) (fun hm=>by have:=in11 _ hm;(try simp only[sQ] at this ⊢) <;> omega) bM).trans qw0r03_10
 have zbw0r0_11:w3.heap.size<w11.heap.size:=bM
 clear qw0r00_10 qw0r01_10 qw0r02_10 qw0r03_10
 have qg0r00_11:w11.cell? ⟨w5.heap.size,0,none⟩=some (.slice g0r0dp0 g0r0dn0 g0r0dq0):=(on11.cell (a:=⟨w5.heap.size,0,none⟩) (fun hm=>by have:=in11 _ hm;(try simp only[sQ] at this ⊢) <;> omega) bM).trans qg0r00_10
 have qg0r01_11:w11.cell? ⟨w5.heap.size,1,none⟩=some (.slice g0r0dp1 g0r0dn1 g0r0dq1):=(on11.cell (a:=⟨w5.heap.size,1,none⟩) (fun hm=>by have:=in11 _ hm;(try simp only[sQ] at this ⊢) <;> omega) bM).trans qg0r01_10
 have qg0r02_11:w11.cell? ⟨w5.heap.size,2,none⟩=some (.slice g0r0dp2 g0r0dn2 g0r0dq2):=(on11.cell (a:=⟨w5.heap.size,2,none⟩) (fun hm=>by have:=in11 _ hm;(try simp only[sQ] at this ⊢) <;> omega) bM).trans qg0r02_10
 have qg0r03_11:w11.cell? ⟨w5.heap.size,3,none⟩=some (.slice g0r0dp3 g0r0dn3 g0r0dq3):=(on11.cell (a:=⟨w5.heap.size,3,none⟩) (fun hm=>by have:=in11 _ hm;(try simp only[sQ] at this ⊢) <;> omega) bM).trans qg0r03_10
 have zbg0r0_11:w5.heap.size<w11.heap.size:=bM
 clear qg0r00_10 qg0r01_10 qg0r02_10 qg0r03_10
 have Fw0r0_11:=Lib.hid (Fw0r0_10.out.only on11 (fun b hb=>by have:=in11 b hb;(try simp only[sQ] at this ⊢) <;> omega))
 clear Fw0r0_10
 have G11:=sN.of_un rp11 nd11 in11 bM
 clear rep11 rp11
 have Fg0r0_11:=Lib.hid G11;clear G11
 go_wp2_with fail
 refine (yN _ _ R0 _ (by exact (Fg0r0_11.out).rd) (by omega) (by omega)).mono ?_
 rintro e w12 ⟨rfl,b12⟩
 have B12:Below w.heap.size w w12:=Below.trans B11 (b12.mono bM)
 have z12:w11.heap.size+0≤w12.heap.size:=by have:=b12.size;(try simp only[sQ] at this ⊢) <;> omega
 have qw0r00_12:w12.cell? ⟨w3.heap.size,0,none⟩=some (.slice w0r0dp0 w0r0dn0 w0r0dq0):=(b12.cell (p:=⟨w3.heap.size,0,none⟩) bM).trans qw0r00_11
 have qw0r01_12:w12.cell? ⟨w3.heap.size,1,none⟩=some (.slice w0r0dp1 w0r0dn1 w0r0dq1):=(b12.cell (p:=⟨w3.heap.size,1,none⟩) bM).trans qw0r01_11
 have qw0r02_12:w12.cell? ⟨w3.heap.size,2,none⟩=some (.slice w0r0dp2 w0r0dn2 w0r0dq2):=(b12.cell (p:=⟨w3.heap.size,2,none⟩) bM).trans qw0r02_11
 have qw0r03_12:w12.cell? ⟨w3.heap.size,3,none⟩=some (.slice w0r0dp3 w0r0dn3 w0r0dq3):=(b12.cell (p:=⟨w3.heap.size,3,none⟩) bM).trans qw0r03_11
 have zbw0r0_12:w3.heap.size<w12.heap.size:=bM
 clear qw0r00_11 qw0r01_11 qw0r02_11 qw0r03_11
 have qg0r00_12:w12.cell? ⟨w5.heap.size,0,none⟩=some (.slice g0r0dp0 g0r0dn0 g0r0dq0):=(b12.cell (p:=⟨w5.heap.size,0,none⟩) bM).trans qg0r00_11
 have qg0r01_12:w12.cell? ⟨w5.heap.size,1,none⟩=some (.slice g0r0dp1 g0r0dn1 g0r0dq1):=(b12.cell (p:=⟨w5.heap.size,1,none⟩) bM).trans qg0r01_11
 have qg0r02_12:w12.cell? ⟨w5.heap.size,2,none⟩=some (.slice g0r0dp2 g0r0dn2 g0r0dq2):=(b12.cell (p:=⟨w5.heap.size,2,none⟩) bM).trans qg0r02_11
 have qg0r03_12:w12.cell? ⟨w5.heap.size,3,none⟩=some (.slice g0r0dp3 g0r0dn3 g0r0dq3):=(b12.cell (p:=⟨w5.heap.size,3,none⟩) bM).trans qg0r03_11
 have zbg0r0_12:w5.heap.size<w12.heap.size:=bM
 clear qg0r00_11 qg0r01_11 qg0r02_11 qg0r03_11
 have Fw0r0_12:=Lib.hid (Fw0r0_11.out.below b12 bM)
 clear Fw0r0_11
 have Fg0r0_12:=Lib.hid (Fg0r0_11.out.below b12 bM)
 clear Fg0r0_11
 go_wp2_with fail
 refine (mL _ _ _ l0 _ (by exact h0.below B12) (by have:=rI l0;omega)).mono ?_
 rintro e w13 ⟨up0,uc0,rfl,uf0,b13⟩
 have B13:Below w.heap.size w w13:=Below.trans B12 (b13.mono bM)
 have z13:w12.heap.size+0≤w13.heap.size:=by have:=b13.size;(try simp only[sQ] at this ⊢) <;> omega
 have qw0r00_13:w13.cell? ⟨w3.heap.size,0,none⟩=some (.slice w0r0dp0 w0r0dn0 w0r0dq0):=(b13.cell (p:=⟨w3.heap.size,0,none⟩) bM).trans qw0r00_12
 have qw0r01_13:w13.cell? ⟨w3.heap.size,1,none⟩=some (.slice w0r0dp1 w0r0dn1 w0r0dq1):=(b13.cell (p:=⟨w3.heap.size,1,none⟩) bM).trans qw0r01_12
 have qw0r02_13:w13.cell? ⟨w3.heap.size,2,none⟩=some (.slice w0r0dp2 w0r0dn2 w0r0dq2):=(b13.cell (p:=⟨w3.heap.size,2,none⟩) bM).trans qw0r02_12
 have qw0r03_13:w13.cell? ⟨w3.heap.size,3,none⟩=some (.slice w0r0dp3 w0r0dn3 w0r0dq3):=(b13.cell (p:=⟨w3.heap.size,3,none⟩) bM).trans qw0r03_12
 have zbw0r0_13:w3.heap.size<w13.heap.size:=bM
 clear qw0r00_12 qw0r01_12 qw0r02_12 qw0r03_12
 have qg0r00_13:w13.cell? ⟨w5.heap.size,0,none⟩=some (.slice g0r0dp0 g0r0dn0 g0r0dq0):=(b13.cell (p:=⟨w5.heap.size,0,none⟩) bM).trans qg0r00_12
 have qg0r01_13:w13.cell? ⟨w5.heap.size,1,none⟩=some (.slice g0r0dp1 g0r0dn1 g0r0dq1):=(b13.cell (p:=⟨w5.heap.size,1,none⟩) bM).trans qg0r01_12
 have qg0r02_13:w13.cell? ⟨w5.heap.size,2,none⟩=some (.slice g0r0dp2 g0r0dn2 g0r0dq2):=(b13.cell (p:=⟨w5.heap.size,2,none⟩) bM).trans qg0r02_12
 have qg0r03_13:w13.cell? ⟨w5.heap.size,3,none⟩=some (.slice g0r0dp3 g0r0dn3 g0r0dq3):=(b13.cell (p:=⟨w5.heap.size,3,none⟩) bM).trans qg0r03_12
 have zbg0r0_13:w5.heap.size<w13.heap.size:=bM
 clear qg0r00_12 qg0r01_12 qg0r02_12 qg0r03_12
 have Fw0r0_13:=Lib.hid (Fw0r0_12.out.below b13 bM)
 clear Fw0r0_12
 have Fg0r0_13:=Lib.hid (Fg0r0_12.out.below b13 bM)
 clear Fg0r0_12
 have Fu0_13:=Lib.hid uf0;clear uf0
 go_wp2_with fail
 refine (HI.out _ _ _ (by exact (Fu0_13.out).sl)).mono ?_
 rintro e w14 ⟨h0rcs0,rfl,h0rf0,b14⟩
 have B14:Below w.heap.size w w14:=Below.trans B13 (b14.mono bM)
 have z14:w13.heap.size+0≤w14.heap.size:=by have:=b14.size;(try simp only[sQ] at this ⊢) <;> omega
 have qw0r00_14:w14.cell? ⟨w3.heap.size,0,none⟩=some (.slice w0r0dp0 w0r0dn0 w0r0dq0):=(b14.cell (p:=⟨w3.heap.size,0,none⟩) bM).trans qw0r00_13
 have qw0r01_14:w14.cell? ⟨w3.heap.size,1,none⟩=some (.slice w0r0dp1 w0r0dn1 w0r0dq1):=(b14.cell (p:=⟨w3.heap.size,1,none⟩) bM).trans qw0r01_13
 have qw0r02_14:w14.cell? ⟨w3.heap.size,2,none⟩=some (.slice w0r0dp2 w0r0dn2 w0r0dq2):=(b14.cell (p:=⟨w3.heap.size,2,none⟩) bM).trans qw0r02_13
 have qw0r03_14:w14.cell? ⟨w3.heap.size,3,none⟩=some (.slice w0r0dp3 w0r0dn3 w0r0dq3):=(b14.cell (p:=⟨w3.heap.size,3,none⟩) bM).trans qw0r03_13
 have zbw0r0_14:w3.heap.size<w14.heap.size:=bM
 clear qw0r00_13 qw0r01_13 qw0r02_13 qw0r03_13
 have qg0r00_14:w14.cell? ⟨w5.heap.size,0,none⟩=some (.slice g0r0dp0 g0r0dn0 g0r0dq0):=(b14.cell (p:=⟨w5.heap.size,0,none⟩) bM).trans qg0r00_13
 have qg0r01_14:w14.cell? ⟨w5.heap.size,1,none⟩=some (.slice g0r0dp1 g0r0dn1 g0r0dq1):=(b14.cell (p:=⟨w5.heap.size,1,none⟩) bM).trans qg0r01_13
 have qg0r02_14:w14.cell? ⟨w5.heap.size,2,none⟩=some (.slice g0r0dp2 g0r0dn2 g0r0dq2):=(b14.cell (p:=⟨w5.heap.size,2,none⟩) bM).trans qg0r02_13
 have qg0r03_14:w14.cell? ⟨w5.heap.size,3,none⟩=some (.slice g0r0dp3 g0r0dn3 g0r0dq3):=(b14.cell (p:=⟨w5.heap.size,3,none⟩) bM).trans qg0r03_13
 have zbg0r0_14:w5.heap.size<w14.heap.size:=bM
 clear qg0r00_13 qg0r01_13 qg0r02_13 qg0r03_13
 have Fw0r0_14:=Lib.hid (Fw0r0_13.out.below b14 bM)
 clear Fw0r0_13
 have Fg0r0_14:=Lib.hid (Fg0r0_13.out.below b14 bM)
 clear Fg0r0_13
 have Fu0_14:=Lib.hid (Fu0_13.out.below b14 bM)
 clear Fu0_13
 clear Fu0_14
 have rrh0r0d:=h0rf0.rd
 obtain ⟨_,_,h0r0dhcs,⟨h0r0dp0,h0r0dn0,h0r0dq0,rfl,h0r0ds0⟩,⟨_,_,rfl,⟨h0r0dp1,h0r0dn1,h0r0dq1,rfl,h0r0ds1⟩,⟨_,_,rfl,⟨h0r0dp2,h0r0dn2,h0r0dq2,rfl,h0r0ds2⟩,⟨h0r0dp3,h0r0dn3,h0r0dq3,rfl,h0r0ds3⟩⟩⟩⟩:=rrh0r0d
 obtain rfl:h0rcs0 = #[.slice h0r0dp0 h0r0dn0 h0r0dq0,.slice h0r0dp1 h0r0dn1 h0r0dq1,.slice h0r0dp2 h0r0dn2 h0r0dq2,.slice h0r0dp3 h0r0dn3 h0r0dq3]:=eZ h0r0dhcs
 clear h0r0dhcs
 have Fh0r0_14:=Lib.hid h0rf0;clear h0rf0
 go_wp2_with fail
 refine (wD _ _ R0 _ (by exact ((Fh0r0_14.out.alloc _)).rd) (by exact ((Fw0r0_14.out.alloc _)).rd)).mono ?_
 rintro e w15 ⟨rfl,b15⟩
 have B15:Below w.heap.size w w15:=Below.trans dU (b15.mono bM)
 have z15:w14.heap.size+1≤w15.heap.size:=by have:=b15.size;(try simp only[sQ] at this ⊢) <;> omega
 have qw0r00_15:w15.cell? ⟨w3.heap.size,0,none⟩=some (.slice w0r0dp0 w0r0dn0 w0r0dq0):=(b15.cell (p:=⟨w3.heap.size,0,none⟩) bM).trans ((eY (a:=⟨w3.heap.size,0,none⟩) bM).trans qw0r00_14)
 have qw0r01_15:w15.cell? ⟨w3.heap.size,1,none⟩=some (.slice w0r0dp1 w0r0dn1 w0r0dq1):=(b15.cell (p:=⟨w3.heap.size,1,none⟩) bM).trans ((eY (a:=⟨w3.heap.size,1,none⟩) bM).trans qw0r01_14)
 have qw0r02_15:w15.cell? ⟨w3.heap.size,2,none⟩=some (.slice w0r0dp2 w0r0dn2 w0r0dq2):=(b15.cell (p:=⟨w3.heap.size,2,none⟩) bM).trans ((eY (a:=⟨w3.heap.size,2,none⟩) bM).trans qw0r02_14)
 have qw0r03_15:w15.cell? ⟨w3.heap.size,3,none⟩=some (.slice w0r0dp3 w0r0dn3 w0r0dq3):=(b15.cell (p:=⟨w3.heap.size,3,none⟩) bM).trans ((eY (a:=⟨w3.heap.size,3,none⟩) bM).trans qw0r03_14)
 have zbw0r0_15:w3.heap.size<w15.heap.size:=bM
 clear qw0r00_14 qw0r01_14 qw0r02_14 qw0r03_14
 have qg0r00_15:w15.cell? ⟨w5.heap.size,0,none⟩=some (.slice g0r0dp0 g0r0dn0 g0r0dq0):=(b15.cell (p:=⟨w5.heap.size,0,none⟩) bM).trans ((eY (a:=⟨w5.heap.size,0,none⟩) bM).trans qg0r00_14)
 have qg0r01_15:w15.cell? ⟨w5.heap.size,1,none⟩=some (.slice g0r0dp1 g0r0dn1 g0r0dq1):=(b15.cell (p:=⟨w5.heap.size,1,none⟩) bM).trans ((eY (a:=⟨w5.heap.size,1,none⟩) bM).trans qg0r01_14)
 have qg0r02_15:w15.cell? ⟨w5.heap.size,2,none⟩=some (.slice g0r0dp2 g0r0dn2 g0r0dq2):=(b15.cell (p:=⟨w5.heap.size,2,none⟩) bM).trans ((eY (a:=⟨w5.heap.size,2,none⟩) bM).trans qg0r02_14)
 have qg0r03_15:w15.cell? ⟨w5.heap.size,3,none⟩=some (.slice g0r0dp3 g0r0dn3 g0r0dq3):=(b15.cell (p:=⟨w5.heap.size,3,none⟩) bM).trans ((eY (a:=⟨w5.heap.size,3,none⟩) bM).trans qg0r03_14)
 have zbg0r0_15:w5.heap.size<w15.heap.size:=bM
 clear qg0r00_14 qg0r01_14 qg0r02_14 qg0r03_14
 have qh0r00_15:w15.cell? ⟨w14.heap.size,0,none⟩=some (.slice h0r0dp0 h0r0dn0 h0r0dq0):=(b15.cell (p:=⟨w14.heap.size,0,none⟩) bM).trans (by simp)
 have qh0r01_15:w15.cell? ⟨w14.heap.size,1,none⟩=some (.slice h0r0dp1 h0r0dn1 h0r0dq1):=(b15.cell (p:=⟨w14.heap.size,1,none⟩) bM).trans (by simp)
 have qh0r02_15:w15.cell? ⟨w14.heap.size,2,none⟩=some (.slice h0r0dp2 h0r0dn2 h0r0dq2):=(b15.cell (p:=⟨w14.heap.size,2,none⟩) bM).trans (by simp)
 have qh0r03_15:w15.cell? ⟨w14.heap.size,3,none⟩=some (.slice h0r0dp3 h0r0dn3 h0r0dq3):=(b15.cell (p:=⟨w14.heap.size,3,none⟩) bM).trans (by simp)
 have zbh0r0_15:w14.heap.size<w15.heap.size:=bM
 have Fw0r0_15:=Lib.hid ((Fw0r0_14.out.alloc _).below b15 bM)
 clear Fw0r0_14
 have Fg0r0_15:=Lib.hid ((Fg0r0_14.out.alloc _).below b15 bM)
 clear Fg0r0_14
 have Fh0r0_15:=Lib.hid ((Fh0r0_14.out.alloc _).below b15 bM)
 clear Fh0r0_14
 go_wp2_with fail
 refine (yN _ _ R0 _ (by exact (Fg0r0_15.out).rd) (by omega) (by omega)).mono ?_
 rintro e w16 ⟨rfl,b16⟩
 have B16:Below w.heap.size w w16:=Below.trans B15 (b16.mono bM)
 have z16:w15.heap.size+0≤w16.heap.size:=by have:=b16.size;(try simp only[sQ] at this ⊢) <;> omega
 have qw0r00_16:w16.cell? ⟨w3.heap.size,0,none⟩=some (.slice w0r0dp0 w0r0dn0 w0r0dq0):=(b16.cell (p:=⟨w3.heap.size,0,none⟩) bM).trans qw0r00_15
 have qw0r01_16:w16.cell? ⟨w3.heap.size,1,none⟩=some (.slice w0r0dp1 w0r0dn1 w0r0dq1):=(b16.cell (p:=⟨w3.heap.size,1,none⟩) bM).trans qw0r01_15
 have qw0r02_16:w16.cell? ⟨w3.heap.size,2,none⟩=some (.slice w0r0dp2 w0r0dn2 w0r0dq2):=(b16.cell (p:=⟨w3.heap.size,2,none⟩) bM).trans qw0r02_15
 have qw0r03_16:w16.cell? ⟨w3.heap.size,3,none⟩=some (.slice w0r0dp3 w0r0dn3 w0r0dq3):=(b16.cell (p:=⟨w3.heap.size,3,none⟩) bM).trans qw0r03_15
 have zbw0r0_16:w3.heap.size<w16.heap.size:=bM
 clear qw0r00_15 qw0r01_15 qw0r02_15 qw0r03_15
 have qg0r00_16:w16.cell? ⟨w5.heap.size,0,none⟩=some (.slice g0r0dp0 g0r0dn0 g0r0dq0):=(b16.cell (p:=⟨w5.heap.size,0,none⟩) bM).trans qg0r00_15
 have qg0r01_16:w16.cell? ⟨w5.heap.size,1,none⟩=some (.slice g0r0dp1 g0r0dn1 g0r0dq1):=(b16.cell (p:=⟨w5.heap.size,1,none⟩) bM).trans qg0r01_15
 have qg0r02_16:w16.cell? ⟨w5.heap.size,2,none⟩=some (.slice g0r0dp2 g0r0dn2 g0r0dq2):=(b16.cell (p:=⟨w5.heap.size,2,none⟩) bM).trans qg0r02_15
 have qg0r03_16:w16.cell? ⟨w5.heap.size,3,none⟩=some (.slice g0r0dp3 g0r0dn3 g0r0dq3):=(b16.cell (p:=⟨w5.heap.size,3,none⟩) bM).trans qg0r03_15
 have zbg0r0_16:w5.heap.size<w16.heap.size:=bM
 clear qg0r00_15 qg0r01_15 qg0r02_15 qg0r03_15
 have qh0r00_16:w16.cell? ⟨w14.heap.size,0,none⟩=some (.slice h0r0dp0 h0r0dn0 h0r0dq0):=(b16.cell (p:=⟨w14.heap.size,0,none⟩) bM).trans qh0r00_15
 have qh0r01_16:w16.cell? ⟨w14.heap.size,1,none⟩=some (.slice h0r0dp1 h0r0dn1 h0r0dq1):=(b16.cell (p:=⟨w14.heap.size,1,none⟩) bM).trans qh0r01_15
 have qh0r02_16:w16.cell? ⟨w14.heap.size,2,none⟩=some (.slice h0r0dp2 h0r0dn2 h0r0dq2):=(b16.cell (p:=⟨w14.heap.size,2,none⟩) bM).trans qh0r02_15
 have qh0r03_16:w16.cell? ⟨w14.heap.size,3,none⟩=some (.slice h0r0dp3 h0r0dn3 h0r0dq3):=(b16.cell (p:=⟨w14.heap.size,3,none⟩) bM).trans qh0r03_15
 have zbh0r0_16:w14.heap.size<w16.heap.size:=bM
 clear qh0r00_15 qh0r01_15 qh0r02_15 qh0r03_15
 have Fw0r0_16:=Lib.hid (Fw0r0_15.out.below b16 bM)
 clear Fw0r0_15
 have Fg0r0_16:=Lib.hid (Fg0r0_15.out.below b16 bM)
 clear Fg0r0_15
 have Fh0r0_16:=Lib.hid (Fh0r0_15.out.below b16 bM)
 clear Fh0r0_15
 go_wp2
 go_ret
 exact ⟨rfl,B16⟩
end Go.Proofs.YtlabadaccldkaaaGreat
