/- ELeastPlan: lemmas. No conditions. -/
import Derived.Test.YtmfpkkbhnmkfdaaGreatBLeastPlan
import Derived.Test.YtmfpkkbhnmkfdaaGreatTConfig
import Derived.Test.YtmfpkkbhnmkfdaaGreatTPair
import Derived.Deep.RegionHeld3
namespace Go.Proofs.YtmfpkkbhnmkfdaaGreat
open Go.ChangeShapes Go.WideShapes Go.ChangeAt Go.RowKit
set_option linter.unusedVariables false
set_option linter.unusedSimpArgs false
set_option maxRecDepth 100000 in
set_option maxHeartbeats 4000000 in
theorem fnExactLeastPlan_walk (w:World) (cs0:Array Value) (d0:Ty.D aC) (h0:rd aC w cs0.toList d0) (p1:Option Addr) (len1 cap1:Nat) (l1:List (Ty.D aI)) (h1:dY (Ty.n aI) (rd aI w) w p1 len1 cap1 l1) :
  Calls Tryz.prog 7 #[.agg cs0,.slice p1 len1 cap1] w fun e w'=>e = .returned (.bool true)∧Below w.heap.size w w':=by
 obtain ⟨ap0_0,an0_0,aq0_0,ap0_1,an0_1,aq0_1,ax0_2,ap0_3,an0_3,aq0_3,ap0_4,an0_4,aq0_4,ap0_5,an0_5,aq0_5,rfl⟩:∃ ap0_0 an0_0 aq0_0 ap0_1 an0_1 aq0_1 ax0_2 ap0_3 an0_3 aq0_3 ap0_4 an0_4 aq0_4 ap0_5 an0_5 aq0_5,cs0 = #[.slice ap0_0 an0_0 aq0_0,.slice ap0_1 an0_1 aq0_1,.int .i64 ax0_2,.slice ap0_3 an0_3 aq0_3,.slice ap0_4 an0_4 aq0_4,.slice ap0_5 an0_5 aq0_5]:=by
  obtain ⟨_,_,khcs,⟨kp0,kn0,kq0,rfl,ks0⟩,⟨_,_,rfl,⟨kp1,kn1,kq1,rfl,ks1⟩,⟨_,_,rfl,⟨rfl,kw2⟩,⟨_,_,rfl,⟨kp3,kn3,kq3,rfl,ks3⟩,⟨_,_,rfl,⟨kp4,kn4,kq4,rfl,ks4⟩,⟨kp5,kn5,kq5,rfl,ks5⟩⟩⟩⟩⟩⟩:=h0
  exact ⟨kp0,kn0,kq0,kp1,kn1,kq1,d0.2.2.1,kp3,kn3,kq3,kp4,kn4,kq4,kp5,kn5,kq5,dZ khcs⟩
 have H0:=Lib.hid h0;clear h0
 by_cases hz0:((aY aC d0:Nat):Int)≤(1048576:Int)
 rotate_left
 ·skip
  go_enter Tryz.func7,Tryz.ntmps7
  go_wp2_with fail
  refine (aBV _ d0 _ _ (by exact eY H0.out cP) (by omega) (by omega) (by omega)).mono ?_
  rintro e w1 ⟨rfl,b1⟩
  have B1:Below w.heap.size w w1:=Below.trans cP (b1.mono aN)
  have z1:w.heap.size+1≤w1.heap.size:=by have:=b1.size;(try simp only[cX] at this ⊢) <;> omega
  have qa00_1:w1.cell? ⟨w.heap.size,0,none⟩=some (.slice ap0_0 an0_0 aq0_0):=(b1.cell (p:=⟨w.heap.size,0,none⟩) aN).trans (by simp)
  have qa01_1:w1.cell? ⟨w.heap.size,1,none⟩=some (.slice ap0_1 an0_1 aq0_1):=(b1.cell (p:=⟨w.heap.size,1,none⟩) aN).trans (by simp)
  have qa02_1:w1.cell? ⟨w.heap.size,2,none⟩=some (.int .i64 ax0_2):=(b1.cell (p:=⟨w.heap.size,2,none⟩) aN).trans (by simp)
  have qa03_1:w1.cell? ⟨w.heap.size,3,none⟩=some (.slice ap0_3 an0_3 aq0_3):=(b1.cell (p:=⟨w.heap.size,3,none⟩) aN).trans (by simp)
  have qa04_1:w1.cell? ⟨w.heap.size,4,none⟩=some (.slice ap0_4 an0_4 aq0_4):=(b1.cell (p:=⟨w.heap.size,4,none⟩) aN).trans (by simp)
  have qa05_1:w1.cell? ⟨w.heap.size,5,none⟩=some (.slice ap0_5 an0_5 aq0_5):=(b1.cell (p:=⟨w.heap.size,5,none⟩) aN).trans (by simp)
  have zba0_1:w.heap.size<w1.heap.size:=aN
  go_wp2
  go_ret
  exact ⟨rfl,B1⟩
 by_cases hz1:((aY (.slice 126 aI) l1:Nat):Int)≤(1048576:Int) - (aY aC d0:Nat)
 rotate_left
 ·skip
  go_enter Tryz.func7,Tryz.ntmps7
  go_wp2_with fail
  refine (nQ _ d0 _ _ (by exact eY H0.out cP) (by omega) (by omega) (by omega)).mono ?_
  rintro e w1 ⟨rfl,b1⟩
  have B1:Below w.heap.size w w1:=Below.trans cP (b1.mono aN)
  have z1:w.heap.size+1≤w1.heap.size:=by have:=b1.size;(try simp only[cX] at this ⊢) <;> omega
  have qa00_1:w1.cell? ⟨w.heap.size,0,none⟩=some (.slice ap0_0 an0_0 aq0_0):=(b1.cell (p:=⟨w.heap.size,0,none⟩) aN).trans (by simp)
  have qa01_1:w1.cell? ⟨w.heap.size,1,none⟩=some (.slice ap0_1 an0_1 aq0_1):=(b1.cell (p:=⟨w.heap.size,1,none⟩) aN).trans (by simp)
  have qa02_1:w1.cell? ⟨w.heap.size,2,none⟩=some (.int .i64 ax0_2):=(b1.cell (p:=⟨w.heap.size,2,none⟩) aN).trans (by simp)
  have qa03_1:w1.cell? ⟨w.heap.size,3,none⟩=some (.slice ap0_3 an0_3 aq0_3):=(b1.cell (p:=⟨w.heap.size,3,none⟩) aN).trans (by simp)
  have qa04_1:w1.cell? ⟨w.heap.size,4,none⟩=some (.slice ap0_4 an0_4 aq0_4):=(b1.cell (p:=⟨w.heap.size,4,none⟩) aN).trans (by simp)
  have qa05_1:w1.cell? ⟨w.heap.size,5,none⟩=some (.slice ap0_5 an0_5 aq0_5):=(b1.cell (p:=⟨w.heap.size,5,none⟩) aN).trans (by simp)
  have zba0_1:w.heap.size<w1.heap.size:=aN
  obtain ⟨lf0,hlf0⟩:∃ z:Int,z=(1048576:Int) - (aY aC d0:Nat):=⟨_,rfl⟩
  rw[← hlf0]
  have hnl0:¬ (lf0<0):=by omega
  have hnm0:lf0≤1048576:=by omega
  have HLF0:=Lib.hid hlf0;have hle0:=Int.le_of_eq hlf0;have hge0:=Int.le_of_eq hlf0.symm;clear hlf0
  go_wp2_with fail
  refine (aDZ _ _ _ l1 _ _ (by exact h1.below B1) (by omega) (by omega) (by omega)).mono ?_
  rintro e w2 ⟨rfl,b2⟩
  have B2:Below w.heap.size w w2:=Below.trans B1 (b2.mono aN)
  have z2:w1.heap.size+0≤w2.heap.size:=by have:=b2.size;(try simp only[cX] at this ⊢) <;> omega
  have qa00_2:w2.cell? ⟨w.heap.size,0,none⟩=some (.slice ap0_0 an0_0 aq0_0):=(b2.cell (p:=⟨w.heap.size,0,none⟩) aN).trans qa00_1
  have qa01_2:w2.cell? ⟨w.heap.size,1,none⟩=some (.slice ap0_1 an0_1 aq0_1):=(b2.cell (p:=⟨w.heap.size,1,none⟩) aN).trans qa01_1
  have qa02_2:w2.cell? ⟨w.heap.size,2,none⟩=some (.int .i64 ax0_2):=(b2.cell (p:=⟨w.heap.size,2,none⟩) aN).trans qa02_1
  have qa03_2:w2.cell? ⟨w.heap.size,3,none⟩=some (.slice ap0_3 an0_3 aq0_3):=(b2.cell (p:=⟨w.heap.size,3,none⟩) aN).trans qa03_1
  have qa04_2:w2.cell? ⟨w.heap.size,4,none⟩=some (.slice ap0_4 an0_4 aq0_4):=(b2.cell (p:=⟨w.heap.size,4,none⟩) aN).trans qa04_1
  have qa05_2:w2.cell? ⟨w.heap.size,5,none⟩=some (.slice ap0_5 an0_5 aq0_5):=(b2.cell (p:=⟨w.heap.size,5,none⟩) aN).trans qa05_1
  have zba0_2:w.heap.size<w2.heap.size:=aN
  clear qa00_1 qa01_1 qa02_1 qa03_1 qa04_1 qa05_1
  go_wp2
  go_ret
  exact ⟨rfl,B2⟩
 obtain ⟨R0,hS,hI⟩:=aLY d0 l1 (by omega) (by omega)
 have HS:=Lib.hid hS;have HI:=Lib.hid hI;clear hS hI
 go_enter Tryz.func7,Tryz.ntmps7
 go_wp2_with fail
 refine (nQ _ d0 _ _ (by exact eY H0.out cP) (by omega) (by omega) (by omega)).mono ?_
 rintro e w1 ⟨rfl,b1⟩
 have B1:Below w.heap.size w w1:=Below.trans cP (b1.mono aN)
 have z1:w.heap.size+1≤w1.heap.size:=by have:=b1.size;(try simp only[cX] at this ⊢) <;> omega
 have qa00_1:w1.cell? ⟨w.heap.size,0,none⟩=some (.slice ap0_0 an0_0 aq0_0):=(b1.cell (p:=⟨w.heap.size,0,none⟩) aN).trans (by simp)
 have qa01_1:w1.cell? ⟨w.heap.size,1,none⟩=some (.slice ap0_1 an0_1 aq0_1):=(b1.cell (p:=⟨w.heap.size,1,none⟩) aN).trans (by simp)
 have qa02_1:w1.cell? ⟨w.heap.size,2,none⟩=some (.int .i64 ax0_2):=(b1.cell (p:=⟨w.heap.size,2,none⟩) aN).trans (by simp)
 have qa03_1:w1.cell? ⟨w.heap.size,3,none⟩=some (.slice ap0_3 an0_3 aq0_3):=(b1.cell (p:=⟨w.heap.size,3,none⟩) aN).trans (by simp)
 have qa04_1:w1.cell? ⟨w.heap.size,4,none⟩=some (.slice ap0_4 an0_4 aq0_4):=(b1.cell (p:=⟨w.heap.size,4,none⟩) aN).trans (by simp)
 have qa05_1:w1.cell? ⟨w.heap.size,5,none⟩=some (.slice ap0_5 an0_5 aq0_5):=(b1.cell (p:=⟨w.heap.size,5,none⟩) aN).trans (by simp)
 have zba0_1:w.heap.size<w1.heap.size:=aN
 obtain ⟨lf0,hlf0⟩:∃ z:Int,z=(1048576:Int) - (aY aC d0:Nat):=⟨_,rfl⟩
 rw[← hlf0]
 have hnl0:¬ (lf0<0):=by omega
 have hnm0:lf0≤1048576:=by omega
 have HLF0:=Lib.hid hlf0;have hle0:=Int.le_of_eq hlf0;have hge0:=Int.le_of_eq hlf0.symm;clear hlf0
 go_wp2_with fail
 refine (aEF _ _ _ l1 _ _ (by exact h1.below B1) (by omega) (by omega) (by omega)).mono ?_
 rintro e w2 ⟨rfl,b2⟩
 have B2:Below w.heap.size w w2:=Below.trans B1 (b2.mono aN)
 have z2:w1.heap.size+0≤w2.heap.size:=by have:=b2.size;(try simp only[cX] at this ⊢) <;> omega
 have qa00_2:w2.cell? ⟨w.heap.size,0,none⟩=some (.slice ap0_0 an0_0 aq0_0):=(b2.cell (p:=⟨w.heap.size,0,none⟩) aN).trans qa00_1
 have qa01_2:w2.cell? ⟨w.heap.size,1,none⟩=some (.slice ap0_1 an0_1 aq0_1):=(b2.cell (p:=⟨w.heap.size,1,none⟩) aN).trans qa01_1
 have qa02_2:w2.cell? ⟨w.heap.size,2,none⟩=some (.int .i64 ax0_2):=(b2.cell (p:=⟨w.heap.size,2,none⟩) aN).trans qa02_1
 have qa03_2:w2.cell? ⟨w.heap.size,3,none⟩=some (.slice ap0_3 an0_3 aq0_3):=(b2.cell (p:=⟨w.heap.size,3,none⟩) aN).trans qa03_1
 have qa04_2:w2.cell? ⟨w.heap.size,4,none⟩=some (.slice ap0_4 an0_4 aq0_4):=(b2.cell (p:=⟨w.heap.size,4,none⟩) aN).trans qa04_1
 have qa05_2:w2.cell? ⟨w.heap.size,5,none⟩=some (.slice ap0_5 an0_5 aq0_5):=(b2.cell (p:=⟨w.heap.size,5,none⟩) aN).trans qa05_1
 have zba0_2:w.heap.size<w2.heap.size:=aN
 clear qa00_1 qa01_1 qa02_1 qa03_1 qa04_1 qa05_1
 obtain ⟨lf1,hlf1⟩:∃ z:Int,z=lf0 - (aY (.slice 126 aI) l1:Nat):=⟨_,rfl⟩
 rw[← hlf1]
 have hnl1:¬ (lf1<0):=by omega
 have hnm1:lf1≤1048576:=by omega
 have HLF1:=Lib.hid hlf1;have hle1:=Int.le_of_eq hlf1;have hge1:=Int.le_of_eq hlf1.symm;clear hlf1
 go_wp2_with fail
 refine (fH _ d0 _ (by exact eY H0.out B2) (by omega)).mono ?_
 rintro e w3 ⟨tcs0,rfl,tf0,b3⟩
 have B3:Below w.heap.size w w3:=Below.trans B2 (b3.mono aN)
 have z3:w2.heap.size+0≤w3.heap.size:=by have:=b3.size;(try simp only[cX] at this ⊢) <;> omega
 have qa00_3:w3.cell? ⟨w.heap.size,0,none⟩=some (.slice ap0_0 an0_0 aq0_0):=(b3.cell (p:=⟨w.heap.size,0,none⟩) aN).trans qa00_2
 have qa01_3:w3.cell? ⟨w.heap.size,1,none⟩=some (.slice ap0_1 an0_1 aq0_1):=(b3.cell (p:=⟨w.heap.size,1,none⟩) aN).trans qa01_2
 have qa02_3:w3.cell? ⟨w.heap.size,2,none⟩=some (.int .i64 ax0_2):=(b3.cell (p:=⟨w.heap.size,2,none⟩) aN).trans qa02_2
 have qa03_3:w3.cell? ⟨w.heap.size,3,none⟩=some (.slice ap0_3 an0_3 aq0_3):=(b3.cell (p:=⟨w.heap.size,3,none⟩) aN).trans qa03_2
 have qa04_3:w3.cell? ⟨w.heap.size,4,none⟩=some (.slice ap0_4 an0_4 aq0_4):=(b3.cell (p:=⟨w.heap.size,4,none⟩) aN).trans qa04_2
 have qa05_3:w3.cell? ⟨w.heap.size,5,none⟩=some (.slice ap0_5 an0_5 aq0_5):=(b3.cell (p:=⟨w.heap.size,5,none⟩) aN).trans qa05_2
 have zba0_3:w.heap.size<w3.heap.size:=aN
 clear qa00_2 qa01_2 qa02_2 qa03_2 qa04_2 qa05_2
 have Ft0_3:=Lib.hid tf0;clear tf0
 go_wp2_with fail
 refine (gO _ _ _ l1 _ (by exact h1.below B3) (by omega)).mono ?_
 rintro e w4 ⟨tp1,tc1,rfl,tf1,b4⟩
 have B4:Below w.heap.size w w4:=Below.trans B3 (b4.mono aN)
 have z4:w3.heap.size+0≤w4.heap.size:=by have:=b4.size;(try simp only[cX] at this ⊢) <;> omega
 have qa00_4:w4.cell? ⟨w.heap.size,0,none⟩=some (.slice ap0_0 an0_0 aq0_0):=(b4.cell (p:=⟨w.heap.size,0,none⟩) aN).trans qa00_3
 have qa01_4:w4.cell? ⟨w.heap.size,1,none⟩=some (.slice ap0_1 an0_1 aq0_1):=(b4.cell (p:=⟨w.heap.size,1,none⟩) aN).trans qa01_3
 have qa02_4:w4.cell? ⟨w.heap.size,2,none⟩=some (.int .i64 ax0_2):=(b4.cell (p:=⟨w.heap.size,2,none⟩) aN).trans qa02_3
 have qa03_4:w4.cell? ⟨w.heap.size,3,none⟩=some (.slice ap0_3 an0_3 aq0_3):=(b4.cell (p:=⟨w.heap.size,3,none⟩) aN).trans qa03_3
 have qa04_4:w4.cell? ⟨w.heap.size,4,none⟩=some (.slice ap0_4 an0_4 aq0_4):=(b4.cell (p:=⟨w.heap.size,4,none⟩) aN).trans qa04_3
 have qa05_4:w4.cell? ⟨w.heap.size,5,none⟩=some (.slice ap0_5 an0_5 aq0_5):=(b4.cell (p:=⟨w.heap.size,5,none⟩) aN).trans qa05_3
 have zba0_4:w.heap.size<w4.heap.size:=aN
 clear qa00_3 qa01_3 qa02_3 qa03_3 qa04_3 qa05_3
 have Ft0_4:=Lib.hid (Ft0_3.out.below b4 aN)
 clear Ft0_3
 have Ft1_4:=Lib.hid tf1;clear tf1
 go_wp2_with fail
 refine (HS.out _ _ _ _ (by exact (Ft0_4.out).rd) (by exact (Ft1_4.out).sl)).mono ?_
 rintro e w5 ⟨rfl,b5⟩
 have B5:Below w.heap.size w w5:=Below.trans B4 (b5.mono aN)
 have z5:w4.heap.size+0≤w5.heap.size:=by have:=b5.size;(try simp only[cX] at this ⊢) <;> omega
 have qa00_5:w5.cell? ⟨w.heap.size,0,none⟩=some (.slice ap0_0 an0_0 aq0_0):=(b5.cell (p:=⟨w.heap.size,0,none⟩) aN).trans qa00_4
 have qa01_5:w5.cell? ⟨w.heap.size,1,none⟩=some (.slice ap0_1 an0_1 aq0_1):=(b5.cell (p:=⟨w.heap.size,1,none⟩) aN).trans qa01_4
 have qa02_5:w5.cell? ⟨w.heap.size,2,none⟩=some (.int .i64 ax0_2):=(b5.cell (p:=⟨w.heap.size,2,none⟩) aN).trans qa02_4
 have qa03_5:w5.cell? ⟨w.heap.size,3,none⟩=some (.slice ap0_3 an0_3 aq0_3):=(b5.cell (p:=⟨w.heap.size,3,none⟩) aN).trans qa03_4
 have qa04_5:w5.cell? ⟨w.heap.size,4,none⟩=some (.slice ap0_4 an0_4 aq0_4):=(b5.cell (p:=⟨w.heap.size,4,none⟩) aN).trans qa04_4
 have qa05_5:w5.cell? ⟨w.heap.size,5,none⟩=some (.slice ap0_5 an0_5 aq0_5):=(b5.cell (p:=⟨w.heap.size,5,none⟩) aN).trans qa05_4
 have zba0_5:w.heap.size<w5.heap.size:=aN
 clear qa00_4 qa01_4 qa02_4 qa03_4 qa04_4 qa05_4
 have Ft0_5:=Lib.hid (Ft0_4.out.below b5 aN)
 clear Ft0_4
 have Ft1_5:=Lib.hid (Ft1_4.out.below b5 aN)
 clear Ft1_4
 clear Ft0_5
 clear Ft1_5
 go_wp2_with fail
 refine (fH _ d0 _ (by exact eY H0.out B5) (by omega)).mono ?_
 rintro e w6 ⟨xcs0,rfl,xf0,b6⟩
 have B6:Below w.heap.size w w6:=Below.trans B5 (b6.mono aN)
 have z6:w5.heap.size+0≤w6.heap.size:=by have:=b6.size;(try simp only[cX] at this ⊢) <;> omega
 have qa00_6:w6.cell? ⟨w.heap.size,0,none⟩=some (.slice ap0_0 an0_0 aq0_0):=(b6.cell (p:=⟨w.heap.size,0,none⟩) aN).trans qa00_5
 have qa01_6:w6.cell? ⟨w.heap.size,1,none⟩=some (.slice ap0_1 an0_1 aq0_1):=(b6.cell (p:=⟨w.heap.size,1,none⟩) aN).trans qa01_5
 have qa02_6:w6.cell? ⟨w.heap.size,2,none⟩=some (.int .i64 ax0_2):=(b6.cell (p:=⟨w.heap.size,2,none⟩) aN).trans qa02_5
 have qa03_6:w6.cell? ⟨w.heap.size,3,none⟩=some (.slice ap0_3 an0_3 aq0_3):=(b6.cell (p:=⟨w.heap.size,3,none⟩) aN).trans qa03_5
 have qa04_6:w6.cell? ⟨w.heap.size,4,none⟩=some (.slice ap0_4 an0_4 aq0_4):=(b6.cell (p:=⟨w.heap.size,4,none⟩) aN).trans qa04_5
 have qa05_6:w6.cell? ⟨w.heap.size,5,none⟩=some (.slice ap0_5 an0_5 aq0_5):=(b6.cell (p:=⟨w.heap.size,5,none⟩) aN).trans qa05_5
 have zba0_6:w.heap.size<w6.heap.size:=aN
 clear qa00_5 qa01_5 qa02_5 qa03_5 qa04_5 qa05_5
 have rrx0d:=xf0.rd
 obtain ⟨_,_,x0dhcs,⟨x0dp0,x0dn0,x0dq0,rfl,x0ds0⟩,⟨_,_,rfl,⟨x0dp1,x0dn1,x0dq1,rfl,x0ds1⟩,⟨_,_,rfl,⟨rfl,x0dw2⟩,⟨_,_,rfl,⟨x0dp3,x0dn3,x0dq3,rfl,x0ds3⟩,⟨_,_,rfl,⟨x0dp4,x0dn4,x0dq4,rfl,x0ds4⟩,⟨x0dp5,x0dn5,x0dq5,rfl,x0ds5⟩⟩⟩⟩⟩⟩:=rrx0d
 obtain rfl:xcs0 = #[.slice x0dp0 x0dn0 x0dq0,.slice x0dp1 x0dn1 x0dq1,.int .i64 d0.2.2.1,.slice x0dp3 x0dn3 x0dq3,.slice x0dp4 x0dn4 x0dq4,.slice x0dp5 x0dn5 x0dq5]:=dZ x0dhcs
 clear x0dhcs
 have Fx0_6:=Lib.hid xf0;clear xf0
 go_wp2_with fail
 refine (gO _ _ _ l1 _ (by exact h1.below cP) (by omega)).mono ?_
 rintro e w7 ⟨xp1,xc1,rfl,xf1,b7⟩
 have B7:Below w.heap.size w w7:=Below.trans cP (b7.mono aN)
 have z7:w6.heap.size+1≤w7.heap.size:=by have:=b7.size;(try simp only[cX] at this ⊢) <;> omega
 have qa00_7:w7.cell? ⟨w.heap.size,0,none⟩=some (.slice ap0_0 an0_0 aq0_0):=(b7.cell (p:=⟨w.heap.size,0,none⟩) aN).trans ((bB (a:=⟨w.heap.size,0,none⟩) aN).trans qa00_6)
 have qa01_7:w7.cell? ⟨w.heap.size,1,none⟩=some (.slice ap0_1 an0_1 aq0_1):=(b7.cell (p:=⟨w.heap.size,1,none⟩) aN).trans ((bB (a:=⟨w.heap.size,1,none⟩) aN).trans qa01_6)
 have qa02_7:w7.cell? ⟨w.heap.size,2,none⟩=some (.int .i64 ax0_2):=(b7.cell (p:=⟨w.heap.size,2,none⟩) aN).trans ((bB (a:=⟨w.heap.size,2,none⟩) aN).trans qa02_6)
 have qa03_7:w7.cell? ⟨w.heap.size,3,none⟩=some (.slice ap0_3 an0_3 aq0_3):=(b7.cell (p:=⟨w.heap.size,3,none⟩) aN).trans ((bB (a:=⟨w.heap.size,3,none⟩) aN).trans qa03_6)
 have qa04_7:w7.cell? ⟨w.heap.size,4,none⟩=some (.slice ap0_4 an0_4 aq0_4):=(b7.cell (p:=⟨w.heap.size,4,none⟩) aN).trans ((bB (a:=⟨w.heap.size,4,none⟩) aN).trans qa04_6)
 have qa05_7:w7.cell? ⟨w.heap.size,5,none⟩=some (.slice ap0_5 an0_5 aq0_5):=(b7.cell (p:=⟨w.heap.size,5,none⟩) aN).trans ((bB (a:=⟨w.heap.size,5,none⟩) aN).trans qa05_6)
 have zba0_7:w.heap.size<w7.heap.size:=aN
 clear qa00_6 qa01_6 qa02_6 qa03_6 qa04_6 qa05_6
 have qx00_7:w7.cell? ⟨w6.heap.size,0,none⟩=some (.slice x0dp0 x0dn0 x0dq0):=(b7.cell (p:=⟨w6.heap.size,0,none⟩) aN).trans (by simp)
 have qx01_7:w7.cell? ⟨w6.heap.size,1,none⟩=some (.slice x0dp1 x0dn1 x0dq1):=(b7.cell (p:=⟨w6.heap.size,1,none⟩) aN).trans (by simp)
 have qx02_7:w7.cell? ⟨w6.heap.size,2,none⟩=some (.int .i64 d0.2.2.1):=(b7.cell (p:=⟨w6.heap.size,2,none⟩) aN).trans (by simp)
 have qx03_7:w7.cell? ⟨w6.heap.size,3,none⟩=some (.slice x0dp3 x0dn3 x0dq3):=(b7.cell (p:=⟨w6.heap.size,3,none⟩) aN).trans (by simp)
 have qx04_7:w7.cell? ⟨w6.heap.size,4,none⟩=some (.slice x0dp4 x0dn4 x0dq4):=(b7.cell (p:=⟨w6.heap.size,4,none⟩) aN).trans (by simp)
 have qx05_7:w7.cell? ⟨w6.heap.size,5,none⟩=some (.slice x0dp5 x0dn5 x0dq5):=(b7.cell (p:=⟨w6.heap.size,5,none⟩) aN).trans (by simp)
 have zbx0_7:w6.heap.size<w7.heap.size:=aN
 have Fx0_7:=Lib.hid ((Fx0_6.out.alloc _).below b7 aN)
 clear Fx0_6
 have Fx1_7:=Lib.hid xf1;clear xf1
 go_wp2_with fail
 refine (HI.out _ _ _ _ (by exact (Fx0_7.out).rd) (by exact (Fx1_7.out).sl)).mono ?_
 rintro e w8 ⟨rfl,b8⟩
 have B8:Below w.heap.size w w8:=Below.trans B7 (b8.mono aN)
 have z8:w7.heap.size+0≤w8.heap.size:=by have:=b8.size;(try simp only[cX] at this ⊢) <;> omega
 have qa00_8:w8.cell? ⟨w.heap.size,0,none⟩=some (.slice ap0_0 an0_0 aq0_0):=(b8.cell (p:=⟨w.heap.size,0,none⟩) aN).trans qa00_7
 have qa01_8:w8.cell? ⟨w.heap.size,1,none⟩=some (.slice ap0_1 an0_1 aq0_1):=(b8.cell (p:=⟨w.heap.size,1,none⟩) aN).trans qa01_7
 have qa02_8:w8.cell? ⟨w.heap.size,2,none⟩=some (.int .i64 ax0_2):=(b8.cell (p:=⟨w.heap.size,2,none⟩) aN).trans qa02_7
 have qa03_8:w8.cell? ⟨w.heap.size,3,none⟩=some (.slice ap0_3 an0_3 aq0_3):=(b8.cell (p:=⟨w.heap.size,3,none⟩) aN).trans qa03_7
 have qa04_8:w8.cell? ⟨w.heap.size,4,none⟩=some (.slice ap0_4 an0_4 aq0_4):=(b8.cell (p:=⟨w.heap.size,4,none⟩) aN).trans qa04_7
 have qa05_8:w8.cell? ⟨w.heap.size,5,none⟩=some (.slice ap0_5 an0_5 aq0_5):=(b8.cell (p:=⟨w.heap.size,5,none⟩) aN).trans qa05_7
 have zba0_8:w.heap.size<w8.heap.size:=aN
 clear qa00_7 qa01_7 qa02_7 qa03_7 qa04_7 qa05_7
 have qx00_8:w8.cell? ⟨w6.heap.size,0,none⟩=some (.slice x0dp0 x0dn0 x0dq0):=(b8.cell (p:=⟨w6.heap.size,0,none⟩) aN).trans qx00_7
 have qx01_8:w8.cell? ⟨w6.heap.size,1,none⟩=some (.slice x0dp1 x0dn1 x0dq1):=(b8.cell (p:=⟨w6.heap.size,1,none⟩) aN).trans qx01_7
 have qx02_8:w8.cell? ⟨w6.heap.size,2,none⟩=some (.int .i64 d0.2.2.1):=(b8.cell (p:=⟨w6.heap.size,2,none⟩) aN).trans qx02_7
 have qx03_8:w8.cell? ⟨w6.heap.size,3,none⟩=some (.slice x0dp3 x0dn3 x0dq3):=(b8.cell (p:=⟨w6.heap.size,3,none⟩) aN).trans qx03_7
 have qx04_8:w8.cell? ⟨w6.heap.size,4,none⟩=some (.slice x0dp4 x0dn4 x0dq4):=(b8.cell (p:=⟨w6.heap.size,4,none⟩) aN).trans qx04_7
 have qx05_8:w8.cell? ⟨w6.heap.size,5,none⟩=some (.slice x0dp5 x0dn5 x0dq5):=(b8.cell (p:=⟨w6.heap.size,5,none⟩) aN).trans qx05_7
 have zbx0_8:w6.heap.size<w8.heap.size:=aN
 clear qx00_7 qx01_7 qx02_7 qx03_7 qx04_7 qx05_7
 have Fx0_8:=Lib.hid (Fx0_7.out.below b8 aN)
 clear Fx0_7
 have Fx1_8:=Lib.hid (Fx1_7.out.below b8 aN)
 clear Fx1_7
 go_wp2_with fail
 go_region_held3 (fun w'=>w'.cell? ⟨w.heap.size,0,none⟩=some (.slice ap0_0 an0_0 aq0_0)∧w'.cell? ⟨w.heap.size,1,none⟩=some (.slice ap0_1 an0_1 aq0_1)∧w'.cell? ⟨w.heap.size,2,none⟩=some (.int .i64 ax0_2)∧w'.cell? ⟨w.heap.size,3,none⟩=some (.slice ap0_3 an0_3 aq0_3)∧w'.cell? ⟨w.heap.size,4,none⟩=some (.slice ap0_4 an0_4 aq0_4)∧w'.cell? ⟨w.heap.size,5,none⟩=some (.slice ap0_5 an0_5 aq0_5)∧w'.cell? ⟨w6.heap.size,0,none⟩=some (.slice x0dp0 x0dn0 x0dq0)∧w'.cell? ⟨w6.heap.size,1,none⟩=some (.slice x0dp1 x0dn1 x0dq1)∧w'.cell? ⟨w6.heap.size,2,none⟩=some (.int .i64 d0.2.2.1)∧w'.cell? ⟨w6.heap.size,3,none⟩=some (.slice x0dp3 x0dn3 x0dq3)∧w'.cell? ⟨w6.heap.size,4,none⟩=some (.slice x0dp4 x0dn4 x0dq4)∧w'.cell? ⟨w6.heap.size,5,none⟩=some (.slice x0dp5 x0dn5 x0dq5)) (first|go_keep|((try dsimp only);(repeat' apply And.intro) <;> (first|go_keep|(refine ((Below.cell b10 ?_).trans ((Below.cell b9 ?_).trans ?_)) <;> first|assumption|omega|(simp;omega)|(simp;assumption))|(refine ((Below.cell b9 ?_).trans ?_) <;> first|assumption|omega|(simp;omega)|(simp;assumption))))) ((first|(go_at_call 26;refine (fH _ d0 _ (by exact eY H0.out cP) (by omega)).mono ?_;rintro e w9 ⟨ycs0,rfl,yf0,b9⟩;have B9:Below w.heap.size w w9:=Below.trans cP (b9.mono aN);have z9:w8.heap.size≤w9.heap.size:=by have:=b9.size;(try simp only[cX] at this ⊢) <;> omega)|(go_at_call 30;refine (zH _ _ d0 _ (by exact ((Fx0_8.out.keep (w':=w8.drew) (fun _ _ _=>rfl) (Nat.le_refl _)).below b9 aN).rd) (by exact yf0.rd)).mono ?_;rintro e w10 ⟨rfl,b10⟩;have B10:Below w.heap.size w w10:=B9.trans (b10.mono aN);have z10:=b10.size)))
 have hS:=‹_∧_›
 obtain ⟨qa00_10,qa01_10,qa02_10,qa03_10,qa04_10,qa05_10,qx00_10,qx01_10,qx02_10,qx03_10,qx04_10,qx05_10⟩:=hS
 have zba0_10:w.heap.size<w10.heap.size:=aN
 have zbx0_10:w6.heap.size<w10.heap.size:=aN
 have Fx0_10:=Lib.hid (((Fx0_8.out.keep (w':=w8.drew) (fun _ _ _=>rfl) (Nat.le_refl _)).below b9 aN).below b10 aN)
 clear Fx0_8
 have Fx1_10:=Lib.hid (((Fx1_8.out.keep (w':=w8.drew) (fun _ _ _=>rfl) (Nat.le_refl _)).below b9 aN).below b10 aN)
 clear Fx1_8
 go_wp2_with fail
 refine (gO _ _ _ l1 _ (by exact h1.below B10) (by omega)).mono ?_
 rintro e w11 ⟨yp1,yc1,rfl,yf1,b11⟩
 have B11:Below w.heap.size w w11:=Below.trans B10 (b11.mono aN)
 have z11:w10.heap.size+0≤w11.heap.size:=by have:=b11.size;(try simp only[cX] at this ⊢) <;> omega
 have qa00_11:w11.cell? ⟨w.heap.size,0,none⟩=some (.slice ap0_0 an0_0 aq0_0):=(b11.cell (p:=⟨w.heap.size,0,none⟩) aN).trans qa00_10
 have qa01_11:w11.cell? ⟨w.heap.size,1,none⟩=some (.slice ap0_1 an0_1 aq0_1):=(b11.cell (p:=⟨w.heap.size,1,none⟩) aN).trans qa01_10
 have qa02_11:w11.cell? ⟨w.heap.size,2,none⟩=some (.int .i64 ax0_2):=(b11.cell (p:=⟨w.heap.size,2,none⟩) aN).trans qa02_10
 have qa03_11:w11.cell? ⟨w.heap.size,3,none⟩=some (.slice ap0_3 an0_3 aq0_3):=(b11.cell (p:=⟨w.heap.size,3,none⟩) aN).trans qa03_10
 have qa04_11:w11.cell? ⟨w.heap.size,4,none⟩=some (.slice ap0_4 an0_4 aq0_4):=(b11.cell (p:=⟨w.heap.size,4,none⟩) aN).trans qa04_10
 have qa05_11:w11.cell? ⟨w.heap.size,5,none⟩=some (.slice ap0_5 an0_5 aq0_5):=(b11.cell (p:=⟨w.heap.size,5,none⟩) aN).trans qa05_10
 have zba0_11:w.heap.size<w11.heap.size:=aN
 clear qa00_10 qa01_10 qa02_10 qa03_10 qa04_10 qa05_10
 have qx00_11:w11.cell? ⟨w6.heap.size,0,none⟩=some (.slice x0dp0 x0dn0 x0dq0):=(b11.cell (p:=⟨w6.heap.size,0,none⟩) aN).trans qx00_10
 have qx01_11:w11.cell? ⟨w6.heap.size,1,none⟩=some (.slice x0dp1 x0dn1 x0dq1):=(b11.cell (p:=⟨w6.heap.size,1,none⟩) aN).trans qx01_10
 have qx02_11:w11.cell? ⟨w6.heap.size,2,none⟩=some (.int .i64 d0.2.2.1):=(b11.cell (p:=⟨w6.heap.size,2,none⟩) aN).trans qx02_10
 have qx03_11:w11.cell? ⟨w6.heap.size,3,none⟩=some (.slice x0dp3 x0dn3 x0dq3):=(b11.cell (p:=⟨w6.heap.size,3,none⟩) aN).trans qx03_10
 have qx04_11:w11.cell? ⟨w6.heap.size,4,none⟩=some (.slice x0dp4 x0dn4 x0dq4):=(b11.cell (p:=⟨w6.heap.size,4,none⟩) aN).trans qx04_10
 have qx05_11:w11.cell? ⟨w6.heap.size,5,none⟩=some (.slice x0dp5 x0dn5 x0dq5):=(b11.cell (p:=⟨w6.heap.size,5,none⟩) aN).trans qx05_10
 have zbx0_11:w6.heap.size<w11.heap.size:=aN
 clear qx00_10 qx01_10 qx02_10 qx03_10 qx04_10 qx05_10
 have Fx0_11:=Lib.hid (Fx0_10.out.below b11 aN)
 clear Fx0_10
 have Fx1_11:=Lib.hid (Fx1_10.out.below b11 aN)
 clear Fx1_10
 have Fy1_11:=Lib.hid yf1;clear yf1
 go_wp2_with fail
 refine (aB1 _ _ _ _ _ _ l1 _ (by exact (Fx1_11.out).sl) (by exact (Fy1_11.out).sl)).mono ?_
 rintro e w12 ⟨rfl,b12⟩
 have B12:Below w.heap.size w w12:=Below.trans B11 (b12.mono aN)
 have z12:w11.heap.size+0≤w12.heap.size:=by have:=b12.size;(try simp only[cX] at this ⊢) <;> omega
 have qa00_12:w12.cell? ⟨w.heap.size,0,none⟩=some (.slice ap0_0 an0_0 aq0_0):=(b12.cell (p:=⟨w.heap.size,0,none⟩) aN).trans qa00_11
 have qa01_12:w12.cell? ⟨w.heap.size,1,none⟩=some (.slice ap0_1 an0_1 aq0_1):=(b12.cell (p:=⟨w.heap.size,1,none⟩) aN).trans qa01_11
 have qa02_12:w12.cell? ⟨w.heap.size,2,none⟩=some (.int .i64 ax0_2):=(b12.cell (p:=⟨w.heap.size,2,none⟩) aN).trans qa02_11
 have qa03_12:w12.cell? ⟨w.heap.size,3,none⟩=some (.slice ap0_3 an0_3 aq0_3):=(b12.cell (p:=⟨w.heap.size,3,none⟩) aN).trans qa03_11
 have qa04_12:w12.cell? ⟨w.heap.size,4,none⟩=some (.slice ap0_4 an0_4 aq0_4):=(b12.cell (p:=⟨w.heap.size,4,none⟩) aN).trans qa04_11
 have qa05_12:w12.cell? ⟨w.heap.size,5,none⟩=some (.slice ap0_5 an0_5 aq0_5):=(b12.cell (p:=⟨w.heap.size,5,none⟩) aN).trans qa05_11
 have zba0_12:w.heap.size<w12.heap.size:=aN
 clear qa00_11 qa01_11 qa02_11 qa03_11 qa04_11 qa05_11
 have qx00_12:w12.cell? ⟨w6.heap.size,0,none⟩=some (.slice x0dp0 x0dn0 x0dq0):=(b12.cell (p:=⟨w6.heap.size,0,none⟩) aN).trans qx00_11
 have qx01_12:w12.cell? ⟨w6.heap.size,1,none⟩=some (.slice x0dp1 x0dn1 x0dq1):=(b12.cell (p:=⟨w6.heap.size,1,none⟩) aN).trans qx01_11
 have qx02_12:w12.cell? ⟨w6.heap.size,2,none⟩=some (.int .i64 d0.2.2.1):=(b12.cell (p:=⟨w6.heap.size,2,none⟩) aN).trans qx02_11
 have qx03_12:w12.cell? ⟨w6.heap.size,3,none⟩=some (.slice x0dp3 x0dn3 x0dq3):=(b12.cell (p:=⟨w6.heap.size,3,none⟩) aN).trans qx03_11
 have qx04_12:w12.cell? ⟨w6.heap.size,4,none⟩=some (.slice x0dp4 x0dn4 x0dq4):=(b12.cell (p:=⟨w6.heap.size,4,none⟩) aN).trans qx04_11
 have qx05_12:w12.cell? ⟨w6.heap.size,5,none⟩=some (.slice x0dp5 x0dn5 x0dq5):=(b12.cell (p:=⟨w6.heap.size,5,none⟩) aN).trans qx05_11
 have zbx0_12:w6.heap.size<w12.heap.size:=aN
 clear qx00_11 qx01_11 qx02_11 qx03_11 qx04_11 qx05_11
 have Fx0_12:=Lib.hid (Fx0_11.out.below b12 aN)
 clear Fx0_11
 have Fx1_12:=Lib.hid (Fx1_11.out.below b12 aN)
 clear Fx1_11
 have Fy1_12:=Lib.hid (Fy1_11.out.below b12 aN)
 clear Fy1_11
 clear Fy1_12
 go_wp2
 go_ret
 exact ⟨rfl,B12⟩
end Go.Proofs.YtmfpkkbhnmkfdaaGreat
