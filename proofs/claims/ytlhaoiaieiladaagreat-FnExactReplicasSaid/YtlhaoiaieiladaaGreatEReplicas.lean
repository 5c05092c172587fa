/- EReplicas: lemmas. No conditions. -/
import Derived.Test.YtlhaoiaieiladaaGreatUGrads
import Derived.Deep.RegionHeld3
namespace Go.Proofs.YtlhaoiaieiladaaGreat
open Go.ChangeShapes Go.WideShapes Go.ChangeAt Go.RowKit
set_option linter.unusedVariables false
set_option linter.unusedSimpArgs false
set_option maxRecDepth 100000 in
set_option maxHeartbeats 4000000 in
theorem fnExactReplicas_walk (w:World) (cs0:Array Value) (d0:Ty.D aH) (h0:rd aH w cs0.toList d0) (p1:Option Addr) (len1 cap1:Nat) (l1:List (Ty.D aF)) (h1:jT (Ty.n aF) (rd aF w) w p1 len1 cap1 l1) (x2:Int) (h2:(Lit.int .i64 x2).wf=true) :
  Calls Tryz.prog 3 #[.agg cs0,.slice p1 len1 cap1,.int .i64 x2] w fun e w'=>e = .returned (.bool true)/\Below w.heap.size w w':=by
 obtain ⟨ap0_0,an0_0,aq0_0,ap0_1,an0_1,aq0_1,ax0_2,ap0_3,an0_3,aq0_3,ap0_4,an0_4,aq0_4,ap0_5,an0_5,aq0_5,rfl⟩:∃ ap0_0 an0_0 aq0_0 ap0_1 an0_1 aq0_1 ax0_2 ap0_3 an0_3 aq0_3 ap0_4 an0_4 aq0_4 ap0_5 an0_5 aq0_5,cs0 = #[.slice ap0_0 an0_0 aq0_0,.slice ap0_1 an0_1 aq0_1,.int .i64 ax0_2,.slice ap0_3 an0_3 aq0_3,.slice ap0_4 an0_4 aq0_4,.slice ap0_5 an0_5 aq0_5]:=by
  obtain ⟨_,_,khcs,⟨kp0,kn0,kq0,rfl,ks0⟩,⟨_,_,rfl,⟨kp1,kn1,kq1,rfl,ks1⟩,⟨_,_,rfl,⟨rfl,kw2⟩,⟨_,_,rfl,⟨kp3,kn3,kq3,rfl,ks3⟩,⟨_,_,rfl,⟨kp4,kn4,kq4,rfl,ks4⟩,⟨kp5,kn5,kq5,rfl,ks5⟩⟩⟩⟩⟩⟩:=h0
  exact ⟨kp0,kn0,kq0,kp1,kn1,kq1,d0.2.2.1,kp3,kn3,kq3,kp4,kn4,kq4,kp5,kn5,kq5,mF khcs⟩
 have H0:=Lib.hid h0;clear h0
 by_cases hz0:((bC aH d0:Nat):Int)<=(1048576:Int)
 rotate_left
 ·skip
  go_enter Tryz.func3,Tryz.ntmps3
  go_wp2_with fail
  refine (bI9 _ d0 _ _ (by exact xU H0.out jL) (by omega) (by omega) (by omega)).mono ?_
  rintro e w1 ⟨rfl,b1⟩
  have B1:Below w.heap.size w w1:=Below.trans jL (b1.mono bE)
  have z1:w.heap.size+1<=w1.heap.size:=by have:=b1.size;(try simp only[vE] at this ⊢) <;> omega
  have qa00_1:w1.cell? ⟨w.heap.size,0,none⟩=some (.slice ap0_0 an0_0 aq0_0):=(b1.cell (p:=⟨w.heap.size,0,none⟩) bE).trans (by simp)
  have qa01_1:w1.cell? ⟨w.heap.size,1,none⟩=some (.slice ap0_1 an0_1 aq0_1):=(b1.cell (p:=⟨w.heap.size,1,none⟩) bE).trans (by simp)
  have qa02_1:w1.cell? ⟨w.heap.size,2,none⟩=some (.int .i64 ax0_2):=(b1.cell (p:=⟨w.heap.size,2,none⟩) bE).trans (by simp)
  have qa03_1:w1.cell? ⟨w.heap.size,3,none⟩=some (.slice ap0_3 an0_3 aq0_3):=(b1.cell (p:=⟨w.heap.size,3,none⟩) bE).trans (by simp)
  have qa04_1:w1.cell? ⟨w.heap.size,4,none⟩=some (.slice ap0_4 an0_4 aq0_4):=(b1.cell (p:=⟨w.heap.size,4,none⟩) bE).trans (by simp)
  have qa05_1:w1.cell? ⟨w.heap.size,5,none⟩=some (.slice ap0_5 an0_5 aq0_5):=(b1.cell (p:=⟨w.heap.size,5,none⟩) bE).trans (by simp)
  have zba0_1:w.heap.size<w1.heap.size:=bE
  go_wp2
  go_ret
  exact ⟨rfl,B1⟩
 by_cases hz1:((bC (.slice 77 aF) l1:Nat):Int)<=(1048576:Int) - (bC aH d0:Nat)
 rotate_left
 ·skip
  go_enter Tryz.func3,Tryz.ntmps3
  go_wp2_with fail
  refine (aUB _ d0 _ _ (by exact xU H0.out jL) (by omega) (by omega) (by omega)).mono ?_
  rintro e w1 ⟨rfl,b1⟩
  have B1:Below w.heap.size w w1:=Below.trans jL (b1.mono bE)
  have z1:w.heap.size+1<=w1.heap.size:=by have:=b1.size;(try simp only[vE] at this ⊢) <;> omega
  have qa00_1:w1.cell? ⟨w.heap.size,0,none⟩=some (.slice ap0_0 an0_0 aq0_0):=(b1.cell (p:=⟨w.heap.size,0,none⟩) bE).trans (by simp)
  have qa01_1:w1.cell? ⟨w.heap.size,1,none⟩=some (.slice ap0_1 an0_1 aq0_1):=(b1.cell (p:=⟨w.heap.size,1,none⟩) bE).trans (by simp)
  have qa02_1:w1.cell? ⟨w.heap.size,2,none⟩=some (.int .i64 ax0_2):=(b1.cell (p:=⟨w.heap.size,2,none⟩) bE).trans (by simp)
  have qa03_1:w1.cell? ⟨w.heap.size,3,none⟩=some (.slice ap0_3 an0_3 aq0_3):=(b1.cell (p:=⟨w.heap.size,3,none⟩) bE).trans (by simp)
  have qa04_1:w1.cell? ⟨w.heap.size,4,none⟩=some (.slice ap0_4 an0_4 aq0_4):=(b1.cell (p:=⟨w.heap.size,4,none⟩) bE).trans (by simp)
  have qa05_1:w1.cell? ⟨w.heap.size,5,none⟩=some (.slice ap0_5 an0_5 aq0_5):=(b1.cell (p:=⟨w.heap.size,5,none⟩) bE).trans (by simp)
  have zba0_1:w.heap.size<w1.heap.size:=bE
  obtain ⟨lf0,hlf0⟩:∃ z:Int,z=(1048576:Int) - (bC aH d0:Nat):=⟨_,rfl⟩
  rw[<- hlf0]
  have hnl0:¬ (lf0<0):=by omega
  have hnm0:lf0<=1048576:=by omega
  have HLF0:=Lib.hid hlf0;have hle0:=Int.le_of_eq hlf0;have hge0:=Int.le_of_eq hlf0.symm;clear hlf0
  go_wp2_with fail
  refine (bMG _ _ _ l1 _ _ (by exact h1.below B1) (by omega) (by omega) (by omega)).mono ?_
  rintro e w2 ⟨rfl,b2⟩
  have B2:Below w.heap.size w w2:=Below.trans B1 (b2.mono bE)
  have z2:w1.heap.size+0<=w2.heap.size:=by have:=b2.size;(try simp only[vE] at this ⊢) <;> omega
  have qa00_2:w2.cell? ⟨w.heap.size,0,none⟩=some (.slice ap0_0 an0_0 aq0_0):=(b2.cell (p:=⟨w.heap.size,0,none⟩) bE).trans qa00_1
  have qa01_2:w2.cell? ⟨w.heap.size,1,none⟩=some (.slice ap0_1 an0_1 aq0_1):=(b2.cell (p:=⟨w.heap.size,1,none⟩) bE).trans qa01_1
  have qa02_2:w2.cell? ⟨w.heap.size,2,none⟩=some (.int .i64 ax0_2):=(b2.cell (p:=⟨w.heap.size,2,none⟩) bE).trans qa02_1
  have qa03_2:w2.cell? ⟨w.heap.size,3,none⟩=some (.slice ap0_3 an0_3 aq0_3):=(b2.cell (p:=⟨w.heap.size,3,none⟩) bE).trans qa03_1
  have qa04_2:w2.cell? ⟨w.heap.size,4,none⟩=some (.slice ap0_4 an0_4 aq0_4):=(b2.cell (p:=⟨w.heap.size,4,none⟩) bE).trans qa04_1
  have qa05_2:w2.cell? ⟨w.heap.size,5,none⟩=some (.slice ap0_5 an0_5 aq0_5):=(b2.cell (p:=⟨w.heap.size,5,none⟩) bE).trans qa05_1
  have zba0_2:w.heap.size<w2.heap.size:=bE
  clear qa00_1 qa01_1 qa02_1 qa03_1 qa04_1 qa05_1
  go_wp2
  go_ret
  exact ⟨rfl,B2⟩
 obtain ⟨R0,R1,hS,hI,hcr⟩:=bC2 d0 l1 x2 h2 (by omega) (by omega)
 have HS:=Lib.hid hS;have HI:=Lib.hid hI;clear hS hI
 clear h2
 have hcb0:=bZM aH d0 (by decide)
 have hcb1:=cAM _ _ l1 (show Ty.per (.slice 77 aF)<=20 by decide)
 go_enter Tryz.func3,Tryz.ntmps3
 go_wp2_with fail
 refine (aUB _ d0 _ _ (by exact xU H0.out jL) (by omega) (by omega) (by omega)).mono ?_
 rintro e w1 ⟨rfl,b1⟩
 have B1:Below w.heap.size w w1:=Below.trans jL (b1.mono bE)
 have z1:w.heap.size+1<=w1.heap.size:=by have:=b1.size;(try simp only[vE] at this ⊢) <;> omega
 have qa00_1:w1.cell? ⟨w.heap.size,0,none⟩=some (.slice ap0_0 an0_0 aq0_0):=(b1.cell (p:=⟨w.heap.size,0,none⟩) bE).trans (by simp)
 have qa01_1:w1.cell? ⟨w.heap.size,1,none⟩=some (.slice ap0_1 an0_1 aq0_1):=(b1.cell (p:=⟨w.heap.size,1,none⟩) bE).trans (by simp)
 have qa02_1:w1.cell? ⟨w.heap.size,2,none⟩=some (.int .i64 ax0_2):=(b1.cell (p:=⟨w.heap.size,2,none⟩) bE).trans (by simp)
 have qa03_1:w1.cell? ⟨w.heap.size,3,none⟩=some (.slice ap0_3 an0_3 aq0_3):=(b1.cell (p:=⟨w.heap.size,3,none⟩) bE).trans (by simp)
 have qa04_1:w1.cell? ⟨w.heap.size,4,none⟩=some (.slice ap0_4 an0_4 aq0_4):=(b1.cell (p:=⟨w.heap.size,4,none⟩) bE).trans (by simp)
 have qa05_1:w1.cell? ⟨w.heap.size,5,none⟩=some (.slice ap0_5 an0_5 aq0_5):=(b1.cell (p:=⟨w.heap.size,5,none⟩) bE).trans (by simp)
 have zba0_1:w.heap.size<w1.heap.size:=bE
 obtain ⟨lf0,hlf0⟩:∃ z:Int,z=(1048576:Int) - (bC aH d0:Nat):=⟨_,rfl⟩
 rw[<- hlf0]
 have hnl0:¬ (lf0<0):=by omega
 have hnm0:lf0<=1048576:=by omega
 have HLF0:=Lib.hid hlf0;have hle0:=Int.le_of_eq hlf0;have hge0:=Int.le_of_eq hlf0.symm;clear hlf0
 go_wp2_with fail
 refine (bNH _ _ _ l1 _ _ (by exact h1.below B1) (by omega) (by omega) (by omega)).mono ?_
 rintro e w2 ⟨rfl,b2⟩
 have B2:Below w.heap.size w w2:=Below.trans B1 (b2.mono bE)
 have z2:w1.heap.size+0<=w2.heap.size:=by have:=b2.size;(try simp only[vE] at this ⊢) <;> omega
 have qa00_2:w2.cell? ⟨w.heap.size,0,none⟩=some (.slice ap0_0 an0_0 aq0_0):=(b2.cell (p:=⟨w.heap.size,0,none⟩) bE).trans qa00_1
 have qa01_2:w2.cell? ⟨w.heap.size,1,none⟩=some (.slice ap0_1 an0_1 aq0_1):=(b2.cell (p:=⟨w.heap.size,1,none⟩) bE).trans qa01_1
 have qa02_2:w2.cell? ⟨w.heap.size,2,none⟩=some (.int .i64 ax0_2):=(b2.cell (p:=⟨w.heap.size,2,none⟩) bE).trans qa02_1
 have qa03_2:w2.cell? ⟨w.heap.size,3,none⟩=some (.slice ap0_3 an0_3 aq0_3):=(b2.cell (p:=⟨w.heap.size,3,none⟩) bE).trans qa03_1
 have qa04_2:w2.cell? ⟨w.heap.size,4,none⟩=some (.slice ap0_4 an0_4 aq0_4):=(b2.cell (p:=⟨w.heap.size,4,none⟩) bE).trans qa04_1
 have qa05_2:w2.cell? ⟨w.heap.size,5,none⟩=some (.slice ap0_5 an0_5 aq0_5):=(b2.cell (p:=⟨w.heap.size,5,none⟩) bE).trans qa05_1
 have zba0_2:w.heap.size<w2.heap.size:=bE
 clear qa00_1 qa01_1 qa02_1 qa03_1 qa04_1 qa05_1
 obtain ⟨lf1,hlf1⟩:∃ z:Int,z=lf0 - (bC (.slice 77 aF) l1:Nat):=⟨_,rfl⟩
 rw[<- hlf1]
 have hnl1:¬ (lf1<0):=by omega
 have hnm1:lf1<=1048576:=by omega
 have HLF1:=Lib.hid hlf1;have hle1:=Int.le_of_eq hlf1;have hge1:=Int.le_of_eq hlf1.symm;clear hlf1
 go_wp2_with fail
 refine (aC8 _ d0 _ (by exact xU H0.out B2) (by omega)).mono ?_
 rintro e w3 ⟨tcs0,rfl,tf0,b3⟩
 have B3:Below w.heap.size w w3:=Below.trans B2 (b3.mono bE)
 have z3:w2.heap.size+0<=w3.heap.size:=by have:=b3.size;(try simp only[vE] at this ⊢) <;> omega
 have qa00_3:w3.cell? ⟨w.heap.size,0,none⟩=some (.slice ap0_0 an0_0 aq0_0):=(b3.cell (p:=⟨w.heap.size,0,none⟩) bE).trans qa00_2
 have qa01_3:w3.cell? ⟨w.heap.size,1,none⟩=some (.slice ap0_1 an0_1 aq0_1):=(b3.cell (p:=⟨w.heap.size,1,none⟩) bE).trans qa01_2
 have qa02_3:w3.cell? ⟨w.heap.size,2,none⟩=some (.int .i64 ax0_2):=(b3.cell (p:=⟨w.heap.size,2,none⟩) bE).trans qa02_2
 have qa03_3:w3.cell? ⟨w.heap.size,3,none⟩=some (.slice ap0_3 an0_3 aq0_3):=(b3.cell (p:=⟨w.heap.size,3,none⟩) bE).trans qa03_2
 have qa04_3:w3.cell? ⟨w.heap.size,4,none⟩=some (.slice ap0_4 an0_4 aq0_4):=(b3.cell (p:=⟨w.heap.size,4,none⟩) bE).trans qa04_2
 have qa05_3:w3.cell? ⟨w.heap.size,5,none⟩=some (.slice ap0_5 an0_5 aq0_5):=(b3.cell (p:=⟨w.heap.size,5,none⟩) bE).trans qa05_2
 have zba0_3:w.heap.size<w3.heap.size:=bE
 clear qa00_2 qa01_2 qa02_2 qa03_2 qa04_2 qa05_2
 have Ft0_3:=Lib.hid tf0;clear tf0
 go_wp2_with fail
 refine (aF8 _ _ _ l1 _ (by exact h1.below B3) (by omega)).mono ?_
 rintro e w4 ⟨tp1,tc1,rfl,tf1,b4⟩
 have B4:Below w.heap.size w w4:=Below.trans B3 (b4.mono bE)
 have z4:w3.heap.size+0<=w4.heap.size:=by have:=b4.size;(try simp only[vE] at this ⊢) <;> omega
 have qa00_4:w4.cell? ⟨w.heap.size,0,none⟩=some (.slice ap0_0 an0_0 aq0_0):=(b4.cell (p:=⟨w.heap.size,0,none⟩) bE).trans qa00_3
 have qa01_4:w4.cell? ⟨w.heap.size,1,none⟩=some (.slice ap0_1 an0_1 aq0_1):=(b4.cell (p:=⟨w.heap.size,1,none⟩) bE).trans qa01_3
 have qa02_4:w4.cell? ⟨w.heap.size,2,none⟩=some (.int .i64 ax0_2):=(b4.cell (p:=⟨w.heap.size,2,none⟩) bE).trans qa02_3
 have qa03_4:w4.cell? ⟨w.heap.size,3,none⟩=some (.slice ap0_3 an0_3 aq0_3):=(b4.cell (p:=⟨w.heap.size,3,none⟩) bE).trans qa03_3
 have qa04_4:w4.cell? ⟨w.heap.size,4,none⟩=some (.slice ap0_4 an0_4 aq0_4):=(b4.cell (p:=⟨w.heap.size,4,none⟩) bE).trans qa04_3
 have qa05_4:w4.cell? ⟨w.heap.size,5,none⟩=some (.slice ap0_5 an0_5 aq0_5):=(b4.cell (p:=⟨w.heap.size,5,none⟩) bE).trans qa05_3
 have zba0_4:w.heap.size<w4.heap.size:=bE
 clear qa00_3 qa01_3 qa02_3 qa03_3 qa04_3 qa05_3
 have Ft0_4:=Lib.hid (Ft0_3.out.below b4 bE)
 clear Ft0_3
 have Ft1_4:=Lib.hid tf1;clear tf1
 go_wp2_with fail
 refine (HS.out _ _ _ _ (by exact (Ft0_4.out).rd) (by exact (Ft1_4.out).sl)).mono ?_
 rintro e w5 ⟨w0rp0,w0rc0,rfl,w0rf0,b5⟩
 have B5:Below w.heap.size w w5:=Below.trans B4 (b5.mono bE)
 have z5:w4.heap.size+0<=w5.heap.size:=by have:=b5.size;(try simp only[vE] at this ⊢) <;> omega
 have qa00_5:w5.cell? ⟨w.heap.size,0,none⟩=some (.slice ap0_0 an0_0 aq0_0):=(b5.cell (p:=⟨w.heap.size,0,none⟩) bE).trans qa00_4
 have qa01_5:w5.cell? ⟨w.heap.size,1,none⟩=some (.slice ap0_1 an0_1 aq0_1):=(b5.cell (p:=⟨w.heap.size,1,none⟩) bE).trans qa01_4
 have qa02_5:w5.cell? ⟨w.heap.size,2,none⟩=some (.int .i64 ax0_2):=(b5.cell (p:=⟨w.heap.size,2,none⟩) bE).trans qa02_4
 have qa03_5:w5.cell? ⟨w.heap.size,3,none⟩=some (.slice ap0_3 an0_3 aq0_3):=(b5.cell (p:=⟨w.heap.size,3,none⟩) bE).trans qa03_4
 have qa04_5:w5.cell? ⟨w.heap.size,4,none⟩=some (.slice ap0_4 an0_4 aq0_4):=(b5.cell (p:=⟨w.heap.size,4,none⟩) bE).trans qa04_4
 have qa05_5:w5.cell? ⟨w.heap.size,5,none⟩=some (.slice ap0_5 an0_5 aq0_5):=(b5.cell (p:=⟨w.heap.size,5,none⟩) bE).trans qa05_4
 have zba0_5:w.heap.size<w5.heap.size:=bE
 clear qa00_4 qa01_4 qa02_4 qa03_4 qa04_4 qa05_4
 have Ft0_5:=Lib.hid (Ft0_4.out.below b5 bE)
 clear Ft0_4
 have Ft1_5:=Lib.hid (Ft1_4.out.below b5 bE)
 clear Ft1_4
 clear Ft0_5
 clear Ft1_5
 have Fw0r0_5:=Lib.hid w0rf0;clear w0rf0
 go_wp2_with fail
 refine (aC8 _ d0 _ (by exact xU H0.out B5) (by omega)).mono ?_
 rintro e w6 ⟨xcs0,rfl,xf0,b6⟩
 have B6:Below w.heap.size w w6:=Below.trans B5 (b6.mono bE)
 have z6:w5.heap.size+0<=w6.heap.size:=by have:=b6.size;(try simp only[vE] at this ⊢) <;> omega
 have qa00_6:w6.cell? ⟨w.heap.size,0,none⟩=some (.slice ap0_0 an0_0 aq0_0):=(b6.cell (p:=⟨w.heap.size,0,none⟩) bE).trans qa00_5
 have qa01_6:w6.cell? ⟨w.heap.size,1,none⟩=some (.slice ap0_1 an0_1 aq0_1):=(b6.cell (p:=⟨w.heap.size,1,none⟩) bE).trans qa01_5
 have qa02_6:w6.cell? ⟨w.heap.size,2,none⟩=some (.int .i64 ax0_2):=(b6.cell (p:=⟨w.heap.size,2,none⟩) bE).trans qa02_5
 have qa03_6:w6.cell? ⟨w.heap.size,3,none⟩=some (.slice ap0_3 an0_3 aq0_3):=(b6.cell (p:=⟨w.heap.size,3,none⟩) bE).trans qa03_5
 have qa04_6:w6.cell? ⟨w.heap.size,4,none⟩=some (.slice ap0_4 an0_4 aq0_4):=(b6.cell (p:=⟨w.heap.size,4,none⟩) bE).trans qa04_5
 have qa05_6:w6.cell? ⟨w.heap.size,5,none⟩=some (.slice ap0_5 an0_5 aq0_5):=(b6.cell (p:=⟨w.heap.size,5,none⟩) bE).trans qa05_5
 have zba0_6:w.heap.size<w6.heap.size:=bE
 clear qa00_5 qa01_5 qa02_5 qa03_5 qa04_5 qa05_5
 have Fw0r0_6:=Lib.hid (Fw0r0_5.out.below b6 bE)
 clear Fw0r0_5
 have rrx0d:=xf0.rd
 obtain ⟨_,_,x0dhcs,⟨x0dp0,x0dn0,x0dq0,rfl,x0ds0⟩,⟨_,_,rfl,⟨x0dp1,x0dn1,x0dq1,rfl,x0ds1⟩,⟨_,_,rfl,⟨rfl,x0dw2⟩,⟨_,_,rfl,⟨x0dp3,x0dn3,x0dq3,rfl,x0ds3⟩,⟨_,_,rfl,⟨x0dp4,x0dn4,x0dq4,rfl,x0ds4⟩,⟨x0dp5,x0dn5,x0dq5,rfl,x0ds5⟩⟩⟩⟩⟩⟩:=rrx0d
 obtain rfl:xcs0 = #[.slice x0dp0 x0dn0 x0dq0,.slice x0dp1 x0dn1 x0dq1,.int .i64 d0.2.2.1,.slice x0dp3 x0dn3 x0dq3,.slice x0dp4 x0dn4 x0dq4,.slice x0dp5 x0dn5 x0dq5]:=mF x0dhcs
 clear x0dhcs
 have Fx0_6:=Lib.hid xf0;clear xf0
 go_wp2_with fail
 refine (aF8 _ _ _ l1 _ (by exact h1.below jL) (by omega)).mono ?_
 rintro e w7 ⟨xp1,xc1,rfl,xf1,b7⟩
 have B7:Below w.heap.size w w7:=Below.trans jL (b7.mono bE)
 have z7:w6.heap.size+1<=w7.heap.size:=by have:=b7.size;(try simp only[vE] at this ⊢) <;> omega
 have qa00_7:w7.cell? ⟨w.heap.size,0,none⟩=some (.slice ap0_0 an0_0 aq0_0):=(b7.cell (p:=⟨w.heap.size,0,none⟩) bE).trans ((pA (a:=⟨w.heap.size,0,none⟩) bE).trans qa00_6)
 have qa01_7:w7.cell? ⟨w.heap.size,1,none⟩=some (.slice ap0_1 an0_1 aq0_1):=(b7.cell (p:=⟨w.heap.size,1,none⟩) bE).trans ((pA (a:=⟨w.heap.size,1,none⟩) bE).trans qa01_6)
 have qa02_7:w7.cell? ⟨w.heap.size,2,none⟩=some (.int .i64 ax0_2):=(b7.cell (p:=⟨w.heap.size,2,none⟩) bE).trans ((pA (a:=⟨w.heap.size,2,none⟩) bE).trans qa02_6)
 have qa03_7:w7.cell? ⟨w.heap.size,3,none⟩=some (.slice ap0_3 an0_3 aq0_3):=(b7.cell (p:=⟨w.heap.size,3,none⟩) bE).trans ((pA (a:=⟨w.heap.size,3,none⟩) bE).trans qa03_6)
 have qa04_7:w7.cell? ⟨w.heap.size,4,none⟩=some (.slice ap0_4 an0_4 aq0_4):=(b7.cell (p:=⟨w.heap.size,4,none⟩) bE).trans ((pA (a:=⟨w.heap.size,4,none⟩) bE).trans qa04_6)
 have qa05_7:w7.cell? ⟨w.heap.size,5,none⟩=some (.slice ap0_5 an0_5 aq0_5):=(b7.cell (p:=⟨w.heap.size,5,none⟩) bE).trans ((pA (a:=⟨w.heap.size,5,none⟩) bE).trans qa05_6)
 have zba0_7:w.heap.size<w7.heap.size:=bE
 clear qa00_6 qa01_6 qa02_6 qa03_6 qa04_6 qa05_6
 have qx00_7:w7.cell? ⟨w6.heap.size,0,none⟩=some (.slice x0dp0 x0dn0 x0dq0):=(b7.cell (p:=⟨w6.heap.size,0,none⟩) bE).trans (by simp)
 have qx01_7:w7.cell? ⟨w6.heap.size,1,none⟩=some (.slice x0dp1 x0dn1 x0dq1):=(b7.cell (p:=⟨w6.heap.size,1,none⟩) bE).trans (by simp)
 have qx02_7:w7.cell? ⟨w6.heap.size,2,none⟩=some (.int .i64 d0.2.2.1):=(b7.cell (p:=⟨w6.heap.size,2,none⟩) bE).trans (by simp)
 have qx03_7:w7.cell? ⟨w6.heap.size,3,none⟩=some (.slice x0dp3 x0dn3 x0dq3):=(b7.cell (p:=⟨w6.heap.size,3,none⟩) bE).trans (by simp)
 have qx04_7:w7.cell? ⟨w6.heap.size,4,none⟩=some (.slice x0dp4 x0dn4 x0dq4):=(b7.cell (p:=⟨w6.heap.size,4,none⟩) bE).trans (by simp)
 have qx05_7:w7.cell? ⟨w6.heap.size,5,none⟩=some (.slice x0dp5 x0dn5 x0dq5):=(b7.cell (p:=⟨w6.heap.size,5,none⟩) bE).trans (by simp)
 have zbx0_7:w6.heap.size<w7.heap.size:=bE
 have Fw0r0_7:=Lib.hid ((Fw0r0_6.out.alloc _).below b7 bE)
 clear Fw0r0_6
 have Fx0_7:=Lib.hid ((Fx0_6.out.alloc _).below b7 bE)
 clear Fx0_6
 have Fx1_7:=Lib.hid xf1;clear xf1
 go_wp2_with fail
 refine (HI.out _ _ _ _ (by exact (Fx0_7.out).rd) (by exact (Fx1_7.out).sl)).mono ?_
 rintro e w8 ⟨g0rp0,g0rc0,rfl,g0rf0,b8⟩
 have B8:Below w.heap.size w w8:=Below.trans B7 (b8.mono bE)
 have z8:w7.heap.size+0<=w8.heap.size:=by have:=b8.size;(try simp only[vE] at this ⊢) <;> omega
 have qa00_8:w8.cell? ⟨w.heap.size,0,none⟩=some (.slice ap0_0 an0_0 aq0_0):=(b8.cell (p:=⟨w.heap.size,0,none⟩) bE).trans qa00_7
 have qa01_8:w8.cell? ⟨w.heap.size,1,none⟩=some (.slice ap0_1 an0_1 aq0_1):=(b8.cell (p:=⟨w.heap.size,1,none⟩) bE).trans qa01_7
 have qa02_8:w8.cell? ⟨w.heap.size,2,none⟩=some (.int .i64 ax0_2):=(b8.cell (p:=⟨w.heap.size,2,none⟩) bE).trans qa02_7
 have qa03_8:w8.cell? ⟨w.heap.size,3,none⟩=some (.slice ap0_3 an0_3 aq0_3):=(b8.cell (p:=⟨w.heap.size,3,none⟩) bE).trans qa03_7
 have qa04_8:w8.cell? ⟨w.heap.size,4,none⟩=some (.slice ap0_4 an0_4 aq0_4):=(b8.cell (p:=⟨w.heap.size,4,none⟩) bE).trans qa04_7
 have qa05_8:w8.cell? ⟨w.heap.size,5,none⟩=some (.slice ap0_5 an0_5 aq0_5):=(b8.cell (p:=⟨w.heap.size,5,none⟩) bE).trans qa05_7
 have zba0_8:w.heap.size<w8.heap.size:=bE
 clear qa00_7 qa01_7 qa02_7 qa03_7 qa04_7 qa05_7
 have qx00_8:w8.cell? ⟨w6.heap.size,0,none⟩=some (.slice x0dp0 x0dn0 x0dq0):=(b8.cell (p:=⟨w6.heap.size,0,none⟩) bE).trans qx00_7
 have qx01_8:w8.cell? ⟨w6.heap.size,1,none⟩=some (.slice x0dp1 x0dn1 x0dq1):=(b8.cell (p:=⟨w6.heap.size,1,none⟩) bE).trans qx01_7
 have qx02_8:w8.cell? ⟨w6.heap.size,2,none⟩=some (.int .i64 d0.2.2.1):=(b8.cell (p:=⟨w6.heap.size,2,none⟩) bE).trans qx02_7
 have qx03_8:w8.cell? ⟨w6.heap.size,3,none⟩=some (.slice x0dp3 x0dn3 x0dq3):=(b8.cell (p:=⟨w6.heap.size,3,none⟩) bE).trans qx03_7
 have qx04_8:w8.cell? ⟨w6.heap.size,4,none⟩=some (.slice x0dp4 x0dn4 x0dq4):=(b8.cell (p:=⟨w6.heap.size,4,none⟩) bE).trans qx04_7
 have qx05_8:w8.cell? ⟨w6.heap.size,5,none⟩=some (.slice x0dp5 x0dn5 x0dq5):=(b8.cell (p:=⟨w6.heap.size,5,none⟩) bE).trans qx05_7
 have zbx0_8:w6.heap.size<w8.heap.size:=bE
 clear qx00_7 qx01_7 qx02_7 qx03_7 qx04_7 qx05_7
 have Fw0r0_8:=Lib.hid (Fw0r0_7.out.below b8 bE)
 clear Fw0r0_7
 have Fx0_8:=Lib.hid (Fx0_7.out.below b8 bE)
 clear Fx0_7
 have Fx1_8:=Lib.hid (Fx1_7.out.below b8 bE)
 clear Fx1_7
 have Fg0r0_8:=Lib.hid g0rf0;clear g0rf0
 go_wp2_with fail
 refine (aIK _ _ _ _ _ _ R0 _ (by exact (Fg0r0_8.out).sl) (by exact (Fw0r0_8.out).sl)).mono ?_
 rintro e w9 ⟨rfl,b9⟩
 have B9:Below w.heap.size w w9:=Below.trans B8 (b9.mono bE)
 have z9:w8.heap.size+0<=w9.heap.size:=by have:=b9.size;(try simp only[vE] at this ⊢) <;> omega
 have qa00_9:w9.cell? ⟨w.heap.size,0,none⟩=some (.slice ap0_0 an0_0 aq0_0):=(b9.cell (p:=⟨w.heap.size,0,none⟩) bE).trans qa00_8
 have qa01_9:w9.cell? ⟨w.heap.size,1,none⟩=some (.slice ap0_1 an0_1 aq0_1):=(b9.cell (p:=⟨w.heap.size,1,none⟩) bE).trans qa01_8
 have qa02_9:w9.cell? ⟨w.heap.size,2,none⟩=some (.int .i64 ax0_2):=(b9.cell (p:=⟨w.heap.size,2,none⟩) bE).trans qa02_8
 have qa03_9:w9.cell? ⟨w.heap.size,3,none⟩=some (.slice ap0_3 an0_3 aq0_3):=(b9.cell (p:=⟨w.heap.size,3,none⟩) bE).trans qa03_8
 have qa04_9:w9.cell? ⟨w.heap.size,4,none⟩=some (.slice ap0_4 an0_4 aq0_4):=(b9.cell (p:=⟨w.heap.size,4,none⟩) bE).trans qa04_8
 have qa05_9:w9.cell? ⟨w.heap.size,5,none⟩=some (.slice ap0_5 an0_5 aq0_5):=(b9.cell (p:=⟨w.heap.size,5,none⟩) bE).trans qa05_8
 have zba0_9:w.heap.size<w9.heap.size:=bE
 clear qa00_8 qa01_8 qa02_8 qa03_8 qa04_8 qa05_8
 have qx00_9:w9.cell? ⟨w6.heap.size,0,none⟩=some (.slice x0dp0 x0dn0 x0dq0):=(b9.cell (p:=⟨w6.heap.size,0,none⟩) bE).trans qx00_8
 have qx01_9:w9.cell? ⟨w6.heap.size,1,none⟩=some (.slice x0dp1 x0dn1 x0dq1):=(b9.cell (p:=⟨w6.heap.size,1,none⟩) bE).trans qx01_8
 have qx02_9:w9.cell? ⟨w6.heap.size,2,none⟩=some (.int .i64 d0.2.2.1):=(b9.cell (p:=⟨w6.heap.size,2,none⟩) bE).trans qx02_8
 have qx03_9:w9.cell? ⟨w6.heap.size,3,none⟩=some (.slice x0dp3 x0dn3 x0dq3):=(b9.cell (p:=⟨w6.heap.size,3,none⟩) bE).trans qx03_8
 have qx04_9:w9.cell? ⟨w6.heap.size,4,none⟩=some (.slice x0dp4 x0dn4 x0dq4):=(b9.cell (p:=⟨w6.heap.size,4,none⟩) bE).trans qx04_8
 have qx05_9:w9.cell? ⟨w6.heap.size,5,none⟩=some (.slice x0dp5 x0dn5 x0dq5):=(b9.cell (p:=⟨w6.heap.size,5,none⟩) bE).trans qx05_8
 have zbx0_9:w6.heap.size<w9.heap.size:=bE
 clear qx00_8 qx01_8 qx02_8 qx03_8 qx04_8 qx05_8
 have Fw0r0_9:=Lib.hid (Fw0r0_8.out.below b9 bE)
 clear Fw0r0_8
 have Fx0_9:=Lib.hid (Fx0_8.out.below b9 bE)
 clear Fx0_8
 have Fx1_9:=Lib.hid (Fx1_8.out.below b9 bE)
 clear Fx1_8
 have Fg0r0_9:=Lib.hid (Fg0r0_8.out.below b9 bE)
 clear Fg0r0_8
 go_wp2_with fail
 go_region_held3 (fun w'=>w'.cell? ⟨w.heap.size,0,none⟩=some (.slice ap0_0 an0_0 aq0_0)/\w'.cell? ⟨w.heap.size,1,none⟩=some (.slice ap0_1 an0_1 aq0_1)/\w'.cell? ⟨w.heap.size,2,none⟩=some (.int .i64 ax0_2)/\w'.cell? ⟨w.heap.size,3,none⟩=some (.slice ap0_3 an0_3 aq0_3)/\w'.cell? ⟨w.heap.size,4,none⟩=some (.slice ap0_4 an0_4 aq0_4)/\w'.cell? ⟨w.heap.size,5,none⟩=some (.slice ap0_5 an0_5 aq0_5)/\w'.cell? ⟨w6.heap.size,0,none⟩=some (.slice x0dp0 x0dn0 x0dq0)/\w'.cell? ⟨w6.heap.size,1,none⟩=some (.slice x0dp1 x0dn1 x0dq1)/\w'.cell? ⟨w6.heap.size,2,none⟩=some (.int .i64 d0.2.2.1)/\w'.cell? ⟨w6.heap.size,3,none⟩=some (.slice x0dp3 x0dn3 x0dq3)/\w'.cell? ⟨w6.heap.size,4,none⟩=some (.slice x0dp4 x0dn4 x0dq4)/\w'.cell? ⟨w6.heap.size,5,none⟩=some (.slice x0dp5 x0dn5 x0dq5)) (first|go_keep|((try dsimp only);(repeat' apply And.intro) <;> (first|go_keep|(refine ((Below.cell b11 ?_).trans ((Below.cell b10 ?_).trans ?_)) <;> first|assumption|omega|(simp;omega)|(simp;assumption))|(refine ((Below.cell b10 ?_).trans ?_) <;> first|assumption|omega|(simp;omega)|(simp;assumption))))) ((first|(go_at_call 8;refine (aC8 _ d0 _ (by exact xU H0.out jL) (by omega)).mono ?_;rintro e w10 ⟨ycs0,rfl,yf0,b10⟩;have B10:Below w.heap.size w w10:=Below.trans jL (b10.mono bE);have z10:w9.heap.size<=w10.heap.size:=by have:=b10.size;(try simp only[vE] at this ⊢) <;> omega)|(go_at_call 12;refine (bF9 _ _ d0 _ (by exact ((Fx0_9.out.keep (w':=w9.drew) (fun _ _ _=>rfl) (Nat.le_refl _)).below b10 bE).rd) (by exact yf0.rd)).mono ?_;rintro e w11 ⟨rfl,b11⟩;have B11:Below w.heap.size w w11:=B10.trans (b11.mono bE);have z11:=b11.size)))
 have hS:=‹_/\_›
 obtain ⟨qa00_11,qa01_11,qa02_11,qa03_11,qa04_11,qa05_11,qx00_11,qx01_11,qx02_11,qx03_11,qx04_11,qx05_11⟩:=hS
 have zba0_11:w.heap.size<w11.heap.size:=bE
 have zbx0_11:w6.heap.size<w11.heap.size:=bE
 have Fw0r0_11:=Lib.hid (((Fw0r0_9.out.keep (w':=w9.drew) (fun _ _ _=>rfl) (Nat.le_refl _)).below b10 bE).below b11 bE)
 clear Fw0r0_9
 have Fx0_11:=Lib.hid (((Fx0_9.out.keep (w':=w9.drew) (fun _ _ _=>rfl) (Nat.le_refl _)).below b10 bE).below b11 bE)
 clear Fx0_9
 have Fx1_11:=Lib.hid (((Fx1_9.out.keep (w':=w9.drew) (fun _ _ _=>rfl) (Nat.le_refl _)).below b10 bE).below b11 bE)
 clear Fx1_9
 have Fg0r0_11:=Lib.hid (((Fg0r0_9.out.keep (w':=w9.drew) (fun _ _ _=>rfl) (Nat.le_refl _)).below b10 bE).below b11 bE)
 clear Fg0r0_9
 go_wp2_with fail
 refine (aF8 _ _ _ l1 _ (by exact h1.below B11) (by omega)).mono ?_
 rintro e w12 ⟨yp1,yc1,rfl,yf1,b12⟩
 have B12:Below w.heap.size w w12:=Below.trans B11 (b12.mono bE)
 have z12:w11.heap.size+0<=w12.heap.size:=by have:=b12.size;(try simp only[vE] at this ⊢) <;> omega
 have qa00_12:w12.cell? ⟨w.heap.size,0,none⟩=some (.slice ap0_0 an0_0 aq0_0):=(b12.cell (p:=⟨w.heap.size,0,none⟩) bE).trans qa00_11
 have qa01_12:w12.cell? ⟨w.heap.size,1,none⟩=some (.slice ap0_1 an0_1 aq0_1):=(b12.cell (p:=⟨w.heap.size,1,none⟩) bE).trans qa01_11
 have qa02_12:w12.cell? ⟨w.heap.size,2,none⟩=some (.int .i64 ax0_2):=(b12.cell (p:=⟨w.heap.size,2,none⟩) bE).trans qa02_11
 have qa03_12:w12.cell? ⟨w.heap.size,3,none⟩=some (.slice ap0_3 an0_3 aq0_3):=(b12.cell (p:=⟨w.heap.size,3,none⟩) bE).trans qa03_11
 have qa04_12:w12.cell? ⟨w.heap.size,4,none⟩=some (.slice ap0_4 an0_4 aq0_4):=(b12.cell (p:=⟨w.heap.size,4,none⟩) bE).trans qa04_11
 have qa05_12:w12.cell? ⟨w.heap.size,5,none⟩=some (.slice ap0_5 an0_5 aq0_5):=(b12.cell (p:=⟨w.heap.size,5,none⟩) bE).trans qa05_11
 have zba0_12:w.heap.size<w12.heap.size:=bE
 clear qa00_11 qa01_11 qa02_11 qa03_11 qa04_11 qa05_11
 have qx00_12:w12.cell? ⟨w6.heap.size,0,none⟩=some (.slice x0dp0 x0dn0 x0dq0):=(b12.cell (p:=⟨w6.heap.size,0,none⟩) bE).trans qx00_11
 have qx01_12:w12.cell? ⟨w6.heap.size,1,none⟩=some (.slice x0dp1 x0dn1 x0dq1):=(b12.cell (p:=⟨w6.heap.size,1,none⟩) bE).trans qx01_11
 have qx02_12:w12.cell? ⟨w6.heap.size,2,none⟩=some (.int .i64 d0.2.2.1):=(b12.cell (p:=⟨w6.heap.size,2,none⟩) bE).trans qx02_11
 have qx03_12:w12.cell? ⟨w6.heap.size,3,none⟩=some (.slice x0dp3 x0dn3 x0dq3):=(b12.cell (p:=⟨w6.heap.size,3,none⟩) bE).trans qx03_11
 have qx04_12:w12.cell? ⟨w6.heap.size,4,none⟩=some (.slice x0dp4 x0dn4 x0dq4):=(b12.cell (p:=⟨w6.heap.size,4,none⟩) bE).trans qx04_11
 have qx05_12:w12.cell? ⟨w6.heap.size,5,none⟩=some (.slice x0dp5 x0dn5 x0dq5):=(b12.cell (p:=⟨w6.heap.size,5,none⟩) bE).trans qx05_11
 have zbx0_12:w6.heap.size<w12.heap.size:=bE
 clear qx00_11 qx01_11 qx02_11 qx03_11 qx04_11 qx05_11
 have Fw0r0_12:=Lib.hid (Fw0r0_11.out.below b12 bE)
 clear Fw0r0_11
 have Fx0_12:=Lib.hid (Fx0_11.out.below b12 bE)
 clear Fx0_11
 have Fx1_12:=Lib.hid (Fx1_11.out.below b12 bE)
 clear Fx1_11
 have Fg0r0_12:=Lib.hid (Fg0r0_11.out.below b12 bE)
 clear Fg0r0_11
 have Fy1_12:=Lib.hid yf1;clear yf1
 go_wp2_with fail
 refine (bKF _ _ _ _ _ _ l1 _ (by exact (Fx1_12.out).sl) (by exact (Fy1_12.out).sl)).mono ?_
 rintro e w13 ⟨rfl,b13⟩
 have B13:Below w.heap.size w w13:=Below.trans B12 (b13.mono bE)
 have z13:w12.heap.size+0<=w13.heap.size:=by have:=b13.size;(try simp only[vE] at this ⊢) <;> omega
 have qa00_13:w13.cell? ⟨w.heap.size,0,none⟩=some (.slice ap0_0 an0_0 aq0_0):=(b13.cell (p:=⟨w.heap.size,0,none⟩) bE).trans qa00_12
 have qa01_13:w13.cell? ⟨w.heap.size,1,none⟩=some (.slice ap0_1 an0_1 aq0_1):=(b13.cell (p:=⟨w.heap.size,1,none⟩) bE).trans qa01_12
 have qa02_13:w13.cell? ⟨w.heap.size,2,none⟩=some (.int .i64 ax0_2):=(b13.cell (p:=⟨w.heap.size,2,none⟩) bE).trans qa02_12
 have qa03_13:w13.cell? ⟨w.heap.size,3,none⟩=some (.slice ap0_3 an0_3 aq0_3):=(b13.cell (p:=⟨w.heap.size,3,none⟩) bE).trans qa03_12
 have qa04_13:w13.cell? ⟨w.heap.size,4,none⟩=some (.slice ap0_4 an0_4 aq0_4):=(b13.cell (p:=⟨w.heap.size,4,none⟩) bE).trans qa04_12
 have qa05_13:w13.cell? ⟨w.heap.size,5,none⟩=some (.slice ap0_5 an0_5 aq0_5):=(b13.cell (p:=⟨w.heap.size,5,none⟩) bE).trans qa05_12
 have zba0_13:w.heap.size<w13.heap.size:=bE
 clear qa00_12 qa01_12 qa02_12 qa03_12 qa04_12 qa05_12
 have qx00_13:w13.cell? ⟨w6.heap.size,0,none⟩=some (.slice x0dp0 x0dn0 x0dq0):=(b13.cell (p:=⟨w6.heap.size,0,none⟩) bE).trans qx00_12
 have qx01_13:w13.cell? ⟨w6.heap.size,1,none⟩=some (.slice x0dp1 x0dn1 x0dq1):=(b13.cell (p:=⟨w6.heap.size,1,none⟩) bE).trans qx01_12
 have qx02_13:w13.cell? ⟨w6.heap.size,2,none⟩=some (.int .i64 d0.2.2.1):=(b13.cell (p:=⟨w6.heap.size,2,none⟩) bE).trans qx02_12
 have qx03_13:w13.cell? ⟨w6.heap.size,3,none⟩=some (.slice x0dp3 x0dn3 x0dq3):=(b13.cell (p:=⟨w6.heap.size,3,none⟩) bE).trans qx03_12
 have qx04_13:w13.cell? ⟨w6.heap.size,4,none⟩=some (.slice x0dp4 x0dn4 x0dq4):=(b13.cell (p:=⟨w6.heap.size,4,none⟩) bE).trans qx04_12
 have qx05_13:w13.cell? ⟨w6.heap.size,5,none⟩=some (.slice x0dp5 x0dn5 x0dq5):=(b13.cell (p:=⟨w6.heap.size,5,none⟩) bE).trans qx05_12
 have zbx0_13:w6.heap.size<w13.heap.size:=bE
 clear qx00_12 qx01_12 qx02_12 qx03_12 qx04_12 qx05_12
 have Fw0r0_13:=Lib.hid (Fw0r0_12.out.below b13 bE)
 clear Fw0r0_12
 have Fx0_13:=Lib.hid (Fx0_12.out.below b13 bE)
 clear Fx0_12
 have Fx1_13:=Lib.hid (Fx1_12.out.below b13 bE)
 clear Fx1_12
 have Fg0r0_13:=Lib.hid (Fg0r0_12.out.below b13 bE)
 clear Fg0r0_12
 have Fy1_13:=Lib.hid (Fy1_12.out.below b13 bE)
 clear Fy1_12
 clear Fy1_13
 go_wp2_with fail
 obtain ⟨bl14,rep14,nd14,in14⟩:=(Fx0_13.out).un
 clear Fx0_13
 refine (bBR _ _ d0 _ _ (by exact rep14) nd14 (by omega) (by omega)).mono ?_
 rintro e w14 ⟨rfl,rp14,on14⟩
 have B14:Below w.heap.size w w14:=Below.trans B13 (on14.below (fun b hb=>by have:=in14 b hb;(try simp only[vE] at this ⊢) <;> omega) bE)
 have z14:w13.heap.size+0<=w14.heap.size:=by have:=on14.size;(try simp only[vE] at this ⊢) <;> omega
 have qa00_14:w14.cell? ⟨w.heap.size,0,none⟩=some (.slice ap0_0 an0_0 aq0_0):=(on14.cell (a:=⟨w.heap.size,0,none⟩) (fun hm=>by have:=in14 _ hm;(try simp only[vE] at this ⊢) <;> omega) bE).trans qa00_13
 have qa01_14:w14.cell? ⟨w.heap.size,1,none⟩=some (.slice ap0_1 an0_1 aq0_1):=(on14.cell (a:=⟨w.heap.size,1,none⟩) (fun hm=>by have:=in14 _ hm;(try simp only[vE] at this ⊢) <;> omega) bE).trans qa01_13
 have qa02_14:w14.cell? ⟨w.heap.size,2,none⟩=some (.int .i64 ax0_2):=(on14.cell (a:=⟨w.heap.size,2,none⟩) (fun hm=>by have:=in14 _ hm;(try simp only[vE] at this ⊢) <;> omega) bE).trans qa02_13
 have qa03_14:w14.cell? ⟨w.heap.size,3,none⟩=some (.slice ap0_3 an0_3 aq0_3):=(on14.cell (a:=⟨w.heap.size,3,none⟩) (fun hm=>by have:=in14 _ hm;(try simp only[vE] at this ⊢) <;> omega) bE).trans qa03_13
 have qa04_14:w14.cell? ⟨w.heap.size,4,none⟩=some (.slice ap0_4 an0_4 aq0_4):=(on14.cell (a:=⟨w.heap.size,4,none⟩) (fun hm=>by have:=in14 _ hm;(try simp only[vE] at this ⊢) <;> omega) bE).trans qa04_13
 have qa05_14:w14.cell? ⟨w.heap.size,5,none⟩=some (.slice ap0_5 an0_5 aq0_5):=(on14.cell (a:=⟨w.heap.size,5,none⟩) (fun hm=>by have:=in14 _ hm;(try simp only[vE] at this ⊢) <;> omega) bE).trans qa05_13
 have zba0_14:w.heap.size<w14.heap.size:=bE
 clear qa00_13 qa01_13 qa02_13 qa03_13 qa04_13 qa05_13
 have qx00_14:w14.cell? ⟨w6.heap.size,0,none⟩=some (.slice x0dp0 x0dn0 x0dq0):=(on14.cell (a:=⟨w6.heap.size,0,none⟩) (fun hm=>by have:=in14 _ hm;(try simp only[vE] at this ⊢) <;> omega) bE).trans qx00_13
 have qx01_14:w14.cell? ⟨w6.heap.size,1,none⟩=some (.slice x0dp1 x0dn1 x0dq1):=(on14.cell (a:=⟨w6.heap.size,1,none⟩) (fun hm=>by have:=in14 _ hm;(try simp only[vE] at this ⊢) <;> omega) bE).trans qx01_13
 have qx02_14:w14.cell? ⟨w6.heap.size,2,none⟩=some (.int .i64 d0.2.2.1):=(on14.cell (a:=⟨w6.heap.size,2,none⟩) (fun hm=>by have:=in14 _ hm;(try simp only[vE] at this ⊢) <;> omega) bE).trans qx02_13
 have qx03_14:w14.cell? ⟨w6.heap.size,3,none⟩=some (.slice x0dp3 x0dn3 x0dq3):=(on14.cell (a:=⟨w6.heap.size,3,none⟩) (fun hm=>by have:=in14 _ hm;(try simp only[vE] at this ⊢) <;> omega) bE).trans qx03_13
 have qx04_14:w14.cell? ⟨w6.heap.size,4,none⟩=some (.slice x0dp4 x0dn4 x0dq4):=(on14.cell (a:=⟨w6.heap.size,4,none⟩) (fun hm=>by have:=in14 _ hm;(try simp only[vE] at this ⊢) <;> omega) bE).trans qx04_13
 have qx05_14:w14.cell? ⟨w6.heap.size,5,none⟩=some (.slice x0dp5 x0dn5 x0dq5):=(on14.cell (a:=⟨w6.heap.size,5,none⟩) (fun hm=>by have:=in14 _ hm;(try simp only[vE] at this ⊢) <;> omega) bE).trans qx05_13
 have zbx0_14:w6.heap.size<w14.heap.size:=bE
 clear qx00_13 qx01_13 qx02_13 qx03_13 qx04_13 qx05_13
 have Fw0r0_14:=Lib.hid (Fw0r0_13.out.only on14 (fun b hb=>by have:=in14 b hb;(try simp only[vE] at this ⊢) <;> omega))
 clear Fw0r0_13
 have Fx1_14:=Lib.hid (Fx1_13.out.only on14 (fun b hb=>by have:=in14 b hb;(try simp only[vE] at this ⊢) <;> omega))
 clear Fx1_13
 have Fg0r0_14:=Lib.hid (Fg0r0_13.out.only on14 (fun b hb=>by have:=in14 b hb;(try simp only[vE] at this ⊢) <;> omega))
 clear Fg0r0_13
 have G14:=FrA.of_un rp14 nd14 in14 bE
 clear rep14 rp14
 have Fx0_14:=Lib.hid G14;clear G14
 clear Fx0_14
 go_wp2_with fail
 obtain ⟨bl15,rep15,nd15,in15⟩:=(Fx1_14.out).un
 clear Fx1_14
 refine (bGT _ _ _ _ l1 _ _ (by exact rep15) nd15 (by omega) (by omega)).mono ?_
 rintro e w15 ⟨rfl,rp15,on15⟩
 have B15:Below w.heap.size w w15:=Below.trans B14 (on15.below (fun b hb=>by have:=in15 b hb;(try simp only[vE] at this ⊢) <;> omega) bE)
 have z15:w14.heap.size+0<=w15.heap.size:=by have:=on15.size;(try simp only[vE] at this ⊢) <;> omega
 have qa00_15:w15.cell? ⟨w.heap.size,0,none⟩=some (.slice ap0_0 an0_0 aq0_0):=(on15.cell (a:=⟨w.heap.size,0,none⟩) (fun hm=>by have:=in15 _ hm;(try simp only[vE] at this ⊢) <;> omega) bE).trans qa00_14
 have qa01_15:w15.cell? ⟨w.heap.size,1,none⟩=some (.slice ap0_1 an0_1 aq0_1):=(on15.cell (a:=⟨w.heap.size,1,none⟩) (fun hm=>by have:=in15 _ hm;(try simp only[vE] at this ⊢) <;> omega) bE).trans qa01_14
 have qa02_15:w15.cell? ⟨w.heap.size,2,none⟩=some (.int .i64 ax0_2):=(on15.cell (a:=⟨w.heap.size,2,none⟩) (fun hm=>by have:=in15 _ hm;(try simp only[vE] at this ⊢) <;> omega) bE).trans qa02_14
 have qa03_15:w15.cell? ⟨w.heap.size,3,none⟩=some (.slice ap0_3 an0_3 aq0_3):=(on15.cell (a:=⟨w.heap.size,3,none⟩) (fun hm=>by have:=in15 _ hm;(try simp only[vE] at this ⊢) <;> omega) bE).trans qa03_14
 have qa04_15:w15.cell? ⟨w.heap.size,4,none⟩=some (.slice ap0_4 an0_4 aq0_4):=(on15.cell (a:=⟨w.heap.size,4,none⟩) (fun hm=>by have:=in15 _ hm;(try simp only[vE] at this ⊢) <;> omega) bE).trans qa04_14
 have qa05_15:w15.cell? ⟨w.heap.size,5,none⟩=some (.slice ap0_5 an0_5 aq0_5):=(on15.cell (a:=⟨w.heap.size,5,none⟩) (fun hm=>by have:=in15 _ hm;(try simp only[vE] at this ⊢) <;> omega) bE).trans qa05_14
 have zba0_15:w.heap.size<w15.heap.size:=bE
 clear qa00_14 qa01_14 qa02_14 qa03_14 qa04_14 qa05_14
 have qx00_15:w15.cell? ⟨w6.heap.size,0,none⟩=some (.slice x0dp0 x0dn0 x0dq0):=(on15.cell (a:=⟨w6.heap.size,0,none⟩) (fun hm=>by have:=in15 _ hm;(try simp only[vE] at this ⊢) <;> omega) bE).trans qx00_14
 have qx01_15:w15.cell? ⟨w6.heap.size,1,none⟩=some (.slice x0dp1 x0dn1 x0dq1):=(on15.cell (a:=⟨w6.heap.size,1,none⟩) (fun hm=>by have:=in15 _ hm;(try simp only[vE] at this ⊢) <;> omega) bE).trans qx01_14
 have qx02_15:w15.cell? ⟨w6.heap.size,2,none⟩=some (.int .i64 d0.2.2.1):=(on15.cell (a:=⟨w6.heap.size,2,none⟩) (fun hm=>by have:=in15 _ hm;(try simp only[vE] at this ⊢) <;> omega) bE).trans qx02_14
 have qx03_15:w15.cell? ⟨w6.heap.size,3,none⟩=some (.slice x0dp3 x0dn3 x0dq3):=(on15.cell (a:=⟨w6.heap.size,3,none⟩) (fun hm=>by have:=in15 _ hm;(try simp only[vE] at this ⊢) <;> omega) bE).trans qx03_14
 have qx04_15:w15.cell? ⟨w6.heap.size,4,none⟩=some (.slice x0dp4 x0dn4 x0dq4):=(on15.cell (a:=⟨w6.heap.size,4,none⟩) (fun hm=>by have:=in15 _ hm;(try simp only[vE] at this ⊢) <;> omega) bE).trans qx04_14
 have qx05_15:w15.cell? ⟨w6.heap.size,5,none⟩=some (.slice x0dp5 x0dn5 x0dq5):=(on15.cell (a:=⟨w6.heap.size,5,none⟩) (fun hm=>by have:=in15 _ hm;(try simp only[vE] at this ⊢) <;> omega) bE).trans qx05_14
 have zbx0_15:w6.heap.size<w15.heap.size:=bE
 clear qx00_14 qx01_14 qx02_14 qx03_14 qx04_14 qx05_14
 have Fw0r0_15:=Lib.hid (Fw0r0_14.out.only on15 (fun b hb=>by have:=in15 b hb;(try simp only[vE] at this ⊢) <;> omega))
 clear Fw0r0_14
 have Fg0r0_15:=Lib.hid (Fg0r0_14.out.only on15 (fun b hb=>by have:=in15 b hb;(try simp only[vE] at this ⊢) <;> omega))
 clear Fg0r0_14
 have G15:=FrA.of_un rp15 nd15 in15 bE
 clear rep15 rp15
 have Fx1_15:=Lib.hid G15;clear G15
 clear Fx1_15
 go_wp2_with fail
 refine (aIK _ _ _ _ _ _ R0 _ (by exact (Fg0r0_15.out).sl) (by exact (Fw0r0_15.out).sl)).mono ?_
 rintro e w16 ⟨rfl,b16⟩
 have B16:Below w.heap.size w w16:=Below.trans B15 (b16.mono bE)
 have z16:w15.heap.size+0<=w16.heap.size:=by have:=b16.size;(try simp only[vE] at this ⊢) <;> omega
 have qa00_16:w16.cell? ⟨w.heap.size,0,none⟩=some (.slice ap0_0 an0_0 aq0_0):=(b16.cell (p:=⟨w.heap.size,0,none⟩) bE).trans qa00_15
 have qa01_16:w16.cell? ⟨w.heap.size,1,none⟩=some (.slice ap0_1 an0_1 aq0_1):=(b16.cell (p:=⟨w.heap.size,1,none⟩) bE).trans qa01_15
 have qa02_16:w16.cell? ⟨w.heap.size,2,none⟩=some (.int .i64 ax0_2):=(b16.cell (p:=⟨w.heap.size,2,none⟩) bE).trans qa02_15
 have qa03_16:w16.cell? ⟨w.heap.size,3,none⟩=some (.slice ap0_3 an0_3 aq0_3):=(b16.cell (p:=⟨w.heap.size,3,none⟩) bE).trans qa03_15
 have qa04_16:w16.cell? ⟨w.heap.size,4,none⟩=some (.slice ap0_4 an0_4 aq0_4):=(b16.cell (p:=⟨w.heap.size,4,none⟩) bE).trans qa04_15
 have qa05_16:w16.cell? ⟨w.heap.size,5,none⟩=some (.slice ap0_5 an0_5 aq0_5):=(b16.cell (p:=⟨w.heap.size,5,none⟩) bE).trans qa05_15
 have zba0_16:w.heap.size<w16.heap.size:=bE
 clear qa00_15 qa01_15 qa02_15 qa03_15 qa04_15 qa05_15
 have qx00_16:w16.cell? ⟨w6.heap.size,0,none⟩=some (.slice x0dp0 x0dn0 x0dq0):=(b16.cell (p:=⟨w6.heap.size,0,none⟩) bE).trans qx00_15
 have qx01_16:w16.cell? ⟨w6.heap.size,1,none⟩=some (.slice x0dp1 x0dn1 x0dq1):=(b16.cell (p:=⟨w6.heap.size,1,none⟩) bE).trans qx01_15
 have qx02_16:w16.cell? ⟨w6.heap.size,2,none⟩=some (.int .i64 d0.2.2.1):=(b16.cell (p:=⟨w6.heap.size,2,none⟩) bE).trans qx02_15
 have qx03_16:w16.cell? ⟨w6.heap.size,3,none⟩=some (.slice x0dp3 x0dn3 x0dq3):=(b16.cell (p:=⟨w6.heap.size,3,none⟩) bE).trans qx03_15
 have qx04_16:w16.cell? ⟨w6.heap.size,4,none⟩=some (.slice x0dp4 x0dn4 x0dq4):=(b16.cell (p:=⟨w6.heap.size,4,none⟩) bE).trans qx04_15
 have qx05_16:w16.cell? ⟨w6.heap.size,5,none⟩=some (.slice x0dp5 x0dn5 x0dq5):=(b16.cell (p:=⟨w6.heap.size,5,none⟩) bE).trans qx05_15
 have zbx0_16:w6.heap.size<w16.heap.size:=bE
 clear qx00_15 qx01_15 qx02_15 qx03_15 qx04_15 qx05_15
 have Fw0r0_16:=Lib.hid (Fw0r0_15.out.below b16 bE)
 clear Fw0r0_15
 have Fg0r0_16:=Lib.hid (Fg0r0_15.out.below b16 bE)
 clear Fg0r0_15
 go_wp2_with fail
 obtain ⟨bl17,rep17,nd17,in17⟩:=(Fg0r0_16.out).un
 clear Fg0r0_16
 refine (bBV _ _ _ _ R0 _ _ (by exact rep17) nd17 (by omega) (by omega)).mono ?_
 rintro e w17 ⟨rfl,rp17,on17⟩
 have B17:Below w.heap.size w w17:=Below.trans B16 (on17.below (fun b hb=>by have:=in17 b hb;(try simp only[vE] at this ⊢) <;> omega) bE)
 have z17:w16.heap.size+0<=w17.heap.size:=by have:=on17.size;(try simp only[vE] at this ⊢) <;> omega
 have qa00_17:w17.cell? ⟨w.heap.size,0,none⟩=some (.slice ap0_0 an0_0 aq0_0):=(on17.cell (a:=⟨w.heap.size,0,none⟩) (fun hm=>by have:=in17 _ hm;(try simp only[vE] at this ⊢) <;> omega) bE).trans qa00_16
 have qa01_17:w17.cell? ⟨w.heap.size,1,none⟩=some (.slice ap0_1 an0_1 aq0_1):=(on17.cell (a:=⟨w.heap.size,1,none⟩) (fun hm=>by have:=in17 _ hm;(try simp only[vE] at this ⊢) <;> omega) bE).trans qa01_16
 have qa02_17:w17.cell? ⟨w.heap.size,2,none⟩=some (.int .i64 ax0_2):=(on17.cell (a:=⟨w.heap.size,2,none⟩) (fun hm=>by have:=in17 _ hm;(try simp only[vE] at this ⊢) <;> omega) bE).trans qa02_16
 have qa03_17:w17.cell? ⟨w.heap.size,3,none⟩=some (.slice ap0_3 an0_3 aq0_3):=(on17.cell (a:=⟨w.heap.size,3,none⟩) (fun hm=>by have:=in17 _ hm;(try simp only[vE] at this ⊢) <;> omega) bE).trans qa03_16
 have qa04_17:w17.cell? ⟨w.heap.size,4,none⟩=some (.slice ap0_4 an0_4 aq0_4):=(on17.cell (a:=⟨w.heap.size,4,none⟩) (fun hm=>by have:=in17 _ hm;(try simp only[vE] at this ⊢) <;> omega) bE).trans qa04_16
 have qa05_17:w17.cell? ⟨w.heap.size,5,none⟩=some (.slice ap0_5 an0_5 aq0_5):=(on17.cell (a:=⟨w.heap.size,5,none⟩) (fun hm=>by have:=in17 _ hm;(try simp only[vE] at this ⊢) <;> omega) bE).trans qa05_16
 have zba0_17:w.heap.size<w17.heap.size:=bE
 clear qa00_16 qa01_16 qa02_16 qa03_16 qa04_16 qa05_16
 have qx00_17:w17.cell? ⟨w6.heap.size,0,none⟩=some (.slice x0dp0 x0dn0 x0dq0):=(on17.cell (a:=⟨w6.heap.size,0,none⟩) (fun hm=>by have:=in17 _ hm;(try simp only[vE] at this ⊢) <;> omega) bE).trans qx00_16
 have qx01_17:w17.cell? ⟨w6.heap.size,1,none⟩=some (.slice x0dp1 x0dn1 x0dq1):=(on17.cell (a:=⟨w6.heap.size,1,none⟩) (fun hm=>by have:=in17 _ hm;(try simp only[vE] at this ⊢) <;> omega) bE).trans qx01_16
 have qx02_17:w17.cell? ⟨w6.heap.size,2,none⟩=some (.int .i64 d0.2.2.1):=(on17.cell (a:=⟨w6.heap.size,2,none⟩) (fun hm=>by have:=in17 _ hm;(try simp only[vE] at this ⊢) <;> omega) bE).trans qx02_16
 have qx03_17:w17.cell? ⟨w6.heap.size,3,none⟩=some (.slice x0dp3 x0dn3 x0dq3):=(on17.cell (a:=⟨w6.heap.size,3,none⟩) (fun hm=>by have:=in17 _ hm;(try simp only[vE] at this ⊢) <;> omega) bE).trans qx03_16
 have qx04_17:w17.cell? ⟨w6.heap.size,4,none⟩=some (.slice x0dp4 x0dn4 x0dq4):=(on17.cell (a:=⟨w6.heap.size,4,none⟩) (fun hm=>by have:=in17 _ hm;(try simp only[vE] at this ⊢) <;> omega) bE).trans qx04_16
 have qx05_17:w17.cell? ⟨w6.heap.size,5,none⟩=some (.slice x0dp5 x0dn5 x0dq5):=(on17.cell (a:=⟨w6.heap.size,5,none⟩) (fun hm=>by have:=in17 _ hm;(try simp only[vE] at this ⊢) <;> omega) bE).trans qx05_16
 have zbx0_17:w6.heap.size<w17.heap.size:=bE
 clear qx00_16 qx01_16 qx02_16 qx03_16 qx04_16 qx05_16
 have Fw0r0_17:=Lib.hid (Fw0r0_16.out.only on17 (fun b hb=>by have:=in17 b hb;(try simp only[vE] at this ⊢) <;> omega))
 clear Fw0r0_16
 have G17:=FrA.of_un rp17 nd17 in17 bE
 clear rep17 rp17
 have Fg0r0_17:=Lib.hid G17;clear G17
 go_wp2_with fail
 refine (aLQ _ _ _ _ R0 _ (by exact (Fg0r0_17.out).sl) (by omega) (by omega)).mono ?_
 rintro e w18 ⟨rfl,b18⟩
 have B18:Below w.heap.size w w18:=Below.trans B17 (b18.mono bE)
 have z18:w17.heap.size+0<=w18.heap.size:=by have:=b18.size;(try simp only[vE] at this ⊢) <;> omega
 have qa00_18:w18.cell? ⟨w.heap.size,0,none⟩=some (.slice ap0_0 an0_0 aq0_0):=(b18.cell (p:=⟨w.heap.size,0,none⟩) bE).trans qa00_17
 have qa01_18:w18.cell? ⟨w.heap.size,1,none⟩=some (.slice ap0_1 an0_1 aq0_1):=(b18.cell (p:=⟨w.heap.size,1,none⟩) bE).trans qa01_17
 have qa02_18:w18.cell? ⟨w.heap.size,2,none⟩=some (.int .i64 ax0_2):=(b18.cell (p:=⟨w.heap.size,2,none⟩) bE).trans qa02_17
 have qa03_18:w18.cell? ⟨w.heap.size,3,none⟩=some (.slice ap0_3 an0_3 aq0_3):=(b18.cell (p:=⟨w.heap.size,3,none⟩) bE).trans qa03_17
 have qa04_18:w18.cell? ⟨w.heap.size,4,none⟩=some (.slice ap0_4 an0_4 aq0_4):=(b18.cell (p:=⟨w.heap.size,4,none⟩) bE).trans qa04_17
 have qa05_18:w18.cell? ⟨w.heap.size,5,none⟩=some (.slice ap0_5 an0_5 aq0_5):=(b18.cell (p:=⟨w.heap.size,5,none⟩) bE).trans qa05_17
 have zba0_18:w.heap.size<w18.heap.size:=bE
 clear qa00_17 qa01_17 qa02_17 qa03_17 qa04_17 qa05_17
 have qx00_18:w18.cell? ⟨w6.heap.size,0,none⟩=some (.slice x0dp0 x0dn0 x0dq0):=(b18.cell (p:=⟨w6.heap.size,0,none⟩) bE).trans qx00_17
 have qx01_18:w18.cell? ⟨w6.heap.size,1,none⟩=some (.slice x0dp1 x0dn1 x0dq1):=(b18.cell (p:=⟨w6.heap.size,1,none⟩) bE).trans qx01_17
 have qx02_18:w18.cell? ⟨w6.heap.size,2,none⟩=some (.int .i64 d0.2.2.1):=(b18.cell (p:=⟨w6.heap.size,2,none⟩) bE).trans qx02_17
 have qx03_18:w18.cell? ⟨w6.heap.size,3,none⟩=some (.slice x0dp3 x0dn3 x0dq3):=(b18.cell (p:=⟨w6.heap.size,3,none⟩) bE).trans qx03_17
 have qx04_18:w18.cell? ⟨w6.heap.size,4,none⟩=some (.slice x0dp4 x0dn4 x0dq4):=(b18.cell (p:=⟨w6.heap.size,4,none⟩) bE).trans qx04_17
 have qx05_18:w18.cell? ⟨w6.heap.size,5,none⟩=some (.slice x0dp5 x0dn5 x0dq5):=(b18.cell (p:=⟨w6.heap.size,5,none⟩) bE).trans qx05_17
 have zbx0_18:w6.heap.size<w18.heap.size:=bE
 clear qx00_17 qx01_17 qx02_17 qx03_17 qx04_17 qx05_17
 have Fw0r0_18:=Lib.hid (Fw0r0_17.out.below b18 bE)
 clear Fw0r0_17
 have Fg0r0_18:=Lib.hid (Fg0r0_17.out.below b18 bE)
 clear Fg0r0_17
 go_wp2_with fail
 refine (aC8 _ d0 _ (by exact xU H0.out B18) (by omega)).mono ?_
 rintro e w19 ⟨ucs0,rfl,uf0,b19⟩
 have B19:Below w.heap.size w w19:=Below.trans B18 (b19.mono bE)
 have z19:w18.heap.size+0<=w19.heap.size:=by have:=b19.size;(try simp only[vE] at this ⊢) <;> omega
 have qa00_19:w19.cell? ⟨w.heap.size,0,none⟩=some (.slice ap0_0 an0_0 aq0_0):=(b19.cell (p:=⟨w.heap.size,0,none⟩) bE).trans qa00_18
 have qa01_19:w19.cell? ⟨w.heap.size,1,none⟩=some (.slice ap0_1 an0_1 aq0_1):=(b19.cell (p:=⟨w.heap.size,1,none⟩) bE).trans qa01_18
 have qa02_19:w19.cell? ⟨w.heap.size,2,none⟩=some (.int .i64 ax0_2):=(b19.cell (p:=⟨w.heap.size,2,none⟩) bE).trans qa02_18
 have qa03_19:w19.cell? ⟨w.heap.size,3,none⟩=some (.slice ap0_3 an0_3 aq0_3):=(b19.cell (p:=⟨w.heap.size,3,none⟩) bE).trans qa03_18
 have qa04_19:w19.cell? ⟨w.heap.size,4,none⟩=some (.slice ap0_4 an0_4 aq0_4):=(b19.cell (p:=⟨w.heap.size,4,none⟩) bE).trans qa04_18
 have qa05_19:w19.cell? ⟨w.heap.size,5,none⟩=some (.slice ap0_5 an0_5 aq0_5):=(b19.cell (p:=⟨w.heap.size,5,none⟩) bE).trans qa05_18
 have zba0_19:w.heap.size<w19.heap.size:=bE
 clear qa00_18 qa01_18 qa02_18 qa03_18 qa04_18 qa05_18
 have qx00_19:w19.cell? ⟨w6.heap.size,0,none⟩=some (.slice x0dp0 x0dn0 x0dq0):=(b19.cell (p:=⟨w6.heap.size,0,none⟩) bE).trans qx00_18
 have qx01_19:w19.cell? ⟨w6.heap.size,1,none⟩=some (.slice x0dp1 x0dn1 x0dq1):=(b19.cell (p:=⟨w6.heap.size,1,none⟩) bE).trans qx01_18
 have qx02_19:w19.cell? ⟨w6.heap.size,2,none⟩=some (.int .i64 d0.2.2.1):=(b19.cell (p:=⟨w6.heap.size,2,none⟩) bE).trans qx02_18
 have qx03_19:w19.cell? ⟨w6.heap.size,3,none⟩=some (.slice x0dp3 x0dn3 x0dq3):=(b19.cell (p:=⟨w6.heap.size,3,none⟩) bE).trans qx03_18
 have qx04_19:w19.cell? ⟨w6.heap.size,4,none⟩=some (.slice x0dp4 x0dn4 x0dq4):=(b19.cell (p:=⟨w6.heap.size,4,none⟩) bE).trans qx04_18
 have qx05_19:w19.cell? ⟨w6.heap.size,5,none⟩=some (.slice x0dp5 x0dn5 x0dq5):=(b19.cell (p:=⟨w6.heap.size,5,none⟩) bE).trans qx05_18
 have zbx0_19:w6.heap.size<w19.heap.size:=bE
 clear qx00_18 qx01_18 qx02_18 qx03_18 qx04_18 qx05_18
 have Fw0r0_19:=Lib.hid (Fw0r0_18.out.below b19 bE)
 clear Fw0r0_18
 have Fg0r0_19:=Lib.hid (Fg0r0_18.out.below b19 bE)
 clear Fg0r0_18
 have Fu0_19:=Lib.hid uf0;clear uf0
 go_wp2_with fail
 refine (aF8 _ _ _ l1 _ (by exact h1.below B19) (by omega)).mono ?_
 rintro e w20 ⟨up1,uc1,rfl,uf1,b20⟩
 have B20:Below w.heap.size w w20:=Below.trans B19 (b20.mono bE)
 have z20:w19.heap.size+0<=w20.heap.size:=by have:=b20.size;(try simp only[vE] at this ⊢) <;> omega
 have qa00_20:w20.cell? ⟨w.heap.size,0,none⟩=some (.slice ap0_0 an0_0 aq0_0):=(b20.cell (p:=⟨w.heap.size,0,none⟩) bE).trans qa00_19
 have qa01_20:w20.cell? ⟨w.heap.size,1,none⟩=some (.slice ap0_1 an0_1 aq0_1):=(b20.cell (p:=⟨w.heap.size,1,none⟩) bE).trans qa01_19
 have qa02_20:w20.cell? ⟨w.heap.size,2,none⟩=some (.int .i64 ax0_2):=(b20.cell (p:=⟨w.heap.size,2,none⟩) bE).trans qa02_19
 have qa03_20:w20.cell? ⟨w.heap.size,3,none⟩=some (.slice ap0_3 an0_3 aq0_3):=(b20.cell (p:=⟨w.heap.size,3,none⟩) bE).trans qa03_19
 have qa04_20:w20.cell? ⟨w.heap.size,4,none⟩=some (.slice ap0_4 an0_4 aq0_4):=(b20.cell (p:=⟨w.heap.size,4,none⟩) bE).trans qa04_19
 have qa05_20:w20.cell? ⟨w.heap.size,5,none⟩=some (.slice ap0_5 an0_5 aq0_5):=(b20.cell (p:=⟨w.heap.size,5,none⟩) bE).trans qa05_19
 have zba0_20:w.heap.size<w20.heap.size:=bE
 clear qa00_19 qa01_19 qa02_19 qa03_19 qa04_19 qa05_19
 have qx00_20:w20.cell? ⟨w6.heap.size,0,none⟩=some (.slice x0dp0 x0dn0 x0dq0):=(b20.cell (p:=⟨w6.heap.size,0,none⟩) bE).trans qx00_19
 have qx01_20:w20.cell? ⟨w6.heap.size,1,none⟩=some (.slice x0dp1 x0dn1 x0dq1):=(b20.cell (p:=⟨w6.heap.size,1,none⟩) bE).trans qx01_19
 have qx02_20:w20.cell? ⟨w6.heap.size,2,none⟩=some (.int .i64 d0.2.2.1):=(b20.cell (p:=⟨w6.heap.size,2,none⟩) bE).trans qx02_19
 have qx03_20:w20.cell? ⟨w6.heap.size,3,none⟩=some (.slice x0dp3 x0dn3 x0dq3):=(b20.cell (p:=⟨w6.heap.size,3,none⟩) bE).trans qx03_19
 have qx04_20:w20.cell? ⟨w6.heap.size,4,none⟩=some (.slice x0dp4 x0dn4 x0dq4):=(b20.cell (p:=⟨w6.heap.size,4,none⟩) bE).trans qx04_19
 have qx05_20:w20.cell? ⟨w6.heap.size,5,none⟩=some (.slice x0dp5 x0dn5 x0dq5):=(b20.cell (p:=⟨w6.heap.size,5,none⟩) bE).trans qx05_19
 have zbx0_20:w6.heap.size<w20.heap.size:=bE
 clear qx00_19 qx01_19 qx02_19 qx03_19 qx04_19 qx05_19
 have Fw0r0_20:=Lib.hid (Fw0r0_19.out.below b20 bE)
 clear Fw0r0_19
 have Fg0r0_20:=Lib.hid (Fg0r0_19.out.below b20 bE)
 clear Fg0r0_19
 have Fu0_20:=Lib.hid (Fu0_19.out.below b20 bE)
 clear Fu0_19
 have Fu1_20:=Lib.hid uf1;clear uf1
 go_wp2_with fail
 refine (HI.out _ _ _ _ (by exact (Fu0_20.out).rd) (by exact (Fu1_20.out).sl)).mono ?_
 rintro e w21 ⟨h0rp0,h0rc0,rfl,h0rf0,b21⟩
 have B21:Below w.heap.size w w21:=Below.trans B20 (b21.mono bE)
 have z21:w20.heap.size+0<=w21.heap.size:=by have:=b21.size;(try simp only[vE] at this ⊢) <;> omega
 have qa00_21:w21.cell? ⟨w.heap.size,0,none⟩=some (.slice ap0_0 an0_0 aq0_0):=(b21.cell (p:=⟨w.heap.size,0,none⟩) bE).trans qa00_20
 have qa01_21:w21.cell? ⟨w.heap.size,1,none⟩=some (.slice ap0_1 an0_1 aq0_1):=(b21.cell (p:=⟨w.heap.size,1,none⟩) bE).trans qa01_20
 have qa02_21:w21.cell? ⟨w.heap.size,2,none⟩=some (.int .i64 ax0_2):=(b21.cell (p:=⟨w.heap.size,2,none⟩) bE).trans qa02_20
 have qa03_21:w21.cell? ⟨w.heap.size,3,none⟩=some (.slice ap0_3 an0_3 aq0_3):=(b21.cell (p:=⟨w.heap.size,3,none⟩) bE).trans qa03_20
 have qa04_21:w21.cell? ⟨w.heap.size,4,none⟩=some (.slice ap0_4 an0_4 aq0_4):=(b21.cell (p:=⟨w.heap.size,4,none⟩) bE).trans qa04_20
 have qa05_21:w21.cell? ⟨w.heap.size,5,none⟩=some (.slice ap0_5 an0_5 aq0_5):=(b21.cell (p:=⟨w.heap.size,5,none⟩) bE).trans qa05_20
 have zba0_21:w.heap.size<w21.heap.size:=bE
 clear qa00_20 qa01_20 qa02_20 qa03_20 qa04_20 qa05_20
 have qx00_21:w21.cell? ⟨w6.heap.size,0,none⟩=some (.slice x0dp0 x0dn0 x0dq0):=(b21.cell (p:=⟨w6.heap.size,0,none⟩) bE).trans qx00_20
 have qx01_21:w21.cell? ⟨w6.heap.size,1,none⟩=some (.slice x0dp1 x0dn1 x0dq1):=(b21.cell (p:=⟨w6.heap.size,1,none⟩) bE).trans qx01_20
 have qx02_21:w21.cell? ⟨w6.heap.size,2,none⟩=some (.int .i64 d0.2.2.1):=(b21.cell (p:=⟨w6.heap.size,2,none⟩) bE).trans qx02_20
 have qx03_21:w21.cell? ⟨w6.heap.size,3,none⟩=some (.slice x0dp3 x0dn3 x0dq3):=(b21.cell (p:=⟨w6.heap.size,3,none⟩) bE).trans qx03_20
 have qx04_21:w21.cell? ⟨w6.heap.size,4,none⟩=some (.slice x0dp4 x0dn4 x0dq4):=(b21.cell (p:=⟨w6.heap.size,4,none⟩) bE).trans qx04_20
 have qx05_21:w21.cell? ⟨w6.heap.size,5,none⟩=some (.slice x0dp5 x0dn5 x0dq5):=(b21.cell (p:=⟨w6.heap.size,5,none⟩) bE).trans qx05_20
 have zbx0_21:w6.heap.size<w21.heap.size:=bE
 clear qx00_20 qx01_20 qx02_20 qx03_20 qx04_20 qx05_20
 have Fw0r0_21:=Lib.hid (Fw0r0_20.out.below b21 bE)
 clear Fw0r0_20
 have Fg0r0_21:=Lib.hid (Fg0r0_20.out.below b21 bE)
 clear Fg0r0_20
 have Fu0_21:=Lib.hid (Fu0_20.out.below b21 bE)
 clear Fu0_20
 have Fu1_21:=Lib.hid (Fu1_20.out.below b21 bE)
 clear Fu1_20
 clear Fu0_21
 clear Fu1_21
 have Fh0r0_21:=Lib.hid h0rf0;clear h0rf0
 go_wp2_with fail
 refine (aIK _ _ _ _ _ _ R0 _ (by exact (Fh0r0_21.out).sl) (by exact (Fw0r0_21.out).sl)).mono ?_
 rintro e w22 ⟨rfl,b22⟩
 have B22:Below w.heap.size w w22:=Below.trans B21 (b22.mono bE)
 have z22:w21.heap.size+0<=w22.heap.size:=by have:=b22.size;(try simp only[vE] at this ⊢) <;> omega
 have qa00_22:w22.cell? ⟨w.heap.size,0,none⟩=some (.slice ap0_0 an0_0 aq0_0):=(b22.cell (p:=⟨w.heap.size,0,none⟩) bE).trans qa00_21
 have qa01_22:w22.cell? ⟨w.heap.size,1,none⟩=some (.slice ap0_1 an0_1 aq0_1):=(b22.cell (p:=⟨w.heap.size,1,none⟩) bE).trans qa01_21
 have qa02_22:w22.cell? ⟨w.heap.size,2,none⟩=some (.int .i64 ax0_2):=(b22.cell (p:=⟨w.heap.size,2,none⟩) bE).trans qa02_21
 have qa03_22:w22.cell? ⟨w.heap.size,3,none⟩=some (.slice ap0_3 an0_3 aq0_3):=(b22.cell (p:=⟨w.heap.size,3,none⟩) bE).trans qa03_21
 have qa04_22:w22.cell? ⟨w.heap.size,4,none⟩=some (.slice ap0_4 an0_4 aq0_4):=(b22.cell (p:=⟨w.heap.size,4,none⟩) bE).trans qa04_21
 have qa05_22:w22.cell? ⟨w.heap.size,5,none⟩=some (.slice ap0_5 an0_5 aq0_5):=(b22.cell (p:=⟨w.heap.size,5,none⟩) bE).trans qa05_21
 have zba0_22:w.heap.size<w22.heap.size:=bE
 clear qa00_21 qa01_21 qa02_21 qa03_21 qa04_21 qa05_21
 have qx00_22:w22.cell? ⟨w6.heap.size,0,none⟩=some (.slice x0dp0 x0dn0 x0dq0):=(b22.cell (p:=⟨w6.heap.size,0,none⟩) bE).trans qx00_21
 have qx01_22:w22.cell? ⟨w6.heap.size,1,none⟩=some (.slice x0dp1 x0dn1 x0dq1):=(b22.cell (p:=⟨w6.heap.size,1,none⟩) bE).trans qx01_21
 have qx02_22:w22.cell? ⟨w6.heap.size,2,none⟩=some (.int .i64 d0.2.2.1):=(b22.cell (p:=⟨w6.heap.size,2,none⟩) bE).trans qx02_21
 have qx03_22:w22.cell? ⟨w6.heap.size,3,none⟩=some (.slice x0dp3 x0dn3 x0dq3):=(b22.cell (p:=⟨w6.heap.size,3,none⟩) bE).trans qx03_21
 have qx04_22:w22.cell? ⟨w6.heap.size,4,none⟩=some (.slice x0dp4 x0dn4 x0dq4):=(b22.cell (p:=⟨w6.heap.size,4,none⟩) bE).trans qx04_21
 have qx05_22:w22.cell? ⟨w6.heap.size,5,none⟩=some (.slice x0dp5 x0dn5 x0dq5):=(b22.cell (p:=⟨w6.heap.size,5,none⟩) bE).trans qx05_21
 have zbx0_22:w6.heap.size<w22.heap.size:=bE
 clear qx00_21 qx01_21 qx02_21 qx03_21 qx04_21 qx05_21
 have Fw0r0_22:=Lib.hid (Fw0r0_21.out.below b22 bE)
 clear Fw0r0_21
 have Fg0r0_22:=Lib.hid (Fg0r0_21.out.below b22 bE)
 clear Fg0r0_21
 have Fh0r0_22:=Lib.hid (Fh0r0_21.out.below b22 bE)
 clear Fh0r0_21
 go_wp2_with fail
 refine (aLQ _ _ _ _ R0 _ (by exact (Fg0r0_22.out).sl) (by omega) (by omega)).mono ?_
 rintro e w23 ⟨rfl,b23⟩
 have B23:Below w.heap.size w w23:=Below.trans B22 (b23.mono bE)
 have z23:w22.heap.size+0<=w23.heap.size:=by have:=b23.size;(try simp only[vE] at this ⊢) <;> omega
 have qa00_23:w23.cell? ⟨w.heap.size,0,none⟩=some (.slice ap0_0 an0_0 aq0_0):=(b23.cell (p:=⟨w.heap.size,0,none⟩) bE).trans qa00_22
 have qa01_23:w23.cell? ⟨w.heap.size,1,none⟩=some (.slice ap0_1 an0_1 aq0_1):=(b23.cell (p:=⟨w.heap.size,1,none⟩) bE).trans qa01_22
 have qa02_23:w23.cell? ⟨w.heap.size,2,none⟩=some (.int .i64 ax0_2):=(b23.cell (p:=⟨w.heap.size,2,none⟩) bE).trans qa02_22
 have qa03_23:w23.cell? ⟨w.heap.size,3,none⟩=some (.slice ap0_3 an0_3 aq0_3):=(b23.cell (p:=⟨w.heap.size,3,none⟩) bE).trans qa03_22
 have qa04_23:w23.cell? ⟨w.heap.size,4,none⟩=some (.slice ap0_4 an0_4 aq0_4):=(b23.cell (p:=⟨w.heap.size,4,none⟩) bE).trans qa04_22
 have qa05_23:w23.cell? ⟨w.heap.size,5,none⟩=some (.slice ap0_5 an0_5 aq0_5):=(b23.cell (p:=⟨w.heap.size,5,none⟩) bE).trans qa05_22
 have zba0_23:w.heap.size<w23.heap.size:=bE
 clear qa00_22 qa01_22 qa02_22 qa03_22 qa04_22 qa05_22
 have qx00_23:w23.cell? ⟨w6.heap.size,0,none⟩=some (.slice x0dp0 x0dn0 x0dq0):=(b23.cell (p:=⟨w6.heap.size,0,none⟩) bE).trans qx00_22
 have qx01_23:w23.cell? ⟨w6.heap.size,1,none⟩=some (.slice x0dp1 x0dn1 x0dq1):=(b23.cell (p:=⟨w6.heap.size,1,none⟩) bE).trans qx01_22
 have qx02_23:w23.cell? ⟨w6.heap.size,2,none⟩=some (.int .i64 d0.2.2.1):=(b23.cell (p:=⟨w6.heap.size,2,none⟩) bE).trans qx02_22
 have qx03_23:w23.cell? ⟨w6.heap.size,3,none⟩=some (.slice x0dp3 x0dn3 x0dq3):=(b23.cell (p:=⟨w6.heap.size,3,none⟩) bE).trans qx03_22
 have qx04_23:w23.cell? ⟨w6.heap.size,4,none⟩=some (.slice x0dp4 x0dn4 x0dq4):=(b23.cell (p:=⟨w6.heap.size,4,none⟩) bE).trans qx04_22
 have qx05_23:w23.cell? ⟨w6.heap.size,5,none⟩=some (.slice x0dp5 x0dn5 x0dq5):=(b23.cell (p:=⟨w6.heap.size,5,none⟩) bE).trans qx05_22
 have zbx0_23:w6.heap.size<w23.heap.size:=bE
 clear qx00_22 qx01_22 qx02_22 qx03_22 qx04_22 qx05_22
 have Fw0r0_23:=Lib.hid (Fw0r0_22.out.below b23 bE)
 clear Fw0r0_22
 have Fg0r0_23:=Lib.hid (Fg0r0_22.out.below b23 bE)
 clear Fg0r0_22
 have Fh0r0_23:=Lib.hid (Fh0r0_22.out.below b23 bE)
 clear Fh0r0_22
 go_wp2
 go_ret
 exact ⟨rfl,B23⟩
end Go.Proofs.YtlhaoiaieiladaaGreat
