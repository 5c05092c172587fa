/- EKeepAt: lemmas. No conditions. -/
import Derived.Test.YtfmfeplebgbpmaaGreatUPipe
import Derived.Deep.RegionHeld3
namespace Go.Proofs.YtfmfeplebgbpmaaGreat
open Go.ChangeShapes Go.WideShapes Go.ChangeAt Go.RowKit
set_option linter.unusedVariables false
set_option linter.unusedSimpArgs false
set_option maxRecDepth 100000 in
set_option maxHeartbeats 4000000 in
theorem fnExactKeepAt_walk (w:World) (cs0:Array Value) (d0:Ty.D aE) (h0:rd aE w cs0.toList d0) (p1:Option Addr) (len1 cap1:Nat) (l1:List (Ty.D pN)) (h1:tC (Ty.n pN) (rd pN w) w p1 len1 cap1 l1) (x2:Int) (h2:(Lit.int .i64 x2).wf=true) :
  Calls Tryz.prog 7 #[.agg cs0,.slice p1 len1 cap1,.int .i64 x2] w fun e w'=>e = .returned (.bool true)/\Below w.heap.size w w':=by
 obtain⟨ap0_0,an0_0,aq0_0,ap0_1,an0_1,aq0_1,ap0_2,an0_2,aq0_2,ap0_3,an0_3,aq0_3,rfl⟩:∃ap0_0 an0_0 aq0_0 ap0_1 an0_1 aq0_1 ap0_2 an0_2 aq0_2 ap0_3 an0_3 aq0_3,cs0 = #[.slice ap0_0 an0_0 aq0_0,.slice ap0_1 an0_1 aq0_1,.slice ap0_2 an0_2 aq0_2,.slice ap0_3 an0_3 aq0_3]:=by
  obtain⟨_,_,khcs,⟨kp0,kn0,kq0,rfl,ks0⟩,⟨_,_,rfl,⟨kp1,kn1,kq1,rfl,ks1⟩,⟨_,_,rfl,⟨kp2,kn2,kq2,rfl,ks2⟩,⟨kp3,kn3,kq3,rfl,ks3⟩⟩⟩⟩:=h0
  exact⟨kp0,kn0,kq0,kp1,kn1,kq1,kp2,kn2,kq2,kp3,kn3,kq3,bW6 khcs⟩
 have H0:=Lib.hid h0;clear h0
 have K9:(bC aA l1:Nat)=len1:=by rw[h1.lens];exact lX l1
 by_cases hg1:((len1:Nat):Int)<=1048576
 rotate_left
 ·skip
  have Ib:(1048576:Int)<(len1:Nat):=by omega
  go_enter Tryz.func7,Tryz.ntmps7
  go_wp2
  go_ret
  exact⟨rfl,bNS⟩
 have Ib:¬((1048576:Int)<(len1:Nat)):=by omega
 have H1:@List.length Int l1<=1048576:=by have h9:=h1.lens;have h8:@List.length Int l1 = @List.length (Ty.D pN) l1:=rfl;omega
 by_cases hz0:((bC aE d0:Nat):Int)<=(1048576:Int)
 rotate_left
 ·skip
  go_enter Tryz.func7,Tryz.ntmps7
  go_wp2_with fail
  refine(bZG _ d0 _ _ (by exact aKG H0.out bNS) (by omega) (by omega) (by omega)).mono ?_
  rintro e w1 ⟨rfl,b1⟩
  have B1:Below w.heap.size w w1:=Below.trans bNS (b1.mono dM)
  have z1:w.heap.size+1<=w1.heap.size:=by have:=b1.size;(try simp only[szx] at this⊢)<;>omega
  have qa00_1:w1.cell? ⟨w.heap.size,0,none⟩=some (.slice ap0_0 an0_0 aq0_0):=(b1.cell (p:=⟨w.heap.size,0,none⟩) dM).trans (by simp)
  have qa01_1:w1.cell? ⟨w.heap.size,1,none⟩=some (.slice ap0_1 an0_1 aq0_1):=(b1.cell (p:=⟨w.heap.size,1,none⟩) dM).trans (by simp)
  have qa02_1:w1.cell? ⟨w.heap.size,2,none⟩=some (.slice ap0_2 an0_2 aq0_2):=(b1.cell (p:=⟨w.heap.size,2,none⟩) dM).trans (by simp)
  have qa03_1:w1.cell? ⟨w.heap.size,3,none⟩=some (.slice ap0_3 an0_3 aq0_3):=(b1.cell (p:=⟨w.heap.size,3,none⟩) dM).trans (by simp)
  have zba0_1:w.heap.size<w1.heap.size:=dM
  go_wp2
  go_ret
  exact⟨rfl,B1⟩
 obtain⟨R0,hS,hI,hcr⟩:=bSO d0 l1 x2 h2 (by omega) (by omega)
 have HS:=Lib.hid hS;have HI:=Lib.hid hI;clear hS hI
 clear h2
 have hcb0:=cI5 aE d0 (by decide)
 have Mf:=cLG _ _ l1 (show Ty.per aA<=20 by decide)
 go_enter Tryz.func7,Tryz.ntmps7
 go_wp2_with fail
 refine(cA3 _ d0 _ _ (by exact aKG H0.out bNS) (by omega) (by omega) (by omega)).mono ?_
 rintro e w1 ⟨rfl,b1⟩
 have B1:Below w.heap.size w w1:=Below.trans bNS (b1.mono dM)
 have z1:w.heap.size+1<=w1.heap.size:=by have:=b1.size;(try simp only[szx] at this⊢)<;>omega
 have qa00_1:w1.cell? ⟨w.heap.size,0,none⟩=some (.slice ap0_0 an0_0 aq0_0):=(b1.cell (p:=⟨w.heap.size,0,none⟩) dM).trans (by simp)
 have qa01_1:w1.cell? ⟨w.heap.size,1,none⟩=some (.slice ap0_1 an0_1 aq0_1):=(b1.cell (p:=⟨w.heap.size,1,none⟩) dM).trans (by simp)
 have qa02_1:w1.cell? ⟨w.heap.size,2,none⟩=some (.slice ap0_2 an0_2 aq0_2):=(b1.cell (p:=⟨w.heap.size,2,none⟩) dM).trans (by simp)
 have qa03_1:w1.cell? ⟨w.heap.size,3,none⟩=some (.slice ap0_3 an0_3 aq0_3):=(b1.cell (p:=⟨w.heap.size,3,none⟩) dM).trans (by simp)
 have zba0_1:w.heap.size<w1.heap.size:=dM
 obtain⟨lf0,Da⟩:∃z:Int,z=(1048576:Int) - (bC aE d0:Nat):=⟨_,rfl⟩
 rw[<-Da]
 have Lt:¬(lf0<0):=by omega
 have Ls:lf0<=1048576:=by omega
 have HLF0:=Lib.hid Da;have hle0:=Int.le_of_eq Da;have Mb:=Int.le_of_eq Da.symm;clear Da
 go_wp2_with fail
 refine(aMX _ d0 _ (by exact aKG H0.out B1) (by omega)).mono ?_
 rintro e w2 ⟨tcs0,rfl,tf0,b2⟩
 have B2:Below w.heap.size w w2:=Below.trans B1 (b2.mono dM)
 have z2:w1.heap.size+0<=w2.heap.size:=by have:=b2.size;(try simp only[szx] at this⊢)<;>omega
 have qa00_2:w2.cell? ⟨w.heap.size,0,none⟩=some (.slice ap0_0 an0_0 aq0_0):=(b2.cell (p:=⟨w.heap.size,0,none⟩) dM).trans qa00_1
 have qa01_2:w2.cell? ⟨w.heap.size,1,none⟩=some (.slice ap0_1 an0_1 aq0_1):=(b2.cell (p:=⟨w.heap.size,1,none⟩) dM).trans qa01_1
 have qa02_2:w2.cell? ⟨w.heap.size,2,none⟩=some (.slice ap0_2 an0_2 aq0_2):=(b2.cell (p:=⟨w.heap.size,2,none⟩) dM).trans qa02_1
 have qa03_2:w2.cell? ⟨w.heap.size,3,none⟩=some (.slice ap0_3 an0_3 aq0_3):=(b2.cell (p:=⟨w.heap.size,3,none⟩) dM).trans qa03_1
 have zba0_2:w.heap.size<w2.heap.size:=dM
 clear qa00_1 qa01_1 qa02_1 qa03_1
 have Ft0_2:=Lib.hid tf0;clear tf0
 go_wp2_with fail
 refine(aLF _ _ _ l1 _ (by exact h1.below B2) (by have:=lX l1;omega)).mono ?_
 rintro e w3 ⟨tp1,tc1,rfl,tf1,b3⟩
 have B3:Below w.heap.size w w3:=Below.trans B2 (b3.mono dM)
 have z3:w2.heap.size+0<=w3.heap.size:=by have:=b3.size;(try simp only[szx] at this⊢)<;>omega
 have qa00_3:w3.cell? ⟨w.heap.size,0,none⟩=some (.slice ap0_0 an0_0 aq0_0):=(b3.cell (p:=⟨w.heap.size,0,none⟩) dM).trans qa00_2
 have qa01_3:w3.cell? ⟨w.heap.size,1,none⟩=some (.slice ap0_1 an0_1 aq0_1):=(b3.cell (p:=⟨w.heap.size,1,none⟩) dM).trans qa01_2
 have qa02_3:w3.cell? ⟨w.heap.size,2,none⟩=some (.slice ap0_2 an0_2 aq0_2):=(b3.cell (p:=⟨w.heap.size,2,none⟩) dM).trans qa02_2
 have qa03_3:w3.cell? ⟨w.heap.size,3,none⟩=some (.slice ap0_3 an0_3 aq0_3):=(b3.cell (p:=⟨w.heap.size,3,none⟩) dM).trans qa03_2
 have zba0_3:w.heap.size<w3.heap.size:=dM
 clear qa00_2 qa01_2 qa02_2 qa03_2
 have Ft0_3:=Lib.hid (Ft0_2.out.below b3 dM)
 clear Ft0_2
 have Ft1_3:=Lib.hid tf1;clear tf1
 go_wp2_with fail
 refine(HS.out _ _ _ _ (by exact(Ft0_3.out).rd) (by exact(Ft1_3.out).sl)).mono ?_
 rintro e w4 ⟨w0rp0,w0rc0,rfl,w0rf0,b4⟩
 have B4:Below w.heap.size w w4:=Below.trans B3 (b4.mono dM)
 have z4:w3.heap.size+0<=w4.heap.size:=by have:=b4.size;(try simp only[szx] at this⊢)<;>omega
 have qa00_4:w4.cell? ⟨w.heap.size,0,none⟩=some (.slice ap0_0 an0_0 aq0_0):=(b4.cell (p:=⟨w.heap.size,0,none⟩) dM).trans qa00_3
 have qa01_4:w4.cell? ⟨w.heap.size,1,none⟩=some (.slice ap0_1 an0_1 aq0_1):=(b4.cell (p:=⟨w.heap.size,1,none⟩) dM).trans qa01_3
 have qa02_4:w4.cell? ⟨w.heap.size,2,none⟩=some (.slice ap0_2 an0_2 aq0_2):=(b4.cell (p:=⟨w.heap.size,2,none⟩) dM).trans qa02_3
 have qa03_4:w4.cell? ⟨w.heap.size,3,none⟩=some (.slice ap0_3 an0_3 aq0_3):=(b4.cell (p:=⟨w.heap.size,3,none⟩) dM).trans qa03_3
 have zba0_4:w.heap.size<w4.heap.size:=dM
 clear qa00_3 qa01_3 qa02_3 qa03_3
 have Ft0_4:=Lib.hid (Ft0_3.out.below b4 dM)
 clear Ft0_3
 have Ft1_4:=Lib.hid (Ft1_3.out.below b4 dM)
 clear Ft1_3
 clear Ft0_4
 clear Ft1_4
 have Fw0r0_4:=Lib.hid w0rf0;clear w0rf0
 go_wp2_with fail
 refine(aMX _ d0 _ (by exact aKG H0.out B4) (by omega)).mono ?_
 rintro e w5 ⟨xcs0,rfl,xf0,b5⟩
 have B5:Below w.heap.size w w5:=Below.trans B4 (b5.mono dM)
 have z5:w4.heap.size+0<=w5.heap.size:=by have:=b5.size;(try simp only[szx] at this⊢)<;>omega
 have qa00_5:w5.cell? ⟨w.heap.size,0,none⟩=some (.slice ap0_0 an0_0 aq0_0):=(b5.cell (p:=⟨w.heap.size,0,none⟩) dM).trans qa00_4
 have qa01_5:w5.cell? ⟨w.heap.size,1,none⟩=some (.slice ap0_1 an0_1 aq0_1):=(b5.cell (p:=⟨w.heap.size,1,none⟩) dM).trans qa01_4
 have qa02_5:w5.cell? ⟨w.heap.size,2,none⟩=some (.slice ap0_2 an0_2 aq0_2):=(b5.cell (p:=⟨w.heap.size,2,none⟩) dM).trans qa02_4
 have qa03_5:w5.cell? ⟨w.heap.size,3,none⟩=some (.slice ap0_3 an0_3 aq0_3):=(b5.cell (p:=⟨w.heap.size,3,none⟩) dM).trans qa03_4
 have zba0_5:w.heap.size<w5.heap.size:=dM
 clear qa00_4 qa01_4 qa02_4 qa03_4
 have Fw0r0_5:=Lib.hid (Fw0r0_4.out.below b5 dM)
 clear Fw0r0_4
 have rrx0d:=xf0.rd
 obtain⟨_,_,x0dhcs,⟨x0dp0,x0dn0,x0dq0,rfl,x0ds0⟩,⟨_,_,rfl,⟨x0dp1,x0dn1,x0dq1,rfl,x0ds1⟩,⟨_,_,rfl,⟨x0dp2,x0dn2,x0dq2,rfl,x0ds2⟩,⟨x0dp3,x0dn3,x0dq3,rfl,x0ds3⟩⟩⟩⟩:=rrx0d
 obtain rfl:xcs0 = #[.slice x0dp0 x0dn0 x0dq0,.slice x0dp1 x0dn1 x0dq1,.slice x0dp2 x0dn2 x0dq2,.slice x0dp3 x0dn3 x0dq3]:=bW6 x0dhcs
 clear x0dhcs
 have Fx0_5:=Lib.hid xf0;clear xf0
 go_wp2_with fail
 refine(aLF _ _ _ l1 _ (by exact h1.below bNS) (by have:=lX l1;omega)).mono ?_
 rintro e w6 ⟨xp1,xc1,rfl,xf1,b6⟩
 have B6:Below w.heap.size w w6:=Below.trans bNS (b6.mono dM)
 have z6:w5.heap.size+1<=w6.heap.size:=by have:=b6.size;(try simp only[szx] at this⊢)<;>omega
 have qa00_6:w6.cell? ⟨w.heap.size,0,none⟩=some (.slice ap0_0 an0_0 aq0_0):=(b6.cell (p:=⟨w.heap.size,0,none⟩) dM).trans ((aLQ (a:=⟨w.heap.size,0,none⟩) dM).trans qa00_5)
 have qa01_6:w6.cell? ⟨w.heap.size,1,none⟩=some (.slice ap0_1 an0_1 aq0_1):=(b6.cell (p:=⟨w.heap.size,1,none⟩) dM).trans ((aLQ (a:=⟨w.heap.size,1,none⟩) dM).trans qa01_5)
 have qa02_6:w6.cell? ⟨w.heap.size,2,none⟩=some (.slice ap0_2 an0_2 aq0_2):=(b6.cell (p:=⟨w.heap.size,2,none⟩) dM).trans ((aLQ (a:=⟨w.heap.size,2,none⟩) dM).trans qa02_5)
 have qa03_6:w6.cell? ⟨w.heap.size,3,none⟩=some (.slice ap0_3 an0_3 aq0_3):=(b6.cell (p:=⟨w.heap.size,3,none⟩) dM).trans ((aLQ (a:=⟨w.heap.size,3,none⟩) dM).trans qa03_5)
 have zba0_6:w.heap.size<w6.heap.size:=dM
 clear qa00_5 qa01_5 qa02_5 qa03_5
 have qx00_6:w6.cell? ⟨w5.heap.size,0,none⟩=some (.slice x0dp0 x0dn0 x0dq0):=(b6.cell (p:=⟨w5.heap.size,0,none⟩) dM).trans (by simp)
 have qx01_6:w6.cell? ⟨w5.heap.size,1,none⟩=some (.slice x0dp1 x0dn1 x0dq1):=(b6.cell (p:=⟨w5.heap.size,1,none⟩) dM).trans (by simp)
 have qx02_6:w6.cell? ⟨w5.heap.size,2,none⟩=some (.slice x0dp2 x0dn2 x0dq2):=(b6.cell (p:=⟨w5.heap.size,2,none⟩) dM).trans (by simp)
 have qx03_6:w6.cell? ⟨w5.heap.size,3,none⟩=some (.slice x0dp3 x0dn3 x0dq3):=(b6.cell (p:=⟨w5.heap.size,3,none⟩) dM).trans (by simp)
 have zbx0_6:w5.heap.size<w6.heap.size:=dM
 have Fw0r0_6:=Lib.hid ((Fw0r0_5.out.alloc _).below b6 dM)
 clear Fw0r0_5
 have Fx0_6:=Lib.hid ((Fx0_5.out.alloc _).below b6 dM)
 clear Fx0_5
 have Fx1_6:=Lib.hid xf1;clear xf1
 go_wp2_with fail
 refine(HI.out _ _ _ _ (by exact(Fx0_6.out).rd) (by exact(Fx1_6.out).sl)).mono ?_
 rintro e w7 ⟨g0rp0,g0rc0,rfl,g0rf0,b7⟩
 have B7:Below w.heap.size w w7:=Below.trans B6 (b7.mono dM)
 have z7:w6.heap.size+0<=w7.heap.size:=by have:=b7.size;(try simp only[szx] at this⊢)<;>omega
 have qa00_7:w7.cell? ⟨w.heap.size,0,none⟩=some (.slice ap0_0 an0_0 aq0_0):=(b7.cell (p:=⟨w.heap.size,0,none⟩) dM).trans qa00_6
 have qa01_7:w7.cell? ⟨w.heap.size,1,none⟩=some (.slice ap0_1 an0_1 aq0_1):=(b7.cell (p:=⟨w.heap.size,1,none⟩) dM).trans qa01_6
 have qa02_7:w7.cell? ⟨w.heap.size,2,none⟩=some (.slice ap0_2 an0_2 aq0_2):=(b7.cell (p:=⟨w.heap.size,2,none⟩) dM).trans qa02_6
 have qa03_7:w7.cell? ⟨w.heap.size,3,none⟩=some (.slice ap0_3 an0_3 aq0_3):=(b7.cell (p:=⟨w.heap.size,3,none⟩) dM).trans qa03_6
 have zba0_7:w.heap.size<w7.heap.size:=dM
 clear qa00_6 qa01_6 qa02_6 qa03_6
 have qx00_7:w7.cell? ⟨w5.heap.size,0,none⟩=some (.slice x0dp0 x0dn0 x0dq0):=(b7.cell (p:=⟨w5.heap.size,0,none⟩) dM).trans qx00_6
 have qx01_7:w7.cell? ⟨w5.heap.size,1,none⟩=some (.slice x0dp1 x0dn1 x0dq1):=(b7.cell (p:=⟨w5.heap.size,1,none⟩) dM).trans qx01_6
 have qx02_7:w7.cell? ⟨w5.heap.size,2,none⟩=some (.slice x0dp2 x0dn2 x0dq2):=(b7.cell (p:=⟨w5.heap.size,2,none⟩) dM).trans qx02_6
 have qx03_7:w7.cell? ⟨w5.heap.size,3,none⟩=some (.slice x0dp3 x0dn3 x0dq3):=(b7.cell (p:=⟨w5.heap.size,3,none⟩) dM).trans qx03_6
 have zbx0_7:w5.heap.size<w7.heap.size:=dM
 clear qx00_6 qx01_6 qx02_6 qx03_6
 have Fw0r0_7:=Lib.hid (Fw0r0_6.out.below b7 dM)
 clear Fw0r0_6
 have Fx0_7:=Lib.hid (Fx0_6.out.below b7 dM)
 clear Fx0_6
 have Fx1_7:=Lib.hid (Fx1_6.out.below b7 dM)
 clear Fx1_6
 have Fg0r0_7:=Lib.hid g0rf0;clear g0rf0
 go_wp2_with fail
 refine(aJI _ _ _ _ _ _ R0 _ (by exact(Fg0r0_7.out).sl) (by exact(Fw0r0_7.out).sl)).mono ?_
 rintro e w8 ⟨rfl,b8⟩
 have B8:Below w.heap.size w w8:=Below.trans B7 (b8.mono dM)
 have z8:w7.heap.size+0<=w8.heap.size:=by have:=b8.size;(try simp only[szx] at this⊢)<;>omega
 have qa00_8:w8.cell? ⟨w.heap.size,0,none⟩=some (.slice ap0_0 an0_0 aq0_0):=(b8.cell (p:=⟨w.heap.size,0,none⟩) dM).trans qa00_7
 have qa01_8:w8.cell? ⟨w.heap.size,1,none⟩=some (.slice ap0_1 an0_1 aq0_1):=(b8.cell (p:=⟨w.heap.size,1,none⟩) dM).trans qa01_7
 have qa02_8:w8.cell? ⟨w.heap.size,2,none⟩=some (.slice ap0_2 an0_2 aq0_2):=(b8.cell (p:=⟨w.heap.size,2,none⟩) dM).trans qa02_7
 have qa03_8:w8.cell? ⟨w.heap.size,3,none⟩=some (.slice ap0_3 an0_3 aq0_3):=(b8.cell (p:=⟨w.heap.size,3,none⟩) dM).trans qa03_7
 have zba0_8:w.heap.size<w8.heap.size:=dM
 clear qa00_7 qa01_7 qa02_7 qa03_7
 have qx00_8:w8.cell? ⟨w5.heap.size,0,none⟩=some (.slice x0dp0 x0dn0 x0dq0):=(b8.cell (p:=⟨w5.heap.size,0,none⟩) dM).trans qx00_7
 have qx01_8:w8.cell? ⟨w5.heap.size,1,none⟩=some (.slice x0dp1 x0dn1 x0dq1):=(b8.cell (p:=⟨w5.heap.size,1,none⟩) dM).trans qx01_7
 have qx02_8:w8.cell? ⟨w5.heap.size,2,none⟩=some (.slice x0dp2 x0dn2 x0dq2):=(b8.cell (p:=⟨w5.heap.size,2,none⟩) dM).trans qx02_7
 have qx03_8:w8.cell? ⟨w5.heap.size,3,none⟩=some (.slice x0dp3 x0dn3 x0dq3):=(b8.cell (p:=⟨w5.heap.size,3,none⟩) dM).trans qx03_7
 have zbx0_8:w5.heap.size<w8.heap.size:=dM
 clear qx00_7 qx01_7 qx02_7 qx03_7
 have Fw0r0_8:=Lib.hid (Fw0r0_7.out.below b8 dM)
 clear Fw0r0_7
 have Fx0_8:=Lib.hid (Fx0_7.out.below b8 dM)
 clear Fx0_7
 have Fx1_8:=Lib.hid (Fx1_7.out.below b8 dM)
 clear Fx1_7
 have Fg0r0_8:=Lib.hid (Fg0r0_7.out.below b8 dM)
 clear Fg0r0_7
 go_wp2_with fail
 go_region_held3 (fun w'=>w'.cell? ⟨w.heap.size,0,none⟩=some (.slice ap0_0 an0_0 aq0_0)/\w'.cell? ⟨w.heap.size,1,none⟩=some (.slice ap0_1 an0_1 aq0_1)/\w'.cell? ⟨w.heap.size,2,none⟩=some (.slice ap0_2 an0_2 aq0_2)/\w'.cell? ⟨w.heap.size,3,none⟩=some (.slice ap0_3 an0_3 aq0_3)/\w'.cell? ⟨w5.heap.size,0,none⟩=some (.slice x0dp0 x0dn0 x0dq0)/\w'.cell? ⟨w5.heap.size,1,none⟩=some (.slice x0dp1 x0dn1 x0dq1)/\w'.cell? ⟨w5.heap.size,2,none⟩=some (.slice x0dp2 x0dn2 x0dq2)/\w'.cell? ⟨w5.heap.size,3,none⟩=some (.slice x0dp3 x0dn3 x0dq3)) (first|go_keep|((try dsimp only);(repeat' apply And.intro)<;>(first|go_keep|(refine((Below.cell b10 ?_).trans ((Below.cell b9 ?_).trans ?_))<;>first|assumption|omega|(simp;omega)|(simp;assumption))|(refine((Below.cell b9 ?_).trans ?_)<;>first|assumption|omega|(simp;omega)|(simp;assumption))))) ((first|(go_at_call 12;refine(aMX _ d0 _ (by exact aKG H0.out bNS) (by omega)).mono ?_;rintro e w9 ⟨ycs0,rfl,yf0,b9⟩;have B9:Below w.heap.size w w9:=Below.trans bNS (b9.mono dM);have z9:w8.heap.size<=w9.heap.size:=by have:=b9.size;(try simp only[szx] at this⊢)<;>omega)|(go_at_call 15;refine(bU3 _ _ d0 _ (by exact((Fx0_8.out.keep (w':=w8.drew) (fun _ _ _=>rfl) (Nat.le_refl _)).below b9 dM).rd) (by exact yf0.rd)).mono ?_;rintro e w10 ⟨rfl,b10⟩;have B10:Below w.heap.size w w10:=B9.trans (b10.mono dM);have z10:=b10.size)))
 have hS:=‹_/\_›
 obtain⟨qa00_10,qa01_10,qa02_10,qa03_10,qx00_10,qx01_10,qx02_10,qx03_10⟩:=hS
 have zba0_10:w.heap.size<w10.heap.size:=dM
 have zbx0_10:w5.heap.size<w10.heap.size:=dM
 have Fw0r0_10:=Lib.hid (((Fw0r0_8.out.keep (w':=w8.drew) (fun _ _ _=>rfl) (Nat.le_refl _)).below b9 dM).below b10 dM)
 clear Fw0r0_8
 have Fx0_10:=Lib.hid (((Fx0_8.out.keep (w':=w8.drew) (fun _ _ _=>rfl) (Nat.le_refl _)).below b9 dM).below b10 dM)
 clear Fx0_8
 have Fx1_10:=Lib.hid (((Fx1_8.out.keep (w':=w8.drew) (fun _ _ _=>rfl) (Nat.le_refl _)).below b9 dM).below b10 dM)
 clear Fx1_8
 have Fg0r0_10:=Lib.hid (((Fg0r0_8.out.keep (w':=w8.drew) (fun _ _ _=>rfl) (Nat.le_refl _)).below b9 dM).below b10 dM)
 clear Fg0r0_8
 go_wp2_with fail
 refine(aLF _ _ _ l1 _ (by exact h1.below B10) (by have:=lX l1;omega)).mono ?_
 rintro e w11 ⟨yp1,yc1,rfl,yf1,b11⟩
 have B11:Below w.heap.size w w11:=Below.trans B10 (b11.mono dM)
 have z11:w10.heap.size+0<=w11.heap.size:=by have:=b11.size;(try simp only[szx] at this⊢)<;>omega
 have qa00_11:w11.cell? ⟨w.heap.size,0,none⟩=some (.slice ap0_0 an0_0 aq0_0):=(b11.cell (p:=⟨w.heap.size,0,none⟩) dM).trans qa00_10
 have qa01_11:w11.cell? ⟨w.heap.size,1,none⟩=some (.slice ap0_1 an0_1 aq0_1):=(b11.cell (p:=⟨w.heap.size,1,none⟩) dM).trans qa01_10
 have qa02_11:w11.cell? ⟨w.heap.size,2,none⟩=some (.slice ap0_2 an0_2 aq0_2):=(b11.cell (p:=⟨w.heap.size,2,none⟩) dM).trans qa02_10
 have qa03_11:w11.cell? ⟨w.heap.size,3,none⟩=some (.slice ap0_3 an0_3 aq0_3):=(b11.cell (p:=⟨w.heap.size,3,none⟩) dM).trans qa03_10
 have zba0_11:w.heap.size<w11.heap.size:=dM
 clear qa00_10 qa01_10 qa02_10 qa03_10
 have qx00_11:w11.cell? ⟨w5.heap.size,0,none⟩=some (.slice x0dp0 x0dn0 x0dq0):=(b11.cell (p:=⟨w5.heap.size,0,none⟩) dM).trans qx00_10
 have qx01_11:w11.cell? ⟨w5.heap.size,1,none⟩=some (.slice x0dp1 x0dn1 x0dq1):=(b11.cell (p:=⟨w5.heap.size,1,none⟩) dM).trans qx01_10
 have qx02_11:w11.cell? ⟨w5.heap.size,2,none⟩=some (.slice x0dp2 x0dn2 x0dq2):=(b11.cell (p:=⟨w5.heap.size,2,none⟩) dM).trans qx02_10
 have qx03_11:w11.cell? ⟨w5.heap.size,3,none⟩=some (.slice x0dp3 x0dn3 x0dq3):=(b11.cell (p:=⟨w5.heap.size,3,none⟩) dM).trans qx03_10
 have zbx0_11:w5.heap.size<w11.heap.size:=dM
 clear qx00_10 qx01_10 qx02_10 qx03_10
 have Fw0r0_11:=Lib.hid (Fw0r0_10.out.below b11 dM)
 clear Fw0r0_10
 have Fx0_11:=Lib.hid (Fx0_10.out.below b11 dM)
 clear Fx0_10
 have Fx1_11:=Lib.hid (Fx1_10.out.below b11 dM)
 clear Fx1_10
 have Fg0r0_11:=Lib.hid (Fg0r0_10.out.below b11 dM)
 clear Fg0r0_10
 have Fy1_11:=Lib.hid yf1;clear yf1
 go_wp2_with fail
 refine(bVU _ _ _ _ _ _ l1 _ (by exact(Fx1_11.out).sl) (by exact(Fy1_11.out).sl)).mono ?_
 rintro e w12 ⟨rfl,b12⟩
 have B12:Below w.heap.size w w12:=Below.trans B11 (b12.mono dM)
 have z12:w11.heap.size+0<=w12.heap.size:=by have:=b12.size;(try simp only[szx] at this⊢)<;>omega
 have qa00_12:w12.cell? ⟨w.heap.size,0,none⟩=some (.slice ap0_0 an0_0 aq0_0):=(b12.cell (p:=⟨w.heap.size,0,none⟩) dM).trans qa00_11
 have qa01_12:w12.cell? ⟨w.heap.size,1,none⟩=some (.slice ap0_1 an0_1 aq0_1):=(b12.cell (p:=⟨w.heap.size,1,none⟩) dM).trans qa01_11
 have qa02_12:w12.cell? ⟨w.heap.size,2,none⟩=some (.slice ap0_2 an0_2 aq0_2):=(b12.cell (p:=⟨w.heap.size,2,none⟩) dM).trans qa02_11
 have qa03_12:w12.cell? ⟨w.heap.size,3,none⟩=some (.slice ap0_3 an0_3 aq0_3):=(b12.cell (p:=⟨w.heap.size,3,none⟩) dM).trans qa03_11
 have zba0_12:w.heap.size<w12.heap.size:=dM
 clear qa00_11 qa01_11 qa02_11 qa03_11
 have qx00_12:w12.cell? ⟨w5.heap.size,0,none⟩=some (.slice x0dp0 x0dn0 x0dq0):=(b12.cell (p:=⟨w5.heap.size,0,none⟩) dM).trans qx00_11
 have qx01_12:w12.cell? ⟨w5.heap.size,1,none⟩=some (.slice x0dp1 x0dn1 x0dq1):=(b12.cell (p:=⟨w5.heap.size,1,none⟩) dM).trans qx01_11
 have qx02_12:w12.cell? ⟨w5.heap.size,2,none⟩=some (.slice x0dp2 x0dn2 x0dq2):=(b12.cell (p:=⟨w5.heap.size,2,none⟩) dM).trans qx02_11
 have qx03_12:w12.cell? ⟨w5.heap.size,3,none⟩=some (.slice x0dp3 x0dn3 x0dq3):=(b12.cell (p:=⟨w5.heap.size,3,none⟩) dM).trans qx03_11
 have zbx0_12:w5.heap.size<w12.heap.size:=dM
 clear qx00_11 qx01_11 qx02_11 qx03_11
 have Fw0r0_12:=Lib.hid (Fw0r0_11.out.below b12 dM)
 clear Fw0r0_11
 have Fx0_12:=Lib.hid (Fx0_11.out.below b12 dM)
 clear Fx0_11
 have Fx1_12:=Lib.hid (Fx1_11.out.below b12 dM)
 clear Fx1_11
 have Fg0r0_12:=Lib.hid (Fg0r0_11.out.below b12 dM)
 clear Fg0r0_11
 have Fy1_12:=Lib.hid (Fy1_11.out.below b12 dM)
 clear Fy1_11
 clear Fy1_12
 go_wp2_with fail
 obtain⟨bl13,rep13,nd13,in13⟩:=(Fx0_12.out).un
 clear Fx0_12
 refine(bSZ _ _ d0 _ _ (by exact rep13) nd13 (by omega) (by omega)).mono ?_
 rintro e w13 ⟨rfl,rp13,on13⟩
 have B13:Below w.heap.size w w13:=Below.trans B12 (on13.below (fun b hb=>by have:=in13 b hb;(try simp only[szx] at this⊢)<;>omega) dM)
 have z13:w12.heap.size+0<=w13.heap.size:=by have:=on13.size;(try simp only[szx] at this⊢)<;>omega
 have qa00_13:w13.cell? ⟨w.heap.size,0,none⟩=some (.slice ap0_0 an0_0 aq0_0):=(on13.cell (a:=⟨w.heap.size,0,none⟩) (fun hm=>by have:=in13 _ hm;(try simp only[szx] at this⊢)<;>omega) dM).trans qa00_12
 have qa01_13:w13.cell? ⟨w.heap.size,1,none⟩=some (.slice ap0_1 an0_1 aq0_1):=(on13.cell (a:=⟨w.heap.size,1,none⟩) (fun hm=>by have:=in13 _ hm;(try simp only[szx] at this⊢)<;>omega) dM).trans qa01_12
 have qa02_13:w13.cell? ⟨w.heap.size,2,none⟩=some (.slice ap0_2 an0_2 aq0_2):=(on13.cell (a:=⟨w.heap.size,2,none⟩) (fun hm=>by have:=in13 _ hm;(try simp only[szx] at this⊢)<;>omega) dM).trans qa02_12
 have qa03_13:w13.cell? ⟨w.heap.size,3,none⟩=some (.slice ap0_3 an0_3 aq0_3):=(on13.cell (a:=⟨w.heap.size,3,none⟩) (fun hm=>by have:=in13 _ hm;(try simp only[szx] at this⊢)<;>omega) dM).trans qa03_12
 have zba0_13:w.heap.size<w13.heap.size:=dM
 clear qa00_12 qa01_12 qa02_12 qa03_12
 have qx00_13:w13.cell? ⟨w5.heap.size,0,none⟩=some (.slice x0dp0 x0dn0 x0dq0):=(on13.cell (a:=⟨w5.heap.size,0,none⟩) (fun hm=>by have:=in13 _ hm;(try simp only[szx] at this⊢)<;>omega) dM).trans qx00_12
 have qx01_13:w13.cell? ⟨w5.heap.size,1,none⟩=some (.slice x0dp1 x0dn1 x0dq1):=(on13.cell (a:=⟨w5.heap.size,1,none⟩) (fun hm=>by have:=in13 _ hm;(try simp only[szx] at this⊢)<;>omega) dM).trans qx01_12
 have qx02_13:w13.cell? ⟨w5.heap.size,2,none⟩=some (.slice x0dp2 x0dn2 x0dq2):=(on13.cell (a:=⟨w5.heap.size,2,none⟩) (fun hm=>by have:=in13 _ hm;(try simp only[szx] at this⊢)<;>omega) dM).trans qx02_12
 have qx03_13:w13.cell? ⟨w5.heap.size,3,none⟩=some (.slice x0dp3 x0dn3 x0dq3):=(on13.cell (a:=⟨w5.heap.size,3,none⟩) (fun hm=>by have:=in13 _ hm;(try simp only[szx] at this⊢)<;>omega) dM).trans qx03_12
 have zbx0_13:w5.heap.size<w13.heap.size:=dM
 clear qx00_12 qx01_12 qx02_12 qx03_12
 have Fw0r0_13:=Lib.hid (Fw0r0_12.out.only on13 (fun b hb=>by have:=in13 b hb;(try simp only[szx] at this⊢)<;>omega))
 clear Fw0r0_12
 have Fx1_13:=Lib.hid (Fx1_12.out.only on13 (fun b hb=>by have:=in13 b hb;(try simp only[szx] at this⊢)<;>omega))
 clear Fx1_12
 have Fg0r0_13:=Lib.hid (Fg0r0_12.out.only on13 (fun b hb=>by have:=in13 b hb;(try simp only[szx] at this⊢)<;>omega))
 clear Fg0r0_12
 have G13:=FrA.of_un rp13 nd13 in13 dM
 clear rep13 rp13
 have Fx0_13:=Lib.hid G13;clear G13
 clear Fx0_13
 go_wp2_with fail
 obtain⟨bl14,rep14,nd14,in14⟩:=(Fx1_13.out).un
 clear Fx1_13
 refine(rC _ _ _ _ l1 _ _ (by exact rep14) nd14 (by omega) (by have:=H1;omega)).mono ?_
 rintro e w14 ⟨rfl,rp14,on14⟩
 have B14:Below w.heap.size w w14:=Below.trans B13 (on14.below (fun b hb=>by have:=in14 b hb;(try simp only[szx] at this⊢)<;>omega) dM)
 have z14:w13.heap.size+0<=w14.heap.size:=by have:=on14.size;(try simp only[szx] at this⊢)<;>omega
 have qa00_14:w14.cell? ⟨w.heap.size,0,none⟩=some (.slice ap0_0 an0_0 aq0_0):=(on14.cell (a:=⟨w.heap.size,0,none⟩) (fun hm=>by have:=in14 _ hm;(try simp only[szx] at this⊢)<;>omega) dM).trans qa00_13
 have qa01_14:w14.cell? ⟨w.heap.size,1,none⟩=some (.slice ap0_1 an0_1 aq0_1):=(on14.cell (a:=⟨w.heap.size,1,none⟩) (fun hm=>by have:=in14 _ hm;(try simp only[szx] at this⊢)<;>omega) dM).trans qa01_13
 have qa02_14:w14.cell? ⟨w.heap.size,2,none⟩=some (.slice ap0_2 an0_2 aq0_2):=(on14.cell (a:=⟨w.heap.size,2,none⟩) (fun hm=>by have:=in14 _ hm;(try simp only[szx] at this⊢)<;>omega) dM).trans qa02_13
 have qa03_14:w14.cell? ⟨w.heap.size,3,none⟩=some (.slice ap0_3 an0_3 aq0_3):=(on14.cell (a:=⟨w.heap.size,3,none⟩) (fun hm=>by have:=in14 _ hm;(try simp only[szx] at this⊢)<;>omega) dM).trans qa03_13
 have zba0_14:w.heap.size<w14.heap.size:=dM
 clear qa00_13 qa01_13 qa02_13 qa03_13
 have qx00_14:w14.cell? ⟨w5.heap.size,0,none⟩=some (.slice x0dp0 x0dn0 x0dq0):=(on14.cell (a:=⟨w5.heap.size,0,none⟩) (fun hm=>by have:=in14 _ hm;(try simp only[szx] at this⊢)<;>omega) dM).trans qx00_13
 have qx01_14:w14.cell? ⟨w5.heap.size,1,none⟩=some (.slice x0dp1 x0dn1 x0dq1):=(on14.cell (a:=⟨w5.heap.size,1,none⟩) (fun hm=>by have:=in14 _ hm;(try simp only[szx] at this⊢)<;>omega) dM).trans qx01_13
 have qx02_14:w14.cell? ⟨w5.heap.size,2,none⟩=some (.slice x0dp2 x0dn2 x0dq2):=(on14.cell (a:=⟨w5.heap.size,2,none⟩) (fun hm=>by have:=in14 _ hm;(try simp only[szx] at this⊢)<;>omega) dM).trans qx02_13
 have qx03_14:w14.cell? ⟨w5.heap.size,3,none⟩=some (.slice x0dp3 x0dn3 x0dq3):=(on14.cell (a:=⟨w5.heap.size,3,none⟩) (fun hm=>by have:=in14 _ hm;(try simp only[szx] at this⊢)<;>omega) dM).trans qx03_13
 have zbx0_14:w5.heap.size<w14.heap.size:=dM
 clear qx00_13 qx01_13 qx02_13 qx03_13
 have Fw0r0_14:=Lib.hid (Fw0r0_13.out.only on14 (fun b hb=>by have:=in14 b hb;(try simp only[szx] at this⊢)<;>omega))
 clear Fw0r0_13
 have Fg0r0_14:=Lib.hid (Fg0r0_13.out.only on14 (fun b hb=>by have:=in14 b hb;(try simp only[szx] at this⊢)<;>omega))
 clear Fg0r0_13
 have G14:=FrA.of_un rp14 nd14 in14 dM
 clear rep14 rp14
 have Fx1_14:=Lib.hid G14;clear G14
 clear Fx1_14
 go_wp2_with fail
 refine(aJI _ _ _ _ _ _ R0 _ (by exact(Fg0r0_14.out).sl) (by exact(Fw0r0_14.out).sl)).mono ?_
 rintro e w15 ⟨rfl,b15⟩
 have B15:Below w.heap.size w w15:=Below.trans B14 (b15.mono dM)
 have z15:w14.heap.size+0<=w15.heap.size:=by have:=b15.size;(try simp only[szx] at this⊢)<;>omega
 have qa00_15:w15.cell? ⟨w.heap.size,0,none⟩=some (.slice ap0_0 an0_0 aq0_0):=(b15.cell (p:=⟨w.heap.size,0,none⟩) dM).trans qa00_14
 have qa01_15:w15.cell? ⟨w.heap.size,1,none⟩=some (.slice ap0_1 an0_1 aq0_1):=(b15.cell (p:=⟨w.heap.size,1,none⟩) dM).trans qa01_14
 have qa02_15:w15.cell? ⟨w.heap.size,2,none⟩=some (.slice ap0_2 an0_2 aq0_2):=(b15.cell (p:=⟨w.heap.size,2,none⟩) dM).trans qa02_14
 have qa03_15:w15.cell? ⟨w.heap.size,3,none⟩=some (.slice ap0_3 an0_3 aq0_3):=(b15.cell (p:=⟨w.heap.size,3,none⟩) dM).trans qa03_14
 have zba0_15:w.heap.size<w15.heap.size:=dM
 clear qa00_14 qa01_14 qa02_14 qa03_14
 have qx00_15:w15.cell? ⟨w5.heap.size,0,none⟩=some (.slice x0dp0 x0dn0 x0dq0):=(b15.cell (p:=⟨w5.heap.size,0,none⟩) dM).trans qx00_14
 have qx01_15:w15.cell? ⟨w5.heap.size,1,none⟩=some (.slice x0dp1 x0dn1 x0dq1):=(b15.cell (p:=⟨w5.heap.size,1,none⟩) dM).trans qx01_14
 have qx02_15:w15.cell? ⟨w5.heap.size,2,none⟩=some (.slice x0dp2 x0dn2 x0dq2):=(b15.cell (p:=⟨w5.heap.size,2,none⟩) dM).trans qx02_14
 have qx03_15:w15.cell? ⟨w5.heap.size,3,none⟩=some (.slice x0dp3 x0dn3 x0dq3):=(b15.cell (p:=⟨w5.heap.size,3,none⟩) dM).trans qx03_14
 have zbx0_15:w5.heap.size<w15.heap.size:=dM
 clear qx00_14 qx01_14 qx02_14 qx03_14
 have Fw0r0_15:=Lib.hid (Fw0r0_14.out.below b15 dM)
 clear Fw0r0_14
 have Fg0r0_15:=Lib.hid (Fg0r0_14.out.below b15 dM)
 clear Fg0r0_14
 go_wp2_with fail
 obtain⟨bl16,rep16,nd16,in16⟩:=(Fg0r0_15.out).un
 clear Fg0r0_15
 refine(bGZ _ _ _ _ R0 _ _ (by exact rep16) nd16 (by omega) (by omega)).mono ?_
 rintro e w16 ⟨rfl,rp16,on16⟩
 have B16:Below w.heap.size w w16:=Below.trans B15 (on16.below (fun b hb=>by have:=in16 b hb;(try simp only[szx] at this⊢)<;>omega) dM)
 have z16:w15.heap.size+0<=w16.heap.size:=by have:=on16.size;(try simp only[szx] at this⊢)<;>omega
 have qa00_16:w16.cell? ⟨w.heap.size,0,none⟩=some (.slice ap0_0 an0_0 aq0_0):=(on16.cell (a:=⟨w.heap.size,0,none⟩) (fun hm=>by have:=in16 _ hm;(try simp only[szx] at this⊢)<;>omega) dM).trans qa00_15
 have qa01_16:w16.cell? ⟨w.heap.size,1,none⟩=some (.slice ap0_1 an0_1 aq0_1):=(on16.cell (a:=⟨w.heap.size,1,none⟩) (fun hm=>by have:=in16 _ hm;(try simp only[szx] at this⊢)<;>omega) dM).trans qa01_15
 have qa02_16:w16.cell? ⟨w.heap.size,2,none⟩=some (.slice ap0_2 an0_2 aq0_2):=(on16.cell (a:=⟨w.heap.size,2,none⟩) (fun hm=>by have:=in16 _ hm;(try simp only[szx] at this⊢)<;>omega) dM).trans qa02_15
 have qa03_16:w16.cell? ⟨w.heap.size,3,none⟩=some (.slice ap0_3 an0_3 aq0_3):=(on16.cell (a:=⟨w.heap.size,3,none⟩) (fun hm=>by have:=in16 _ hm;(try simp only[szx] at this⊢)<;>omega) dM).trans qa03_15
 have zba0_16:w.heap.size<w16.heap.size:=dM
 clear qa00_15 qa01_15 qa02_15 qa03_15
 have qx00_16:w16.cell? ⟨w5.heap.size,0,none⟩=some (.slice x0dp0 x0dn0 x0dq0):=(on16.cell (a:=⟨w5.heap.size,0,none⟩) (fun hm=>by have:=in16 _ hm;(try simp only[szx] at this⊢)<;>omega) dM).trans qx00_15
 have qx01_16:w16.cell? ⟨w5.heap.size,1,none⟩=some (.slice x0dp1 x0dn1 x0dq1):=(on16.cell (a:=⟨w5.heap.size,1,none⟩) (fun hm=>by have:=in16 _ hm;(try simp only[szx] at this⊢)<;>omega) dM).trans qx01_15
 have qx02_16:w16.cell? ⟨w5.heap.size,2,none⟩=some (.slice x0dp2 x0dn2 x0dq2):=(on16.cell (a:=⟨w5.heap.size,2,none⟩) (fun hm=>by have:=in16 _ hm;(try simp only[szx] at this⊢)<;>omega) dM).trans qx02_15
 have qx03_16:w16.cell? ⟨w5.heap.size,3,none⟩=some (.slice x0dp3 x0dn3 x0dq3):=(on16.cell (a:=⟨w5.heap.size,3,none⟩) (fun hm=>by have:=in16 _ hm;(try simp only[szx] at this⊢)<;>omega) dM).trans qx03_15
 have zbx0_16:w5.heap.size<w16.heap.size:=dM
 clear qx00_15 qx01_15 qx02_15 qx03_15
 have Fw0r0_16:=Lib.hid (Fw0r0_15.out.only on16 (fun b hb=>by have:=in16 b hb;(try simp only[szx] at this⊢)<;>omega))
 clear Fw0r0_15
 have G16:=FrA.of_un rp16 nd16 in16 dM
 clear rep16 rp16
 have Fg0r0_16:=Lib.hid G16;clear G16
 go_wp2_with fail
 refine(aMY _ _ _ _ R0 _ (by exact(Fg0r0_16.out).sl) (by omega) (by omega)).mono ?_
 rintro e w17 ⟨rfl,b17⟩
 have B17:Below w.heap.size w w17:=Below.trans B16 (b17.mono dM)
 have z17:w16.heap.size+0<=w17.heap.size:=by have:=b17.size;(try simp only[szx] at this⊢)<;>omega
 have qa00_17:w17.cell? ⟨w.heap.size,0,none⟩=some (.slice ap0_0 an0_0 aq0_0):=(b17.cell (p:=⟨w.heap.size,0,none⟩) dM).trans qa00_16
 have qa01_17:w17.cell? ⟨w.heap.size,1,none⟩=some (.slice ap0_1 an0_1 aq0_1):=(b17.cell (p:=⟨w.heap.size,1,none⟩) dM).trans qa01_16
 have qa02_17:w17.cell? ⟨w.heap.size,2,none⟩=some (.slice ap0_2 an0_2 aq0_2):=(b17.cell (p:=⟨w.heap.size,2,none⟩) dM).trans qa02_16
 have qa03_17:w17.cell? ⟨w.heap.size,3,none⟩=some (.slice ap0_3 an0_3 aq0_3):=(b17.cell (p:=⟨w.heap.size,3,none⟩) dM).trans qa03_16
 have zba0_17:w.heap.size<w17.heap.size:=dM
 clear qa00_16 qa01_16 qa02_16 qa03_16
 have qx00_17:w17.cell? ⟨w5.heap.size,0,none⟩=some (.slice x0dp0 x0dn0 x0dq0):=(b17.cell (p:=⟨w5.heap.size,0,none⟩) dM).trans qx00_16
 have qx01_17:w17.cell? ⟨w5.heap.size,1,none⟩=some (.slice x0dp1 x0dn1 x0dq1):=(b17.cell (p:=⟨w5.heap.size,1,none⟩) dM).trans qx01_16
 have qx02_17:w17.cell? ⟨w5.heap.size,2,none⟩=some (.slice x0dp2 x0dn2 x0dq2):=(b17.cell (p:=⟨w5.heap.size,2,none⟩) dM).trans qx02_16
 have qx03_17:w17.cell? ⟨w5.heap.size,3,none⟩=some (.slice x0dp3 x0dn3 x0dq3):=(b17.cell (p:=⟨w5.heap.size,3,none⟩) dM).trans qx03_16
 have zbx0_17:w5.heap.size<w17.heap.size:=dM
 clear qx00_16 qx01_16 qx02_16 qx03_16
 have Fw0r0_17:=Lib.hid (Fw0r0_16.out.below b17 dM)
 clear Fw0r0_16
 have Fg0r0_17:=Lib.hid (Fg0r0_16.out.below b17 dM)
 clear Fg0r0_16
 go_wp2_with fail
 refine(aMX _ d0 _ (by exact aKG H0.out B17) (by omega)).mono ?_
 rintro e w18 ⟨ucs0,rfl,uf0,b18⟩
 have B18:Below w.heap.size w w18:=Below.trans B17 (b18.mono dM)
 have z18:w17.heap.size+0<=w18.heap.size:=by have:=b18.size;(try simp only[szx] at this⊢)<;>omega
 have qa00_18:w18.cell? ⟨w.heap.size,0,none⟩=some (.slice ap0_0 an0_0 aq0_0):=(b18.cell (p:=⟨w.heap.size,0,none⟩) dM).trans qa00_17
 have qa01_18:w18.cell? ⟨w.heap.size,1,none⟩=some (.slice ap0_1 an0_1 aq0_1):=(b18.cell (p:=⟨w.heap.size,1,none⟩) dM).trans qa01_17
 have qa02_18:w18.cell? ⟨w.heap.size,2,none⟩=some (.slice ap0_2 an0_2 aq0_2):=(b18.cell (p:=⟨w.heap.size,2,none⟩) dM).trans qa02_17
 have qa03_18:w18.cell? ⟨w.heap.size,3,none⟩=some (.slice ap0_3 an0_3 aq0_3):=(b18.cell (p:=⟨w.heap.size,3,none⟩) dM).trans qa03_17
 have zba0_18:w.heap.size<w18.heap.size:=dM
 clear qa00_17 qa01_17 qa02_17 qa03_17
 have qx00_18:w18.cell? ⟨w5.heap.size,0,none⟩=some (.slice x0dp0 x0dn0 x0dq0):=(b18.cell (p:=⟨w5.heap.size,0,none⟩) dM).trans qx00_17
 have qx01_18:w18.cell? ⟨w5.heap.size,1,none⟩=some (.slice x0dp1 x0dn1 x0dq1):=(b18.cell (p:=⟨w5.heap.size,1,none⟩) dM).trans qx01_17
 have qx02_18:w18.cell? ⟨w5.heap.size,2,none⟩=some (.slice x0dp2 x0dn2 x0dq2):=(b18.cell (p:=⟨w5.heap.size,2,none⟩) dM).trans qx02_17
 have qx03_18:w18.cell? ⟨w5.heap.size,3,none⟩=some (.slice x0dp3 x0dn3 x0dq3):=(b18.cell (p:=⟨w5.heap.size,3,none⟩) dM).trans qx03_17
 have zbx0_18:w5.heap.size<w18.heap.size:=dM
 clear qx00_17 qx01_17 qx02_17 qx03_17
 have Fw0r0_18:=Lib.hid (Fw0r0_17.out.below b18 dM)
 clear Fw0r0_17
 have Fg0r0_18:=Lib.hid (Fg0r0_17.out.below b18 dM)
 clear Fg0r0_17
 have Fu0_18:=Lib.hid uf0;clear uf0
 go_wp2_with fail
 refine(aLF _ _ _ l1 _ (by exact h1.below B18) (by have:=lX l1;omega)).mono ?_
 rintro e w19 ⟨up1,uc1,rfl,uf1,b19⟩
 have B19:Below w.heap.size w w19:=Below.trans B18 (b19.mono dM)
 have z19:w18.heap.size+0<=w19.heap.size:=by have:=b19.size;(try simp only[szx] at this⊢)<;>omega
 have qa00_19:w19.cell? ⟨w.heap.size,0,none⟩=some (.slice ap0_0 an0_0 aq0_0):=(b19.cell (p:=⟨w.heap.size,0,none⟩) dM).trans qa00_18
 have qa01_19:w19.cell? ⟨w.heap.size,1,none⟩=some (.slice ap0_1 an0_1 aq0_1):=(b19.cell (p:=⟨w.heap.size,1,none⟩) dM).trans qa01_18
 have qa02_19:w19.cell? ⟨w.heap.size,2,none⟩=some (.slice ap0_2 an0_2 aq0_2):=(b19.cell (p:=⟨w.heap.size,2,none⟩) dM).trans qa02_18
 have qa03_19:w19.cell? ⟨w.heap.size,3,none⟩=some (.slice ap0_3 an0_3 aq0_3):=(b19.cell (p:=⟨w.heap.size,3,none⟩) dM).trans qa03_18
 have zba0_19:w.heap.size<w19.heap.size:=dM
 clear qa00_18 qa01_18 qa02_18 qa03_18
 have qx00_19:w19.cell? ⟨w5.heap.size,0,none⟩=some (.slice x0dp0 x0dn0 x0dq0):=(b19.cell (p:=⟨w5.heap.size,0,none⟩) dM).trans qx00_18
 have qx01_19:w19.cell? ⟨w5.heap.size,1,none⟩=some (.slice x0dp1 x0dn1 x0dq1):=(b19.cell (p:=⟨w5.heap.size,1,none⟩) dM).trans qx01_18
 have qx02_19:w19.cell? ⟨w5.heap.size,2,none⟩=some (.slice x0dp2 x0dn2 x0dq2):=(b19.cell (p:=⟨w5.heap.size,2,none⟩) dM).trans qx02_18
 have qx03_19:w19.cell? ⟨w5.heap.size,3,none⟩=some (.slice x0dp3 x0dn3 x0dq3):=(b19.cell (p:=⟨w5.heap.size,3,none⟩) dM).trans qx03_18
 have zbx0_19:w5.heap.size<w19.heap.size:=dM
 clear qx00_18 qx01_18 qx02_18 qx03_18
 have Fw0r0_19:=Lib.hid (Fw0r0_18.out.below b19 dM)
 clear Fw0r0_18
 have Fg0r0_19:=Lib.hid (Fg0r0_18.out.below b19 dM)
 clear Fg0r0_18
 have Fu0_19:=Lib.hid (Fu0_18.out.below b19 dM)
 clear Fu0_18
 have Fu1_19:=Lib.hid uf1;clear uf1
 go_wp2_with fail
 refine(HI.out _ _ _ _ (by exact(Fu0_19.out).rd) (by exact(Fu1_19.out).sl)).mono ?_
 rintro e w20 ⟨Ky,Kz,rfl,Dw,b20⟩
 have B20:Below w.heap.size w w20:=Below.trans B19 (b20.mono dM)
 have z20:w19.heap.size+0<=w20.heap.size:=by have:=b20.size;(try simp only[szx] at this⊢)<;>omega
 have qa00_20:w20.cell? ⟨w.heap.size,0,none⟩=some (.slice ap0_0 an0_0 aq0_0):=(b20.cell (p:=⟨w.heap.size,0,none⟩) dM).trans qa00_19
 have qa01_20:w20.cell? ⟨w.heap.size,1,none⟩=some (.slice ap0_1 an0_1 aq0_1):=(b20.cell (p:=⟨w.heap.size,1,none⟩) dM).trans qa01_19
 have qa02_20:w20.cell? ⟨w.heap.size,2,none⟩=some (.slice ap0_2 an0_2 aq0_2):=(b20.cell (p:=⟨w.heap.size,2,none⟩) dM).trans qa02_19
 have qa03_20:w20.cell? ⟨w.heap.size,3,none⟩=some (.slice ap0_3 an0_3 aq0_3):=(b20.cell (p:=⟨w.heap.size,3,none⟩) dM).trans qa03_19
 have zba0_20:w.heap.size<w20.heap.size:=dM
 clear qa00_19 qa01_19 qa02_19 qa03_19
 have qx00_20:w20.cell? ⟨w5.heap.size,0,none⟩=some (.slice x0dp0 x0dn0 x0dq0):=(b20.cell (p:=⟨w5.heap.size,0,none⟩) dM).trans qx00_19
 have qx01_20:w20.cell? ⟨w5.heap.size,1,none⟩=some (.slice x0dp1 x0dn1 x0dq1):=(b20.cell (p:=⟨w5.heap.size,1,none⟩) dM).trans qx01_19
 have qx02_20:w20.cell? ⟨w5.heap.size,2,none⟩=some (.slice x0dp2 x0dn2 x0dq2):=(b20.cell (p:=⟨w5.heap.size,2,none⟩) dM).trans qx02_19
 have qx03_20:w20.cell? ⟨w5.heap.size,3,none⟩=some (.slice x0dp3 x0dn3 x0dq3):=(b20.cell (p:=⟨w5.heap.size,3,none⟩) dM).trans qx03_19
 have zbx0_20:w5.heap.size<w20.heap.size:=dM
 clear qx00_19 qx01_19 qx02_19 qx03_19
 have Fw0r0_20:=Lib.hid (Fw0r0_19.out.below b20 dM)
 clear Fw0r0_19
 have Fg0r0_20:=Lib.hid (Fg0r0_19.out.below b20 dM)
 clear Fg0r0_19
 have Fu0_20:=Lib.hid (Fu0_19.out.below b20 dM)
 clear Fu0_19
 have Fu1_20:=Lib.hid (Fu1_19.out.below b20 dM)
 clear Fu1_19
 clear Fu0_20
 clear Fu1_20
 have Fh0r0_20:=Lib.hid Dw;clear Dw
 go_wp2_with fail
 refine(aJI _ _ _ _ _ _ R0 _ (by exact(Fh0r0_20.out).sl) (by exact(Fw0r0_20.out).sl)).mono ?_
 rintro e w21 ⟨rfl,b21⟩
 have B21:Below w.heap.size w w21:=Below.trans B20 (b21.mono dM)
 have z21:w20.heap.size+0<=w21.heap.size:=by have:=b21.size;(try simp only[szx] at this⊢)<;>omega
 have qa00_21:w21.cell? ⟨w.heap.size,0,none⟩=some (.slice ap0_0 an0_0 aq0_0):=(b21.cell (p:=⟨w.heap.size,0,none⟩) dM).trans qa00_20
 have qa01_21:w21.cell? ⟨w.heap.size,1,none⟩=some (.slice ap0_1 an0_1 aq0_1):=(b21.cell (p:=⟨w.heap.size,1,none⟩) dM).trans qa01_20
 have qa02_21:w21.cell? ⟨w.heap.size,2,none⟩=some (.slice ap0_2 an0_2 aq0_2):=(b21.cell (p:=⟨w.heap.size,2,none⟩) dM).trans qa02_20
 have qa03_21:w21.cell? ⟨w.heap.size,3,none⟩=some (.slice ap0_3 an0_3 aq0_3):=(b21.cell (p:=⟨w.heap.size,3,none⟩) dM).trans qa03_20
 have zba0_21:w.heap.size<w21.heap.size:=dM
 clear qa00_20 qa01_20 qa02_20 qa03_20
 have qx00_21:w21.cell? ⟨w5.heap.size,0,none⟩=some (.slice x0dp0 x0dn0 x0dq0):=(b21.cell (p:=⟨w5.heap.size,0,none⟩) dM).trans qx00_20
 have qx01_21:w21.cell? ⟨w5.heap.size,1,none⟩=some (.slice x0dp1 x0dn1 x0dq1):=(b21.cell (p:=⟨w5.heap.size,1,none⟩) dM).trans qx01_20
 have qx02_21:w21.cell? ⟨w5.heap.size,2,none⟩=some (.slice x0dp2 x0dn2 x0dq2):=(b21.cell (p:=⟨w5.heap.size,2,none⟩) dM).trans qx02_20
 have qx03_21:w21.cell? ⟨w5.heap.size,3,none⟩=some (.slice x0dp3 x0dn3 x0dq3):=(b21.cell (p:=⟨w5.heap.size,3,none⟩) dM).trans qx03_20
 have zbx0_21:w5.heap.size<w21.heap.size:=dM
 clear qx00_20 qx01_20 qx02_20 qx03_20
 have Fw0r0_21:=Lib.hid (Fw0r0_20.out.below b21 dM)
 clear Fw0r0_20
 have Fg0r0_21:=Lib.hid (Fg0r0_20.out.below b21 dM)
 clear Fg0r0_20
 have Fh0r0_21:=Lib.hid (Fh0r0_20.out.below b21 dM)
 clear Fh0r0_20
 go_wp2_with fail
 refine(aMY _ _ _ _ R0 _ (by exact(Fg0r0_21.out).sl) (by omega) (by omega)).mono ?_
 rintro e w22 ⟨rfl,b22⟩
 have B22:Below w.heap.size w w22:=Below.trans B21 (b22.mono dM)
 have z22:w21.heap.size+0<=w22.heap.size:=by have:=b22.size;(try simp only[szx] at this⊢)<;>omega
 have qa00_22:w22.cell? ⟨w.heap.size,0,none⟩=some (.slice ap0_0 an0_0 aq0_0):=(b22.cell (p:=⟨w.heap.size,0,none⟩) dM).trans qa00_21
 have qa01_22:w22.cell? ⟨w.heap.size,1,none⟩=some (.slice ap0_1 an0_1 aq0_1):=(b22.cell (p:=⟨w.heap.size,1,none⟩) dM).trans qa01_21
 have qa02_22:w22.cell? ⟨w.heap.size,2,none⟩=some (.slice ap0_2 an0_2 aq0_2):=(b22.cell (p:=⟨w.heap.size,2,none⟩) dM).trans qa02_21
 have qa03_22:w22.cell? ⟨w.heap.size,3,none⟩=some (.slice ap0_3 an0_3 aq0_3):=(b22.cell (p:=⟨w.heap.size,3,none⟩) dM).trans qa03_21
 have zba0_22:w.heap.size<w22.heap.size:=dM
 clear qa00_21 qa01_21 qa02_21 qa03_21
 have qx00_22:w22.cell? ⟨w5.heap.size,0,none⟩=some (.slice x0dp0 x0dn0 x0dq0):=(b22.cell (p:=⟨w5.heap.size,0,none⟩) dM).trans qx00_21
 have qx01_22:w22.cell? ⟨w5.heap.size,1,none⟩=some (.slice x0dp1 x0dn1 x0dq1):=(b22.cell (p:=⟨w5.heap.size,1,none⟩) dM).trans qx01_21
 have qx02_22:w22.cell? ⟨w5.heap.size,2,none⟩=some (.slice x0dp2 x0dn2 x0dq2):=(b22.cell (p:=⟨w5.heap.size,2,none⟩) dM).trans qx02_21
 have qx03_22:w22.cell? ⟨w5.heap.size,3,none⟩=some (.slice x0dp3 x0dn3 x0dq3):=(b22.cell (p:=⟨w5.heap.size,3,none⟩) dM).trans qx03_21
 have zbx0_22:w5.heap.size<w22.heap.size:=dM
 clear qx00_21 qx01_21 qx02_21 qx03_21
 have Fw0r0_22:=Lib.hid (Fw0r0_21.out.below b22 dM)
 clear Fw0r0_21
 have Fg0r0_22:=Lib.hid (Fg0r0_21.out.below b22 dM)
 clear Fg0r0_21
 have Fh0r0_22:=Lib.hid (Fh0r0_21.out.below b22 dM)
 clear Fh0r0_21
 go_wp2
 go_ret
 exact⟨rfl,B22⟩
end Go.Proofs.YtfmfeplebgbpmaaGreat
