/- EOver: lemmas. No conditions. -/
import Derived.Test.YtiihghfoeinbbaaGreatBOver
import Derived.Test.YtiihghfoeinbbaaGreatTConfig
import Derived.Test.YtiihghfoeinbbaaGreatTPair
import Derived.Test.YtiihghfoeinbbaaGreatTMoment
import Derived.Test.YtiihghfoeinbbaaGreatUConfig
import Derived.Test.YtiihghfoeinbbaaGreatUPair
import Derived.Test.YtiihghfoeinbbaaGreatUMoment
import Derived.Deep.RegionHeld3
namespace Go.Proofs.YtiihghfoeinbbaaGreat
open Go.ChangeShapes Go.WideShapes Go.ChangeAt Go.RowKit
set_option linter.unusedVariables false
set_option linter.unusedSimpArgs false
set_option maxRecDepth 100000 in
set_option maxHeartbeats 4000000 in
theorem fnExactOver_walk (w:World) (cs0:Array Value) (d0:Ty.D aC) (h0:rd aC w cs0.toList d0) (p1:Option Addr) (len1 cap1:Nat) (l1:List (Ty.D aI)) (h1:eN (Ty.n aI) (rd aI w) w p1 len1 cap1 l1) (p2:Option Addr) (len2 cap2:Nat) (l2:List (Ty.D fP)) (h2:eN (Ty.n fP) (rd fP w) w p2 len2 cap2 l2) :
  Calls Tryz.prog 5 #[.agg cs0,.slice p1 len1 cap1,.slice p2 len2 cap2] w fun e w'=>e = .returned (.bool true)∧Below w.heap.size w w':=by
 obtain ⟨ap0_0,an0_0,aq0_0,ap0_1,an0_1,aq0_1,ax0_2,ap0_3,an0_3,aq0_3,ap0_4,an0_4,aq0_4,ap0_5,an0_5,aq0_5,rfl⟩:∃ ap0_0 an0_0 aq0_0 ap0_1 an0_1 aq0_1 ax0_2 ap0_3 an0_3 aq0_3 ap0_4 an0_4 aq0_4 ap0_5 an0_5 aq0_5,cs0 = #[.slice ap0_0 an0_0 aq0_0,.slice ap0_1 an0_1 aq0_1,.int .i64 ax0_2,.slice ap0_3 an0_3 aq0_3,.slice ap0_4 an0_4 aq0_4,.slice ap0_5 an0_5 aq0_5]:=by
  obtain ⟨_,_,khcs,⟨kp0,kn0,kq0,rfl,ks0⟩,⟨_,_,rfl,⟨kp1,kn1,kq1,rfl,ks1⟩,⟨_,_,rfl,⟨rfl,kw2⟩,⟨_,_,rfl,⟨kp3,kn3,kq3,rfl,ks3⟩,⟨_,_,rfl,⟨kp4,kn4,kq4,rfl,ks4⟩,⟨kp5,kn5,kq5,rfl,ks5⟩⟩⟩⟩⟩⟩:=h0
  exact ⟨kp0,kn0,kq0,kp1,kn1,kq1,d0.2.2.1,kp3,kn3,kq3,kp4,kn4,kq4,kp5,kn5,kq5,gL khcs⟩
 have H0:=Lib.hid h0;clear h0
 have hsl2:(bD aB l2:Nat)=len2:=by rw[h2.lens];exact eA l2
 by_cases hg2:((len2:Nat):Int)≤1048576
 rotate_left
 ·skip
  have hgn2:(1048576:Int)<(len2:Nat):=by omega
  go_enter Tryz.func5,Tryz.ntmps5
  go_wp2
  go_ret
  exact ⟨rfl,dR⟩
 have hgn2:¬ ((1048576:Int)<(len2:Nat)):=by omega
 have hll2:@List.length Int l2≤1048576:=by have h9:=h2.lens;have h8:@List.length Int l2 = @List.length (Ty.D fP) l2:=rfl;omega
 by_cases hz0:((bD aC d0:Nat):Int)≤(1048576:Int)
 rotate_left
 ·skip
  go_enter Tryz.func5,Tryz.ntmps5
  go_wp2_with fail
  refine (aSQ _ d0 _ _ (by exact tC H0.out dR) (by omega) (by omega) (by omega)).mono ?_
  rintro e w1 ⟨rfl,b1⟩
  have B1:Below w.heap.size w w1:=Below.trans dR (b1.mono aV)
  have z1:w.heap.size+1≤w1.heap.size:=by have:=b1.size;(try simp only[iM] at this ⊢) <;> omega
  have qa00_1:w1.cell? ⟨w.heap.size,0,none⟩=some (.slice ap0_0 an0_0 aq0_0):=(b1.cell (p:=⟨w.heap.size,0,none⟩) aV).trans (by simp)
  have qa01_1:w1.cell? ⟨w.heap.size,1,none⟩=some (.slice ap0_1 an0_1 aq0_1):=(b1.cell (p:=⟨w.heap.size,1,none⟩) aV).trans (by simp)
  have qa02_1:w1.cell? ⟨w.heap.size,2,none⟩=some (.int .i64 ax0_2):=(b1.cell (p:=⟨w.heap.size,2,none⟩) aV).trans (by simp)
  have qa03_1:w1.cell? ⟨w.heap.size,3,none⟩=some (.slice ap0_3 an0_3 aq0_3):=(b1.cell (p:=⟨w.heap.size,3,none⟩) aV).trans (by simp)
  have qa04_1:w1.cell? ⟨w.heap.size,4,none⟩=some (.slice ap0_4 an0_4 aq0_4):=(b1.cell (p:=⟨w.heap.size,4,none⟩) aV).trans (by simp)
  have qa05_1:w1.cell? ⟨w.heap.size,5,none⟩=some (.slice ap0_5 an0_5 aq0_5):=(b1.cell (p:=⟨w.heap.size,5,none⟩) aV).trans (by simp)
  have zba0_1:w.heap.size<w1.heap.size:=aV
  go_wp2
  go_ret
  exact ⟨rfl,B1⟩
 by_cases hz1:((bD (.slice 130 aI) l1:Nat):Int)≤(1048576:Int) - (bD aC d0:Nat)
 rotate_left
 ·skip
  go_enter Tryz.func5,Tryz.ntmps5
  go_wp2_with fail
  refine (aHG _ d0 _ _ (by exact tC H0.out dR) (by omega) (by omega) (by omega)).mono ?_
  rintro e w1 ⟨rfl,b1⟩
  have B1:Below w.heap.size w w1:=Below.trans dR (b1.mono aV)
  have z1:w.heap.size+1≤w1.heap.size:=by have:=b1.size;(try simp only[iM] at this ⊢) <;> omega
  have qa00_1:w1.cell? ⟨w.heap.size,0,none⟩=some (.slice ap0_0 an0_0 aq0_0):=(b1.cell (p:=⟨w.heap.size,0,none⟩) aV).trans (by simp)
  have qa01_1:w1.cell? ⟨w.heap.size,1,none⟩=some (.slice ap0_1 an0_1 aq0_1):=(b1.cell (p:=⟨w.heap.size,1,none⟩) aV).trans (by simp)
  have qa02_1:w1.cell? ⟨w.heap.size,2,none⟩=some (.int .i64 ax0_2):=(b1.cell (p:=⟨w.heap.size,2,none⟩) aV).trans (by simp)
  have qa03_1:w1.cell? ⟨w.heap.size,3,none⟩=some (.slice ap0_3 an0_3 aq0_3):=(b1.cell (p:=⟨w.heap.size,3,none⟩) aV).trans (by simp)
  have qa04_1:w1.cell? ⟨w.heap.size,4,none⟩=some (.slice ap0_4 an0_4 aq0_4):=(b1.cell (p:=⟨w.heap.size,4,none⟩) aV).trans (by simp)
  have qa05_1:w1.cell? ⟨w.heap.size,5,none⟩=some (.slice ap0_5 an0_5 aq0_5):=(b1.cell (p:=⟨w.heap.size,5,none⟩) aV).trans (by simp)
  have zba0_1:w.heap.size<w1.heap.size:=aV
  obtain ⟨lf0,hlf0⟩:∃ z:Int,z=(1048576:Int) - (bD aC d0:Nat):=⟨_,rfl⟩
  rw[← hlf0]
  have hnl0:¬ (lf0<0):=by omega
  have hnm0:lf0≤1048576:=by omega
  have HLF0:=Lib.hid hlf0;have hle0:=Int.le_of_eq hlf0;have hge0:=Int.le_of_eq hlf0.symm;clear hlf0
  go_wp2_with fail
  refine (aYP _ _ _ l1 _ _ (by exact h1.below B1) (by omega) (by omega) (by omega)).mono ?_
  rintro e w2 ⟨rfl,b2⟩
  have B2:Below w.heap.size w w2:=Below.trans B1 (b2.mono aV)
  have z2:w1.heap.size+0≤w2.heap.size:=by have:=b2.size;(try simp only[iM] at this ⊢) <;> omega
  have qa00_2:w2.cell? ⟨w.heap.size,0,none⟩=some (.slice ap0_0 an0_0 aq0_0):=(b2.cell (p:=⟨w.heap.size,0,none⟩) aV).trans qa00_1
  have qa01_2:w2.cell? ⟨w.heap.size,1,none⟩=some (.slice ap0_1 an0_1 aq0_1):=(b2.cell (p:=⟨w.heap.size,1,none⟩) aV).trans qa01_1
  have qa02_2:w2.cell? ⟨w.heap.size,2,none⟩=some (.int .i64 ax0_2):=(b2.cell (p:=⟨w.heap.size,2,none⟩) aV).trans qa02_1
  have qa03_2:w2.cell? ⟨w.heap.size,3,none⟩=some (.slice ap0_3 an0_3 aq0_3):=(b2.cell (p:=⟨w.heap.size,3,none⟩) aV).trans qa03_1
  have qa04_2:w2.cell? ⟨w.heap.size,4,none⟩=some (.slice ap0_4 an0_4 aq0_4):=(b2.cell (p:=⟨w.heap.size,4,none⟩) aV).trans qa04_1
  have qa05_2:w2.cell? ⟨w.heap.size,5,none⟩=some (.slice ap0_5 an0_5 aq0_5):=(b2.cell (p:=⟨w.heap.size,5,none⟩) aV).trans qa05_1
  have zba0_2:w.heap.size<w2.heap.size:=aV
  clear qa00_1 qa01_1 qa02_1 qa03_1 qa04_1 qa05_1
  go_wp2
  go_ret
  exact ⟨rfl,B2⟩
 obtain ⟨R0,hS,hI,hcr⟩:=bC2 d0 l1 l2 (by omega) (by omega) (by omega)
 have HS:=Lib.hid hS;have HI:=Lib.hid hI;clear hS hI
 have hcb0:=bJ9 aC d0 (by decide)
 have hcb1:=bH1 _ _ l1 (show Ty.per (.slice 130 aI)≤20 by decide)
 have hcb2:=bH1 _ _ l2 (show Ty.per aB≤20 by decide)
 go_enter Tryz.func5,Tryz.ntmps5
 go_wp2_with fail
 refine (aHG _ d0 _ _ (by exact tC H0.out dR) (by omega) (by omega) (by omega)).mono ?_
 rintro e w1 ⟨rfl,b1⟩
 have B1:Below w.heap.size w w1:=Below.trans dR (b1.mono aV)
 have z1:w.heap.size+1≤w1.heap.size:=by have:=b1.size;(try simp only[iM] at this ⊢) <;> omega
 have qa00_1:w1.cell? ⟨w.heap.size,0,none⟩=some (.slice ap0_0 an0_0 aq0_0):=(b1.cell (p:=⟨w.heap.size,0,none⟩) aV).trans (by simp)
 have qa01_1:w1.cell? ⟨w.heap.size,1,none⟩=some (.slice ap0_1 an0_1 aq0_1):=(b1.cell (p:=⟨w.heap.size,1,none⟩) aV).trans (by simp)
 have qa02_1:w1.cell? ⟨w.heap.size,2,none⟩=some (.int .i64 ax0_2):=(b1.cell (p:=⟨w.heap.size,2,none⟩) aV).trans (by simp)
 have qa03_1:w1.cell? ⟨w.heap.size,3,none⟩=some (.slice ap0_3 an0_3 aq0_3):=(b1.cell (p:=⟨w.heap.size,3,none⟩) aV).trans (by simp)
 have qa04_1:w1.cell? ⟨w.heap.size,4,none⟩=some (.slice ap0_4 an0_4 aq0_4):=(b1.cell (p:=⟨w.heap.size,4,none⟩) aV).trans (by simp)
 have qa05_1:w1.cell? ⟨w.heap.size,5,none⟩=some (.slice ap0_5 an0_5 aq0_5):=(b1.cell (p:=⟨w.heap.size,5,none⟩) aV).trans (by simp)
 have zba0_1:w.heap.size<w1.heap.size:=aV
 obtain ⟨lf0,hlf0⟩:∃ z:Int,z=(1048576:Int) - (bD aC d0:Nat):=⟨_,rfl⟩
 rw[← hlf0]
 have hnl0:¬ (lf0<0):=by omega
 have hnm0:lf0≤1048576:=by omega
 have HLF0:=Lib.hid hlf0;have hle0:=Int.le_of_eq hlf0;have hge0:=Int.le_of_eq hlf0.symm;clear hlf0
 go_wp2_with fail
 refine (aXN _ _ _ l1 _ _ (by exact h1.below B1) (by omega) (by omega) (by omega)).mono ?_
 rintro e w2 ⟨rfl,b2⟩
 have B2:Below w.heap.size w w2:=Below.trans B1 (b2.mono aV)
 have z2:w1.heap.size+0≤w2.heap.size:=by have:=b2.size;(try simp only[iM] at this ⊢) <;> omega
 have qa00_2:w2.cell? ⟨w.heap.size,0,none⟩=some (.slice ap0_0 an0_0 aq0_0):=(b2.cell (p:=⟨w.heap.size,0,none⟩) aV).trans qa00_1
 have qa01_2:w2.cell? ⟨w.heap.size,1,none⟩=some (.slice ap0_1 an0_1 aq0_1):=(b2.cell (p:=⟨w.heap.size,1,none⟩) aV).trans qa01_1
 have qa02_2:w2.cell? ⟨w.heap.size,2,none⟩=some (.int .i64 ax0_2):=(b2.cell (p:=⟨w.heap.size,2,none⟩) aV).trans qa02_1
 have qa03_2:w2.cell? ⟨w.heap.size,3,none⟩=some (.slice ap0_3 an0_3 aq0_3):=(b2.cell (p:=⟨w.heap.size,3,none⟩) aV).trans qa03_1
 have qa04_2:w2.cell? ⟨w.heap.size,4,none⟩=some (.slice ap0_4 an0_4 aq0_4):=(b2.cell (p:=⟨w.heap.size,4,none⟩) aV).trans qa04_1
 have qa05_2:w2.cell? ⟨w.heap.size,5,none⟩=some (.slice ap0_5 an0_5 aq0_5):=(b2.cell (p:=⟨w.heap.size,5,none⟩) aV).trans qa05_1
 have zba0_2:w.heap.size<w2.heap.size:=aV
 clear qa00_1 qa01_1 qa02_1 qa03_1 qa04_1 qa05_1
 obtain ⟨lf1,hlf1⟩:∃ z:Int,z=lf0 - (bD (.slice 130 aI) l1:Nat):=⟨_,rfl⟩
 rw[← hlf1]
 have hnl1:¬ (lf1<0):=by omega
 have hnm1:lf1≤1048576:=by omega
 have HLF1:=Lib.hid hlf1;have hle1:=Int.le_of_eq hlf1;have hge1:=Int.le_of_eq hlf1.symm;clear hlf1
 go_wp2_with fail
 refine (qR _ d0 _ (by exact tC H0.out B2) (by omega)).mono ?_
 rintro e w3 ⟨tcs0,rfl,tf0,b3⟩
 have B3:Below w.heap.size w w3:=Below.trans B2 (b3.mono aV)
 have z3:w2.heap.size+0≤w3.heap.size:=by have:=b3.size;(try simp only[iM] at this ⊢) <;> omega
 have qa00_3:w3.cell? ⟨w.heap.size,0,none⟩=some (.slice ap0_0 an0_0 aq0_0):=(b3.cell (p:=⟨w.heap.size,0,none⟩) aV).trans qa00_2
 have qa01_3:w3.cell? ⟨w.heap.size,1,none⟩=some (.slice ap0_1 an0_1 aq0_1):=(b3.cell (p:=⟨w.heap.size,1,none⟩) aV).trans qa01_2
 have qa02_3:w3.cell? ⟨w.heap.size,2,none⟩=some (.int .i64 ax0_2):=(b3.cell (p:=⟨w.heap.size,2,none⟩) aV).trans qa02_2
 have qa03_3:w3.cell? ⟨w.heap.size,3,none⟩=some (.slice ap0_3 an0_3 aq0_3):=(b3.cell (p:=⟨w.heap.size,3,none⟩) aV).trans qa03_2
 have qa04_3:w3.cell? ⟨w.heap.size,4,none⟩=some (.slice ap0_4 an0_4 aq0_4):=(b3.cell (p:=⟨w.heap.size,4,none⟩) aV).trans qa04_2
 have qa05_3:w3.cell? ⟨w.heap.size,5,none⟩=some (.slice ap0_5 an0_5 aq0_5):=(b3.cell (p:=⟨w.heap.size,5,none⟩) aV).trans qa05_2
 have zba0_3:w.heap.size<w3.heap.size:=aV
 clear qa00_2 qa01_2 qa02_2 qa03_2 qa04_2 qa05_2
 have Ft0_3:=Lib.hid tf0;clear tf0
 go_wp2_with fail
 refine (tX _ _ _ l1 _ (by exact h1.below B3) (by omega)).mono ?_
 rintro e w4 ⟨tp1,tc1,rfl,tf1,b4⟩
 have B4:Below w.heap.size w w4:=Below.trans B3 (b4.mono aV)
 have z4:w3.heap.size+0≤w4.heap.size:=by have:=b4.size;(try simp only[iM] at this ⊢) <;> omega
 have qa00_4:w4.cell? ⟨w.heap.size,0,none⟩=some (.slice ap0_0 an0_0 aq0_0):=(b4.cell (p:=⟨w.heap.size,0,none⟩) aV).trans qa00_3
 have qa01_4:w4.cell? ⟨w.heap.size,1,none⟩=some (.slice ap0_1 an0_1 aq0_1):=(b4.cell (p:=⟨w.heap.size,1,none⟩) aV).trans qa01_3
 have qa02_4:w4.cell? ⟨w.heap.size,2,none⟩=some (.int .i64 ax0_2):=(b4.cell (p:=⟨w.heap.size,2,none⟩) aV).trans qa02_3
 have qa03_4:w4.cell? ⟨w.heap.size,3,none⟩=some (.slice ap0_3 an0_3 aq0_3):=(b4.cell (p:=⟨w.heap.size,3,none⟩) aV).trans qa03_3
 have qa04_4:w4.cell? ⟨w.heap.size,4,none⟩=some (.slice ap0_4 an0_4 aq0_4):=(b4.cell (p:=⟨w.heap.size,4,none⟩) aV).trans qa04_3
 have qa05_4:w4.cell? ⟨w.heap.size,5,none⟩=some (.slice ap0_5 an0_5 aq0_5):=(b4.cell (p:=⟨w.heap.size,5,none⟩) aV).trans qa05_3
 have zba0_4:w.heap.size<w4.heap.size:=aV
 clear qa00_3 qa01_3 qa02_3 qa03_3 qa04_3 qa05_3
 have Ft0_4:=Lib.hid (Ft0_3.out.below b4 aV)
 clear Ft0_3
 have Ft1_4:=Lib.hid tf1;clear tf1
 go_wp2_with fail
 refine (iZ _ _ _ l2 _ (by exact h2.below B4) (by have:=eA l2;omega)).mono ?_
 rintro e w5 ⟨tp2,tc2,rfl,tf2,b5⟩
 have B5:Below w.heap.size w w5:=Below.trans B4 (b5.mono aV)
 have z5:w4.heap.size+0≤w5.heap.size:=by have:=b5.size;(try simp only[iM] at this ⊢) <;> omega
 have qa00_5:w5.cell? ⟨w.heap.size,0,none⟩=some (.slice ap0_0 an0_0 aq0_0):=(b5.cell (p:=⟨w.heap.size,0,none⟩) aV).trans qa00_4
 have qa01_5:w5.cell? ⟨w.heap.size,1,none⟩=some (.slice ap0_1 an0_1 aq0_1):=(b5.cell (p:=⟨w.heap.size,1,none⟩) aV).trans qa01_4
 have qa02_5:w5.cell? ⟨w.heap.size,2,none⟩=some (.int .i64 ax0_2):=(b5.cell (p:=⟨w.heap.size,2,none⟩) aV).trans qa02_4
 have qa03_5:w5.cell? ⟨w.heap.size,3,none⟩=some (.slice ap0_3 an0_3 aq0_3):=(b5.cell (p:=⟨w.heap.size,3,none⟩) aV).trans qa03_4
 have qa04_5:w5.cell? ⟨w.heap.size,4,none⟩=some (.slice ap0_4 an0_4 aq0_4):=(b5.cell (p:=⟨w.heap.size,4,none⟩) aV).trans qa04_4
 have qa05_5:w5.cell? ⟨w.heap.size,5,none⟩=some (.slice ap0_5 an0_5 aq0_5):=(b5.cell (p:=⟨w.heap.size,5,none⟩) aV).trans qa05_4
 have zba0_5:w.heap.size<w5.heap.size:=aV
 clear qa00_4 qa01_4 qa02_4 qa03_4 qa04_4 qa05_4
 have Ft0_5:=Lib.hid (Ft0_4.out.below b5 aV)
 clear Ft0_4
 have Ft1_5:=Lib.hid (Ft1_4.out.below b5 aV)
 clear Ft1_4
 have Ft2_5:=Lib.hid tf2;clear tf2
 go_wp2_with fail
 refine (HS.out _ _ _ _ _ _ (by exact (Ft0_5.out).rd) (by exact (Ft1_5.out).sl) (by exact (Ft2_5.out).sl)).mono ?_
 rintro e w6 ⟨w0rp0,w0rc0,rfl,w0rf0,b6⟩
 have B6:Below w.heap.size w w6:=Below.trans B5 (b6.mono aV)
 have z6:w5.heap.size+0≤w6.heap.size:=by have:=b6.size;(try simp only[iM] at this ⊢) <;> omega
 have qa00_6:w6.cell? ⟨w.heap.size,0,none⟩=some (.slice ap0_0 an0_0 aq0_0):=(b6.cell (p:=⟨w.heap.size,0,none⟩) aV).trans qa00_5
 have qa01_6:w6.cell? ⟨w.heap.size,1,none⟩=some (.slice ap0_1 an0_1 aq0_1):=(b6.cell (p:=⟨w.heap.size,1,none⟩) aV).trans qa01_5
 have qa02_6:w6.cell? ⟨w.heap.size,2,none⟩=some (.int .i64 ax0_2):=(b6.cell (p:=⟨w.heap.size,2,none⟩) aV).trans qa02_5
 have qa03_6:w6.cell? ⟨w.heap.size,3,none⟩=some (.slice ap0_3 an0_3 aq0_3):=(b6.cell (p:=⟨w.heap.size,3,none⟩) aV).trans qa03_5
 have qa04_6:w6.cell? ⟨w.heap.size,4,none⟩=some (.slice ap0_4 an0_4 aq0_4):=(b6.cell (p:=⟨w.heap.size,4,none⟩) aV).trans qa04_5
 have qa05_6:w6.cell? ⟨w.heap.size,5,none⟩=some (.slice ap0_5 an0_5 aq0_5):=(b6.cell (p:=⟨w.heap.size,5,none⟩) aV).trans qa05_5
 have zba0_6:w.heap.size<w6.heap.size:=aV
 clear qa00_5 qa01_5 qa02_5 qa03_5 qa04_5 qa05_5
 have Ft0_6:=Lib.hid (Ft0_5.out.below b6 aV)
 clear Ft0_5
 have Ft1_6:=Lib.hid (Ft1_5.out.below b6 aV)
 clear Ft1_5
 have Ft2_6:=Lib.hid (Ft2_5.out.below b6 aV)
 clear Ft2_5
 clear Ft0_6
 clear Ft1_6
 clear Ft2_6
 have Fw0r0_6:=Lib.hid w0rf0;clear w0rf0
 go_wp2_with fail
 refine (qR _ d0 _ (by exact tC H0.out B6) (by omega)).mono ?_
 rintro e w7 ⟨xcs0,rfl,xf0,b7⟩
 have B7:Below w.heap.size w w7:=Below.trans B6 (b7.mono aV)
 have z7:w6.heap.size+0≤w7.heap.size:=by have:=b7.size;(try simp only[iM] at this ⊢) <;> omega
 have qa00_7:w7.cell? ⟨w.heap.size,0,none⟩=some (.slice ap0_0 an0_0 aq0_0):=(b7.cell (p:=⟨w.heap.size,0,none⟩) aV).trans qa00_6
 have qa01_7:w7.cell? ⟨w.heap.size,1,none⟩=some (.slice ap0_1 an0_1 aq0_1):=(b7.cell (p:=⟨w.heap.size,1,none⟩) aV).trans qa01_6
 have qa02_7:w7.cell? ⟨w.heap.size,2,none⟩=some (.int .i64 ax0_2):=(b7.cell (p:=⟨w.heap.size,2,none⟩) aV).trans qa02_6
 have qa03_7:w7.cell? ⟨w.heap.size,3,none⟩=some (.slice ap0_3 an0_3 aq0_3):=(b7.cell (p:=⟨w.heap.size,3,none⟩) aV).trans qa03_6
 have qa04_7:w7.cell? ⟨w.heap.size,4,none⟩=some (.slice ap0_4 an0_4 aq0_4):=(b7.cell (p:=⟨w.heap.size,4,none⟩) aV).trans qa04_6
 have qa05_7:w7.cell? ⟨w.heap.size,5,none⟩=some (.slice ap0_5 an0_5 aq0_5):=(b7.cell (p:=⟨w.heap.size,5,none⟩) aV).trans qa05_6
 have zba0_7:w.heap.size<w7.heap.size:=aV
 clear qa00_6 qa01_6 qa02_6 qa03_6 qa04_6 qa05_6
 have Fw0r0_7:=Lib.hid (Fw0r0_6.out.below b7 aV)
 clear Fw0r0_6
 have rrx0d:=xf0.rd
 obtain ⟨_,_,x0dhcs,⟨x0dp0,x0dn0,x0dq0,rfl,x0ds0⟩,⟨_,_,rfl,⟨x0dp1,x0dn1,x0dq1,rfl,x0ds1⟩,⟨_,_,rfl,⟨rfl,x0dw2⟩,⟨_,_,rfl,⟨x0dp3,x0dn3,x0dq3,rfl,x0ds3⟩,⟨_,_,rfl,⟨x0dp4,x0dn4,x0dq4,rfl,x0ds4⟩,⟨x0dp5,x0dn5,x0dq5,rfl,x0ds5⟩⟩⟩⟩⟩⟩:=rrx0d
 obtain rfl:xcs0 = #[.slice x0dp0 x0dn0 x0dq0,.slice x0dp1 x0dn1 x0dq1,.int .i64 d0.2.2.1,.slice x0dp3 x0dn3 x0dq3,.slice x0dp4 x0dn4 x0dq4,.slice x0dp5 x0dn5 x0dq5]:=gL x0dhcs
 clear x0dhcs
 have Fx0_7:=Lib.hid xf0;clear xf0
 go_wp2_with fail
 refine (tX _ _ _ l1 _ (by exact h1.below dR) (by omega)).mono ?_
 rintro e w8 ⟨xp1,xc1,rfl,xf1,b8⟩
 have B8:Below w.heap.size w w8:=Below.trans dR (b8.mono aV)
 have z8:w7.heap.size+1≤w8.heap.size:=by have:=b8.size;(try simp only[iM] at this ⊢) <;> omega
 have qa00_8:w8.cell? ⟨w.heap.size,0,none⟩=some (.slice ap0_0 an0_0 aq0_0):=(b8.cell (p:=⟨w.heap.size,0,none⟩) aV).trans ((oH (a:=⟨w.heap.size,0,none⟩) aV).trans qa00_7)
 have qa01_8:w8.cell? ⟨w.heap.size,1,none⟩=some (.slice ap0_1 an0_1 aq0_1):=(b8.cell (p:=⟨w.heap.size,1,none⟩) aV).trans ((oH (a:=⟨w.heap.size,1,none⟩) aV).trans qa01_7)
 have qa02_8:w8.cell? ⟨w.heap.size,2,none⟩=some (.int .i64 ax0_2):=(b8.cell (p:=⟨w.heap.size,2,none⟩) aV).trans ((oH (a:=⟨w.heap.size,2,none⟩) aV).trans qa02_7)
 have qa03_8:w8.cell? ⟨w.heap.size,3,none⟩=some (.slice ap0_3 an0_3 aq0_3):=(b8.cell (p:=⟨w.heap.size,3,none⟩) aV).trans ((oH (a:=⟨w.heap.size,3,none⟩) aV).trans qa03_7)
 have qa04_8:w8.cell? ⟨w.heap.size,4,none⟩=some (.slice ap0_4 an0_4 aq0_4):=(b8.cell (p:=⟨w.heap.size,4,none⟩) aV).trans ((oH (a:=⟨w.heap.size,4,none⟩) aV).trans qa04_7)
 have qa05_8:w8.cell? ⟨w.heap.size,5,none⟩=some (.slice ap0_5 an0_5 aq0_5):=(b8.cell (p:=⟨w.heap.size,5,none⟩) aV).trans ((oH (a:=⟨w.heap.size,5,none⟩) aV).trans qa05_7)
 have zba0_8:w.heap.size<w8.heap.size:=aV
 clear qa00_7 qa01_7 qa02_7 qa03_7 qa04_7 qa05_7
 have qx00_8:w8.cell? ⟨w7.heap.size,0,none⟩=some (.slice x0dp0 x0dn0 x0dq0):=(b8.cell (p:=⟨w7.heap.size,0,none⟩) aV).trans (by simp)
 have qx01_8:w8.cell? ⟨w7.heap.size,1,none⟩=some (.slice x0dp1 x0dn1 x0dq1):=(b8.cell (p:=⟨w7.heap.size,1,none⟩) aV).trans (by simp)
 have qx02_8:w8.cell? ⟨w7.heap.size,2,none⟩=some (.int .i64 d0.2.2.1):=(b8.cell (p:=⟨w7.heap.size,2,none⟩) aV).trans (by simp)
 have qx03_8:w8.cell? ⟨w7.heap.size,3,none⟩=some (.slice x0dp3 x0dn3 x0dq3):=(b8.cell (p:=⟨w7.heap.size,3,none⟩) aV).trans (by simp)
 have qx04_8:w8.cell? ⟨w7.heap.size,4,none⟩=some (.slice x0dp4 x0dn4 x0dq4):=(b8.cell (p:=⟨w7.heap.size,4,none⟩) aV).trans (by simp)
 have qx05_8:w8.cell? ⟨w7.heap.size,5,none⟩=some (.slice x0dp5 x0dn5 x0dq5):=(b8.cell (p:=⟨w7.heap.size,5,none⟩) aV).trans (by simp)
 have zbx0_8:w7.heap.size<w8.heap.size:=aV
 have Fw0r0_8:=Lib.hid ((Fw0r0_7.out.alloc _).below b8 aV)
 clear Fw0r0_7
 have Fx0_8:=Lib.hid ((Fx0_7.out.alloc _).below b8 aV)
 clear Fx0_7
 have Fx1_8:=Lib.hid xf1;clear xf1
 go_wp2_with fail
 refine (iZ _ _ _ l2 _ (by exact h2.below B8) (by have:=eA l2;omega)).mono ?_
 rintro e w9 ⟨xp2,xc2,rfl,xf2,b9⟩
 have B9:Below w.heap.size w w9:=Below.trans B8 (b9.mono aV)
 have z9:w8.heap.size+0≤w9.heap.size:=by have:=b9.size;(try simp only[iM] at this ⊢) <;> omega
 have qa00_9:w9.cell? ⟨w.heap.size,0,none⟩=some (.slice ap0_0 an0_0 aq0_0):=(b9.cell (p:=⟨w.heap.size,0,none⟩) aV).trans qa00_8
 have qa01_9:w9.cell? ⟨w.heap.size,1,none⟩=some (.slice ap0_1 an0_1 aq0_1):=(b9.cell (p:=⟨w.heap.size,1,none⟩) aV).trans qa01_8
 have qa02_9:w9.cell? ⟨w.heap.size,2,none⟩=some (.int .i64 ax0_2):=(b9.cell (p:=⟨w.heap.size,2,none⟩) aV).trans qa02_8
 have qa03_9:w9.cell? ⟨w.heap.size,3,none⟩=some (.slice ap0_3 an0_3 aq0_3):=(b9.cell (p:=⟨w.heap.size,3,none⟩) aV).trans qa03_8
 have qa04_9:w9.cell? ⟨w.heap.size,4,none⟩=some (.slice ap0_4 an0_4 aq0_4):=(b9.cell (p:=⟨w.heap.size,4,none⟩) aV).trans qa04_8
 have qa05_9:w9.cell? ⟨w.heap.size,5,none⟩=some (.slice ap0_5 an0_5 aq0_5):=(b9.cell (p:=⟨w.heap.size,5,none⟩) aV).trans qa05_8
 have zba0_9:w.heap.size<w9.heap.size:=aV
 clear qa00_8 qa01_8 qa02_8 qa03_8 qa04_8 qa05_8
 have qx00_9:w9.cell? ⟨w7.heap.size,0,none⟩=some (.slice x0dp0 x0dn0 x0dq0):=(b9.cell (p:=⟨w7.heap.size,0,none⟩) aV).trans qx00_8
 have qx01_9:w9.cell? ⟨w7.heap.size,1,none⟩=some (.slice x0dp1 x0dn1 x0dq1):=(b9.cell (p:=⟨w7.heap.size,1,none⟩) aV).trans qx01_8
 have qx02_9:w9.cell? ⟨w7.heap.size,2,none⟩=some (.int .i64 d0.2.2.1):=(b9.cell (p:=⟨w7.heap.size,2,none⟩) aV).trans qx02_8
 have qx03_9:w9.cell? ⟨w7.heap.size,3,none⟩=some (.slice x0dp3 x0dn3 x0dq3):=(b9.cell (p:=⟨w7.heap.size,3,none⟩) aV).trans qx03_8
 have qx04_9:w9.cell? ⟨w7.heap.size,4,none⟩=some (.slice x0dp4 x0dn4 x0dq4):=(b9.cell (p:=⟨w7.heap.size,4,none⟩) aV).trans qx04_8
 have qx05_9:w9.cell? ⟨w7.heap.size,5,none⟩=some (.slice x0dp5 x0dn5 x0dq5):=(b9.cell (p:=⟨w7.heap.size,5,none⟩) aV).trans qx05_8
 have zbx0_9:w7.heap.size<w9.heap.size:=aV
 clear qx00_8 qx01_8 qx02_8 qx03_8 qx04_8 qx05_8
 have Fw0r0_9:=Lib.hid (Fw0r0_8.out.below b9 aV)
 clear Fw0r0_8
 have Fx0_9:=Lib.hid (Fx0_8.out.below b9 aV)
 clear Fx0_8
 have Fx1_9:=Lib.hid (Fx1_8.out.below b9 aV)
 clear Fx1_8
 have Fx2_9:=Lib.hid xf2;clear xf2
 go_wp2_with fail
 refine (HI.out _ _ _ _ _ _ (by exact (Fx0_9.out).rd) (by exact (Fx1_9.out).sl) (by exact (Fx2_9.out).sl)).mono ?_
 rintro e w10 ⟨g0rp0,g0rc0,rfl,g0rf0,b10⟩
 have B10:Below w.heap.size w w10:=Below.trans B9 (b10.mono aV)
 have z10:w9.heap.size+0≤w10.heap.size:=by have:=b10.size;(try simp only[iM] at this ⊢) <;> omega
 have qa00_10:w10.cell? ⟨w.heap.size,0,none⟩=some (.slice ap0_0 an0_0 aq0_0):=(b10.cell (p:=⟨w.heap.size,0,none⟩) aV).trans qa00_9
 have qa01_10:w10.cell? ⟨w.heap.size,1,none⟩=some (.slice ap0_1 an0_1 aq0_1):=(b10.cell (p:=⟨w.heap.size,1,none⟩) aV).trans qa01_9
 have qa02_10:w10.cell? ⟨w.heap.size,2,none⟩=some (.int .i64 ax0_2):=(b10.cell (p:=⟨w.heap.size,2,none⟩) aV).trans qa02_9
 have qa03_10:w10.cell? ⟨w.heap.size,3,none⟩=some (.slice ap0_3 an0_3 aq0_3):=(b10.cell (p:=⟨w.heap.size,3,none⟩) aV).trans qa03_9
 have qa04_10:w10.cell? ⟨w.heap.size,4,none⟩=some (.slice ap0_4 an0_4 aq0_4):=(b10.cell (p:=⟨w.heap.size,4,none⟩) aV).trans qa04_9
 have qa05_10:w10.cell? ⟨w.heap.size,5,none⟩=some (.slice ap0_5 an0_5 aq0_5):=(b10.cell (p:=⟨w.heap.size,5,none⟩) aV).trans qa05_9
 have zba0_10:w.heap.size<w10.heap.size:=aV
 clear qa00_9 qa01_9 qa02_9 qa03_9 qa04_9 qa05_9
 have qx00_10:w10.cell? ⟨w7.heap.size,0,none⟩=some (.slice x0dp0 x0dn0 x0dq0):=(b10.cell (p:=⟨w7.heap.size,0,none⟩) aV).trans qx00_9
 have qx01_10:w10.cell? ⟨w7.heap.size,1,none⟩=some (.slice x0dp1 x0dn1 x0dq1):=(b10.cell (p:=⟨w7.heap.size,1,none⟩) aV).trans qx01_9
 have qx02_10:w10.cell? ⟨w7.heap.size,2,none⟩=some (.int .i64 d0.2.2.1):=(b10.cell (p:=⟨w7.heap.size,2,none⟩) aV).trans qx02_9
 have qx03_10:w10.cell? ⟨w7.heap.size,3,none⟩=some (.slice x0dp3 x0dn3 x0dq3):=(b10.cell (p:=⟨w7.heap.size,3,none⟩) aV).trans qx03_9
 have qx04_10:w10.cell? ⟨w7.heap.size,4,none⟩=some (.slice x0dp4 x0dn4 x0dq4):=(b10.cell (p:=⟨w7.heap.size,4,none⟩) aV).trans qx04_9
 have qx05_10:w10.cell? ⟨w7.heap.size,5,none⟩=some (.slice x0dp5 x0dn5 x0dq5):=(b10.cell (p:=⟨w7.heap.size,5,none⟩) aV).trans qx05_9
 have zbx0_10:w7.heap.size<w10.heap.size:=aV
 clear qx00_9 qx01_9 qx02_9 qx03_9 qx04_9 qx05_9
 have Fw0r0_10:=Lib.hid (Fw0r0_9.out.below b10 aV)
 clear Fw0r0_9
 have Fx0_10:=Lib.hid (Fx0_9.out.below b10 aV)
 clear Fx0_9
 have Fx1_10:=Lib.hid (Fx1_9.out.below b10 aV)
 clear Fx1_9
 have Fx2_10:=Lib.hid (Fx2_9.out.below b10 aV)
 clear Fx2_9
 have Fg0r0_10:=Lib.hid g0rf0;clear g0rf0
 go_wp2_with fail
 refine (vH _ _ _ _ _ _ R0 _ (by exact (Fg0r0_10.out).sl) (by exact (Fw0r0_10.out).sl)).mono ?_
 rintro e w11 ⟨rfl,b11⟩
 have B11:Below w.heap.size w w11:=Below.trans B10 (b11.mono aV)
 have z11:w10.heap.size+0≤w11.heap.size:=by have:=b11.size;(try simp only[iM] at this ⊢) <;> omega
 have qa00_11:w11.cell? ⟨w.heap.size,0,none⟩=some (.slice ap0_0 an0_0 aq0_0):=(b11.cell (p:=⟨w.heap.size,0,none⟩) aV).trans qa00_10
 have qa01_11:w11.cell? ⟨w.heap.size,1,none⟩=some (.slice ap0_1 an0_1 aq0_1):=(b11.cell (p:=⟨w.heap.size,1,none⟩) aV).trans qa01_10
 have qa02_11:w11.cell? ⟨w.heap.size,2,none⟩=some (.int .i64 ax0_2):=(b11.cell (p:=⟨w.heap.size,2,none⟩) aV).trans qa02_10
 have qa03_11:w11.cell? ⟨w.heap.size,3,none⟩=some (.slice ap0_3 an0_3 aq0_3):=(b11.cell (p:=⟨w.heap.size,3,none⟩) aV).trans qa03_10
 have qa04_11:w11.cell? ⟨w.heap.size,4,none⟩=some (.slice ap0_4 an0_4 aq0_4):=(b11.cell (p:=⟨w.heap.size,4,none⟩) aV).trans qa04_10
 have qa05_11:w11.cell? ⟨w.heap.size,5,none⟩=some (.slice ap0_5 an0_5 aq0_5):=(b11.cell (p:=⟨w.heap.size,5,none⟩) aV).trans qa05_10
 have zba0_11:w.heap.size<w11.heap.size:=aV
 clear qa00_10 qa01_10 qa02_10 qa03_10 qa04_10 qa05_10
 have qx00_11:w11.cell? ⟨w7.heap.size,0,none⟩=some (.slice x0dp0 x0dn0 x0dq0):=(b11.cell (p:=⟨w7.heap.size,0,none⟩) aV).trans qx00_10
 have qx01_11:w11.cell? ⟨w7.heap.size,1,none⟩=some (.slice x0dp1 x0dn1 x0dq1):=(b11.cell (p:=⟨w7.heap.size,1,none⟩) aV).trans qx01_10
 have qx02_11:w11.cell? ⟨w7.heap.size,2,none⟩=some (.int .i64 d0.2.2.1):=(b11.cell (p:=⟨w7.heap.size,2,none⟩) aV).trans qx02_10
 have qx03_11:w11.cell? ⟨w7.heap.size,3,none⟩=some (.slice x0dp3 x0dn3 x0dq3):=(b11.cell (p:=⟨w7.heap.size,3,none⟩) aV).trans qx03_10
 have qx04_11:w11.cell? ⟨w7.heap.size,4,none⟩=some (.slice x0dp4 x0dn4 x0dq4):=(b11.cell (p:=⟨w7.heap.size,4,none⟩) aV).trans qx04_10
 have qx05_11:w11.cell? ⟨w7.heap.size,5,none⟩=some (.slice x0dp5 x0dn5 x0dq5):=(b11.cell (p:=⟨w7.heap.size,5,none⟩) aV).trans qx05_10
 have zbx0_11:w7.heap.size<w11.heap.size:=aV
 clear qx00_10 qx01_10 qx02_10 qx03_10 qx04_10 qx05_10
 have Fw0r0_11:=Lib.hid (Fw0r0_10.out.below b11 aV)
 clear Fw0r0_10
 have Fx0_11:=Lib.hid (Fx0_10.out.below b11 aV)
 clear Fx0_10
 have Fx1_11:=Lib.hid (Fx1_10.out.below b11 aV)
 clear Fx1_10
 have Fx2_11:=Lib.hid (Fx2_10.out.below b11 aV)
 clear Fx2_10
 have Fg0r0_11:=Lib.hid (Fg0r0_10.out.below b11 aV)
 clear Fg0r0_10
 go_wp2_with fail
 go_region_held3 (fun w'=>w'.cell? ⟨w.heap.size,0,none⟩=some (.slice ap0_0 an0_0 aq0_0)∧w'.cell? ⟨w.heap.size,1,none⟩=some (.slice ap0_1 an0_1 aq0_1)∧w'.cell? ⟨w.heap.size,2,none⟩=some (.int .i64 ax0_2)∧w'.cell? ⟨w.heap.size,3,none⟩=some (.slice ap0_3 an0_3 aq0_3)∧w'.cell? ⟨w.heap.size,4,none⟩=some (.slice ap0_4 an0_4 aq0_4)∧w'.cell? ⟨w.heap.size,5,none⟩=some (.slice ap0_5 an0_5 aq0_5)∧w'.cell? ⟨w7.heap.size,0,none⟩=some (.slice x0dp0 x0dn0 x0dq0)∧w'.cell? ⟨w7.heap.size,1,none⟩=some (.slice x0dp1 x0dn1 x0dq1)∧w'.cell? ⟨w7.heap.size,2,none⟩=some (.int .i64 d0.2.2.1)∧w'.cell? ⟨w7.heap.size,3,none⟩=some (.slice x0dp3 x0dn3 x0dq3)∧w'.cell? ⟨w7.heap.size,4,none⟩=some (.slice x0dp4 x0dn4 x0dq4)∧w'.cell? ⟨w7.heap.size,5,none⟩=some (.slice x0dp5 x0dn5 x0dq5)) (first|go_keep|((try dsimp only);(repeat' apply And.intro) <;> (first|go_keep|(refine ((Below.cell b13 ?_).trans ((Below.cell b12 ?_).trans ?_)) <;> first|assumption|omega|(simp;omega)|(simp;assumption))|(refine ((Below.cell b12 ?_).trans ?_) <;> first|assumption|omega|(simp;omega)|(simp;assumption))))) ((first|(go_at_call 34;refine (qR _ d0 _ (by exact tC H0.out dR) (by omega)).mono ?_;rintro e w12 ⟨ycs0,rfl,yf0,b12⟩;have B12:Below w.heap.size w w12:=Below.trans dR (b12.mono aV);have z12:w11.heap.size≤w12.heap.size:=by have:=b12.size;(try simp only[iM] at this ⊢) <;> omega)|(go_at_call 39;refine (aOQ _ _ d0 _ (by exact ((Fx0_11.out.keep (w':=w11.drew) (fun _ _ _=>rfl) (Nat.le_refl _)).below b12 aV).rd) (by exact yf0.rd)).mono ?_;rintro e w13 ⟨rfl,b13⟩;have B13:Below w.heap.size w w13:=B12.trans (b13.mono aV);have z13:=b13.size)))
 have hS:=‹_∧_›
 obtain ⟨qa00_13,qa01_13,qa02_13,qa03_13,qa04_13,qa05_13,qx00_13,qx01_13,qx02_13,qx03_13,qx04_13,qx05_13⟩:=hS
 have zba0_13:w.heap.size<w13.heap.size:=aV
 have zbx0_13:w7.heap.size<w13.heap.size:=aV
 have Fw0r0_13:=Lib.hid (((Fw0r0_11.out.keep (w':=w11.drew) (fun _ _ _=>rfl) (Nat.le_refl _)).below b12 aV).below b13 aV)
 clear Fw0r0_11
 have Fx0_13:=Lib.hid (((Fx0_11.out.keep (w':=w11.drew) (fun _ _ _=>rfl) (Nat.le_refl _)).below b12 aV).below b13 aV)
 clear Fx0_11
 have Fx1_13:=Lib.hid (((Fx1_11.out.keep (w':=w11.drew) (fun _ _ _=>rfl) (Nat.le_refl _)).below b12 aV).below b13 aV)
 clear Fx1_11
 have Fx2_13:=Lib.hid (((Fx2_11.out.keep (w':=w11.drew) (fun _ _ _=>rfl) (Nat.le_refl _)).below b12 aV).below b13 aV)
 clear Fx2_11
 have Fg0r0_13:=Lib.hid (((Fg0r0_11.out.keep (w':=w11.drew) (fun _ _ _=>rfl) (Nat.le_refl _)).below b12 aV).below b13 aV)
 clear Fg0r0_11
 go_wp2_with fail
 refine (tX _ _ _ l1 _ (by exact h1.below B13) (by omega)).mono ?_
 rintro e w14 ⟨yp1,yc1,rfl,yf1,b14⟩
 have B14:Below w.heap.size w w14:=Below.trans B13 (b14.mono aV)
 have z14:w13.heap.size+0≤w14.heap.size:=by have:=b14.size;(try simp only[iM] at this ⊢) <;> omega
 have qa00_14:w14.cell? ⟨w.heap.size,0,none⟩=some (.slice ap0_0 an0_0 aq0_0):=(b14.cell (p:=⟨w.heap.size,0,none⟩) aV).trans qa00_13
 have qa01_14:w14.cell? ⟨w.heap.size,1,none⟩=some (.slice ap0_1 an0_1 aq0_1):=(b14.cell (p:=⟨w.heap.size,1,none⟩) aV).trans qa01_13
 have qa02_14:w14.cell? ⟨w.heap.size,2,none⟩=some (.int .i64 ax0_2):=(b14.cell (p:=⟨w.heap.size,2,none⟩) aV).trans qa02_13
 have qa03_14:w14.cell? ⟨w.heap.size,3,none⟩=some (.slice ap0_3 an0_3 aq0_3):=(b14.cell (p:=⟨w.heap.size,3,none⟩) aV).trans qa03_13
 have qa04_14:w14.cell? ⟨w.heap.size,4,none⟩=some (.slice ap0_4 an0_4 aq0_4):=(b14.cell (p:=⟨w.heap.size,4,none⟩) aV).trans qa04_13
 have qa05_14:w14.cell? ⟨w.heap.size,5,none⟩=some (.slice ap0_5 an0_5 aq0_5):=(b14.cell (p:=⟨w.heap.size,5,none⟩) aV).trans qa05_13
 have zba0_14:w.heap.size<w14.heap.size:=aV
 clear qa00_13 qa01_13 qa02_13 qa03_13 qa04_13 qa05_13
 have qx00_14:w14.cell? ⟨w7.heap.size,0,none⟩=some (.slice x0dp0 x0dn0 x0dq0):=(b14.cell (p:=⟨w7.heap.size,0,none⟩) aV).trans qx00_13
 have qx01_14:w14.cell? ⟨w7.heap.size,1,none⟩=some (.slice x0dp1 x0dn1 x0dq1):=(b14.cell (p:=⟨w7.heap.size,1,none⟩) aV).trans qx01_13
 have qx02_14:w14.cell? ⟨w7.heap.size,2,none⟩=some (.int .i64 d0.2.2.1):=(b14.cell (p:=⟨w7.heap.size,2,none⟩) aV).trans qx02_13
 have qx03_14:w14.cell? ⟨w7.heap.size,3,none⟩=some (.slice x0dp3 x0dn3 x0dq3):=(b14.cell (p:=⟨w7.heap.size,3,none⟩) aV).trans qx03_13
 have qx04_14:w14.cell? ⟨w7.heap.size,4,none⟩=some (.slice x0dp4 x0dn4 x0dq4):=(b14.cell (p:=⟨w7.heap.size,4,none⟩) aV).trans qx04_13
 have qx05_14:w14.cell? ⟨w7.heap.size,5,none⟩=some (.slice x0dp5 x0dn5 x0dq5):=(b14.cell (p:=⟨w7.heap.size,5,none⟩) aV).trans qx05_13
 have zbx0_14:w7.heap.size<w14.heap.size:=aV
 clear qx00_13 qx01_13 qx02_13 qx03_13 qx04_13 qx05_13
 have Fw0r0_14:=Lib.hid (Fw0r0_13.out.below b14 aV)
 clear Fw0r0_13
 have Fx0_14:=Lib.hid (Fx0_13.out.below b14 aV)
 clear Fx0_13
 have Fx1_14:=Lib.hid (Fx1_13.out.below b14 aV)
 clear Fx1_13
 have Fx2_14:=Lib.hid (Fx2_13.out.below b14 aV)
 clear Fx2_13
 have Fg0r0_14:=Lib.hid (Fg0r0_13.out.below b14 aV)
 clear Fg0r0_13
 have Fy1_14:=Lib.hid yf1;clear yf1
 go_wp2_with fail
 refine (aT4 _ _ _ _ _ _ l1 _ (by exact (Fx1_14.out).sl) (by exact (Fy1_14.out).sl)).mono ?_
 rintro e w15 ⟨rfl,b15⟩
 have B15:Below w.heap.size w w15:=Below.trans B14 (b15.mono aV)
 have z15:w14.heap.size+0≤w15.heap.size:=by have:=b15.size;(try simp only[iM] at this ⊢) <;> omega
 have qa00_15:w15.cell? ⟨w.heap.size,0,none⟩=some (.slice ap0_0 an0_0 aq0_0):=(b15.cell (p:=⟨w.heap.size,0,none⟩) aV).trans qa00_14
 have qa01_15:w15.cell? ⟨w.heap.size,1,none⟩=some (.slice ap0_1 an0_1 aq0_1):=(b15.cell (p:=⟨w.heap.size,1,none⟩) aV).trans qa01_14
 have qa02_15:w15.cell? ⟨w.heap.size,2,none⟩=some (.int .i64 ax0_2):=(b15.cell (p:=⟨w.heap.size,2,none⟩) aV).trans qa02_14
 have qa03_15:w15.cell? ⟨w.heap.size,3,none⟩=some (.slice ap0_3 an0_3 aq0_3):=(b15.cell (p:=⟨w.heap.size,3,none⟩) aV).trans qa03_14
 have qa04_15:w15.cell? ⟨w.heap.size,4,none⟩=some (.slice ap0_4 an0_4 aq0_4):=(b15.cell (p:=⟨w.heap.size,4,none⟩) aV).trans qa04_14
 have qa05_15:w15.cell? ⟨w.heap.size,5,none⟩=some (.slice ap0_5 an0_5 aq0_5):=(b15.cell (p:=⟨w.heap.size,5,none⟩) aV).trans qa05_14
 have zba0_15:w.heap.size<w15.heap.size:=aV
 clear qa00_14 qa01_14 qa02_14 qa03_14 qa04_14 qa05_14
 have qx00_15:w15.cell? ⟨w7.heap.size,0,none⟩=some (.slice x0dp0 x0dn0 x0dq0):=(b15.cell (p:=⟨w7.heap.size,0,none⟩) aV).trans qx00_14
 have qx01_15:w15.cell? ⟨w7.heap.size,1,none⟩=some (.slice x0dp1 x0dn1 x0dq1):=(b15.cell (p:=⟨w7.heap.size,1,none⟩) aV).trans qx01_14
 have qx02_15:w15.cell? ⟨w7.heap.size,2,none⟩=some (.int .i64 d0.2.2.1):=(b15.cell (p:=⟨w7.heap.size,2,none⟩) aV).trans qx02_14
 have qx03_15:w15.cell? ⟨w7.heap.size,3,none⟩=some (.slice x0dp3 x0dn3 x0dq3):=(b15.cell (p:=⟨w7.heap.size,3,none⟩) aV).trans qx03_14
 have qx04_15:w15.cell? ⟨w7.heap.size,4,none⟩=some (.slice x0dp4 x0dn4 x0dq4):=(b15.cell (p:=⟨w7.heap.size,4,none⟩) aV).trans qx04_14
 have qx05_15:w15.cell? ⟨w7.heap.size,5,none⟩=some (.slice x0dp5 x0dn5 x0dq5):=(b15.cell (p:=⟨w7.heap.size,5,none⟩) aV).trans qx05_14
 have zbx0_15:w7.heap.size<w15.heap.size:=aV
 clear qx00_14 qx01_14 qx02_14 qx03_14 qx04_14 qx05_14
 have Fw0r0_15:=Lib.hid (Fw0r0_14.out.below b15 aV)
 clear Fw0r0_14
 have Fx0_15:=Lib.hid (Fx0_14.out.below b15 aV)
 clear Fx0_14
 have Fx1_15:=Lib.hid (Fx1_14.out.below b15 aV)
 clear Fx1_14
 have Fx2_15:=Lib.hid (Fx2_14.out.below b15 aV)
 clear Fx2_14
 have Fg0r0_15:=Lib.hid (Fg0r0_14.out.below b15 aV)
 clear Fg0r0_14
 have Fy1_15:=Lib.hid (Fy1_14.out.below b15 aV)
 clear Fy1_14
 clear Fy1_15
 go_wp2_with fail
 refine (iZ _ _ _ l2 _ (by exact h2.below B15) (by have:=eA l2;omega)).mono ?_
 rintro e w16 ⟨yp2,yc2,rfl,yf2,b16⟩
 have B16:Below w.heap.size w w16:=Below.trans B15 (b16.mono aV)
 have z16:w15.heap.size+0≤w16.heap.size:=by have:=b16.size;(try simp only[iM] at this ⊢) <;> omega
 have qa00_16:w16.cell? ⟨w.heap.size,0,none⟩=some (.slice ap0_0 an0_0 aq0_0):=(b16.cell (p:=⟨w.heap.size,0,none⟩) aV).trans qa00_15
 have qa01_16:w16.cell? ⟨w.heap.size,1,none⟩=some (.slice ap0_1 an0_1 aq0_1):=(b16.cell (p:=⟨w.heap.size,1,none⟩) aV).trans qa01_15
 have qa02_16:w16.cell? ⟨w.heap.size,2,none⟩=some (.int .i64 ax0_2):=(b16.cell (p:=⟨w.heap.size,2,none⟩) aV).trans qa02_15
 have qa03_16:w16.cell? ⟨w.heap.size,3,none⟩=some (.slice ap0_3 an0_3 aq0_3):=(b16.cell (p:=⟨w.heap.size,3,none⟩) aV).trans qa03_15
 have qa04_16:w16.cell? ⟨w.heap.size,4,none⟩=some (.slice ap0_4 an0_4 aq0_4):=(b16.cell (p:=⟨w.heap.size,4,none⟩) aV).trans qa04_15
 have qa05_16:w16.cell? ⟨w.heap.size,5,none⟩=some (.slice ap0_5 an0_5 aq0_5):=(b16.cell (p:=⟨w.heap.size,5,none⟩) aV).trans qa05_15
 have zba0_16:w.heap.size<w16.heap.size:=aV
 clear qa00_15 qa01_15 qa02_15 qa03_15 qa04_15 qa05_15
 have qx00_16:w16.cell? ⟨w7.heap.size,0,none⟩=some (.slice x0dp0 x0dn0 x0dq0):=(b16.cell (p:=⟨w7.heap.size,0,none⟩) aV).trans qx00_15
 have qx01_16:w16.cell? ⟨w7.heap.size,1,none⟩=some (.slice x0dp1 x0dn1 x0dq1):=(b16.cell (p:=⟨w7.heap.size,1,none⟩) aV).trans qx01_15
 have qx02_16:w16.cell? ⟨w7.heap.size,2,none⟩=some (.int .i64 d0.2.2.1):=(b16.cell (p:=⟨w7.heap.size,2,none⟩) aV).trans qx02_15
 have qx03_16:w16.cell? ⟨w7.heap.size,3,none⟩=some (.slice x0dp3 x0dn3 x0dq3):=(b16.cell (p:=⟨w7.heap.size,3,none⟩) aV).trans qx03_15
 have qx04_16:w16.cell? ⟨w7.heap.size,4,none⟩=some (.slice x0dp4 x0dn4 x0dq4):=(b16.cell (p:=⟨w7.heap.size,4,none⟩) aV).trans qx04_15
 have qx05_16:w16.cell? ⟨w7.heap.size,5,none⟩=some (.slice x0dp5 x0dn5 x0dq5):=(b16.cell (p:=⟨w7.heap.size,5,none⟩) aV).trans qx05_15
 have zbx0_16:w7.heap.size<w16.heap.size:=aV
 clear qx00_15 qx01_15 qx02_15 qx03_15 qx04_15 qx05_15
 have Fw0r0_16:=Lib.hid (Fw0r0_15.out.below b16 aV)
 clear Fw0r0_15
 have Fx0_16:=Lib.hid (Fx0_15.out.below b16 aV)
 clear Fx0_15
 have Fx1_16:=Lib.hid (Fx1_15.out.below b16 aV)
 clear Fx1_15
 have Fx2_16:=Lib.hid (Fx2_15.out.below b16 aV)
 clear Fx2_15
 have Fg0r0_16:=Lib.hid (Fg0r0_15.out.below b16 aV)
 clear Fg0r0_15
 have Fy2_16:=Lib.hid yf2;clear yf2
 go_wp2_with fail
 refine (mP _ _ _ _ _ _ l2 _ (by exact (Fx2_16.out).sl) (by exact (Fy2_16.out).sl)).mono ?_
 rintro e w17 ⟨rfl,b17⟩
 have B17:Below w.heap.size w w17:=Below.trans B16 (b17.mono aV)
 have z17:w16.heap.size+0≤w17.heap.size:=by have:=b17.size;(try simp only[iM] at this ⊢) <;> omega
 have qa00_17:w17.cell? ⟨w.heap.size,0,none⟩=some (.slice ap0_0 an0_0 aq0_0):=(b17.cell (p:=⟨w.heap.size,0,none⟩) aV).trans qa00_16
 have qa01_17:w17.cell? ⟨w.heap.size,1,none⟩=some (.slice ap0_1 an0_1 aq0_1):=(b17.cell (p:=⟨w.heap.size,1,none⟩) aV).trans qa01_16
 have qa02_17:w17.cell? ⟨w.heap.size,2,none⟩=some (.int .i64 ax0_2):=(b17.cell (p:=⟨w.heap.size,2,none⟩) aV).trans qa02_16
 have qa03_17:w17.cell? ⟨w.heap.size,3,none⟩=some (.slice ap0_3 an0_3 aq0_3):=(b17.cell (p:=⟨w.heap.size,3,none⟩) aV).trans qa03_16
 have qa04_17:w17.cell? ⟨w.heap.size,4,none⟩=some (.slice ap0_4 an0_4 aq0_4):=(b17.cell (p:=⟨w.heap.size,4,none⟩) aV).trans qa04_16
 have qa05_17:w17.cell? ⟨w.heap.size,5,none⟩=some (.slice ap0_5 an0_5 aq0_5):=(b17.cell (p:=⟨w.heap.size,5,none⟩) aV).trans qa05_16
 have zba0_17:w.heap.size<w17.heap.size:=aV
 clear qa00_16 qa01_16 qa02_16 qa03_16 qa04_16 qa05_16
 have qx00_17:w17.cell? ⟨w7.heap.size,0,none⟩=some (.slice x0dp0 x0dn0 x0dq0):=(b17.cell (p:=⟨w7.heap.size,0,none⟩) aV).trans qx00_16
 have qx01_17:w17.cell? ⟨w7.heap.size,1,none⟩=some (.slice x0dp1 x0dn1 x0dq1):=(b17.cell (p:=⟨w7.heap.size,1,none⟩) aV).trans qx01_16
 have qx02_17:w17.cell? ⟨w7.heap.size,2,none⟩=some (.int .i64 d0.2.2.1):=(b17.cell (p:=⟨w7.heap.size,2,none⟩) aV).trans qx02_16
 have qx03_17:w17.cell? ⟨w7.heap.size,3,none⟩=some (.slice x0dp3 x0dn3 x0dq3):=(b17.cell (p:=⟨w7.heap.size,3,none⟩) aV).trans qx03_16
 have qx04_17:w17.cell? ⟨w7.heap.size,4,none⟩=some (.slice x0dp4 x0dn4 x0dq4):=(b17.cell (p:=⟨w7.heap.size,4,none⟩) aV).trans qx04_16
 have qx05_17:w17.cell? ⟨w7.heap.size,5,none⟩=some (.slice x0dp5 x0dn5 x0dq5):=(b17.cell (p:=⟨w7.heap.size,5,none⟩) aV).trans qx05_16
 have zbx0_17:w7.heap.size<w17.heap.size:=aV
 clear qx00_16 qx01_16 qx02_16 qx03_16 qx04_16 qx05_16
 have Fw0r0_17:=Lib.hid (Fw0r0_16.out.below b17 aV)
 clear Fw0r0_16
 have Fx0_17:=Lib.hid (Fx0_16.out.below b17 aV)
 clear Fx0_16
 have Fx1_17:=Lib.hid (Fx1_16.out.below b17 aV)
 clear Fx1_16
 have Fx2_17:=Lib.hid (Fx2_16.out.below b17 aV)
 clear Fx2_16
 have Fg0r0_17:=Lib.hid (Fg0r0_16.out.below b17 aV)
 clear Fg0r0_16
 have Fy2_17:=Lib.hid (Fy2_16.out.below b17 aV)
 clear Fy2_16
 clear Fy2_17
 go_wp2_with fail
 obtain ⟨bl18,rep18,nd18,in18⟩:=(Fx0_17.out).un
 clear Fx0_17
 refine (aLW _ _ d0 _ _ (by exact rep18) nd18 (by omega) (by omega)).mono ?_
 rintro e w18 ⟨rfl,rp18,on18⟩
 have B18:Below w.heap.size w w18:=Below.trans B17 (on18.below (fun b hb=>by have:=in18 b hb;(try simp only[iM] at this ⊢) <;> omega) aV)
 have z18:w17.heap.size+0≤w18.heap.size:=by have:=on18.size;(try simp only[iM] at this ⊢) <;> omega
 have qa00_18:w18.cell? ⟨w.heap.size,0,none⟩=some (.slice ap0_0 an0_0 aq0_0):=(on18.cell (a:=⟨w.heap.size,0,none⟩) (fun hm=>by have:=in18 _ hm;(try simp only[iM] at this ⊢) <;> omega) aV).trans qa00_17
 have qa01_18:w18.cell? ⟨w.heap.size,1,none⟩=some (.slice ap0_1 an0_1 aq0_1):=(on18.cell (a:=⟨w.heap.size,1,none⟩) (fun hm=>by have:=in18 _ hm;(try simp only[iM] at this ⊢) <;> omega) aV).trans qa01_17
 have qa02_18:w18.cell? ⟨w.heap.size,2,none⟩=some (.int .i64 ax0_2):=(on18.cell (a:=⟨w.heap.size,2,none⟩) (fun hm=>by have:=in18 _ hm;(try simp only[iM] at this ⊢) <;> omega) aV).trans qa02_17
 have qa03_18:w18.cell? ⟨w.heap.size,3,none⟩=some (.slice ap0_3 an0_3 aq0_3):=(on18.cell (a:=⟨w.heap.size,3,none⟩) (fun hm=>by have:=in18 _ hm;(try simp only[iM] at this ⊢) <;> omega) aV).trans qa03_17
 have qa04_18:w18.cell? ⟨w.heap.size,4,none⟩=some (.slice ap0_4 an0_4 aq0_4):=(on18.cell (a:=⟨w.heap.size,4,none⟩) (fun hm=>by have:=in18 _ hm;(try simp only[iM] at this ⊢) <;> omega) aV).trans qa04_17
 have qa05_18:w18.cell? ⟨w.heap.size,5,none⟩=some (.slice ap0_5 an0_5 aq0_5):=(on18.cell (a:=⟨w.heap.size,5,none⟩) (fun hm=>by have:=in18 _ hm;(try simp only[iM] at this ⊢) <;> omega) aV).trans qa05_17
 have zba0_18:w.heap.size<w18.heap.size:=aV
 clear qa00_17 qa01_17 qa02_17 qa03_17 qa04_17 qa05_17
 have qx00_18:w18.cell? ⟨w7.heap.size,0,none⟩=some (.slice x0dp0 x0dn0 x0dq0):=(on18.cell (a:=⟨w7.heap.size,0,none⟩) (fun hm=>by have:=in18 _ hm;(try simp only[iM] at this ⊢) <;> omega) aV).trans qx00_17
 have qx01_18:w18.cell? ⟨w7.heap.size,1,none⟩=some (.slice x0dp1 x0dn1 x0dq1):=(on18.cell (a:=⟨w7.heap.size,1,none⟩) (fun hm=>by have:=in18 _ hm;(try simp only[iM] at this ⊢) <;> omega) aV).trans qx01_17
 have qx02_18:w18.cell? ⟨w7.heap.size,2,none⟩=some (.int .i64 d0.2.2.1):=(on18.cell (a:=⟨w7.heap.size,2,none⟩) (fun hm=>by have:=in18 _ hm;(try simp only[iM] at this ⊢) <;> omega) aV).trans qx02_17
 have qx03_18:w18.cell? ⟨w7.heap.size,3,none⟩=some (.slice x0dp3 x0dn3 x0dq3):=(on18.cell (a:=⟨w7.heap.size,3,none⟩) (fun hm=>by have:=in18 _ hm;(try simp only[iM] at this ⊢) <;> omega) aV).trans qx03_17
 have qx04_18:w18.cell? ⟨w7.heap.size,4,none⟩=some (.slice x0dp4 x0dn4 x0dq4):=(on18.cell (a:=⟨w7.heap.size,4,none⟩) (fun hm=>by have:=in18 _ hm;(try simp only[iM] at this ⊢) <;> omega) aV).trans qx04_17
 have qx05_18:w18.cell? ⟨w7.heap.size,5,none⟩=some (.slice x0dp5 x0dn5 x0dq5):=(on18.cell (a:=⟨w7.heap.size,5,none⟩) (fun hm=>by have:=in18 _ hm;(try simp only[iM] at this ⊢) <;> omega) aV).trans qx05_17
 have zbx0_18:w7.heap.size<w18.heap.size:=aV
 clear qx00_17 qx01_17 qx02_17 qx03_17 qx04_17 qx05_17
 have Fw0r0_18:=Lib.hid (Fw0r0_17.out.only on18 (fun b hb=>by have:=in18 b hb;(try simp only[iM] at this ⊢) <;> omega))
 clear Fw0r0_17
 have Fx1_18:=Lib.hid (Fx1_17.out.only on18 (fun b hb=>by have:=in18 b hb;(try simp only[iM] at this ⊢) <;> omega))
 clear Fx1_17
 have Fx2_18:=Lib.hid (Fx2_17.out.only on18 (fun b hb=>by have:=in18 b hb;(try simp only[iM] at this ⊢) <;> omega))
 clear Fx2_17
 have Fg0r0_18:=Lib.hid (Fg0r0_17.out.only on18 (fun b hb=>by have:=in18 b hb;(try simp only[iM] at this ⊢) <;> omega))
 clear Fg0r0_17
 have G18:=wL.of_un rp18 nd18 in18 aV
 clear rep18 rp18
 have Fx0_18:=Lib.hid G18;clear G18
 clear Fx0_18
 go_wp2_with fail
 obtain ⟨bl19,rep19,nd19,in19⟩:=(Fx1_18.out).un
 clear Fx1_18
 refine (aQA _ _ _ _ l1 _ _ (by exact rep19) nd19 (by omega) (by omega)).mono ?_
 rintro e w19 ⟨rfl,rp19,on19⟩
 have B19:Below w.heap.size w w19:=Below.trans B18 (on19.below (fun b hb=>by have:=in19 b hb;(try simp only[iM] at this ⊢) <;> omega) aV)
 have z19:w18.heap.size+0≤w19.heap.size:=by have:=on19.size;(try simp only[iM] at this ⊢) <;> omega
 have qa00_19:w19.cell? ⟨w.heap.size,0,none⟩=some (.slice ap0_0 an0_0 aq0_0):=(on19.cell (a:=⟨w.heap.size,0,none⟩) (fun hm=>by have:=in19 _ hm;(try simp only[iM] at this ⊢) <;> omega) aV).trans qa00_18
 have qa01_19:w19.cell? ⟨w.heap.size,1,none⟩=some (.slice ap0_1 an0_1 aq0_1):=(on19.cell (a:=⟨w.heap.size,1,none⟩) (fun hm=>by have:=in19 _ hm;(try simp only[iM] at this ⊢) <;> omega) aV).trans qa01_18
 have qa02_19:w19.cell? ⟨w.heap.size,2,none⟩=some (.int .i64 ax0_2):=(on19.cell (a:=⟨w.heap.size,2,none⟩) (fun hm=>by have:=in19 _ hm;(try simp only[iM] at this ⊢) <;> omega) aV).trans qa02_18
 have qa03_19:w19.cell? ⟨w.heap.size,3,none⟩=some (.slice ap0_3 an0_3 aq0_3):=(on19.cell (a:=⟨w.heap.size,3,none⟩) (fun hm=>by have:=in19 _ hm;(try simp only[iM] at this ⊢) <;> omega) aV).trans qa03_18
 have qa04_19:w19.cell? ⟨w.heap.size,4,none⟩=some (.slice ap0_4 an0_4 aq0_4):=(on19.cell (a:=⟨w.heap.size,4,none⟩) (fun hm=>by have:=in19 _ hm;(try simp only[iM] at this ⊢) <;> omega) aV).trans qa04_18
 have qa05_19:w19.cell? ⟨w.heap.size,5,none⟩=some (.slice ap0_5 an0_5 aq0_5):=(on19.cell (a:=⟨w.heap.size,5,none⟩) (fun hm=>by have:=in19 _ hm;(try simp only[iM] at this ⊢) <;> omega) aV).trans qa05_18
 have zba0_19:w.heap.size<w19.heap.size:=aV
 clear qa00_18 qa01_18 qa02_18 qa03_18 qa04_18 qa05_18
 have qx00_19:w19.cell? ⟨w7.heap.size,0,none⟩=some (.slice x0dp0 x0dn0 x0dq0):=(on19.cell (a:=⟨w7.heap.size,0,none⟩) (fun hm=>by have:=in19 _ hm;(try simp only[iM] at this ⊢) <;> omega) aV).trans qx00_18
 have qx01_19:w19.cell? ⟨w7.heap.size,1,none⟩=some (.slice x0dp1 x0dn1 x0dq1):=(on19.cell (a:=⟨w7.heap.size,1,none⟩) (fun hm=>by have:=in19 _ hm;(try simp only[iM] at this ⊢) <;> omega) aV).trans qx01_18
 have qx02_19:w19.cell? ⟨w7.heap.size,2,none⟩=some (.int .i64 d0.2.2.1):=(on19.cell (a:=⟨w7.heap.size,2,none⟩) (fun hm=>by have:=in19 _ hm;(try simp only[iM] at this ⊢) <;> omega) aV).trans qx02_18
 have qx03_19:w19.cell? ⟨w7.heap.size,3,none⟩=some (.slice x0dp3 x0dn3 x0dq3):=(on19.cell (a:=⟨w7.heap.size,3,none⟩) (fun hm=>by have:=in19 _ hm;(try simp only[iM] at this ⊢) <;> omega) aV).trans qx03_18
 have qx04_19:w19.cell? ⟨w7.heap.size,4,none⟩=some (.slice x0dp4 x0dn4 x0dq4):=(on19.cell (a:=⟨w7.heap.size,4,none⟩) (fun hm=>by have:=in19 _ hm;(try simp only[iM] at this ⊢) <;> omega) aV).trans qx04_18
 have qx05_19:w19.cell? ⟨w7.heap.size,5,none⟩=some (.slice x0dp5 x0dn5 x0dq5):=(on19.cell (a:=⟨w7.heap.size,5,none⟩) (fun hm=>by have:=in19 _ hm;(try simp only[iM] at this ⊢) <;> omega) aV).trans qx05_18
 have zbx0_19:w7.heap.size<w19.heap.size:=aV
 clear qx00_18 qx01_18 qx02_18 qx03_18 qx04_18 qx05_18
 have Fw0r0_19:=Lib.hid (Fw0r0_18.out.only on19 (fun b hb=>by have:=in19 b hb;(try simp only[iM] at this ⊢) <;> omega))
 clear Fw0r0_18
 have Fx2_19:=Lib.hid (Fx2_18.out.only on19 (fun b hb=>by have:=in19 b hb;(try simp only[iM] at this ⊢) <;> omega))
 clear Fx2_18
 have Fg0r0_19:=Lib.hid (Fg0r0_18.out.only on19 (fun b hb=>by have:=in19 b hb;(try simp only[iM] at this ⊢) <;> omega))
 clear Fg0r0_18
 have G19:=wL.of_un rp19 nd19 in19 aV
 clear rep19 rp19
 have Fx1_19:=Lib.hid G19;clear G19
 clear Fx1_19
 go_wp2_with fail
 obtain ⟨bl20,rep20,nd20,in20⟩:=(Fx2_19.out).un
 clear Fx2_19
 refine (kW _ _ _ _ l2 _ _ (by exact rep20) nd20 (by omega) (by have:=hll2;omega)).mono ?_
 rintro e w20 ⟨rfl,rp20,on20⟩
 have B20:Below w.heap.size w w20:=Below.trans B19 (on20.below (fun b hb=>by have:=in20 b hb;(try simp only[iM] at this ⊢) <;> omega) aV)
 have z20:w19.heap.size+0≤w20.heap.size:=by have:=on20.size;(try simp only[iM] at this ⊢) <;> omega
 have qa00_20:w20.cell? ⟨w.heap.size,0,none⟩=some (.slice ap0_0 an0_0 aq0_0):=(on20.cell (a:=⟨w.heap.size,0,none⟩) (fun hm=>by have:=in20 _ hm;(try simp only[iM] at this ⊢) <;> omega) aV).trans qa00_19
 have qa01_20:w20.cell? ⟨w.heap.size,1,none⟩=some (.slice ap0_1 an0_1 aq0_1):=(on20.cell (a:=⟨w.heap.size,1,none⟩) (fun hm=>by have:=in20 _ hm;(try simp only[iM] at this ⊢) <;> omega) aV).trans qa01_19
 have qa02_20:w20.cell? ⟨w.heap.size,2,none⟩=some (.int .i64 ax0_2):=(on20.cell (a:=⟨w.heap.size,2,none⟩) (fun hm=>by have:=in20 _ hm;(try simp only[iM] at this ⊢) <;> omega) aV).trans qa02_19
 have qa03_20:w20.cell? ⟨w.heap.size,3,none⟩=some (.slice ap0_3 an0_3 aq0_3):=(on20.cell (a:=⟨w.heap.size,3,none⟩) (fun hm=>by have:=in20 _ hm;(try simp only[iM] at this ⊢) <;> omega) aV).trans qa03_19
 have qa04_20:w20.cell? ⟨w.heap.size,4,none⟩=some (.slice ap0_4 an0_4 aq0_4):=(on20.cell (a:=⟨w.heap.size,4,none⟩) (fun hm=>by have:=in20 _ hm;(try simp only[iM] at this ⊢) <;> omega) aV).trans qa04_19
 have qa05_20:w20.cell? ⟨w.heap.size,5,none⟩=some (.slice ap0_5 an0_5 aq0_5):=(on20.cell (a:=⟨w.heap.size,5,none⟩) (fun hm=>by have:=in20 _ hm;(try simp only[iM] at this ⊢) <;> omega) aV).trans qa05_19
 have zba0_20:w.heap.size<w20.heap.size:=aV
 clear qa00_19 qa01_19 qa02_19 qa03_19 qa04_19 qa05_19
 have qx00_20:w20.cell? ⟨w7.heap.size,0,none⟩=some (.slice x0dp0 x0dn0 x0dq0):=(on20.cell (a:=⟨w7.heap.size,0,none⟩) (fun hm=>by have:=in20 _ hm;(try simp only[iM] at this ⊢) <;> omega) aV).trans qx00_19
 have qx01_20:w20.cell? ⟨w7.heap.size,1,none⟩=some (.slice x0dp1 x0dn1 x0dq1):=(on20.cell (a:=⟨w7.heap.size,1,none⟩) (fun hm=>by have:=in20 _ hm;(try simp only[iM] at this ⊢) <;> omega) aV).trans qx01_19
 have qx02_20:w20.cell? ⟨w7.heap.size,2,none⟩=some (.int .i64 d0.2.2.1):=(on20.cell (a:=⟨w7.heap.size,2,none⟩) (fun hm=>by have:=in20 _ hm;(try simp only[iM] at this ⊢) <;> omega) aV).trans qx02_19
 have qx03_20:w20.cell? ⟨w7.heap.size,3,none⟩=some (.slice x0dp3 x0dn3 x0dq3):=(on20.cell (a:=⟨w7.heap.size,3,none⟩) (fun hm=>by have:=in20 _ hm;(try simp only[iM] at this ⊢) <;> omega) aV).trans qx03_19
 have qx04_20:w20.cell? ⟨w7.heap.size,4,none⟩=some (.slice x0dp4 x0dn4 x0dq4):=(on20.cell (a:=⟨w7.heap.size,4,none⟩) (fun hm=>by have:=in20 _ hm;(try simp only[iM] at this ⊢) <;> omega) aV).trans qx04_19
 have qx05_20:w20.cell? ⟨w7.heap.size,5,none⟩=some (.slice x0dp5 x0dn5 x0dq5):=(on20.cell (a:=⟨w7.heap.size,5,none⟩) (fun hm=>by have:=in20 _ hm;(try simp only[iM] at this ⊢) <;> omega) aV).trans qx05_19
 have zbx0_20:w7.heap.size<w20.heap.size:=aV
 clear qx00_19 qx01_19 qx02_19 qx03_19 qx04_19 qx05_19
 have Fw0r0_20:=Lib.hid (Fw0r0_19.out.only on20 (fun b hb=>by have:=in20 b hb;(try simp only[iM] at this ⊢) <;> omega))
 clear Fw0r0_19
 have Fg0r0_20:=Lib.hid (Fg0r0_19.out.only on20 (fun b hb=>by have:=in20 b hb;(try simp only[iM] at this ⊢) <;> omega))
 clear Fg0r0_19
 have G20:=wL.of_un rp20 nd20 in20 aV
 clear rep20 rp20
 have Fx2_20:=Lib.hid G20;clear G20
 clear Fx2_20
 go_wp2_with fail
 refine (vH _ _ _ _ _ _ R0 _ (by exact (Fg0r0_20.out).sl) (by exact (Fw0r0_20.out).sl)).mono ?_
 rintro e w21 ⟨rfl,b21⟩
 have B21:Below w.heap.size w w21:=Below.trans B20 (b21.mono aV)
 have z21:w20.heap.size+0≤w21.heap.size:=by have:=b21.size;(try simp only[iM] at this ⊢) <;> omega
 have qa00_21:w21.cell? ⟨w.heap.size,0,none⟩=some (.slice ap0_0 an0_0 aq0_0):=(b21.cell (p:=⟨w.heap.size,0,none⟩) aV).trans qa00_20
 have qa01_21:w21.cell? ⟨w.heap.size,1,none⟩=some (.slice ap0_1 an0_1 aq0_1):=(b21.cell (p:=⟨w.heap.size,1,none⟩) aV).trans qa01_20
 have qa02_21:w21.cell? ⟨w.heap.size,2,none⟩=some (.int .i64 ax0_2):=(b21.cell (p:=⟨w.heap.size,2,none⟩) aV).trans qa02_20
 have qa03_21:w21.cell? ⟨w.heap.size,3,none⟩=some (.slice ap0_3 an0_3 aq0_3):=(b21.cell (p:=⟨w.heap.size,3,none⟩) aV).trans qa03_20
 have qa04_21:w21.cell? ⟨w.heap.size,4,none⟩=some (.slice ap0_4 an0_4 aq0_4):=(b21.cell (p:=⟨w.heap.size,4,none⟩) aV).trans qa04_20
 have qa05_21:w21.cell? ⟨w.heap.size,5,none⟩=some (.slice ap0_5 an0_5 aq0_5):=(b21.cell (p:=⟨w.heap.size,5,none⟩) aV).trans qa05_20
 have zba0_21:w.heap.size<w21.heap.size:=aV
 clear qa00_20 qa01_20 qa02_20 qa03_20 qa04_20 qa05_20
 have qx00_21:w21.cell? ⟨w7.heap.size,0,none⟩=some (.slice x0dp0 x0dn0 x0dq0):=(b21.cell (p:=⟨w7.heap.size,0,none⟩) aV).trans qx00_20
 have qx01_21:w21.cell? ⟨w7.heap.size,1,none⟩=some (.slice x0dp1 x0dn1 x0dq1):=(b21.cell (p:=⟨w7.heap.size,1,none⟩) aV).trans qx01_20
 have qx02_21:w21.cell? ⟨w7.heap.size,2,none⟩=some (.int .i64 d0.2.2.1):=(b21.cell (p:=⟨w7.heap.size,2,none⟩) aV).trans qx02_20
 have qx03_21:w21.cell? ⟨w7.heap.size,3,none⟩=some (.slice x0dp3 x0dn3 x0dq3):=(b21.cell (p:=⟨w7.heap.size,3,none⟩) aV).trans qx03_20
 have qx04_21:w21.cell? ⟨w7.heap.size,4,none⟩=some (.slice x0dp4 x0dn4 x0dq4):=(b21.cell (p:=⟨w7.heap.size,4,none⟩) aV).trans qx04_20
 have qx05_21:w21.cell? ⟨w7.heap.size,5,none⟩=some (.slice x0dp5 x0dn5 x0dq5):=(b21.cell (p:=⟨w7.heap.size,5,none⟩) aV).trans qx05_20
 have zbx0_21:w7.heap.size<w21.heap.size:=aV
 clear qx00_20 qx01_20 qx02_20 qx03_20 qx04_20 qx05_20
 have Fw0r0_21:=Lib.hid (Fw0r0_20.out.below b21 aV)
 clear Fw0r0_20
 have Fg0r0_21:=Lib.hid (Fg0r0_20.out.below b21 aV)
 clear Fg0r0_20
 go_wp2_with fail
 obtain ⟨bl22,rep22,nd22,in22⟩:=(Fg0r0_21.out).un
 clear Fg0r0_21
 refine (aJW _ _ _ _ R0 _ _ (by exact rep22) nd22 (by omega) (by omega)).mono ?_
 rintro e w22 ⟨rfl,rp22,on22⟩
 have B22:Below w.heap.size w w22:=Below.trans B21 (on22.below (fun b hb=>by have:=in22 b hb;(try simp only[iM] at this ⊢) <;> omega) aV)
 have z22:w21.heap.size+0≤w22.heap.size:=by have:=on22.size;(try simp only[iM] at this ⊢) <;> omega
 have qa00_22:w22.cell? ⟨w.heap.size,0,none⟩=some (.slice ap0_0 an0_0 aq0_0):=(on22.cell (a:=⟨w.heap.size,0,none⟩) (fun hm=>by have:=in22 _ hm;(try simp only[iM] at this ⊢) <;> omega) aV).trans qa00_21
 have qa01_22:w22.cell? ⟨w.heap.size,1,none⟩=some (.slice ap0_1 an0_1 aq0_1):=(on22.cell (a:=⟨w.heap.size,1,none⟩) (fun hm=>by have:=in22 _ hm;(try simp only[iM] at this ⊢) <;> omega) aV).trans qa01_21
 have qa02_22:w22.cell? ⟨w.heap.size,2,none⟩=some (.int .i64 ax0_2):=(on22.cell (a:=⟨w.heap.size,2,none⟩) (fun hm=>by have:=in22 _ hm;(try simp only[iM] at this ⊢) <;> omega) aV).trans qa02_21
 have qa03_22:w22.cell? ⟨w.heap.size,3,none⟩=some (.slice ap0_3 an0_3 aq0_3):=(on22.cell (a:=⟨w.heap.size,3,none⟩) (fun hm=>by have:=in22 _ hm;(try simp only[iM] at this ⊢) <;> omega) aV).trans qa03_21
 have qa04_22:w22.cell? ⟨w.heap.size,4,none⟩=some (.slice ap0_4 an0_4 aq0_4):=(on22.cell (a:=⟨w.heap.size,4,none⟩) (fun hm=>by have:=in22 _ hm;(try simp only[iM] at this ⊢) <;> omega) aV).trans qa04_21
 have qa05_22:w22.cell? ⟨w.heap.size,5,none⟩=some (.slice ap0_5 an0_5 aq0_5):=(on22.cell (a:=⟨w.heap.size,5,none⟩) (fun hm=>by have:=in22 _ hm;(try simp only[iM] at this ⊢) <;> omega) aV).trans qa05_21
 have zba0_22:w.heap.size<w22.heap.size:=aV
 clear qa00_21 qa01_21 qa02_21 qa03_21 qa04_21 qa05_21
 have qx00_22:w22.cell? ⟨w7.heap.size,0,none⟩=some (.slice x0dp0 x0dn0 x0dq0):=(on22.cell (a:=⟨w7.heap.size,0,none⟩) (fun hm=>by have:=in22 _ hm;(try simp only[iM] at this ⊢) <;> omega) aV).trans qx00_21
 have qx01_22:w22.cell? ⟨w7.heap.size,1,none⟩=some (.slice x0dp1 x0dn1 x0dq1):=(on22.cell (a:=⟨w7.heap.size,1,none⟩) (fun hm=>by have:=in22 _ hm;(try simp only[iM] at this ⊢) <;> omega) aV).trans qx01_21
 have qx02_22:w22.cell? ⟨w7.heap.size,2,none⟩=some (.int .i64 d0.2.2.1):=(on22.cell (a:=⟨w7.heap.size,2,none⟩) (fun hm=>by have:=in22 _ hm;(try simp only[iM] at this ⊢) <;> omega) aV).trans qx02_21
 have qx03_22:w22.cell? ⟨w7.heap.size,3,none⟩=some (.slice x0dp3 x0dn3 x0dq3):=(on22.cell (a:=⟨w7.heap.size,3,none⟩) (fun hm=>by have:=in22 _ hm;(try simp only[iM] at this ⊢) <;> omega) aV).trans qx03_21
 have qx04_22:w22.cell? ⟨w7.heap.size,4,none⟩=some (.slice x0dp4 x0dn4 x0dq4):=(on22.cell (a:=⟨w7.heap.size,4,none⟩) (fun hm=>by have:=in22 _ hm;(try simp only[iM] at this ⊢) <;> omega) aV).trans qx04_21
 have qx05_22:w22.cell? ⟨w7.heap.size,5,none⟩=some (.slice x0dp5 x0dn5 x0dq5):=(on22.cell (a:=⟨w7.heap.size,5,none⟩) (fun hm=>by have:=in22 _ hm;(try simp only[iM] at this ⊢) <;> omega) aV).trans qx05_21
 have zbx0_22:w7.heap.size<w22.heap.size:=aV
 clear qx00_21 qx01_21 qx02_21 qx03_21 qx04_21 qx05_21
 have Fw0r0_22:=Lib.hid (Fw0r0_21.out.only on22 (fun b hb=>by have:=in22 b hb;(try simp only[iM] at this ⊢) <;> omega))
 clear Fw0r0_21
 have G22:=wL.of_un rp22 nd22 in22 aV
 clear rep22 rp22
 have Fg0r0_22:=Lib.hid G22;clear G22
 go_wp2_with fail
 refine (yZ _ _ _ _ R0 _ (by exact (Fg0r0_22.out).sl) (by omega) (by omega)).mono ?_
 rintro e w23 ⟨rfl,b23⟩
 have B23:Below w.heap.size w w23:=Below.trans B22 (b23.mono aV)
 have z23:w22.heap.size+0≤w23.heap.size:=by have:=b23.size;(try simp only[iM] at this ⊢) <;> omega
 have qa00_23:w23.cell? ⟨w.heap.size,0,none⟩=some (.slice ap0_0 an0_0 aq0_0):=(b23.cell (p:=⟨w.heap.size,0,none⟩) aV).trans qa00_22
 have qa01_23:w23.cell? ⟨w.heap.size,1,none⟩=some (.slice ap0_1 an0_1 aq0_1):=(b23.cell (p:=⟨w.heap.size,1,none⟩) aV).trans qa01_22
 have qa02_23:w23.cell? ⟨w.heap.size,2,none⟩=some (.int .i64 ax0_2):=(b23.cell (p:=⟨w.heap.size,2,none⟩) aV).trans qa02_22
 have qa03_23:w23.cell? ⟨w.heap.size,3,none⟩=some (.slice ap0_3 an0_3 aq0_3):=(b23.cell (p:=⟨w.heap.size,3,none⟩) aV).trans qa03_22
 have qa04_23:w23.cell? ⟨w.heap.size,4,none⟩=some (.slice ap0_4 an0_4 aq0_4):=(b23.cell (p:=⟨w.heap.size,4,none⟩) aV).trans qa04_22
 have qa05_23:w23.cell? ⟨w.heap.size,5,none⟩=some (.slice ap0_5 an0_5 aq0_5):=(b23.cell (p:=⟨w.heap.size,5,none⟩) aV).trans qa05_22
 have zba0_23:w.heap.size<w23.heap.size:=aV
 clear qa00_22 qa01_22 qa02_22 qa03_22 qa04_22 qa05_22
 have qx00_23:w23.cell? ⟨w7.heap.size,0,none⟩=some (.slice x0dp0 x0dn0 x0dq0):=(b23.cell (p:=⟨w7.heap.size,0,none⟩) aV).trans qx00_22
 have qx01_23:w23.cell? ⟨w7.heap.size,1,none⟩=some (.slice x0dp1 x0dn1 x0dq1):=(b23.cell (p:=⟨w7.heap.size,1,none⟩) aV).trans qx01_22
 have qx02_23:w23.cell? ⟨w7.heap.size,2,none⟩=some (.int .i64 d0.2.2.1):=(b23.cell (p:=⟨w7.heap.size,2,none⟩) aV).trans qx02_22
 have qx03_23:w23.cell? ⟨w7.heap.size,3,none⟩=some (.slice x0dp3 x0dn3 x0dq3):=(b23.cell (p:=⟨w7.heap.size,3,none⟩) aV).trans qx03_22
 have qx04_23:w23.cell? ⟨w7.heap.size,4,none⟩=some (.slice x0dp4 x0dn4 x0dq4):=(b23.cell (p:=⟨w7.heap.size,4,none⟩) aV).trans qx04_22
 have qx05_23:w23.cell? ⟨w7.heap.size,5,none⟩=some (.slice x0dp5 x0dn5 x0dq5):=(b23.cell (p:=⟨w7.heap.size,5,none⟩) aV).trans qx05_22
 have zbx0_23:w7.heap.size<w23.heap.size:=aV
 clear qx00_22 qx01_22 qx02_22 qx03_22 qx04_22 qx05_22
 have Fw0r0_23:=Lib.hid (Fw0r0_22.out.below b23 aV)
 clear Fw0r0_22
 have Fg0r0_23:=Lib.hid (Fg0r0_22.out.below b23 aV)
 clear Fg0r0_22
 go_wp2_with fail
 refine (qR _ d0 _ (by exact tC H0.out B23) (by omega)).mono ?_
 rintro e w24 ⟨ucs0,rfl,uf0,b24⟩
 have B24:Below w.heap.size w w24:=Below.trans B23 (b24.mono aV)
 have z24:w23.heap.size+0≤w24.heap.size:=by have:=b24.size;(try simp only[iM] at this ⊢) <;> omega
 have qa00_24:w24.cell? ⟨w.heap.size,0,none⟩=some (.slice ap0_0 an0_0 aq0_0):=(b24.cell (p:=⟨w.heap.size,0,none⟩) aV).trans qa00_23
 have qa01_24:w24.cell? ⟨w.heap.size,1,none⟩=some (.slice ap0_1 an0_1 aq0_1):=(b24.cell (p:=⟨w.heap.size,1,none⟩) aV).trans qa01_23
 have qa02_24:w24.cell? ⟨w.heap.size,2,none⟩=some (.int .i64 ax0_2):=(b24.cell (p:=⟨w.heap.size,2,none⟩) aV).trans qa02_23
 have qa03_24:w24.cell? ⟨w.heap.size,3,none⟩=some (.slice ap0_3 an0_3 aq0_3):=(b24.cell (p:=⟨w.heap.size,3,none⟩) aV).trans qa03_23
 have qa04_24:w24.cell? ⟨w.heap.size,4,none⟩=some (.slice ap0_4 an0_4 aq0_4):=(b24.cell (p:=⟨w.heap.size,4,none⟩) aV).trans qa04_23
 have qa05_24:w24.cell? ⟨w.heap.size,5,none⟩=some (.slice ap0_5 an0_5 aq0_5):=(b24.cell (p:=⟨w.heap.size,5,none⟩) aV).trans qa05_23
 have zba0_24:w.heap.size<w24.heap.size:=aV
 clear qa00_23 qa01_23 qa02_23 qa03_23 qa04_23 qa05_23
 have qx00_24:w24.cell? ⟨w7.heap.size,0,none⟩=some (.slice x0dp0 x0dn0 x0dq0):=(b24.cell (p:=⟨w7.heap.size,0,none⟩) aV).trans qx00_23
 have qx01_24:w24.cell? ⟨w7.heap.size,1,none⟩=some (.slice x0dp1 x0dn1 x0dq1):=(b24.cell (p:=⟨w7.heap.size,1,none⟩) aV).trans qx01_23
 have qx02_24:w24.cell? ⟨w7.heap.size,2,none⟩=some (.int .i64 d0.2.2.1):=(b24.cell (p:=⟨w7.heap.size,2,none⟩) aV).trans qx02_23
 have qx03_24:w24.cell? ⟨w7.heap.size,3,none⟩=some (.slice x0dp3 x0dn3 x0dq3):=(b24.cell (p:=⟨w7.heap.size,3,none⟩) aV).trans qx03_23
 have qx04_24:w24.cell? ⟨w7.heap.size,4,none⟩=some (.slice x0dp4 x0dn4 x0dq4):=(b24.cell (p:=⟨w7.heap.size,4,none⟩) aV).trans qx04_23
 have qx05_24:w24.cell? ⟨w7.heap.size,5,none⟩=some (.slice x0dp5 x0dn5 x0dq5):=(b24.cell (p:=⟨w7.heap.size,5,none⟩) aV).trans qx05_23
 have zbx0_24:w7.heap.size<w24.heap.size:=aV
 clear qx00_23 qx01_23 qx02_23 qx03_23 qx04_23 qx05_23
 have Fw0r0_24:=Lib.hid (Fw0r0_23.out.below b24 aV)
 clear Fw0r0_23
 have Fg0r0_24:=Lib.hid (Fg0r0_23.out.below b24 aV)
 clear Fg0r0_23
 have Fu0_24:=Lib.hid uf0;clear uf0
 go_wp2_with fail
 refine (tX _ _ _ l1 _ (by exact h1.below B24) (by omega)).mono ?_
 rintro e w25 ⟨up1,uc1,rfl,uf1,b25⟩
 have B25:Below w.heap.size w w25:=Below.trans B24 (b25.mono aV)
 have z25:w24.heap.size+0≤w25.heap.size:=by have:=b25.size;(try simp only[iM] at this ⊢) <;> omega
 have qa00_25:w25.cell? ⟨w.heap.size,0,none⟩=some (.slice ap0_0 an0_0 aq0_0):=(b25.cell (p:=⟨w.heap.size,0,none⟩) aV).trans qa00_24
 have qa01_25:w25.cell? ⟨w.heap.size,1,none⟩=some (.slice ap0_1 an0_1 aq0_1):=(b25.cell (p:=⟨w.heap.size,1,none⟩) aV).trans qa01_24
 have qa02_25:w25.cell? ⟨w.heap.size,2,none⟩=some (.int .i64 ax0_2):=(b25.cell (p:=⟨w.heap.size,2,none⟩) aV).trans qa02_24
 have qa03_25:w25.cell? ⟨w.heap.size,3,none⟩=some (.slice ap0_3 an0_3 aq0_3):=(b25.cell (p:=⟨w.heap.size,3,none⟩) aV).trans qa03_24
 have qa04_25:w25.cell? ⟨w.heap.size,4,none⟩=some (.slice ap0_4 an0_4 aq0_4):=(b25.cell (p:=⟨w.heap.size,4,none⟩) aV).trans qa04_24
 have qa05_25:w25.cell? ⟨w.heap.size,5,none⟩=some (.slice ap0_5 an0_5 aq0_5):=(b25.cell (p:=⟨w.heap.size,5,none⟩) aV).trans qa05_24
 have zba0_25:w.heap.size<w25.heap.size:=aV
 clear qa00_24 qa01_24 qa02_24 qa03_24 qa04_24 qa05_24
 have qx00_25:w25.cell? ⟨w7.heap.size,0,none⟩=some (.slice x0dp0 x0dn0 x0dq0):=(b25.cell (p:=⟨w7.heap.size,0,none⟩) aV).trans qx00_24
 have qx01_25:w25.cell? ⟨w7.heap.size,1,none⟩=some (.slice x0dp1 x0dn1 x0dq1):=(b25.cell (p:=⟨w7.heap.size,1,none⟩) aV).trans qx01_24
 have qx02_25:w25.cell? ⟨w7.heap.size,2,none⟩=some (.int .i64 d0.2.2.1):=(b25.cell (p:=⟨w7.heap.size,2,none⟩) aV).trans qx02_24
 have qx03_25:w25.cell? ⟨w7.heap.size,3,none⟩=some (.slice x0dp3 x0dn3 x0dq3):=(b25.cell (p:=⟨w7.heap.size,3,none⟩) aV).trans qx03_24
 have qx04_25:w25.cell? ⟨w7.heap.size,4,none⟩=some (.slice x0dp4 x0dn4 x0dq4):=(b25.cell (p:=⟨w7.heap.size,4,none⟩) aV).trans qx04_24
 have qx05_25:w25.cell? ⟨w7.heap.size,5,none⟩=some (.slice x0dp5 x0dn5 x0dq5):=(b25.cell (p:=⟨w7.heap.size,5,none⟩) aV).trans qx05_24
 have zbx0_25:w7.heap.size<w25.heap.size:=aV
 clear qx00_24 qx01_24 qx02_24 qx03_24 qx04_24 qx05_24
 have Fw0r0_25:=Lib.hid (Fw0r0_24.out.below b25 aV)
 clear Fw0r0_24
 have Fg0r0_25:=Lib.hid (Fg0r0_24.out.below b25 aV)
 clear Fg0r0_24
 have Fu0_25:=Lib.hid (Fu0_24.out.below b25 aV)
 clear Fu0_24
 have Fu1_25:=Lib.hid uf1;clear uf1
 go_wp2_with fail
 refine (iZ _ _ _ l2 _ (by exact h2.below B25) (by have:=eA l2;omega)).mono ?_
 rintro e w26 ⟨up2,uc2,rfl,uf2,b26⟩
 have B26:Below w.heap.size w w26:=Below.trans B25 (b26.mono aV)
 have z26:w25.heap.size+0≤w26.heap.size:=by have:=b26.size;(try simp only[iM] at this ⊢) <;> omega
 have qa00_26:w26.cell? ⟨w.heap.size,0,none⟩=some (.slice ap0_0 an0_0 aq0_0):=(b26.cell (p:=⟨w.heap.size,0,none⟩) aV).trans qa00_25
 have qa01_26:w26.cell? ⟨w.heap.size,1,none⟩=some (.slice ap0_1 an0_1 aq0_1):=(b26.cell (p:=⟨w.heap.size,1,none⟩) aV).trans qa01_25
 have qa02_26:w26.cell? ⟨w.heap.size,2,none⟩=some (.int .i64 ax0_2):=(b26.cell (p:=⟨w.heap.size,2,none⟩) aV).trans qa02_25
 have qa03_26:w26.cell? ⟨w.heap.size,3,none⟩=some (.slice ap0_3 an0_3 aq0_3):=(b26.cell (p:=⟨w.heap.size,3,none⟩) aV).trans qa03_25
 have qa04_26:w26.cell? ⟨w.heap.size,4,none⟩=some (.slice ap0_4 an0_4 aq0_4):=(b26.cell (p:=⟨w.heap.size,4,none⟩) aV).trans qa04_25
 have qa05_26:w26.cell? ⟨w.heap.size,5,none⟩=some (.slice ap0_5 an0_5 aq0_5):=(b26.cell (p:=⟨w.heap.size,5,none⟩) aV).trans qa05_25
 have zba0_26:w.heap.size<w26.heap.size:=aV
 clear qa00_25 qa01_25 qa02_25 qa03_25 qa04_25 qa05_25
 have qx00_26:w26.cell? ⟨w7.heap.size,0,none⟩=some (.slice x0dp0 x0dn0 x0dq0):=(b26.cell (p:=⟨w7.heap.size,0,none⟩) aV).trans qx00_25
 have qx01_26:w26.cell? ⟨w7.heap.size,1,none⟩=some (.slice x0dp1 x0dn1 x0dq1):=(b26.cell (p:=⟨w7.heap.size,1,none⟩) aV).trans qx01_25
 have qx02_26:w26.cell? ⟨w7.heap.size,2,none⟩=some (.int .i64 d0.2.2.1):=(b26.cell (p:=⟨w7.heap.size,2,none⟩) aV).trans qx02_25
 have qx03_26:w26.cell? ⟨w7.heap.size,3,none⟩=some (.slice x0dp3 x0dn3 x0dq3):=(b26.cell (p:=⟨w7.heap.size,3,none⟩) aV).trans qx03_25
 have qx04_26:w26.cell? ⟨w7.heap.size,4,none⟩=some (.slice x0dp4 x0dn4 x0dq4):=(b26.cell (p:=⟨w7.heap.size,4,none⟩) aV).trans qx04_25
 have qx05_26:w26.cell? ⟨w7.heap.size,5,none⟩=some (.slice x0dp5 x0dn5 x0dq5):=(b26.cell (p:=⟨w7.heap.size,5,none⟩) aV).trans qx05_25
 have zbx0_26:w7.heap.size<w26.heap.size:=aV
 clear qx00_25 qx01_25 qx02_25 qx03_25 qx04_25 qx05_25
 have Fw0r0_26:=Lib.hid (Fw0r0_25.out.below b26 aV)
 clear Fw0r0_25
 have Fg0r0_26:=Lib.hid (Fg0r0_25.out.below b26 aV)
 clear Fg0r0_25
 have Fu0_26:=Lib.hid (Fu0_25.out.below b26 aV)
 clear Fu0_25
 have Fu1_26:=Lib.hid (Fu1_25.out.below b26 aV)
 clear Fu1_25
 have Fu2_26:=Lib.hid uf2;clear uf2
 go_wp2_with fail
 refine (HI.out _ _ _ _ _ _ (by exact (Fu0_26.out).rd) (by exact (Fu1_26.out).sl) (by exact (Fu2_26.out).sl)).mono ?_
 rintro e w27 ⟨h0rp0,h0rc0,rfl,h0rf0,b27⟩
 have B27:Below w.heap.size w w27:=Below.trans B26 (b27.mono aV)
 have z27:w26.heap.size+0≤w27.heap.size:=by have:=b27.size;(try simp only[iM] at this ⊢) <;> omega
 have qa00_27:w27.cell? ⟨w.heap.size,0,none⟩=some (.slice ap0_0 an0_0 aq0_0):=(b27.cell (p:=⟨w.heap.size,0,none⟩) aV).trans qa00_26
 have qa01_27:w27.cell? ⟨w.heap.size,1,none⟩=some (.slice ap0_1 an0_1 aq0_1):=(b27.cell (p:=⟨w.heap.size,1,none⟩) aV).trans qa01_26
 have qa02_27:w27.cell? ⟨w.heap.size,2,none⟩=some (.int .i64 ax0_2):=(b27.cell (p:=⟨w.heap.size,2,none⟩) aV).trans qa02_26
 have qa03_27:w27.cell? ⟨w.heap.size,3,none⟩=some (.slice ap0_3 an0_3 aq0_3):=(b27.cell (p:=⟨w.heap.size,3,none⟩) aV).trans qa03_26
 have qa04_27:w27.cell? ⟨w.heap.size,4,none⟩=some (.slice ap0_4 an0_4 aq0_4):=(b27.cell (p:=⟨w.heap.size,4,none⟩) aV).trans qa04_26
 have qa05_27:w27.cell? ⟨w.heap.size,5,none⟩=some (.slice ap0_5 an0_5 aq0_5):=(b27.cell (p:=⟨w.heap.size,5,none⟩) aV).trans qa05_26
 have zba0_27:w.heap.size<w27.heap.size:=aV
 clear qa00_26 qa01_26 qa02_26 qa03_26 qa04_26 qa05_26
 have qx00_27:w27.cell? ⟨w7.heap.size,0,none⟩=some (.slice x0dp0 x0dn0 x0dq0):=(b27.cell (p:=⟨w7.heap.size,0,none⟩) aV).trans qx00_26
 have qx01_27:w27.cell? ⟨w7.heap.size,1,none⟩=some (.slice x0dp1 x0dn1 x0dq1):=(b27.cell (p:=⟨w7.heap.size,1,none⟩) aV).trans qx01_26
 have qx02_27:w27.cell? ⟨w7.heap.size,2,none⟩=some (.int .i64 d0.2.2.1):=(b27.cell (p:=⟨w7.heap.size,2,none⟩) aV).trans qx02_26
 have qx03_27:w27.cell? ⟨w7.heap.size,3,none⟩=some (.slice x0dp3 x0dn3 x0dq3):=(b27.cell (p:=⟨w7.heap.size,3,none⟩) aV).trans qx03_26
 have qx04_27:w27.cell? ⟨w7.heap.size,4,none⟩=some (.slice x0dp4 x0dn4 x0dq4):=(b27.cell (p:=⟨w7.heap.size,4,none⟩) aV).trans qx04_26
 have qx05_27:w27.cell? ⟨w7.heap.size,5,none⟩=some (.slice x0dp5 x0dn5 x0dq5):=(b27.cell (p:=⟨w7.heap.size,5,none⟩) aV).trans qx05_26
 have zbx0_27:w7.heap.size<w27.heap.size:=aV
 clear qx00_26 qx01_26 qx02_26 qx03_26 qx04_26 qx05_26
 have Fw0r0_27:=Lib.hid (Fw0r0_26.out.below b27 aV)
 clear Fw0r0_26
 have Fg0r0_27:=Lib.hid (Fg0r0_26.out.below b27 aV)
 clear Fg0r0_26
 have Fu0_27:=Lib.hid (Fu0_26.out.below b27 aV)
 clear Fu0_26
 have Fu1_27:=Lib.hid (Fu1_26.out.below b27 aV)
 clear Fu1_26
 have Fu2_27:=Lib.hid (Fu2_26.out.below b27 aV)
 clear Fu2_26
 clear Fu0_27
 clear Fu1_27
 clear Fu2_27
 have Fh0r0_27:=Lib.hid h0rf0;clear h0rf0
 go_wp2_with fail
 refine (vH _ _ _ _ _ _ R0 _ (by exact (Fh0r0_27.out).sl) (by exact (Fw0r0_27.out).sl)).mono ?_
 rintro e w28 ⟨rfl,b28⟩
 have B28:Below w.heap.size w w28:=Below.trans B27 (b28.mono aV)
 have z28:w27.heap.size+0≤w28.heap.size:=by have:=b28.size;(try simp only[iM] at this ⊢) <;> omega
 have qa00_28:w28.cell? ⟨w.heap.size,0,none⟩=some (.slice ap0_0 an0_0 aq0_0):=(b28.cell (p:=⟨w.heap.size,0,none⟩) aV).trans qa00_27
 have qa01_28:w28.cell? ⟨w.heap.size,1,none⟩=some (.slice ap0_1 an0_1 aq0_1):=(b28.cell (p:=⟨w.heap.size,1,none⟩) aV).trans qa01_27
 have qa02_28:w28.cell? ⟨w.heap.size,2,none⟩=some (.int .i64 ax0_2):=(b28.cell (p:=⟨w.heap.size,2,none⟩) aV).trans qa02_27
 have qa03_28:w28.cell? ⟨w.heap.size,3,none⟩=some (.slice ap0_3 an0_3 aq0_3):=(b28.cell (p:=⟨w.heap.size,3,none⟩) aV).trans qa03_27
 have qa04_28:w28.cell? ⟨w.heap.size,4,none⟩=some (.slice ap0_4 an0_4 aq0_4):=(b28.cell (p:=⟨w.heap.size,4,none⟩) aV).trans qa04_27
 have qa05_28:w28.cell? ⟨w.heap.size,5,none⟩=some (.slice ap0_5 an0_5 aq0_5):=(b28.cell (p:=⟨w.heap.size,5,none⟩) aV).trans qa05_27
 have zba0_28:w.heap.size<w28.heap.size:=aV
 clear qa00_27 qa01_27 qa02_27 qa03_27 qa04_27 qa05_27
 have qx00_28:w28.cell? ⟨w7.heap.size,0,none⟩=some (.slice x0dp0 x0dn0 x0dq0):=(b28.cell (p:=⟨w7.heap.size,0,none⟩) aV).trans qx00_27
 have qx01_28:w28.cell? ⟨w7.heap.size,1,none⟩=some (.slice x0dp1 x0dn1 x0dq1):=(b28.cell (p:=⟨w7.heap.size,1,none⟩) aV).trans qx01_27
 have qx02_28:w28.cell? ⟨w7.heap.size,2,none⟩=some (.int .i64 d0.2.2.1):=(b28.cell (p:=⟨w7.heap.size,2,none⟩) aV).trans qx02_27
 have qx03_28:w28.cell? ⟨w7.heap.size,3,none⟩=some (.slice x0dp3 x0dn3 x0dq3):=(b28.cell (p:=⟨w7.heap.size,3,none⟩) aV).trans qx03_27
 have qx04_28:w28.cell? ⟨w7.heap.size,4,none⟩=some (.slice x0dp4 x0dn4 x0dq4):=(b28.cell (p:=⟨w7.heap.size,4,none⟩) aV).trans qx04_27
 have qx05_28:w28.cell? ⟨w7.heap.size,5,none⟩=some (.slice x0dp5 x0dn5 x0dq5):=(b28.cell (p:=⟨w7.heap.size,5,none⟩) aV).trans qx05_27
 have zbx0_28:w7.heap.size<w28.heap.size:=aV
 clear qx00_27 qx01_27 qx02_27 qx03_27 qx04_27 qx05_27
 have Fw0r0_28:=Lib.hid (Fw0r0_27.out.below b28 aV)
 clear Fw0r0_27
 have Fg0r0_28:=Lib.hid (Fg0r0_27.out.below b28 aV)
 clear Fg0r0_27
 have Fh0r0_28:=Lib.hid (Fh0r0_27.out.below b28 aV)
 clear Fh0r0_27
 go_wp2_with fail
 refine (yZ _ _ _ _ R0 _ (by exact (Fg0r0_28.out).sl) (by omega) (by omega)).mono ?_
 rintro e w29 ⟨rfl,b29⟩
 have B29:Below w.heap.size w w29:=Below.trans B28 (b29.mono aV)
 have z29:w28.heap.size+0≤w29.heap.size:=by have:=b29.size;(try simp only[iM] at this ⊢) <;> omega
 have qa00_29:w29.cell? ⟨w.heap.size,0,none⟩=some (.slice ap0_0 an0_0 aq0_0):=(b29.cell (p:=⟨w.heap.size,0,none⟩) aV).trans qa00_28
 have qa01_29:w29.cell? ⟨w.heap.size,1,none⟩=some (.slice ap0_1 an0_1 aq0_1):=(b29.cell (p:=⟨w.heap.size,1,none⟩) aV).trans qa01_28
 have qa02_29:w29.cell? ⟨w.heap.size,2,none⟩=some (.int .i64 ax0_2):=(b29.cell (p:=⟨w.heap.size,2,none⟩) aV).trans qa02_28
 have qa03_29:w29.cell? ⟨w.heap.size,3,none⟩=some (.slice ap0_3 an0_3 aq0_3):=(b29.cell (p:=⟨w.heap.size,3,none⟩) aV).trans qa03_28
 have qa04_29:w29.cell? ⟨w.heap.size,4,none⟩=some (.slice ap0_4 an0_4 aq0_4):=(b29.cell (p:=⟨w.heap.size,4,none⟩) aV).trans qa04_28
 have qa05_29:w29.cell? ⟨w.heap.size,5,none⟩=some (.slice ap0_5 an0_5 aq0_5):=(b29.cell (p:=⟨w.heap.size,5,none⟩) aV).trans qa05_28
 have zba0_29:w.heap.size<w29.heap.size:=aV
 clear qa00_28 qa01_28 qa02_28 qa03_28 qa04_28 qa05_28
 have qx00_29:w29.cell? ⟨w7.heap.size,0,none⟩=some (.slice x0dp0 x0dn0 x0dq0):=(b29.cell (p:=⟨w7.heap.size,0,none⟩) aV).trans qx00_28
 have qx01_29:w29.cell? ⟨w7.heap.size,1,none⟩=some (.slice x0dp1 x0dn1 x0dq1):=(b29.cell (p:=⟨w7.heap.size,1,none⟩) aV).trans qx01_28
 have qx02_29:w29.cell? ⟨w7.heap.size,2,none⟩=some (.int .i64 d0.2.2.1):=(b29.cell (p:=⟨w7.heap.size,2,none⟩) aV).trans qx02_28
 have qx03_29:w29.cell? ⟨w7.heap.size,3,none⟩=some (.slice x0dp3 x0dn3 x0dq3):=(b29.cell (p:=⟨w7.heap.size,3,none⟩) aV).trans qx03_28
 have qx04_29:w29.cell? ⟨w7.heap.size,4,none⟩=some (.slice x0dp4 x0dn4 x0dq4):=(b29.cell (p:=⟨w7.heap.size,4,none⟩) aV).trans qx04_28
 have qx05_29:w29.cell? ⟨w7.heap.size,5,none⟩=some (.slice x0dp5 x0dn5 x0dq5):=(b29.cell (p:=⟨w7.heap.size,5,none⟩) aV).trans qx05_28
 have zbx0_29:w7.heap.size<w29.heap.size:=aV
 clear qx00_28 qx01_28 qx02_28 qx03_28 qx04_28 qx05_28
 have Fw0r0_29:=Lib.hid (Fw0r0_28.out.below b29 aV)
 clear Fw0r0_28
 have Fg0r0_29:=Lib.hid (Fg0r0_28.out.below b29 aV)
 clear Fg0r0_28
 have Fh0r0_29:=Lib.hid (Fh0r0_28.out.below b29 aV)
 clear Fh0r0_28
 go_wp2
 go_ret
 exact ⟨rfl,B29⟩
end Go.Proofs.YtiihghfoeinbbaaGreat
