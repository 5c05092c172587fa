/- The walk of FnExactSwingStep. -/
import Derived.Test.YtahggdiafncdhaaBSwingStep
import Derived.Test.YtahggdiafncdhaaTModel
import Derived.Test.YtahggdiafncdhaaTSwing
import Derived.Test.YtahggdiafncdhaaTGrads
import Derived.Test.YtahggdiafncdhaaUModel
import Derived.Test.YtahggdiafncdhaaUSwing
import Derived.Test.YtahggdiafncdhaaUGrads
import Derived.Deep.RegionHeld3
import Derived.Deep.DeepCutAuto
import Derived.Test.YtahggdiafncdhaaCutKit
import Derived.Test.YtahggdiafncdhaaCutBox
import Derived.Test.YtahggdiafncdhaaSwingR2
namespace Go.Proofs.Ytahggdiafncdhaa
open Go.ChangeShapes Go.WideShapes Go.ChangeAt Go.RowKit
set_option linter.unusedVariables false
set_option linter.unusedSimpArgs false
set_option maxRecDepth 100000 in
set_option maxHeartbeats 4000000 in
theorem fnExactSwingStep_walk (w:World) (cs0:Array Value) (d0:Ty.D tModel) (h0:rd tModel w cs0.toList d0) (cs1:Array Value) (d1:Ty.D tSwing) (h1:rd tSwing w cs1.toList d1) (cs2:Array Value) (d2:Ty.D tGrads) (h2:rd tGrads w cs2.toList d2) (x3:Int) (h3:(Lit.int .i64 x3).wf=true) (x4:Int) (h4:(Lit.int .i64 x4).wf=true) :
  Calls Try.prog 7 #[.agg cs0,.agg cs1,.agg cs2,.int .i64 x3,.int .i64 x4] w fun e w'=>e = .returned (.bool true)∧Below w.heap.size w w':=by
 obtain ⟨ap0_0,an0_0,aq0_0,rfl⟩:∃ ap0_0 an0_0 aq0_0,cs0 = #[.slice ap0_0 an0_0 aq0_0]:=by
  obtain ⟨kp0,kn0,kq0,khcs,ks0⟩:=h0
  exact ⟨kp0,kn0,kq0,arr_of khcs⟩
 have H0:=Lib.hid h0;clear h0
 obtain ⟨ap1_0,an1_0,aq1_0,ax1_1,rfl⟩:∃ ap1_0 an1_0 aq1_0 ax1_1,cs1 = #[.slice ap1_0 an1_0 aq1_0,.int .i64 ax1_1]:=by
  obtain ⟨_,_,khcs,⟨kp0,kn0,kq0,rfl,ks0⟩,⟨rfl,kw1⟩⟩:=h1
  exact ⟨kp0,kn0,kq0,d1.2,arr_of khcs⟩
 have H1:=Lib.hid h1;clear h1
 obtain ⟨ap2_0,an2_0,aq2_0,ax2_1,ax2_2,rfl⟩:∃ ap2_0 an2_0 aq2_0 ax2_1 ax2_2,cs2 = #[.slice ap2_0 an2_0 aq2_0,.int .i64 ax2_1,.bool ax2_2]:=by
  obtain ⟨_,_,khcs,⟨kp0,kn0,kq0,rfl,ks0⟩,⟨_,_,rfl,⟨rfl,kw1⟩,rfl⟩⟩:=h2
  exact ⟨kp0,kn0,kq0,d2.2.1,d2.2.2,arr_of khcs⟩
 have H2:=Lib.hid h2;clear h2
 by_cases hz0:((szT tModel d0:Nat):Int)≤(1048576:Int)
 rotate_left
 ·skip
  go_enter Try.func7,Try.ntmps7
  go_wp2_with fail
  refine (szModel_no _ d0 _ _ (by exact rd_below H0.out belx) (by omega) (by omega) (by omega)).mono ?_
  rintro e w1 ⟨rfl,b1⟩
  have B1:Below w.heap.size w w1:=Below.trans belx (b1.mono fcx)
  have z1:w.heap.size+3≤w1.heap.size:=by have:=b1.size;(try simp only[World.size_alloc,World.size_drew] at this ⊢) <;> omega
  have qa00_1:w1.cell? ⟨w.heap.size,0,none⟩=some (.slice ap0_0 an0_0 aq0_0):=(b1.cell (p:=⟨w.heap.size,0,none⟩) fcx).trans (by repeat' first|exact new_cell (by first|rfl|(simp;done)) rfl|refine (alloc_cell (by first|(simp;done)|(simp;omega))).trans ?_)
  have zba0_1:w.heap.size<w1.heap.size:=fcx
  have qa10_1:w1.cell? ⟨w.heap.size+1,0,none⟩=some (.slice ap1_0 an1_0 aq1_0):=(b1.cell (p:=⟨w.heap.size+1,0,none⟩) fcx).trans (by repeat' first|exact new_cell (by first|rfl|(simp;done)) rfl|refine (alloc_cell (by first|(simp;done)|(simp;omega))).trans ?_)
  have qa11_1:w1.cell? ⟨w.heap.size+1,1,none⟩=some (.int .i64 ax1_1):=(b1.cell (p:=⟨w.heap.size+1,1,none⟩) fcx).trans (by repeat' first|exact new_cell (by first|rfl|(simp;done)) rfl|refine (alloc_cell (by first|(simp;done)|(simp;omega))).trans ?_)
  have zba1_1:w.heap.size+1<w1.heap.size:=fcx
  have qa20_1:w1.cell? ⟨w.heap.size+1+1,0,none⟩=some (.slice ap2_0 an2_0 aq2_0):=(b1.cell (p:=⟨w.heap.size+1+1,0,none⟩) fcx).trans (by repeat' first|exact new_cell (by first|rfl|(simp;done)) rfl|refine (alloc_cell (by first|(simp;done)|(simp;omega))).trans ?_)
  have qa21_1:w1.cell? ⟨w.heap.size+1+1,1,none⟩=some (.int .i64 ax2_1):=(b1.cell (p:=⟨w.heap.size+1+1,1,none⟩) fcx).trans (by repeat' first|exact new_cell (by first|rfl|(simp;done)) rfl|refine (alloc_cell (by first|(simp;done)|(simp;omega))).trans ?_)
  have qa22_1:w1.cell? ⟨w.heap.size+1+1,2,none⟩=some (.bool ax2_2):=(b1.cell (p:=⟨w.heap.size+1+1,2,none⟩) fcx).trans (by repeat' first|exact new_cell (by first|rfl|(simp;done)) rfl|refine (alloc_cell (by first|(simp;done)|(simp;omega))).trans ?_)
  have zba2_1:w.heap.size+1+1<w1.heap.size:=fcx
  go_wp2
  go_ret
  exact ⟨rfl,B1⟩
 by_cases hz1:((szT tSwing d1:Nat):Int)≤(1048576:Int) - (szT tModel d0:Nat)
 rotate_left
 ·skip
  go_enter Try.func7,Try.ntmps7
  go_wp2_with fail
  refine (szModel_ok _ d0 _ _ (by exact rd_below H0.out belx) (by omega) (by omega) (by omega)).mono ?_
  rintro e w1 ⟨rfl,b1⟩
  have B1:Below w.heap.size w w1:=Below.trans belx (b1.mono fcx)
  have z1:w.heap.size+3≤w1.heap.size:=by have:=b1.size;(try simp only[World.size_alloc,World.size_drew] at this ⊢) <;> omega
  have qa00_1:w1.cell? ⟨w.heap.size,0,none⟩=some (.slice ap0_0 an0_0 aq0_0):=(b1.cell (p:=⟨w.heap.size,0,none⟩) fcx).trans (by repeat' first|exact new_cell (by first|rfl|(simp;done)) rfl|refine (alloc_cell (by first|(simp;done)|(simp;omega))).trans ?_)
  have zba0_1:w.heap.size<w1.heap.size:=fcx
  have qa10_1:w1.cell? ⟨w.heap.size+1,0,none⟩=some (.slice ap1_0 an1_0 aq1_0):=(b1.cell (p:=⟨w.heap.size+1,0,none⟩) fcx).trans (by repeat' first|exact new_cell (by first|rfl|(simp;done)) rfl|refine (alloc_cell (by first|(simp;done)|(simp;omega))).trans ?_)
  have qa11_1:w1.cell? ⟨w.heap.size+1,1,none⟩=some (.int .i64 ax1_1):=(b1.cell (p:=⟨w.heap.size+1,1,none⟩) fcx).trans (by repeat' first|exact new_cell (by first|rfl|(simp;done)) rfl|refine (alloc_cell (by first|(simp;done)|(simp;omega))).trans ?_)
  have zba1_1:w.heap.size+1<w1.heap.size:=fcx
  have qa20_1:w1.cell? ⟨w.heap.size+1+1,0,none⟩=some (.slice ap2_0 an2_0 aq2_0):=(b1.cell (p:=⟨w.heap.size+1+1,0,none⟩) fcx).trans (by repeat' first|exact new_cell (by first|rfl|(simp;done)) rfl|refine (alloc_cell (by first|(simp;done)|(simp;omega))).trans ?_)
  have qa21_1:w1.cell? ⟨w.heap.size+1+1,1,none⟩=some (.int .i64 ax2_1):=(b1.cell (p:=⟨w.heap.size+1+1,1,none⟩) fcx).trans (by repeat' first|exact new_cell (by first|rfl|(simp;done)) rfl|refine (alloc_cell (by first|(simp;done)|(simp;omega))).trans ?_)
  have qa22_1:w1.cell? ⟨w.heap.size+1+1,2,none⟩=some (.bool ax2_2):=(b1.cell (p:=⟨w.heap.size+1+1,2,none⟩) fcx).trans (by repeat' first|exact new_cell (by first|rfl|(simp;done)) rfl|refine (alloc_cell (by first|(simp;done)|(simp;omega))).trans ?_)
  have zba2_1:w.heap.size+1+1<w1.heap.size:=fcx
  obtain ⟨lf0,hlf0⟩:∃ z:Int,z=(1048576:Int) - (szT tModel d0:Nat):=⟨_,rfl⟩
  rw[← hlf0]
  have hnl0:¬ (lf0<0):=by omega
  have hnm0:lf0≤1048576:=by omega
  have HLF0:=Lib.hid hlf0;have hle0:=Int.le_of_eq hlf0;have hge0:=Int.le_of_eq hlf0.symm;clear hlf0
  go_wp2_with fail
  refine (szSwing_no _ d1 _ _ (by exact rd_below H1.out B1) (by omega) (by omega) (by omega)).mono ?_
  rintro e w2 ⟨rfl,b2⟩
  have B2:Below w.heap.size w w2:=Below.trans B1 (b2.mono fcx)
  have z2:w1.heap.size+0≤w2.heap.size:=by have:=b2.size;(try simp only[World.size_alloc,World.size_drew] at this ⊢) <;> omega
  have qa00_2:w2.cell? ⟨w.heap.size,0,none⟩=some (.slice ap0_0 an0_0 aq0_0):=(b2.cell (p:=⟨w.heap.size,0,none⟩) fcx).trans qa00_1
  have zba0_2:w.heap.size<w2.heap.size:=fcx
  clear qa00_1
  have qa10_2:w2.cell? ⟨w.heap.size+1,0,none⟩=some (.slice ap1_0 an1_0 aq1_0):=(b2.cell (p:=⟨w.heap.size+1,0,none⟩) fcx).trans qa10_1
  have qa11_2:w2.cell? ⟨w.heap.size+1,1,none⟩=some (.int .i64 ax1_1):=(b2.cell (p:=⟨w.heap.size+1,1,none⟩) fcx).trans qa11_1
  have zba1_2:w.heap.size+1<w2.heap.size:=fcx
  clear qa10_1 qa11_1
  have qa20_2:w2.cell? ⟨w.heap.size+1+1,0,none⟩=some (.slice ap2_0 an2_0 aq2_0):=(b2.cell (p:=⟨w.heap.size+1+1,0,none⟩) fcx).trans qa20_1
  have qa21_2:w2.cell? ⟨w.heap.size+1+1,1,none⟩=some (.int .i64 ax2_1):=(b2.cell (p:=⟨w.heap.size+1+1,1,none⟩) fcx).trans qa21_1
  have qa22_2:w2.cell? ⟨w.heap.size+1+1,2,none⟩=some (.bool ax2_2):=(b2.cell (p:=⟨w.heap.size+1+1,2,none⟩) fcx).trans qa22_1
  have zba2_2:w.heap.size+1+1<w2.heap.size:=fcx
  clear qa20_1 qa21_1 qa22_1
  go_wp2
  go_ret
  exact ⟨rfl,B2⟩
 by_cases hz2:((szT tGrads d2:Nat):Int)≤(1048576:Int) - (szT tModel d0:Nat) - (szT tSwing d1:Nat)
 rotate_left
 ·skip
  go_enter Try.func7,Try.ntmps7
  go_wp2_with fail
  refine (szModel_ok _ d0 _ _ (by exact rd_below H0.out belx) (by omega) (by omega) (by omega)).mono ?_
  rintro e w1 ⟨rfl,b1⟩
  have B1:Below w.heap.size w w1:=Below.trans belx (b1.mono fcx)
  have z1:w.heap.size+3≤w1.heap.size:=by have:=b1.size;(try simp only[World.size_alloc,World.size_drew] at this ⊢) <;> omega
  have qa00_1:w1.cell? ⟨w.heap.size,0,none⟩=some (.slice ap0_0 an0_0 aq0_0):=(b1.cell (p:=⟨w.heap.size,0,none⟩) fcx).trans (by repeat' first|exact new_cell (by first|rfl|(simp;done)) rfl|refine (alloc_cell (by first|(simp;done)|(simp;omega))).trans ?_)
  have zba0_1:w.heap.size<w1.heap.size:=fcx
  have qa10_1:w1.cell? ⟨w.heap.size+1,0,none⟩=some (.slice ap1_0 an1_0 aq1_0):=(b1.cell (p:=⟨w.heap.size+1,0,none⟩) fcx).trans (by repeat' first|exact new_cell (by first|rfl|(simp;done)) rfl|refine (alloc_cell (by first|(simp;done)|(simp;omega))).trans ?_)
  have qa11_1:w1.cell? ⟨w.heap.size+1,1,none⟩=some (.int .i64 ax1_1):=(b1.cell (p:=⟨w.heap.size+1,1,none⟩) fcx).trans (by repeat' first|exact new_cell (by first|rfl|(simp;done)) rfl|refine (alloc_cell (by first|(simp;done)|(simp;omega))).trans ?_)
  have zba1_1:w.heap.size+1<w1.heap.size:=fcx
  have qa20_1:w1.cell? ⟨w.heap.size+1+1,0,none⟩=some (.slice ap2_0 an2_0 aq2_0):=(b1.cell (p:=⟨w.heap.size+1+1,0,none⟩) fcx).trans (by repeat' first|exact new_cell (by first|rfl|(simp;done)) rfl|refine (alloc_cell (by first|(simp;done)|(simp;omega))).trans ?_)
  have qa21_1:w1.cell? ⟨w.heap.size+1+1,1,none⟩=some (.int .i64 ax2_1):=(b1.cell (p:=⟨w.heap.size+1+1,1,none⟩) fcx).trans (by repeat' first|exact new_cell (by first|rfl|(simp;done)) rfl|refine (alloc_cell (by first|(simp;done)|(simp;omega))).trans ?_)
  have qa22_1:w1.cell? ⟨w.heap.size+1+1,2,none⟩=some (.bool ax2_2):=(b1.cell (p:=⟨w.heap.size+1+1,2,none⟩) fcx).trans (by repeat' first|exact new_cell (by first|rfl|(simp;done)) rfl|refine (alloc_cell (by first|(simp;done)|(simp;omega))).trans ?_)
  have zba2_1:w.heap.size+1+1<w1.heap.size:=fcx
  obtain ⟨lf0,hlf0⟩:∃ z:Int,z=(1048576:Int) - (szT tModel d0:Nat):=⟨_,rfl⟩
  rw[← hlf0]
  have hnl0:¬ (lf0<0):=by omega
  have hnm0:lf0≤1048576:=by omega
  have HLF0:=Lib.hid hlf0;have hle0:=Int.le_of_eq hlf0;have hge0:=Int.le_of_eq hlf0.symm;clear hlf0
  go_wp2_with fail
  refine (szSwing_ok _ d1 _ _ (by exact rd_below H1.out B1) (by omega) (by omega) (by omega)).mono ?_
  rintro e w2 ⟨rfl,b2⟩
  have B2:Below w.heap.size w w2:=Below.trans B1 (b2.mono fcx)
  have z2:w1.heap.size+0≤w2.heap.size:=by have:=b2.size;(try simp only[World.size_alloc,World.size_drew] at this ⊢) <;> omega
  have qa00_2:w2.cell? ⟨w.heap.size,0,none⟩=some (.slice ap0_0 an0_0 aq0_0):=(b2.cell (p:=⟨w.heap.size,0,none⟩) fcx).trans qa00_1
  have zba0_2:w.heap.size<w2.heap.size:=fcx
  clear qa00_1
  have qa10_2:w2.cell? ⟨w.heap.size+1,0,none⟩=some (.slice ap1_0 an1_0 aq1_0):=(b2.cell (p:=⟨w.heap.size+1,0,none⟩) fcx).trans qa10_1
  have qa11_2:w2.cell? ⟨w.heap.size+1,1,none⟩=some (.int .i64 ax1_1):=(b2.cell (p:=⟨w.heap.size+1,1,none⟩) fcx).trans qa11_1
  have zba1_2:w.heap.size+1<w2.heap.size:=fcx
  clear qa10_1 qa11_1
  have qa20_2:w2.cell? ⟨w.heap.size+1+1,0,none⟩=some (.slice ap2_0 an2_0 aq2_0):=(b2.cell (p:=⟨w.heap.size+1+1,0,none⟩) fcx).trans qa20_1
  have qa21_2:w2.cell? ⟨w.heap.size+1+1,1,none⟩=some (.int .i64 ax2_1):=(b2.cell (p:=⟨w.heap.size+1+1,1,none⟩) fcx).trans qa21_1
  have qa22_2:w2.cell? ⟨w.heap.size+1+1,2,none⟩=some (.bool ax2_2):=(b2.cell (p:=⟨w.heap.size+1+1,2,none⟩) fcx).trans qa22_1
  have zba2_2:w.heap.size+1+1<w2.heap.size:=fcx
  clear qa20_1 qa21_1 qa22_1
  obtain ⟨lf1,hlf1⟩:∃ z:Int,z=lf0 - (szT tSwing d1:Nat):=⟨_,rfl⟩
  rw[← hlf1]
  have hnl1:¬ (lf1<0):=by omega
  have hnm1:lf1≤1048576:=by omega
  have HLF1:=Lib.hid hlf1;have hle1:=Int.le_of_eq hlf1;have hge1:=Int.le_of_eq hlf1.symm;clear hlf1
  go_wp2_with fail
  refine (szGrads_no _ d2 _ _ (by exact rd_below H2.out B2) (by omega) (by omega) (by omega)).mono ?_
  rintro e w3 ⟨rfl,b3⟩
  have B3:Below w.heap.size w w3:=Below.trans B2 (b3.mono fcx)
  have z3:w2.heap.size+0≤w3.heap.size:=by have:=b3.size;(try simp only[World.size_alloc,World.size_drew] at this ⊢) <;> omega
  have qa00_3:w3.cell? ⟨w.heap.size,0,none⟩=some (.slice ap0_0 an0_0 aq0_0):=(b3.cell (p:=⟨w.heap.size,0,none⟩) fcx).trans qa00_2
  have zba0_3:w.heap.size<w3.heap.size:=fcx
  clear qa00_2
  have qa10_3:w3.cell? ⟨w.heap.size+1,0,none⟩=some (.slice ap1_0 an1_0 aq1_0):=(b3.cell (p:=⟨w.heap.size+1,0,none⟩) fcx).trans qa10_2
  have qa11_3:w3.cell? ⟨w.heap.size+1,1,none⟩=some (.int .i64 ax1_1):=(b3.cell (p:=⟨w.heap.size+1,1,none⟩) fcx).trans qa11_2
  have zba1_3:w.heap.size+1<w3.heap.size:=fcx
  clear qa10_2 qa11_2
  have qa20_3:w3.cell? ⟨w.heap.size+1+1,0,none⟩=some (.slice ap2_0 an2_0 aq2_0):=(b3.cell (p:=⟨w.heap.size+1+1,0,none⟩) fcx).trans qa20_2
  have qa21_3:w3.cell? ⟨w.heap.size+1+1,1,none⟩=some (.int .i64 ax2_1):=(b3.cell (p:=⟨w.heap.size+1+1,1,none⟩) fcx).trans qa21_2
  have qa22_3:w3.cell? ⟨w.heap.size+1+1,2,none⟩=some (.bool ax2_2):=(b3.cell (p:=⟨w.heap.size+1+1,2,none⟩) fcx).trans qa22_2
  have zba2_3:w.heap.size+1+1<w3.heap.size:=fcx
  clear qa20_2 qa21_2 qa22_2
  go_wp2
  go_ret
  exact ⟨rfl,B3⟩
 obtain ⟨R0,R1,R2,hS,hI,hcr⟩:=swingStep_both d0 d1 d2 x3 h3 x4 h4 (by omega) (by omega) (by omega)
 have HS:=Lib.hid hS;have HI:=Lib.hid hI;clear hS hI
 have HW3:=Lib.hid h3
 clear h3
 have HW4:=Lib.hid h4
 clear h4
 have hcb0:=cntt_le tModel d0 (by decide)
 have hcb1:=cntt_le tSwing d1 (by decide)
 have hcb2:=cntt_le tGrads d2 (by decide)
 go_enter Try.func7,Try.ntmps7
 go_wp2_with fail
 refine (szModel_ok _ d0 _ _ (by exact rd_below H0.out belx) (by omega) (by omega) (by omega)).mono ?_
 rintro e w1 ⟨rfl,b1⟩
 have B1:Below w.heap.size w w1:=Below.trans belx (b1.mono fcx)
 have z1:w.heap.size+3≤w1.heap.size:=by have:=b1.size;(try simp only[World.size_alloc,World.size_drew] at this ⊢) <;> omega
 have qa00_1:w1.cell? ⟨w.heap.size,0,none⟩=some (.slice ap0_0 an0_0 aq0_0):=(b1.cell (p:=⟨w.heap.size,0,none⟩) fcx).trans (by repeat' first|exact new_cell (by first|rfl|(simp;done)) rfl|refine (alloc_cell (by first|(simp;done)|(simp;omega))).trans ?_)
 have zba0_1:w.heap.size<w1.heap.size:=fcx
 have qa10_1:w1.cell? ⟨w.heap.size+1,0,none⟩=some (.slice ap1_0 an1_0 aq1_0):=(b1.cell (p:=⟨w.heap.size+1,0,none⟩) fcx).trans (by repeat' first|exact new_cell (by first|rfl|(simp;done)) rfl|refine (alloc_cell (by first|(simp;done)|(simp;omega))).trans ?_)
 have qa11_1:w1.cell? ⟨w.heap.size+1,1,none⟩=some (.int .i64 ax1_1):=(b1.cell (p:=⟨w.heap.size+1,1,none⟩) fcx).trans (by repeat' first|exact new_cell (by first|rfl|(simp;done)) rfl|refine (alloc_cell (by first|(simp;done)|(simp;omega))).trans ?_)
 have zba1_1:w.heap.size+1<w1.heap.size:=fcx
 have qa20_1:w1.cell? ⟨w.heap.size+1+1,0,none⟩=some (.slice ap2_0 an2_0 aq2_0):=(b1.cell (p:=⟨w.heap.size+1+1,0,none⟩) fcx).trans (by repeat' first|exact new_cell (by first|rfl|(simp;done)) rfl|refine (alloc_cell (by first|(simp;done)|(simp;omega))).trans ?_)
 have qa21_1:w1.cell? ⟨w.heap.size+1+1,1,none⟩=some (.int .i64 ax2_1):=(b1.cell (p:=⟨w.heap.size+1+1,1,none⟩) fcx).trans (by repeat' first|exact new_cell (by first|rfl|(simp;done)) rfl|refine (alloc_cell (by first|(simp;done)|(simp;omega))).trans ?_)
 have qa22_1:w1.cell? ⟨w.heap.size+1+1,2,none⟩=some (.bool ax2_2):=(b1.cell (p:=⟨w.heap.size+1+1,2,none⟩) fcx).trans (by repeat' first|exact new_cell (by first|rfl|(simp;done)) rfl|refine (alloc_cell (by first|(simp;done)|(simp;omega))).trans ?_)
 have zba2_1:w.heap.size+1+1<w1.heap.size:=fcx
 obtain ⟨lf0,hlf0⟩:∃ z:Int,z=(1048576:Int) - (szT tModel d0:Nat):=⟨_,rfl⟩
 rw[← hlf0]
 have hnl0:¬ (lf0<0):=by omega
 have hnm0:lf0≤1048576:=by omega
 have HLF0:=Lib.hid hlf0;have hle0:=Int.le_of_eq hlf0;have hge0:=Int.le_of_eq hlf0.symm;clear hlf0
 go_wp2_with fail
 refine (szSwing_ok _ d1 _ _ (by exact rd_below H1.out B1) (by omega) (by omega) (by omega)).mono ?_
 rintro e w2 ⟨rfl,b2⟩
 have B2:Below w.heap.size w w2:=Below.trans B1 (b2.mono fcx)
 have z2:w1.heap.size+0≤w2.heap.size:=by have:=b2.size;(try simp only[World.size_alloc,World.size_drew] at this ⊢) <;> omega
 have qa00_2:w2.cell? ⟨w.heap.size,0,none⟩=some (.slice ap0_0 an0_0 aq0_0):=(b2.cell (p:=⟨w.heap.size,0,none⟩) fcx).trans qa00_1
 have zba0_2:w.heap.size<w2.heap.size:=fcx
 clear qa00_1
 have qa10_2:w2.cell? ⟨w.heap.size+1,0,none⟩=some (.slice ap1_0 an1_0 aq1_0):=(b2.cell (p:=⟨w.heap.size+1,0,none⟩) fcx).trans qa10_1
 have qa11_2:w2.cell? ⟨w.heap.size+1,1,none⟩=some (.int .i64 ax1_1):=(b2.cell (p:=⟨w.heap.size+1,1,none⟩) fcx).trans qa11_1
 have zba1_2:w.heap.size+1<w2.heap.size:=fcx
 clear qa10_1 qa11_1
 have qa20_2:w2.cell? ⟨w.heap.size+1+1,0,none⟩=some (.slice ap2_0 an2_0 aq2_0):=(b2.cell (p:=⟨w.heap.size+1+1,0,none⟩) fcx).trans qa20_1
 have qa21_2:w2.cell? ⟨w.heap.size+1+1,1,none⟩=some (.int .i64 ax2_1):=(b2.cell (p:=⟨w.heap.size+1+1,1,none⟩) fcx).trans qa21_1
 have qa22_2:w2.cell? ⟨w.heap.size+1+1,2,none⟩=some (.bool ax2_2):=(b2.cell (p:=⟨w.heap.size+1+1,2,none⟩) fcx).trans qa22_1
 have zba2_2:w.heap.size+1+1<w2.heap.size:=fcx
 clear qa20_1 qa21_1 qa22_1
 obtain ⟨lf1,hlf1⟩:∃ z:Int,z=lf0 - (szT tSwing d1:Nat):=⟨_,rfl⟩
 rw[← hlf1]
 have hnl1:¬ (lf1<0):=by omega
 have hnm1:lf1≤1048576:=by omega
 have HLF1:=Lib.hid hlf1;have hle1:=Int.le_of_eq hlf1;have hge1:=Int.le_of_eq hlf1.symm;clear hlf1
 go_wp2_with fail
 refine (szGrads_ok _ d2 _ _ (by exact rd_below H2.out B2) (by omega) (by omega) (by omega)).mono ?_
 rintro e w3 ⟨rfl,b3⟩
 have B3:Below w.heap.size w w3:=Below.trans B2 (b3.mono fcx)
 have z3:w2.heap.size+0≤w3.heap.size:=by have:=b3.size;(try simp only[World.size_alloc,World.size_drew] at this ⊢) <;> omega
 have qa00_3:w3.cell? ⟨w.heap.size,0,none⟩=some (.slice ap0_0 an0_0 aq0_0):=(b3.cell (p:=⟨w.heap.size,0,none⟩) fcx).trans qa00_2
 have zba0_3:w.heap.size<w3.heap.size:=fcx
 clear qa00_2
 have qa10_3:w3.cell? ⟨w.heap.size+1,0,none⟩=some (.slice ap1_0 an1_0 aq1_0):=(b3.cell (p:=⟨w.heap.size+1,0,none⟩) fcx).trans qa10_2
 have qa11_3:w3.cell? ⟨w.heap.size+1,1,none⟩=some (.int .i64 ax1_1):=(b3.cell (p:=⟨w.heap.size+1,1,none⟩) fcx).trans qa11_2
 have zba1_3:w.heap.size+1<w3.heap.size:=fcx
 clear qa10_2 qa11_2
 have qa20_3:w3.cell? ⟨w.heap.size+1+1,0,none⟩=some (.slice ap2_0 an2_0 aq2_0):=(b3.cell (p:=⟨w.heap.size+1+1,0,none⟩) fcx).trans qa20_2
 have qa21_3:w3.cell? ⟨w.heap.size+1+1,1,none⟩=some (.int .i64 ax2_1):=(b3.cell (p:=⟨w.heap.size+1+1,1,none⟩) fcx).trans qa21_2
 have qa22_3:w3.cell? ⟨w.heap.size+1+1,2,none⟩=some (.bool ax2_2):=(b3.cell (p:=⟨w.heap.size+1+1,2,none⟩) fcx).trans qa22_2
 have zba2_3:w.heap.size+1+1<w3.heap.size:=fcx
 clear qa20_2 qa21_2 qa22_2
 obtain ⟨lf2,hlf2⟩:∃ z:Int,z=lf1 - (szT tGrads d2:Nat):=⟨_,rfl⟩
 rw[← hlf2]
 have hnl2:¬ (lf2<0):=by omega
 have hnm2:lf2≤1048576:=by omega
 have HLF2:=Lib.hid hlf2;have hle2:=Int.le_of_eq hlf2;have hge2:=Int.le_of_eq hlf2.symm;clear hlf2
 go_wp2_with fail
 go_cut [12,13,14] (fun s12 s13 s14 wx=>∃ (w0rg0:Nat) (w0rg1:Nat) (w0r0dp0:Option Addr) (w0r0dn0:Nat) (w0r0dq0:Nat) (w0r1dp0:Option Addr) (w0r1dn0:Nat) (w0r1dq0:Nat),s12 = .pointer (some ⟨w0rg0,0,none⟩)∧s13 = .pointer (some ⟨w0rg1,0,none⟩)∧s14 = .bool R2∧wx.cell? ⟨w0rg0,0,none⟩=some (.slice w0r0dp0 w0r0dn0 w0r0dq0)∧wx.cell? ⟨w0rg1,0,none⟩=some (.slice w0r1dp0 w0r1dn0 w0r1dq0)∧wx.cell? ⟨w0rg1,1,none⟩=some (.int .i64 R1.2)∧Below w3.heap.size w3 wx∧w3.heap.size≤w0rg0∧w0rg0<wx.heap.size∧w3.heap.size≤w0rg1∧w0rg1<wx.heap.size∧(∃ lo hi,w3.heap.size≤lo∧FrR tModel lo hi wx [.slice w0r0dp0 w0r0dn0 w0r0dq0] R0)∧(∃ lo hi,w3.heap.size≤lo∧FrR tSwing lo hi wx [.slice w0r1dp0 w0r1dn0 w0r1dq0,.int .i64 R1.2] R1))
 case first =>
  rename_i J K' hJ hK
  refine wp_mono (sw_region (d0:=d0) (d1:=d1) (d2:=d2) (x3:=x3) (x4:=x4) (R0:=R0) (R1:=R1) (R2:=R2) (cs0:=[.slice ap0_0 an0_0 aq0_0]) (cs1:=[.slice ap1_0 an1_0 aq1_0,.int .i64 ax1_1]) (cs2:=[.slice ap2_0 an2_0 aq2_0,.int .i64 ax2_1,.bool ax2_2]) (by kernel_rfl) HS.out (by omega) (by omega) (by omega) HW3.out HW4.out rfl rfl (rd_below H0.out B3) (rd_below H1.out B3) (rd_below H2.out B3) rfl rfl rfl rfl rfl (cells1 qa00_3) (cells2 qa10_3 qa11_3) (cells3 qa20_3 qa21_3 qa22_3) (by omega) (by omega) (by omega)) ?_
  rintro ex a' w' ⟨rfl,hk,hd,hr⟩
  refine hK a' w' (Met.intro (hJ a' w' ?_))
  have he:=kept_mk hk hd
  (repeat apply Exists.intro)
  exact ⟨hr,he⟩
 obtain ⟨w0rg0,w0rg1,w0r0dp0,w0r0dn0,w0r0dq0,w0r1dp0,w0r1dn0,w0r1dq0,rfl,rfl,rfl,qw0r00_4,qw0r10_4,qw0r11_4,bcut,w0rg0lo,w0rg0hi,w0rg1lo,w0rg1hi,⟨w0rf0l,w0rf0h,w0rf0z,w0rf0⟩,⟨w0rf1l,w0rf1h,w0rf1z,w0rf1⟩⟩:=hcut
 obtain ⟨w4,rfl⟩:∃ z,z=wc:=⟨_,rfl⟩
 replace w0rf0:=FrR.mono w0rf0 w0rf0z w0rf0.hi_le (Nat.le_refl _)
 replace w0rf1:=FrR.mono w0rf1 w0rf1z w0rf1.hi_le (Nat.le_refl _)
 have B4:Below w.heap.size w w4:=Below.trans B3 (bcut.mono fcx)
 have z4:w3.heap.size+0≤w4.heap.size:=by have:=bcut.size;(try simp only[World.size_alloc,World.size_drew] at this ⊢) <;> omega
 have qa00_4:w4.cell? ⟨w.heap.size,0,none⟩=some (.slice ap0_0 an0_0 aq0_0):=(bcut.cell (p:=⟨w.heap.size,0,none⟩) fcx).trans qa00_3
 have zba0_4:w.heap.size<w4.heap.size:=fcx
 clear qa00_3
 have qa10_4:w4.cell? ⟨w.heap.size+1,0,none⟩=some (.slice ap1_0 an1_0 aq1_0):=(bcut.cell (p:=⟨w.heap.size+1,0,none⟩) fcx).trans qa10_3
 have qa11_4:w4.cell? ⟨w.heap.size+1,1,none⟩=some (.int .i64 ax1_1):=(bcut.cell (p:=⟨w.heap.size+1,1,none⟩) fcx).trans qa11_3
 have zba1_4:w.heap.size+1<w4.heap.size:=fcx
 clear qa10_3 qa11_3
 have qa20_4:w4.cell? ⟨w.heap.size+1+1,0,none⟩=some (.slice ap2_0 an2_0 aq2_0):=(bcut.cell (p:=⟨w.heap.size+1+1,0,none⟩) fcx).trans qa20_3
 have qa21_4:w4.cell? ⟨w.heap.size+1+1,1,none⟩=some (.int .i64 ax2_1):=(bcut.cell (p:=⟨w.heap.size+1+1,1,none⟩) fcx).trans qa21_3
 have qa22_4:w4.cell? ⟨w.heap.size+1+1,2,none⟩=some (.bool ax2_2):=(bcut.cell (p:=⟨w.heap.size+1+1,2,none⟩) fcx).trans qa22_3
 have zba2_4:w.heap.size+1+1<w4.heap.size:=fcx
 clear qa20_3 qa21_3 qa22_3
 have zbw0r0_4:w0rg0<w4.heap.size:=w0rg0hi
 have Fw0r0_4:=Lib.hid w0rf0;clear w0rf0
 have zbw0r1_4:w0rg1<w4.heap.size:=w0rg1hi
 have Fw0r1_4:=Lib.hid w0rf1;clear w0rf1
 go_wp2_with fail
 refine (toModel_any _ d0 _ (by exact rd_below H0.out B4) (by omega)).mono ?_
 rintro e w5 ⟨xcs0,rfl,xf0,b5⟩
 have B5:Below w.heap.size w w5:=Below.trans B4 (b5.mono fcx)
 have z5:w4.heap.size+0≤w5.heap.size:=by have:=b5.size;(try simp only[World.size_alloc,World.size_drew] at this ⊢) <;> omega
 have qa00_5:w5.cell? ⟨w.heap.size,0,none⟩=some (.slice ap0_0 an0_0 aq0_0):=(b5.cell (p:=⟨w.heap.size,0,none⟩) fcx).trans qa00_4
 have zba0_5:w.heap.size<w5.heap.size:=fcx
 clear qa00_4
 have qa10_5:w5.cell? ⟨w.heap.size+1,0,none⟩=some (.slice ap1_0 an1_0 aq1_0):=(b5.cell (p:=⟨w.heap.size+1,0,none⟩) fcx).trans qa10_4
 have qa11_5:w5.cell? ⟨w.heap.size+1,1,none⟩=some (.int .i64 ax1_1):=(b5.cell (p:=⟨w.heap.size+1,1,none⟩) fcx).trans qa11_4
 have zba1_5:w.heap.size+1<w5.heap.size:=fcx
 clear qa10_4 qa11_4
 have qa20_5:w5.cell? ⟨w.heap.size+1+1,0,none⟩=some (.slice ap2_0 an2_0 aq2_0):=(b5.cell (p:=⟨w.heap.size+1+1,0,none⟩) fcx).trans qa20_4
 have qa21_5:w5.cell? ⟨w.heap.size+1+1,1,none⟩=some (.int .i64 ax2_1):=(b5.cell (p:=⟨w.heap.size+1+1,1,none⟩) fcx).trans qa21_4
 have qa22_5:w5.cell? ⟨w.heap.size+1+1,2,none⟩=some (.bool ax2_2):=(b5.cell (p:=⟨w.heap.size+1+1,2,none⟩) fcx).trans qa22_4
 have zba2_5:w.heap.size+1+1<w5.heap.size:=fcx
 clear qa20_4 qa21_4 qa22_4
 have qw0r00_5:w5.cell? ⟨w0rg0,0,none⟩=some (.slice w0r0dp0 w0r0dn0 w0r0dq0):=(b5.cell (p:=⟨w0rg0,0,none⟩) fcx).trans qw0r00_4
 have zbw0r0_5:w0rg0<w5.heap.size:=fcx
 clear qw0r00_4
 have qw0r10_5:w5.cell? ⟨w0rg1,0,none⟩=some (.slice w0r1dp0 w0r1dn0 w0r1dq0):=(b5.cell (p:=⟨w0rg1,0,none⟩) fcx).trans qw0r10_4
 have qw0r11_5:w5.cell? ⟨w0rg1,1,none⟩=some (.int .i64 R1.2):=(b5.cell (p:=⟨w0rg1,1,none⟩) fcx).trans qw0r11_4
 have zbw0r1_5:w0rg1<w5.heap.size:=fcx
 clear qw0r10_4 qw0r11_4
 have Fw0r0_5:=Lib.hid (Fw0r0_4.out.below b5 fcx)
 clear Fw0r0_4
 have Fw0r1_5:=Lib.hid (Fw0r1_4.out.below b5 fcx)
 clear Fw0r1_4
 have rrx0d:=xf0.rd
 obtain ⟨x0dp0,x0dn0,x0dq0,x0dhcs,x0ds0⟩:=rrx0d
 obtain rfl:xcs0 = #[.slice x0dp0 x0dn0 x0dq0]:=arr_of x0dhcs
 clear x0dhcs
 have Fx0_5:=Lib.hid xf0;clear xf0
 go_wp2_with fail
 refine (toSwing_any _ d1 _ (by exact rd_below H1.out belx) (by omega)).mono ?_
 rintro e w6 ⟨xcs1,rfl,xf1,b6⟩
 have B6:Below w.heap.size w w6:=Below.trans belx (b6.mono fcx)
 have z6:w5.heap.size+1≤w6.heap.size:=by have:=b6.size;(try simp only[World.size_alloc,World.size_drew] at this ⊢) <;> omega
 have qa00_6:w6.cell? ⟨w.heap.size,0,none⟩=some (.slice ap0_0 an0_0 aq0_0):=(b6.cell (p:=⟨w.heap.size,0,none⟩) fcx).trans ((alloc_cell (a:=⟨w.heap.size,0,none⟩) fcx).trans qa00_5)
 have zba0_6:w.heap.size<w6.heap.size:=fcx
 clear qa00_5
 have qa10_6:w6.cell? ⟨w.heap.size+1,0,none⟩=some (.slice ap1_0 an1_0 aq1_0):=(b6.cell (p:=⟨w.heap.size+1,0,none⟩) fcx).trans ((alloc_cell (a:=⟨w.heap.size+1,0,none⟩) fcx).trans qa10_5)
 have qa11_6:w6.cell? ⟨w.heap.size+1,1,none⟩=some (.int .i64 ax1_1):=(b6.cell (p:=⟨w.heap.size+1,1,none⟩) fcx).trans ((alloc_cell (a:=⟨w.heap.size+1,1,none⟩) fcx).trans qa11_5)
 have zba1_6:w.heap.size+1<w6.heap.size:=fcx
 clear qa10_5 qa11_5
 have qa20_6:w6.cell? ⟨w.heap.size+1+1,0,none⟩=some (.slice ap2_0 an2_0 aq2_0):=(b6.cell (p:=⟨w.heap.size+1+1,0,none⟩) fcx).trans ((alloc_cell (a:=⟨w.heap.size+1+1,0,none⟩) fcx).trans qa20_5)
 have qa21_6:w6.cell? ⟨w.heap.size+1+1,1,none⟩=some (.int .i64 ax2_1):=(b6.cell (p:=⟨w.heap.size+1+1,1,none⟩) fcx).trans ((alloc_cell (a:=⟨w.heap.size+1+1,1,none⟩) fcx).trans qa21_5)
 have qa22_6:w6.cell? ⟨w.heap.size+1+1,2,none⟩=some (.bool ax2_2):=(b6.cell (p:=⟨w.heap.size+1+1,2,none⟩) fcx).trans ((alloc_cell (a:=⟨w.heap.size+1+1,2,none⟩) fcx).trans qa22_5)
 have zba2_6:w.heap.size+1+1<w6.heap.size:=fcx
 clear qa20_5 qa21_5 qa22_5
 have qw0r00_6:w6.cell? ⟨w0rg0,0,none⟩=some (.slice w0r0dp0 w0r0dn0 w0r0dq0):=(b6.cell (p:=⟨w0rg0,0,none⟩) fcx).trans ((alloc_cell (a:=⟨w0rg0,0,none⟩) fcx).trans qw0r00_5)
 have zbw0r0_6:w0rg0<w6.heap.size:=fcx
 clear qw0r00_5
 have qw0r10_6:w6.cell? ⟨w0rg1,0,none⟩=some (.slice w0r1dp0 w0r1dn0 w0r1dq0):=(b6.cell (p:=⟨w0rg1,0,none⟩) fcx).trans ((alloc_cell (a:=⟨w0rg1,0,none⟩) fcx).trans qw0r10_5)
 have qw0r11_6:w6.cell? ⟨w0rg1,1,none⟩=some (.int .i64 R1.2):=(b6.cell (p:=⟨w0rg1,1,none⟩) fcx).trans ((alloc_cell (a:=⟨w0rg1,1,none⟩) fcx).trans qw0r11_5)
 have zbw0r1_6:w0rg1<w6.heap.size:=fcx
 clear qw0r10_5 qw0r11_5
 have qx00_6:w6.cell? ⟨w5.heap.size,0,none⟩=some (.slice x0dp0 x0dn0 x0dq0):=(b6.cell (p:=⟨w5.heap.size,0,none⟩) fcx).trans (by simp)
 have zbx0_6:w5.heap.size<w6.heap.size:=fcx
 have Fw0r0_6:=Lib.hid ((Fw0r0_5.out.alloc _).below b6 fcx)
 clear Fw0r0_5
 have Fw0r1_6:=Lib.hid ((Fw0r1_5.out.alloc _).below b6 fcx)
 clear Fw0r1_5
 have Fx0_6:=Lib.hid ((Fx0_5.out.alloc _).below b6 fcx)
 clear Fx0_5
 have rrx1d:=xf1.rd
 obtain ⟨_,_,x1dhcs,⟨x1dp0,x1dn0,x1dq0,rfl,x1ds0⟩,⟨rfl,x1dw1⟩⟩:=rrx1d
 obtain rfl:xcs1 = #[.slice x1dp0 x1dn0 x1dq0,.int .i64 d1.2]:=arr_of x1dhcs
 clear x1dhcs
 have Fx1_6:=Lib.hid xf1;clear xf1
 go_wp2_with fail
 refine (toGrads_any _ d2 _ (by exact rd_below H2.out belx) (by omega)).mono ?_
 rintro e w7 ⟨xcs2,rfl,xf2,b7⟩
 have B7:Below w.heap.size w w7:=Below.trans belx (b7.mono fcx)
 have z7:w6.heap.size+1≤w7.heap.size:=by have:=b7.size;(try simp only[World.size_alloc,World.size_drew] at this ⊢) <;> omega
 have qa00_7:w7.cell? ⟨w.heap.size,0,none⟩=some (.slice ap0_0 an0_0 aq0_0):=(b7.cell (p:=⟨w.heap.size,0,none⟩) fcx).trans ((alloc_cell (a:=⟨w.heap.size,0,none⟩) fcx).trans qa00_6)
 have zba0_7:w.heap.size<w7.heap.size:=fcx
 clear qa00_6
 have qa10_7:w7.cell? ⟨w.heap.size+1,0,none⟩=some (.slice ap1_0 an1_0 aq1_0):=(b7.cell (p:=⟨w.heap.size+1,0,none⟩) fcx).trans ((alloc_cell (a:=⟨w.heap.size+1,0,none⟩) fcx).trans qa10_6)
 have qa11_7:w7.cell? ⟨w.heap.size+1,1,none⟩=some (.int .i64 ax1_1):=(b7.cell (p:=⟨w.heap.size+1,1,none⟩) fcx).trans ((alloc_cell (a:=⟨w.heap.size+1,1,none⟩) fcx).trans qa11_6)
 have zba1_7:w.heap.size+1<w7.heap.size:=fcx
 clear qa10_6 qa11_6
 have qa20_7:w7.cell? ⟨w.heap.size+1+1,0,none⟩=some (.slice ap2_0 an2_0 aq2_0):=(b7.cell (p:=⟨w.heap.size+1+1,0,none⟩) fcx).trans ((alloc_cell (a:=⟨w.heap.size+1+1,0,none⟩) fcx).trans qa20_6)
 have qa21_7:w7.cell? ⟨w.heap.size+1+1,1,none⟩=some (.int .i64 ax2_1):=(b7.cell (p:=⟨w.heap.size+1+1,1,none⟩) fcx).trans ((alloc_cell (a:=⟨w.heap.size+1+1,1,none⟩) fcx).trans qa21_6)
 have qa22_7:w7.cell? ⟨w.heap.size+1+1,2,none⟩=some (.bool ax2_2):=(b7.cell (p:=⟨w.heap.size+1+1,2,none⟩) fcx).trans ((alloc_cell (a:=⟨w.heap.size+1+1,2,none⟩) fcx).trans qa22_6)
 have zba2_7:w.heap.size+1+1<w7.heap.size:=fcx
 clear qa20_6 qa21_6 qa22_6
 have qw0r00_7:w7.cell? ⟨w0rg0,0,none⟩=some (.slice w0r0dp0 w0r0dn0 w0r0dq0):=(b7.cell (p:=⟨w0rg0,0,none⟩) fcx).trans ((alloc_cell (a:=⟨w0rg0,0,none⟩) fcx).trans qw0r00_6)
 have zbw0r0_7:w0rg0<w7.heap.size:=fcx
 clear qw0r00_6
 have qw0r10_7:w7.cell? ⟨w0rg1,0,none⟩=some (.slice w0r1dp0 w0r1dn0 w0r1dq0):=(b7.cell (p:=⟨w0rg1,0,none⟩) fcx).trans ((alloc_cell (a:=⟨w0rg1,0,none⟩) fcx).trans qw0r10_6)
 have qw0r11_7:w7.cell? ⟨w0rg1,1,none⟩=some (.int .i64 R1.2):=(b7.cell (p:=⟨w0rg1,1,none⟩) fcx).trans ((alloc_cell (a:=⟨w0rg1,1,none⟩) fcx).trans qw0r11_6)
 have zbw0r1_7:w0rg1<w7.heap.size:=fcx
 clear qw0r10_6 qw0r11_6
 have qx00_7:w7.cell? ⟨w5.heap.size,0,none⟩=some (.slice x0dp0 x0dn0 x0dq0):=(b7.cell (p:=⟨w5.heap.size,0,none⟩) fcx).trans ((alloc_cell (a:=⟨w5.heap.size,0,none⟩) fcx).trans qx00_6)
 have zbx0_7:w5.heap.size<w7.heap.size:=fcx
 clear qx00_6
 have qx10_7:w7.cell? ⟨w6.heap.size,0,none⟩=some (.slice x1dp0 x1dn0 x1dq0):=(b7.cell (p:=⟨w6.heap.size,0,none⟩) fcx).trans (by simp)
 have qx11_7:w7.cell? ⟨w6.heap.size,1,none⟩=some (.int .i64 d1.2):=(b7.cell (p:=⟨w6.heap.size,1,none⟩) fcx).trans (by simp)
 have zbx1_7:w6.heap.size<w7.heap.size:=fcx
 have Fw0r0_7:=Lib.hid ((Fw0r0_6.out.alloc _).below b7 fcx)
 clear Fw0r0_6
 have Fw0r1_7:=Lib.hid ((Fw0r1_6.out.alloc _).below b7 fcx)
 clear Fw0r1_6
 have Fx0_7:=Lib.hid ((Fx0_6.out.alloc _).below b7 fcx)
 clear Fx0_6
 have Fx1_7:=Lib.hid ((Fx1_6.out.alloc _).below b7 fcx)
 clear Fx1_6
 have rrx2d:=xf2.rd
 obtain ⟨_,_,x2dhcs,⟨x2dp0,x2dn0,x2dq0,rfl,x2ds0⟩,⟨_,_,rfl,⟨rfl,x2dw1⟩,rfl⟩⟩:=rrx2d
 obtain rfl:xcs2 = #[.slice x2dp0 x2dn0 x2dq0,.int .i64 d2.2.1,.bool d2.2.2]:=arr_of x2dhcs
 clear x2dhcs
 have Fx2_7:=Lib.hid xf2;clear xf2
 go_wp2_with fail
 refine (HI.out _ _ _ _ (by exact ((Fx0_7.out.alloc _)).rd) (by exact ((Fx1_7.out.alloc _)).rd) (by exact ((Fx2_7.out.alloc _)).rd)).mono ?_
 rintro e w8 ⟨g0rcs0,g0rcs1,g0ry0,g0ry1,rfl,g0rf0,g0rf1,g0rdis,b8⟩
 have B8:Below w.heap.size w w8:=Below.trans belx (b8.mono fcx)
 have z8:w7.heap.size+1≤w8.heap.size:=by have:=b8.size;(try simp only[World.size_alloc,World.size_drew] at this ⊢) <;> omega
 have qa00_8:w8.cell? ⟨w.heap.size,0,none⟩=some (.slice ap0_0 an0_0 aq0_0):=(b8.cell (p:=⟨w.heap.size,0,none⟩) fcx).trans ((alloc_cell (a:=⟨w.heap.size,0,none⟩) fcx).trans qa00_7)
 have zba0_8:w.heap.size<w8.heap.size:=fcx
 clear qa00_7
 have qa10_8:w8.cell? ⟨w.heap.size+1,0,none⟩=some (.slice ap1_0 an1_0 aq1_0):=(b8.cell (p:=⟨w.heap.size+1,0,none⟩) fcx).trans ((alloc_cell (a:=⟨w.heap.size+1,0,none⟩) fcx).trans qa10_7)
 have qa11_8:w8.cell? ⟨w.heap.size+1,1,none⟩=some (.int .i64 ax1_1):=(b8.cell (p:=⟨w.heap.size+1,1,none⟩) fcx).trans ((alloc_cell (a:=⟨w.heap.size+1,1,none⟩) fcx).trans qa11_7)
 have zba1_8:w.heap.size+1<w8.heap.size:=fcx
 clear qa10_7 qa11_7
 have qa20_8:w8.cell? ⟨w.heap.size+1+1,0,none⟩=some (.slice ap2_0 an2_0 aq2_0):=(b8.cell (p:=⟨w.heap.size+1+1,0,none⟩) fcx).trans ((alloc_cell (a:=⟨w.heap.size+1+1,0,none⟩) fcx).trans qa20_7)
 have qa21_8:w8.cell? ⟨w.heap.size+1+1,1,none⟩=some (.int .i64 ax2_1):=(b8.cell (p:=⟨w.heap.size+1+1,1,none⟩) fcx).trans ((alloc_cell (a:=⟨w.heap.size+1+1,1,none⟩) fcx).trans qa21_7)
 have qa22_8:w8.cell? ⟨w.heap.size+1+1,2,none⟩=some (.bool ax2_2):=(b8.cell (p:=⟨w.heap.size+1+1,2,none⟩) fcx).trans ((alloc_cell (a:=⟨w.heap.size+1+1,2,none⟩) fcx).trans qa22_7)
 have zba2_8:w.heap.size+1+1<w8.heap.size:=fcx
 clear qa20_7 qa21_7 qa22_7
 have qw0r00_8:w8.cell? ⟨w0rg0,0,none⟩=some (.slice w0r0dp0 w0r0dn0 w0r0dq0):=(b8.cell (p:=⟨w0rg0,0,none⟩) fcx).trans ((alloc_cell (a:=⟨w0rg0,0,none⟩) fcx).trans qw0r00_7)
 have zbw0r0_8:w0rg0<w8.heap.size:=fcx
 clear qw0r00_7
 have qw0r10_8:w8.cell? ⟨w0rg1,0,none⟩=some (.slice w0r1dp0 w0r1dn0 w0r1dq0):=(b8.cell (p:=⟨w0rg1,0,none⟩) fcx).trans ((alloc_cell (a:=⟨w0rg1,0,none⟩) fcx).trans qw0r10_7)
 have qw0r11_8:w8.cell? ⟨w0rg1,1,none⟩=some (.int .i64 R1.2):=(b8.cell (p:=⟨w0rg1,1,none⟩) fcx).trans ((alloc_cell (a:=⟨w0rg1,1,none⟩) fcx).trans qw0r11_7)
 have zbw0r1_8:w0rg1<w8.heap.size:=fcx
 clear qw0r10_7 qw0r11_7
 have qx00_8:w8.cell? ⟨w5.heap.size,0,none⟩=some (.slice x0dp0 x0dn0 x0dq0):=(b8.cell (p:=⟨w5.heap.size,0,none⟩) fcx).trans ((alloc_cell (a:=⟨w5.heap.size,0,none⟩) fcx).trans qx00_7)
 have zbx0_8:w5.heap.size<w8.heap.size:=fcx
 clear qx00_7
 have qx10_8:w8.cell? ⟨w6.heap.size,0,none⟩=some (.slice x1dp0 x1dn0 x1dq0):=(b8.cell (p:=⟨w6.heap.size,0,none⟩) fcx).trans ((alloc_cell (a:=⟨w6.heap.size,0,none⟩) fcx).trans qx10_7)
 have qx11_8:w8.cell? ⟨w6.heap.size,1,none⟩=some (.int .i64 d1.2):=(b8.cell (p:=⟨w6.heap.size,1,none⟩) fcx).trans ((alloc_cell (a:=⟨w6.heap.size,1,none⟩) fcx).trans qx11_7)
 have zbx1_8:w6.heap.size<w8.heap.size:=fcx
 clear qx10_7 qx11_7
 have qx20_8:w8.cell? ⟨w7.heap.size,0,none⟩=some (.slice x2dp0 x2dn0 x2dq0):=(b8.cell (p:=⟨w7.heap.size,0,none⟩) fcx).trans (by simp)
 have qx21_8:w8.cell? ⟨w7.heap.size,1,none⟩=some (.int .i64 d2.2.1):=(b8.cell (p:=⟨w7.heap.size,1,none⟩) fcx).trans (by simp)
 have qx22_8:w8.cell? ⟨w7.heap.size,2,none⟩=some (.bool d2.2.2):=(b8.cell (p:=⟨w7.heap.size,2,none⟩) fcx).trans (by simp)
 have zbx2_8:w7.heap.size<w8.heap.size:=fcx
 have Fw0r0_8:=Lib.hid ((Fw0r0_7.out.alloc _).below b8 fcx)
 clear Fw0r0_7
 have Fw0r1_8:=Lib.hid ((Fw0r1_7.out.alloc _).below b8 fcx)
 clear Fw0r1_7
 have Fx0_8:=Lib.hid ((Fx0_7.out.alloc _).below b8 fcx)
 clear Fx0_7
 have Fx1_8:=Lib.hid ((Fx1_7.out.alloc _).below b8 fcx)
 clear Fx1_7
 have Fx2_8:=Lib.hid ((Fx2_7.out.alloc _).below b8 fcx)
 clear Fx2_7
 have rrg0r0d:=g0rf0.rd
 obtain ⟨g0r0dp0,g0r0dn0,g0r0dq0,g0r0dhcs,g0r0ds0⟩:=rrg0r0d
 obtain rfl:g0rcs0 = #[.slice g0r0dp0 g0r0dn0 g0r0dq0]:=arr_of g0r0dhcs
 clear g0r0dhcs
 have Fg0r0_8:=Lib.hid g0rf0;clear g0rf0
 have rrg0r1d:=g0rf1.rd
 obtain ⟨_,_,g0r1dhcs,⟨g0r1dp0,g0r1dn0,g0r1dq0,rfl,g0r1ds0⟩,⟨rfl,g0r1dw1⟩⟩:=rrg0r1d
 obtain rfl:g0rcs1 = #[.slice g0r1dp0 g0r1dn0 g0r1dq0,.int .i64 R1.2]:=arr_of g0r1dhcs
 clear g0r1dhcs
 have Fg0r1_8:=Lib.hid g0rf1;clear g0rf1
 go_wp2_with fail
 refine (eqModel_any _ _ R0 _ (by exact (((Fg0r0_8.out.alloc _).alloc _)).rd) (by exact (((Fw0r0_8.out.alloc _).alloc _)).rd)).mono ?_
 rintro e w9 ⟨rfl,b9⟩
 have B9:Below w.heap.size w w9:=Below.trans belx (b9.mono fcx)
 have z9:w8.heap.size+2≤w9.heap.size:=by have:=b9.size;(try simp only[World.size_alloc,World.size_drew] at this ⊢) <;> omega
 have qa00_9:w9.cell? ⟨w.heap.size,0,none⟩=some (.slice ap0_0 an0_0 aq0_0):=(b9.cell (p:=⟨w.heap.size,0,none⟩) fcx).trans ((alloc_cell (a:=⟨w.heap.size,0,none⟩) fcx).trans ((alloc_cell (a:=⟨w.heap.size,0,none⟩) fcx).trans qa00_8))
 have zba0_9:w.heap.size<w9.heap.size:=fcx
 clear qa00_8
 have qa10_9:w9.cell? ⟨w.heap.size+1,0,none⟩=some (.slice ap1_0 an1_0 aq1_0):=(b9.cell (p:=⟨w.heap.size+1,0,none⟩) fcx).trans ((alloc_cell (a:=⟨w.heap.size+1,0,none⟩) fcx).trans ((alloc_cell (a:=⟨w.heap.size+1,0,none⟩) fcx).trans qa10_8))
 have qa11_9:w9.cell? ⟨w.heap.size+1,1,none⟩=some (.int .i64 ax1_1):=(b9.cell (p:=⟨w.heap.size+1,1,none⟩) fcx).trans ((alloc_cell (a:=⟨w.heap.size+1,1,none⟩) fcx).trans ((alloc_cell (a:=⟨w.heap.size+1,1,none⟩) fcx).trans qa11_8))
 have zba1_9:w.heap.size+1<w9.heap.size:=fcx
 clear qa10_8 qa11_8
 have qa20_9:w9.cell? ⟨w.heap.size+1+1,0,none⟩=some (.slice ap2_0 an2_0 aq2_0):=(b9.cell (p:=⟨w.heap.size+1+1,0,none⟩) fcx).trans ((alloc_cell (a:=⟨w.heap.size+1+1,0,none⟩) fcx).trans ((alloc_cell (a:=⟨w.heap.size+1+1,0,none⟩) fcx).trans qa20_8))
 have qa21_9:w9.cell? ⟨w.heap.size+1+1,1,none⟩=some (.int .i64 ax2_1):=(b9.cell (p:=⟨w.heap.size+1+1,1,none⟩) fcx).trans ((alloc_cell (a:=⟨w.heap.size+1+1,1,none⟩) fcx).trans ((alloc_cell (a:=⟨w.heap.size+1+1,1,none⟩) fcx).trans qa21_8))
 have qa22_9:w9.cell? ⟨w.heap.size+1+1,2,none⟩=some (.bool ax2_2):=(b9.cell (p:=⟨w.heap.size+1+1,2,none⟩) fcx).trans ((alloc_cell (a:=⟨w.heap.size+1+1,2,none⟩) fcx).trans ((alloc_cell (a:=⟨w.heap.size+1+1,2,none⟩) fcx).trans qa22_8))
 have zba2_9:w.heap.size+1+1<w9.heap.size:=fcx
 clear qa20_8 qa21_8 qa22_8
 have qw0r00_9:w9.cell? ⟨w0rg0,0,none⟩=some (.slice w0r0dp0 w0r0dn0 w0r0dq0):=(b9.cell (p:=⟨w0rg0,0,none⟩) fcx).trans ((alloc_cell (a:=⟨w0rg0,0,none⟩) fcx).trans ((alloc_cell (a:=⟨w0rg0,0,none⟩) fcx).trans qw0r00_8))
 have zbw0r0_9:w0rg0<w9.heap.size:=fcx
 clear qw0r00_8
 have qw0r10_9:w9.cell? ⟨w0rg1,0,none⟩=some (.slice w0r1dp0 w0r1dn0 w0r1dq0):=(b9.cell (p:=⟨w0rg1,0,none⟩) fcx).trans ((alloc_cell (a:=⟨w0rg1,0,none⟩) fcx).trans ((alloc_cell (a:=⟨w0rg1,0,none⟩) fcx).trans qw0r10_8))
 have qw0r11_9:w9.cell? ⟨w0rg1,1,none⟩=some (.int .i64 R1.2):=(b9.cell (p:=⟨w0rg1,1,none⟩) fcx).trans ((alloc_cell (a:=⟨w0rg1,1,none⟩) fcx).trans ((alloc_cell (a:=⟨w0rg1,1,none⟩) fcx).trans qw0r11_8))
 have zbw0r1_9:w0rg1<w9.heap.size:=fcx
 clear qw0r10_8 qw0r11_8
 have qx00_9:w9.cell? ⟨w5.heap.size,0,none⟩=some (.slice x0dp0 x0dn0 x0dq0):=(b9.cell (p:=⟨w5.heap.size,0,none⟩) fcx).trans ((alloc_cell (a:=⟨w5.heap.size,0,none⟩) fcx).trans ((alloc_cell (a:=⟨w5.heap.size,0,none⟩) fcx).trans qx00_8))
 have zbx0_9:w5.heap.size<w9.heap.size:=fcx
 clear qx00_8
 have qx10_9:w9.cell? ⟨w6.heap.size,0,none⟩=some (.slice x1dp0 x1dn0 x1dq0):=(b9.cell (p:=⟨w6.heap.size,0,none⟩) fcx).trans ((alloc_cell (a:=⟨w6.heap.size,0,none⟩) fcx).trans ((alloc_cell (a:=⟨w6.heap.size,0,none⟩) fcx).trans qx10_8))
 have qx11_9:w9.cell? ⟨w6.heap.size,1,none⟩=some (.int .i64 d1.2):=(b9.cell (p:=⟨w6.heap.size,1,none⟩) fcx).trans ((alloc_cell (a:=⟨w6.heap.size,1,none⟩) fcx).trans ((alloc_cell (a:=⟨w6.heap.size,1,none⟩) fcx).trans qx11_8))
 have zbx1_9:w6.heap.size<w9.heap.size:=fcx
 clear qx10_8 qx11_8
 have qx20_9:w9.cell? ⟨w7.heap.size,0,none⟩=some (.slice x2dp0 x2dn0 x2dq0):=(b9.cell (p:=⟨w7.heap.size,0,none⟩) fcx).trans ((alloc_cell (a:=⟨w7.heap.size,0,none⟩) fcx).trans ((alloc_cell (a:=⟨w7.heap.size,0,none⟩) fcx).trans qx20_8))
 have qx21_9:w9.cell? ⟨w7.heap.size,1,none⟩=some (.int .i64 d2.2.1):=(b9.cell (p:=⟨w7.heap.size,1,none⟩) fcx).trans ((alloc_cell (a:=⟨w7.heap.size,1,none⟩) fcx).trans ((alloc_cell (a:=⟨w7.heap.size,1,none⟩) fcx).trans qx21_8))
 have qx22_9:w9.cell? ⟨w7.heap.size,2,none⟩=some (.bool d2.2.2):=(b9.cell (p:=⟨w7.heap.size,2,none⟩) fcx).trans ((alloc_cell (a:=⟨w7.heap.size,2,none⟩) fcx).trans ((alloc_cell (a:=⟨w7.heap.size,2,none⟩) fcx).trans qx22_8))
 have zbx2_9:w7.heap.size<w9.heap.size:=fcx
 clear qx20_8 qx21_8 qx22_8
 have qg0r00_9:w9.cell? ⟨w8.heap.size,0,none⟩=some (.slice g0r0dp0 g0r0dn0 g0r0dq0):=(b9.cell (p:=⟨w8.heap.size,0,none⟩) fcx).trans (by repeat' first|exact new_cell (by first|rfl|(simp;done)) rfl|refine (alloc_cell (by first|(simp;done)|(simp;omega))).trans ?_)
 have zbg0r0_9:w8.heap.size<w9.heap.size:=fcx
 have qg0r10_9:w9.cell? ⟨w8.heap.size+1,0,none⟩=some (.slice g0r1dp0 g0r1dn0 g0r1dq0):=(b9.cell (p:=⟨w8.heap.size+1,0,none⟩) fcx).trans (by repeat' first|exact new_cell (by first|rfl|(simp;done)) rfl|refine (alloc_cell (by first|(simp;done)|(simp;omega))).trans ?_)
 have qg0r11_9:w9.cell? ⟨w8.heap.size+1,1,none⟩=some (.int .i64 R1.2):=(b9.cell (p:=⟨w8.heap.size+1,1,none⟩) fcx).trans (by repeat' first|exact new_cell (by first|rfl|(simp;done)) rfl|refine (alloc_cell (by first|(simp;done)|(simp;omega))).trans ?_)
 have zbg0r1_9:w8.heap.size+1<w9.heap.size:=fcx
 have Fw0r0_9:=Lib.hid (((Fw0r0_8.out.alloc _).alloc _).below b9 fcx)
 clear Fw0r0_8
 have Fw0r1_9:=Lib.hid (((Fw0r1_8.out.alloc _).alloc _).below b9 fcx)
 clear Fw0r1_8
 have Fx0_9:=Lib.hid (((Fx0_8.out.alloc _).alloc _).below b9 fcx)
 clear Fx0_8
 have Fx1_9:=Lib.hid (((Fx1_8.out.alloc _).alloc _).below b9 fcx)
 clear Fx1_8
 have Fx2_9:=Lib.hid (((Fx2_8.out.alloc _).alloc _).below b9 fcx)
 clear Fx2_8
 have Fg0r0_9:=Lib.hid (((Fg0r0_8.out.alloc _).alloc _).below b9 fcx)
 clear Fg0r0_8
 have Fg0r1_9:=Lib.hid (((Fg0r1_8.out.alloc _).alloc _).below b9 fcx)
 clear Fg0r1_8
 go_wp2_with fail
 refine (eqSwing_any _ _ R1 _ (by exact (Fg0r1_9.out).rd) (by exact (Fw0r1_9.out).rd)).mono ?_
 rintro e w10 ⟨rfl,b10⟩
 have B10:Below w.heap.size w w10:=Below.trans B9 (b10.mono fcx)
 have z10:w9.heap.size+0≤w10.heap.size:=by have:=b10.size;(try simp only[World.size_alloc,World.size_drew] at this ⊢) <;> omega
 have qa00_10:w10.cell? ⟨w.heap.size,0,none⟩=some (.slice ap0_0 an0_0 aq0_0):=(b10.cell (p:=⟨w.heap.size,0,none⟩) fcx).trans qa00_9
 have zba0_10:w.heap.size<w10.heap.size:=fcx
 clear qa00_9
 have qa10_10:w10.cell? ⟨w.heap.size+1,0,none⟩=some (.slice ap1_0 an1_0 aq1_0):=(b10.cell (p:=⟨w.heap.size+1,0,none⟩) fcx).trans qa10_9
 have qa11_10:w10.cell? ⟨w.heap.size+1,1,none⟩=some (.int .i64 ax1_1):=(b10.cell (p:=⟨w.heap.size+1,1,none⟩) fcx).trans qa11_9
 have zba1_10:w.heap.size+1<w10.heap.size:=fcx
 clear qa10_9 qa11_9
 have qa20_10:w10.cell? ⟨w.heap.size+1+1,0,none⟩=some (.slice ap2_0 an2_0 aq2_0):=(b10.cell (p:=⟨w.heap.size+1+1,0,none⟩) fcx).trans qa20_9
 have qa21_10:w10.cell? ⟨w.heap.size+1+1,1,none⟩=some (.int .i64 ax2_1):=(b10.cell (p:=⟨w.heap.size+1+1,1,none⟩) fcx).trans qa21_9
 have qa22_10:w10.cell? ⟨w.heap.size+1+1,2,none⟩=some (.bool ax2_2):=(b10.cell (p:=⟨w.heap.size+1+1,2,none⟩) fcx).trans qa22_9
 have zba2_10:w.heap.size+1+1<w10.heap.size:=fcx
 clear qa20_9 qa21_9 qa22_9
 have qw0r00_10:w10.cell? ⟨w0rg0,0,none⟩=some (.slice w0r0dp0 w0r0dn0 w0r0dq0):=(b10.cell (p:=⟨w0rg0,0,none⟩) fcx).trans qw0r00_9
 have zbw0r0_10:w0rg0<w10.heap.size:=fcx
 clear qw0r00_9
 have qw0r10_10:w10.cell? ⟨w0rg1,0,none⟩=some (.slice w0r1dp0 w0r1dn0 w0r1dq0):=(b10.cell (p:=⟨w0rg1,0,none⟩) fcx).trans qw0r10_9
 have qw0r11_10:w10.cell? ⟨w0rg1,1,none⟩=some (.int .i64 R1.2):=(b10.cell (p:=⟨w0rg1,1,none⟩) fcx).trans qw0r11_9
 have zbw0r1_10:w0rg1<w10.heap.size:=fcx
 clear qw0r10_9 qw0r11_9
 have qx00_10:w10.cell? ⟨w5.heap.size,0,none⟩=some (.slice x0dp0 x0dn0 x0dq0):=(b10.cell (p:=⟨w5.heap.size,0,none⟩) fcx).trans qx00_9
 have zbx0_10:w5.heap.size<w10.heap.size:=fcx
 clear qx00_9
 have qx10_10:w10.cell? ⟨w6.heap.size,0,none⟩=some (.slice x1dp0 x1dn0 x1dq0):=(b10.cell (p:=⟨w6.heap.size,0,none⟩) fcx).trans qx10_9
 have qx11_10:w10.cell? ⟨w6.heap.size,1,none⟩=some (.int .i64 d1.2):=(b10.cell (p:=⟨w6.heap.size,1,none⟩) fcx).trans qx11_9
 have zbx1_10:w6.heap.size<w10.heap.size:=fcx
 clear qx10_9 qx11_9
 have qx20_10:w10.cell? ⟨w7.heap.size,0,none⟩=some (.slice x2dp0 x2dn0 x2dq0):=(b10.cell (p:=⟨w7.heap.size,0,none⟩) fcx).trans qx20_9
 have qx21_10:w10.cell? ⟨w7.heap.size,1,none⟩=some (.int .i64 d2.2.1):=(b10.cell (p:=⟨w7.heap.size,1,none⟩) fcx).trans qx21_9
 have qx22_10:w10.cell? ⟨w7.heap.size,2,none⟩=some (.bool d2.2.2):=(b10.cell (p:=⟨w7.heap.size,2,none⟩) fcx).trans qx22_9
 have zbx2_10:w7.heap.size<w10.heap.size:=fcx
 clear qx20_9 qx21_9 qx22_9
 have qg0r00_10:w10.cell? ⟨w8.heap.size,0,none⟩=some (.slice g0r0dp0 g0r0dn0 g0r0dq0):=(b10.cell (p:=⟨w8.heap.size,0,none⟩) fcx).trans qg0r00_9
 have zbg0r0_10:w8.heap.size<w10.heap.size:=fcx
 clear qg0r00_9
 have qg0r10_10:w10.cell? ⟨w8.heap.size+1,0,none⟩=some (.slice g0r1dp0 g0r1dn0 g0r1dq0):=(b10.cell (p:=⟨w8.heap.size+1,0,none⟩) fcx).trans qg0r10_9
 have qg0r11_10:w10.cell? ⟨w8.heap.size+1,1,none⟩=some (.int .i64 R1.2):=(b10.cell (p:=⟨w8.heap.size+1,1,none⟩) fcx).trans qg0r11_9
 have zbg0r1_10:w8.heap.size+1<w10.heap.size:=fcx
 clear qg0r10_9 qg0r11_9
 have Fw0r0_10:=Lib.hid (Fw0r0_9.out.below b10 fcx)
 clear Fw0r0_9
 have Fw0r1_10:=Lib.hid (Fw0r1_9.out.below b10 fcx)
 clear Fw0r1_9
 have Fx0_10:=Lib.hid (Fx0_9.out.below b10 fcx)
 clear Fx0_9
 have Fx1_10:=Lib.hid (Fx1_9.out.below b10 fcx)
 clear Fx1_9
 have Fx2_10:=Lib.hid (Fx2_9.out.below b10 fcx)
 clear Fx2_9
 have Fg0r0_10:=Lib.hid (Fg0r0_9.out.below b10 fcx)
 clear Fg0r0_9
 have Fg0r1_10:=Lib.hid (Fg0r1_9.out.below b10 fcx)
 clear Fg0r1_9
 go_wp2_with fail
 go_region_held3 (fun w'=>w'.cell? ⟨w.heap.size,0,none⟩=some (.slice ap0_0 an0_0 aq0_0)∧w'.cell? ⟨w.heap.size+1,0,none⟩=some (.slice ap1_0 an1_0 aq1_0)∧w'.cell? ⟨w.heap.size+1,1,none⟩=some (.int .i64 ax1_1)∧w'.cell? ⟨w.heap.size+1+1,0,none⟩=some (.slice ap2_0 an2_0 aq2_0)∧w'.cell? ⟨w.heap.size+1+1,1,none⟩=some (.int .i64 ax2_1)∧w'.cell? ⟨w.heap.size+1+1,2,none⟩=some (.bool ax2_2)∧w'.cell? ⟨w0rg0,0,none⟩=some (.slice w0r0dp0 w0r0dn0 w0r0dq0)∧w'.cell? ⟨w0rg1,0,none⟩=some (.slice w0r1dp0 w0r1dn0 w0r1dq0)∧w'.cell? ⟨w0rg1,1,none⟩=some (.int .i64 R1.2)∧w'.cell? ⟨w5.heap.size,0,none⟩=some (.slice x0dp0 x0dn0 x0dq0)∧w'.cell? ⟨w6.heap.size,0,none⟩=some (.slice x1dp0 x1dn0 x1dq0)∧w'.cell? ⟨w6.heap.size,1,none⟩=some (.int .i64 d1.2)∧w'.cell? ⟨w7.heap.size,0,none⟩=some (.slice x2dp0 x2dn0 x2dq0)∧w'.cell? ⟨w7.heap.size,1,none⟩=some (.int .i64 d2.2.1)∧w'.cell? ⟨w7.heap.size,2,none⟩=some (.bool d2.2.2)∧w'.cell? ⟨w8.heap.size,0,none⟩=some (.slice g0r0dp0 g0r0dn0 g0r0dq0)∧w'.cell? ⟨w8.heap.size+1,0,none⟩=some (.slice g0r1dp0 g0r1dn0 g0r1dq0)∧w'.cell? ⟨w8.heap.size+1,1,none⟩=some (.int .i64 R1.2)) (first|go_keep|((try dsimp only);(repeat' apply And.intro) <;> (first|go_keep|(refine ((Below.cell b12 ?_).trans ((Below.cell b11 ?_).trans ?_)) <;> first|assumption|omega|(simp;omega)|(simp;assumption))|(refine ((Below.cell b11 ?_).trans ?_) <;> first|assumption|omega|(simp;omega)|(simp;assumption))))) ((first|(go_at_call 33;refine (toModel_any _ d0 _ (by exact rd_below H0.out belx) (by omega)).mono ?_;rintro e w11 ⟨ycs0,rfl,yf0,b11⟩;have B11:Below w.heap.size w w11:=Below.trans belx (b11.mono fcx);have z11:w10.heap.size≤w11.heap.size:=by have:=b11.size;(try simp only[World.size_alloc,World.size_drew] at this ⊢) <;> omega)|(go_at_call 37;refine (eqModel_any _ _ d0 _ (by exact ((Fx0_10.out.keep (w':=w10.drew) (fun _ _ _=>rfl) (Nat.le_refl _)).below b11 fcx).rd) (by exact yf0.rd)).mono ?_;rintro e w12 ⟨rfl,b12⟩;have B12:Below w.heap.size w w12:=B11.trans (b12.mono fcx);have z12:=b12.size)))
 have hS:=‹_∧_›
 obtain ⟨qa00_12,qa10_12,qa11_12,qa20_12,qa21_12,qa22_12,qw0r00_12,qw0r10_12,qw0r11_12,qx00_12,qx10_12,qx11_12,qx20_12,qx21_12,qx22_12,qg0r00_12,qg0r10_12,qg0r11_12⟩:=hS
 have zba0_12:w.heap.size<w12.heap.size:=fcx
 have zba1_12:w.heap.size+1<w12.heap.size:=fcx
 have zba2_12:w.heap.size+1+1<w12.heap.size:=fcx
 have zbw0r0_12:w0rg0<w12.heap.size:=fcx
 have zbw0r1_12:w0rg1<w12.heap.size:=fcx
 have zbx0_12:w5.heap.size<w12.heap.size:=fcx
 have zbx1_12:w6.heap.size<w12.heap.size:=fcx
 have zbx2_12:w7.heap.size<w12.heap.size:=fcx
 have zbg0r0_12:w8.heap.size<w12.heap.size:=fcx
 have zbg0r1_12:w8.heap.size+1<w12.heap.size:=fcx
 have Fw0r0_12:=Lib.hid (((Fw0r0_10.out.keep (w':=w10.drew) (fun _ _ _=>rfl) (Nat.le_refl _)).below b11 fcx).below b12 fcx)
 clear Fw0r0_10
 have Fw0r1_12:=Lib.hid (((Fw0r1_10.out.keep (w':=w10.drew) (fun _ _ _=>rfl) (Nat.le_refl _)).below b11 fcx).below b12 fcx)
 clear Fw0r1_10
 have Fx0_12:=Lib.hid (((Fx0_10.out.keep (w':=w10.drew) (fun _ _ _=>rfl) (Nat.le_refl _)).below b11 fcx).below b12 fcx)
 clear Fx0_10
 have Fx1_12:=Lib.hid (((Fx1_10.out.keep (w':=w10.drew) (fun _ _ _=>rfl) (Nat.le_refl _)).below b11 fcx).below b12 fcx)
 clear Fx1_10
 have Fx2_12:=Lib.hid (((Fx2_10.out.keep (w':=w10.drew) (fun _ _ _=>rfl) (Nat.le_refl _)).below b11 fcx).below b12 fcx)
 clear Fx2_10
 have Fg0r0_12:=Lib.hid (((Fg0r0_10.out.keep (w':=w10.drew) (fun _ _ _=>rfl) (Nat.le_refl _)).below b11 fcx).below b12 fcx)
 clear Fg0r0_10
 have Fg0r1_12:=Lib.hid (((Fg0r1_10.out.keep (w':=w10.drew) (fun _ _ _=>rfl) (Nat.le_refl _)).below b11 fcx).below b12 fcx)
 clear Fg0r1_10
 go_wp2_with fail
 go_region_held3 (fun w'=>w'.cell? ⟨w.heap.size,0,none⟩=some (.slice ap0_0 an0_0 aq0_0)∧w'.cell? ⟨w.heap.size+1,0,none⟩=some (.slice ap1_0 an1_0 aq1_0)∧w'.cell? ⟨w.heap.size+1,1,none⟩=some (.int .i64 ax1_1)∧w'.cell? ⟨w.heap.size+1+1,0,none⟩=some (.slice ap2_0 an2_0 aq2_0)∧w'.cell? ⟨w.heap.size+1+1,1,none⟩=some (.int .i64 ax2_1)∧w'.cell? ⟨w.heap.size+1+1,2,none⟩=some (.bool ax2_2)∧w'.cell? ⟨w0rg0,0,none⟩=some (.slice w0r0dp0 w0r0dn0 w0r0dq0)∧w'.cell? ⟨w0rg1,0,none⟩=some (.slice w0r1dp0 w0r1dn0 w0r1dq0)∧w'.cell? ⟨w0rg1,1,none⟩=some (.int .i64 R1.2)∧w'.cell? ⟨w5.heap.size,0,none⟩=some (.slice x0dp0 x0dn0 x0dq0)∧w'.cell? ⟨w6.heap.size,0,none⟩=some (.slice x1dp0 x1dn0 x1dq0)∧w'.cell? ⟨w6.heap.size,1,none⟩=some (.int .i64 d1.2)∧w'.cell? ⟨w7.heap.size,0,none⟩=some (.slice x2dp0 x2dn0 x2dq0)∧w'.cell? ⟨w7.heap.size,1,none⟩=some (.int .i64 d2.2.1)∧w'.cell? ⟨w7.heap.size,2,none⟩=some (.bool d2.2.2)∧w'.cell? ⟨w8.heap.size,0,none⟩=some (.slice g0r0dp0 g0r0dn0 g0r0dq0)∧w'.cell? ⟨w8.heap.size+1,0,none⟩=some (.slice g0r1dp0 g0r1dn0 g0r1dq0)∧w'.cell? ⟨w8.heap.size+1,1,none⟩=some (.int .i64 R1.2)) (first|go_keep|((try dsimp only);(repeat' apply And.intro) <;> (first|go_keep|(refine ((Below.cell b14 ?_).trans ((Below.cell b13 ?_).trans ?_)) <;> first|assumption|omega|(simp;omega)|(simp;assumption))|(refine ((Below.cell b13 ?_).trans ?_) <;> first|assumption|omega|(simp;omega)|(simp;assumption))))) ((first|(go_at_call 34;refine (toSwing_any _ d1 _ (by exact rd_below H1.out belx) (by omega)).mono ?_;rintro e w13 ⟨ycs1,rfl,yf1,b13⟩;have B13:Below w.heap.size w w13:=Below.trans belx (b13.mono fcx);have z13:w12.heap.size≤w13.heap.size:=by have:=b13.size;(try simp only[World.size_alloc,World.size_drew] at this ⊢) <;> omega)|(go_at_call 38;refine (eqSwing_any _ _ d1 _ (by exact ((Fx1_12.out.keep (w':=w12.drew) (fun _ _ _=>rfl) (Nat.le_refl _)).below b13 fcx).rd) (by exact yf1.rd)).mono ?_;rintro e w14 ⟨rfl,b14⟩;have B14:Below w.heap.size w w14:=B13.trans (b14.mono fcx);have z14:=b14.size)))
 have hS:=‹_∧_›
 obtain ⟨qa00_14,qa10_14,qa11_14,qa20_14,qa21_14,qa22_14,qw0r00_14,qw0r10_14,qw0r11_14,qx00_14,qx10_14,qx11_14,qx20_14,qx21_14,qx22_14,qg0r00_14,qg0r10_14,qg0r11_14⟩:=hS
 have zba0_14:w.heap.size<w14.heap.size:=fcx
 have zba1_14:w.heap.size+1<w14.heap.size:=fcx
 have zba2_14:w.heap.size+1+1<w14.heap.size:=fcx
 have zbw0r0_14:w0rg0<w14.heap.size:=fcx
 have zbw0r1_14:w0rg1<w14.heap.size:=fcx
 have zbx0_14:w5.heap.size<w14.heap.size:=fcx
 have zbx1_14:w6.heap.size<w14.heap.size:=fcx
 have zbx2_14:w7.heap.size<w14.heap.size:=fcx
 have zbg0r0_14:w8.heap.size<w14.heap.size:=fcx
 have zbg0r1_14:w8.heap.size+1<w14.heap.size:=fcx
 have Fw0r0_14:=Lib.hid (((Fw0r0_12.out.keep (w':=w12.drew) (fun _ _ _=>rfl) (Nat.le_refl _)).below b13 fcx).below b14 fcx)
 clear Fw0r0_12
 have Fw0r1_14:=Lib.hid (((Fw0r1_12.out.keep (w':=w12.drew) (fun _ _ _=>rfl) (Nat.le_refl _)).below b13 fcx).below b14 fcx)
 clear Fw0r1_12
 have Fx0_14:=Lib.hid (((Fx0_12.out.keep (w':=w12.drew) (fun _ _ _=>rfl) (Nat.le_refl _)).below b13 fcx).below b14 fcx)
 clear Fx0_12
 have Fx1_14:=Lib.hid (((Fx1_12.out.keep (w':=w12.drew) (fun _ _ _=>rfl) (Nat.le_refl _)).below b13 fcx).below b14 fcx)
 clear Fx1_12
 have Fx2_14:=Lib.hid (((Fx2_12.out.keep (w':=w12.drew) (fun _ _ _=>rfl) (Nat.le_refl _)).below b13 fcx).below b14 fcx)
 clear Fx2_12
 have Fg0r0_14:=Lib.hid (((Fg0r0_12.out.keep (w':=w12.drew) (fun _ _ _=>rfl) (Nat.le_refl _)).below b13 fcx).below b14 fcx)
 clear Fg0r0_12
 have Fg0r1_14:=Lib.hid (((Fg0r1_12.out.keep (w':=w12.drew) (fun _ _ _=>rfl) (Nat.le_refl _)).below b13 fcx).below b14 fcx)
 clear Fg0r1_12
 go_wp2_with fail
 go_region_held3 (fun w'=>w'.cell? ⟨w.heap.size,0,none⟩=some (.slice ap0_0 an0_0 aq0_0)∧w'.cell? ⟨w.heap.size+1,0,none⟩=some (.slice ap1_0 an1_0 aq1_0)∧w'.cell? ⟨w.heap.size+1,1,none⟩=some (.int .i64 ax1_1)∧w'.cell? ⟨w.heap.size+1+1,0,none⟩=some (.slice ap2_0 an2_0 aq2_0)∧w'.cell? ⟨w.heap.size+1+1,1,none⟩=some (.int .i64 ax2_1)∧w'.cell? ⟨w.heap.size+1+1,2,none⟩=some (.bool ax2_2)∧w'.cell? ⟨w0rg0,0,none⟩=some (.slice w0r0dp0 w0r0dn0 w0r0dq0)∧w'.cell? ⟨w0rg1,0,none⟩=some (.slice w0r1dp0 w0r1dn0 w0r1dq0)∧w'.cell? ⟨w0rg1,1,none⟩=some (.int .i64 R1.2)∧w'.cell? ⟨w5.heap.size,0,none⟩=some (.slice x0dp0 x0dn0 x0dq0)∧w'.cell? ⟨w6.heap.size,0,none⟩=some (.slice x1dp0 x1dn0 x1dq0)∧w'.cell? ⟨w6.heap.size,1,none⟩=some (.int .i64 d1.2)∧w'.cell? ⟨w7.heap.size,0,none⟩=some (.slice x2dp0 x2dn0 x2dq0)∧w'.cell? ⟨w7.heap.size,1,none⟩=some (.int .i64 d2.2.1)∧w'.cell? ⟨w7.heap.size,2,none⟩=some (.bool d2.2.2)∧w'.cell? ⟨w8.heap.size,0,none⟩=some (.slice g0r0dp0 g0r0dn0 g0r0dq0)∧w'.cell? ⟨w8.heap.size+1,0,none⟩=some (.slice g0r1dp0 g0r1dn0 g0r1dq0)∧w'.cell? ⟨w8.heap.size+1,1,none⟩=some (.int .i64 R1.2)) (first|go_keep|((try dsimp only);(repeat' apply And.intro) <;> (first|go_keep|(refine ((Below.cell b16 ?_).trans ((Below.cell b15 ?_).trans ?_)) <;> first|assumption|omega|(simp;omega)|(simp;assumption))|(refine ((Below.cell b15 ?_).trans ?_) <;> first|assumption|omega|(simp;omega)|(simp;assumption))))) ((first|(go_at_call 35;refine (toGrads_any _ d2 _ (by exact rd_below H2.out belx) (by omega)).mono ?_;rintro e w15 ⟨ycs2,rfl,yf2,b15⟩;have B15:Below w.heap.size w w15:=Below.trans belx (b15.mono fcx);have z15:w14.heap.size≤w15.heap.size:=by have:=b15.size;(try simp only[World.size_alloc,World.size_drew] at this ⊢) <;> omega)|(go_at_call 39;refine (eqGrads_any _ _ d2 _ (by exact ((Fx2_14.out.keep (w':=w14.drew) (fun _ _ _=>rfl) (Nat.le_refl _)).below b15 fcx).rd) (by exact yf2.rd)).mono ?_;rintro e w16 ⟨rfl,b16⟩;have B16:Below w.heap.size w w16:=B15.trans (b16.mono fcx);have z16:=b16.size)))
 have hS:=‹_∧_›
 obtain ⟨qa00_16,qa10_16,qa11_16,qa20_16,qa21_16,qa22_16,qw0r00_16,qw0r10_16,qw0r11_16,qx00_16,qx10_16,qx11_16,qx20_16,qx21_16,qx22_16,qg0r00_16,qg0r10_16,qg0r11_16⟩:=hS
 have zba0_16:w.heap.size<w16.heap.size:=fcx
 have zba1_16:w.heap.size+1<w16.heap.size:=fcx
 have zba2_16:w.heap.size+1+1<w16.heap.size:=fcx
 have zbw0r0_16:w0rg0<w16.heap.size:=fcx
 have zbw0r1_16:w0rg1<w16.heap.size:=fcx
 have zbx0_16:w5.heap.size<w16.heap.size:=fcx
 have zbx1_16:w6.heap.size<w16.heap.size:=fcx
 have zbx2_16:w7.heap.size<w16.heap.size:=fcx
 have zbg0r0_16:w8.heap.size<w16.heap.size:=fcx
 have zbg0r1_16:w8.heap.size+1<w16.heap.size:=fcx
 have Fw0r0_16:=Lib.hid (((Fw0r0_14.out.keep (w':=w14.drew) (fun _ _ _=>rfl) (Nat.le_refl _)).below b15 fcx).below b16 fcx)
 clear Fw0r0_14
 have Fw0r1_16:=Lib.hid (((Fw0r1_14.out.keep (w':=w14.drew) (fun _ _ _=>rfl) (Nat.le_refl _)).below b15 fcx).below b16 fcx)
 clear Fw0r1_14
 have Fx0_16:=Lib.hid (((Fx0_14.out.keep (w':=w14.drew) (fun _ _ _=>rfl) (Nat.le_refl _)).below b15 fcx).below b16 fcx)
 clear Fx0_14
 have Fx1_16:=Lib.hid (((Fx1_14.out.keep (w':=w14.drew) (fun _ _ _=>rfl) (Nat.le_refl _)).below b15 fcx).below b16 fcx)
 clear Fx1_14
 have Fx2_16:=Lib.hid (((Fx2_14.out.keep (w':=w14.drew) (fun _ _ _=>rfl) (Nat.le_refl _)).below b15 fcx).below b16 fcx)
 clear Fx2_14
 have Fg0r0_16:=Lib.hid (((Fg0r0_14.out.keep (w':=w14.drew) (fun _ _ _=>rfl) (Nat.le_refl _)).below b15 fcx).below b16 fcx)
 clear Fg0r0_14
 have Fg0r1_16:=Lib.hid (((Fg0r1_14.out.keep (w':=w14.drew) (fun _ _ _=>rfl) (Nat.le_refl _)).below b15 fcx).below b16 fcx)
 clear Fg0r1_14
 go_wp2_with fail
 obtain ⟨bl17,rep17,nd17,in17⟩:=(Fx0_16.out).un
 clear Fx0_16
 refine (markModel_un _ _ d0 _ _ (by exact rep17) nd17 (by omega) (by omega)).mono ?_
 rintro e w17 ⟨rfl,rp17,on17⟩
 have B17:Below w.heap.size w w17:=Below.trans B16 (on17.below (fun b hb=>by have:=in17 b hb;(try simp only[World.size_alloc,World.size_drew] at this ⊢) <;> omega) fcx)
 have z17:w16.heap.size+0≤w17.heap.size:=by have:=on17.size;(try simp only[World.size_alloc,World.size_drew] at this ⊢) <;> omega
 have qa00_17:w17.cell? ⟨w.heap.size,0,none⟩=some (.slice ap0_0 an0_0 aq0_0):=(on17.cell (a:=⟨w.heap.size,0,none⟩) (fun hm=>by have:=in17 _ hm;(try simp only[World.size_alloc,World.size_drew] at this ⊢) <;> omega) fcx).trans qa00_16
 have zba0_17:w.heap.size<w17.heap.size:=fcx
 clear qa00_16
 have qa10_17:w17.cell? ⟨w.heap.size+1,0,none⟩=some (.slice ap1_0 an1_0 aq1_0):=(on17.cell (a:=⟨w.heap.size+1,0,none⟩) (fun hm=>by have:=in17 _ hm;(try simp only[World.size_alloc,World.size_drew] at this ⊢) <;> omega) fcx).trans qa10_16
 have qa11_17:w17.cell? ⟨w.heap.size+1,1,none⟩=some (.int .i64 ax1_1):=(on17.cell (a:=⟨w.heap.size+1,1,none⟩) (fun hm=>by have:=in17 _ hm;(try simp only[World.size_alloc,World.size_drew] at this ⊢) <;> omega) fcx).trans qa11_16
 have zba1_17:w.heap.size+1<w17.heap.size:=fcx
 clear qa10_16 qa11_16
 have qa20_17:w17.cell? ⟨w.heap.size+1+1,0,none⟩=some (.slice ap2_0 an2_0 aq2_0):=(on17.cell (a:=⟨w.heap.size+1+1,0,none⟩) (fun hm=>by have:=in17 _ hm;(try simp only[World.size_alloc,World.size_drew] at this ⊢) <;> omega) fcx).trans qa20_16
 have qa21_17:w17.cell? ⟨w.heap.size+1+1,1,none⟩=some (.int .i64 ax2_1):=(on17.cell (a:=⟨w.heap.size+1+1,1,none⟩) (fun hm=>by have:=in17 _ hm;(try simp only[World.size_alloc,World.size_drew] at this ⊢) <;> omega) fcx).trans qa21_16
 have qa22_17:w17.cell? ⟨w.heap.size+1+1,2,none⟩=some (.bool ax2_2):=(on17.cell (a:=⟨w.heap.size+1+1,2,none⟩) (fun hm=>by have:=in17 _ hm;(try simp only[World.size_alloc,World.size_drew] at this ⊢) <;> omega) fcx).trans qa22_16
 have zba2_17:w.heap.size+1+1<w17.heap.size:=fcx
 clear qa20_16 qa21_16 qa22_16
 have qw0r00_17:w17.cell? ⟨w0rg0,0,none⟩=some (.slice w0r0dp0 w0r0dn0 w0r0dq0):=(on17.cell (a:=⟨w0rg0,0,none⟩) (fun hm=>by have:=in17 _ hm;(try simp only[World.size_alloc,World.size_drew] at this ⊢) <;> omega) fcx).trans qw0r00_16
 have zbw0r0_17:w0rg0<w17.heap.size:=fcx
 clear qw0r00_16
 have qw0r10_17:w17.cell? ⟨w0rg1,0,none⟩=some (.slice w0r1dp0 w0r1dn0 w0r1dq0):=(on17.cell (a:=⟨w0rg1,0,none⟩) (fun hm=>by have:=in17 _ hm;(try simp only[World.size_alloc,World.size_drew] at this ⊢) <;> omega) fcx).trans qw0r10_16
 have qw0r11_17:w17.cell? ⟨w0rg1,1,none⟩=some (.int .i64 R1.2):=(on17.cell (a:=⟨w0rg1,1,none⟩) (fun hm=>by have:=in17 _ hm;(try simp only[World.size_alloc,World.size_drew] at this ⊢) <;> omega) fcx).trans qw0r11_16
 have zbw0r1_17:w0rg1<w17.heap.size:=fcx
 clear qw0r10_16 qw0r11_16
 have qx00_17:w17.cell? ⟨w5.heap.size,0,none⟩=some (.slice x0dp0 x0dn0 x0dq0):=(on17.cell (a:=⟨w5.heap.size,0,none⟩) (fun hm=>by have:=in17 _ hm;(try simp only[World.size_alloc,World.size_drew] at this ⊢) <;> omega) fcx).trans qx00_16
 have zbx0_17:w5.heap.size<w17.heap.size:=fcx
 clear qx00_16
 have qx10_17:w17.cell? ⟨w6.heap.size,0,none⟩=some (.slice x1dp0 x1dn0 x1dq0):=(on17.cell (a:=⟨w6.heap.size,0,none⟩) (fun hm=>by have:=in17 _ hm;(try simp only[World.size_alloc,World.size_drew] at this ⊢) <;> omega) fcx).trans qx10_16
 have qx11_17:w17.cell? ⟨w6.heap.size,1,none⟩=some (.int .i64 d1.2):=(on17.cell (a:=⟨w6.heap.size,1,none⟩) (fun hm=>by have:=in17 _ hm;(try simp only[World.size_alloc,World.size_drew] at this ⊢) <;> omega) fcx).trans qx11_16
 have zbx1_17:w6.heap.size<w17.heap.size:=fcx
 clear qx10_16 qx11_16
 have qx20_17:w17.cell? ⟨w7.heap.size,0,none⟩=some (.slice x2dp0 x2dn0 x2dq0):=(on17.cell (a:=⟨w7.heap.size,0,none⟩) (fun hm=>by have:=in17 _ hm;(try simp only[World.size_alloc,World.size_drew] at this ⊢) <;> omega) fcx).trans qx20_16
 have qx21_17:w17.cell? ⟨w7.heap.size,1,none⟩=some (.int .i64 d2.2.1):=(on17.cell (a:=⟨w7.heap.size,1,none⟩) (fun hm=>by have:=in17 _ hm;(try simp only[World.size_alloc,World.size_drew] at this ⊢) <;> omega) fcx).trans qx21_16
 have qx22_17:w17.cell? ⟨w7.heap.size,2,none⟩=some (.bool d2.2.2):=(on17.cell (a:=⟨w7.heap.size,2,none⟩) (fun hm=>by have:=in17 _ hm;(try simp only[World.size_alloc,World.size_drew] at this ⊢) <;> omega) fcx).trans qx22_16
 have zbx2_17:w7.heap.size<w17.heap.size:=fcx
 clear qx20_16 qx21_16 qx22_16
 have qg0r00_17:w17.cell? ⟨w8.heap.size,0,none⟩=some (.slice g0r0dp0 g0r0dn0 g0r0dq0):=(on17.cell (a:=⟨w8.heap.size,0,none⟩) (fun hm=>by have:=in17 _ hm;(try simp only[World.size_alloc,World.size_drew] at this ⊢) <;> omega) fcx).trans qg0r00_16
 have zbg0r0_17:w8.heap.size<w17.heap.size:=fcx
 clear qg0r00_16
 have qg0r10_17:w17.cell? ⟨w8.heap.size+1,0,none⟩=some (.slice g0r1dp0 g0r1dn0 g0r1dq0):=(on17.cell (a:=⟨w8.heap.size+1,0,none⟩) (fun hm=>by have:=in17 _ hm;(try simp only[World.size_alloc,World.size_drew] at this ⊢) <;> omega) fcx).trans qg0r10_16
 have qg0r11_17:w17.cell? ⟨w8.heap.size+1,1,none⟩=some (.int .i64 R1.2):=(on17.cell (a:=⟨w8.heap.size+1,1,none⟩) (fun hm=>by have:=in17 _ hm;(try simp only[World.size_alloc,World.size_drew] at this ⊢) <;> omega) fcx).trans qg0r11_16
 have zbg0r1_17:w8.heap.size+1<w17.heap.size:=fcx
 clear qg0r10_16 qg0r11_16
 have Fw0r0_17:=Lib.hid (Fw0r0_16.out.only on17 (fun b hb=>by have:=in17 b hb;(try simp only[World.size_alloc,World.size_drew] at this ⊢) <;> omega))
 clear Fw0r0_16
 have Fw0r1_17:=Lib.hid (Fw0r1_16.out.only on17 (fun b hb=>by have:=in17 b hb;(try simp only[World.size_alloc,World.size_drew] at this ⊢) <;> omega))
 clear Fw0r1_16
 have Fx1_17:=Lib.hid (Fx1_16.out.only on17 (fun b hb=>by have:=in17 b hb;(try simp only[World.size_alloc,World.size_drew] at this ⊢) <;> omega))
 clear Fx1_16
 have Fx2_17:=Lib.hid (Fx2_16.out.only on17 (fun b hb=>by have:=in17 b hb;(try simp only[World.size_alloc,World.size_drew] at this ⊢) <;> omega))
 clear Fx2_16
 have Fg0r0_17:=Lib.hid (Fg0r0_16.out.only on17 (fun b hb=>by have:=in17 b hb;(try simp only[World.size_alloc,World.size_drew] at this ⊢) <;> omega))
 clear Fg0r0_16
 have Fg0r1_17:=Lib.hid (Fg0r1_16.out.only on17 (fun b hb=>by have:=in17 b hb;(try simp only[World.size_alloc,World.size_drew] at this ⊢) <;> omega))
 clear Fg0r1_16
 have G17:=FrA.of_un rp17 nd17 in17 fcx
 clear rep17 rp17
 have Fx0_17:=Lib.hid G17;clear G17
 clear Fx0_17
 go_wp2_with fail
 obtain ⟨bl18,rep18,nd18,in18⟩:=(Fx1_17.out).un
 clear Fx1_17
 refine (markSwing_un _ _ d1 _ _ (by exact rep18) nd18 (by omega) (by omega)).mono ?_
 rintro e w18 ⟨rfl,rp18,on18⟩
 have B18:Below w.heap.size w w18:=Below.trans B17 (on18.below (fun b hb=>by have:=in18 b hb;(try simp only[World.size_alloc,World.size_drew] at this ⊢) <;> omega) fcx)
 have z18:w17.heap.size+0≤w18.heap.size:=by have:=on18.size;(try simp only[World.size_alloc,World.size_drew] at this ⊢) <;> omega
 have qa00_18:w18.cell? ⟨w.heap.size,0,none⟩=some (.slice ap0_0 an0_0 aq0_0):=(on18.cell (a:=⟨w.heap.size,0,none⟩) (fun hm=>by have:=in18 _ hm;(try simp only[World.size_alloc,World.size_drew] at this ⊢) <;> omega) fcx).trans qa00_17
 have zba0_18:w.heap.size<w18.heap.size:=fcx
 clear qa00_17
 have qa10_18:w18.cell? ⟨w.heap.size+1,0,none⟩=some (.slice ap1_0 an1_0 aq1_0):=(on18.cell (a:=⟨w.heap.size+1,0,none⟩) (fun hm=>by have:=in18 _ hm;(try simp only[World.size_alloc,World.size_drew] at this ⊢) <;> omega) fcx).trans qa10_17
 have qa11_18:w18.cell? ⟨w.heap.size+1,1,none⟩=some (.int .i64 ax1_1):=(on18.cell (a:=⟨w.heap.size+1,1,none⟩) (fun hm=>by have:=in18 _ hm;(try simp only[World.size_alloc,World.size_drew] at this ⊢) <;> omega) fcx).trans qa11_17
 have zba1_18:w.heap.size+1<w18.heap.size:=fcx
 clear qa10_17 qa11_17
 have qa20_18:w18.cell? ⟨w.heap.size+1+1,0,none⟩=some (.slice ap2_0 an2_0 aq2_0):=(on18.cell (a:=⟨w.heap.size+1+1,0,none⟩) (fun hm=>by have:=in18 _ hm;(try simp only[World.size_alloc,World.size_drew] at this ⊢) <;> omega) fcx).trans qa20_17
 have qa21_18:w18.cell? ⟨w.heap.size+1+1,1,none⟩=some (.int .i64 ax2_1):=(on18.cell (a:=⟨w.heap.size+1+1,1,none⟩) (fun hm=>by have:=in18 _ hm;(try simp only[World.size_alloc,World.size_drew] at this ⊢) <;> omega) fcx).trans qa21_17
 have qa22_18:w18.cell? ⟨w.heap.size+1+1,2,none⟩=some (.bool ax2_2):=(on18.cell (a:=⟨w.heap.size+1+1,2,none⟩) (fun hm=>by have:=in18 _ hm;(try simp only[World.size_alloc,World.size_drew] at this ⊢) <;> omega) fcx).trans qa22_17
 have zba2_18:w.heap.size+1+1<w18.heap.size:=fcx
 clear qa20_17 qa21_17 qa22_17
 have qw0r00_18:w18.cell? ⟨w0rg0,0,none⟩=some (.slice w0r0dp0 w0r0dn0 w0r0dq0):=(on18.cell (a:=⟨w0rg0,0,none⟩) (fun hm=>by have:=in18 _ hm;(try simp only[World.size_alloc,World.size_drew] at this ⊢) <;> omega) fcx).trans qw0r00_17
 have zbw0r0_18:w0rg0<w18.heap.size:=fcx
 clear qw0r00_17
 have qw0r10_18:w18.cell? ⟨w0rg1,0,none⟩=some (.slice w0r1dp0 w0r1dn0 w0r1dq0):=(on18.cell (a:=⟨w0rg1,0,none⟩) (fun hm=>by have:=in18 _ hm;(try simp only[World.size_alloc,World.size_drew] at this ⊢) <;> omega) fcx).trans qw0r10_17
 have qw0r11_18:w18.cell? ⟨w0rg1,1,none⟩=some (.int .i64 R1.2):=(on18.cell (a:=⟨w0rg1,1,none⟩) (fun hm=>by have:=in18 _ hm;(try simp only[World.size_alloc,World.size_drew] at this ⊢) <;> omega) fcx).trans qw0r11_17
 have zbw0r1_18:w0rg1<w18.heap.size:=fcx
 clear qw0r10_17 qw0r11_17
 have qx00_18:w18.cell? ⟨w5.heap.size,0,none⟩=some (.slice x0dp0 x0dn0 x0dq0):=(on18.cell (a:=⟨w5.heap.size,0,none⟩) (fun hm=>by have:=in18 _ hm;(try simp only[World.size_alloc,World.size_drew] at this ⊢) <;> omega) fcx).trans qx00_17
 have zbx0_18:w5.heap.size<w18.heap.size:=fcx
 clear qx00_17
 have qx10_18:w18.cell? ⟨w6.heap.size,0,none⟩=some (.slice x1dp0 x1dn0 x1dq0):=(on18.cell (a:=⟨w6.heap.size,0,none⟩) (fun hm=>by have:=in18 _ hm;(try simp only[World.size_alloc,World.size_drew] at this ⊢) <;> omega) fcx).trans qx10_17
 have qx11_18:w18.cell? ⟨w6.heap.size,1,none⟩=some (.int .i64 d1.2):=(on18.cell (a:=⟨w6.heap.size,1,none⟩) (fun hm=>by have:=in18 _ hm;(try simp only[World.size_alloc,World.size_drew] at this ⊢) <;> omega) fcx).trans qx11_17
 have zbx1_18:w6.heap.size<w18.heap.size:=fcx
 clear qx10_17 qx11_17
 have qx20_18:w18.cell? ⟨w7.heap.size,0,none⟩=some (.slice x2dp0 x2dn0 x2dq0):=(on18.cell (a:=⟨w7.heap.size,0,none⟩) (fun hm=>by have:=in18 _ hm;(try simp only[World.size_alloc,World.size_drew] at this ⊢) <;> omega) fcx).trans qx20_17
 have qx21_18:w18.cell? ⟨w7.heap.size,1,none⟩=some (.int .i64 d2.2.1):=(on18.cell (a:=⟨w7.heap.size,1,none⟩) (fun hm=>by have:=in18 _ hm;(try simp only[World.size_alloc,World.size_drew] at this ⊢) <;> omega) fcx).trans qx21_17
 have qx22_18:w18.cell? ⟨w7.heap.size,2,none⟩=some (.bool d2.2.2):=(on18.cell (a:=⟨w7.heap.size,2,none⟩) (fun hm=>by have:=in18 _ hm;(try simp only[World.size_alloc,World.size_drew] at this ⊢) <;> omega) fcx).trans qx22_17
 have zbx2_18:w7.heap.size<w18.heap.size:=fcx
 clear qx20_17 qx21_17 qx22_17
 have qg0r00_18:w18.cell? ⟨w8.heap.size,0,none⟩=some (.slice g0r0dp0 g0r0dn0 g0r0dq0):=(on18.cell (a:=⟨w8.heap.size,0,none⟩) (fun hm=>by have:=in18 _ hm;(try simp only[World.size_alloc,World.size_drew] at this ⊢) <;> omega) fcx).trans qg0r00_17
 have zbg0r0_18:w8.heap.size<w18.heap.size:=fcx
 clear qg0r00_17
 have qg0r10_18:w18.cell? ⟨w8.heap.size+1,0,none⟩=some (.slice g0r1dp0 g0r1dn0 g0r1dq0):=(on18.cell (a:=⟨w8.heap.size+1,0,none⟩) (fun hm=>by have:=in18 _ hm;(try simp only[World.size_alloc,World.size_drew] at this ⊢) <;> omega) fcx).trans qg0r10_17
 have qg0r11_18:w18.cell? ⟨w8.heap.size+1,1,none⟩=some (.int .i64 R1.2):=(on18.cell (a:=⟨w8.heap.size+1,1,none⟩) (fun hm=>by have:=in18 _ hm;(try simp only[World.size_alloc,World.size_drew] at this ⊢) <;> omega) fcx).trans qg0r11_17
 have zbg0r1_18:w8.heap.size+1<w18.heap.size:=fcx
 clear qg0r10_17 qg0r11_17
 have Fw0r0_18:=Lib.hid (Fw0r0_17.out.only on18 (fun b hb=>by have:=in18 b hb;(try simp only[World.size_alloc,World.size_drew] at this ⊢) <;> omega))
 clear Fw0r0_17
 have Fw0r1_18:=Lib.hid (Fw0r1_17.out.only on18 (fun b hb=>by have:=in18 b hb;(try simp only[World.size_alloc,World.size_drew] at this ⊢) <;> omega))
 clear Fw0r1_17
 have Fx2_18:=Lib.hid (Fx2_17.out.only on18 (fun b hb=>by have:=in18 b hb;(try simp only[World.size_alloc,World.size_drew] at this ⊢) <;> omega))
 clear Fx2_17
 have Fg0r0_18:=Lib.hid (Fg0r0_17.out.only on18 (fun b hb=>by have:=in18 b hb;(try simp only[World.size_alloc,World.size_drew] at this ⊢) <;> omega))
 clear Fg0r0_17
 have Fg0r1_18:=Lib.hid (Fg0r1_17.out.only on18 (fun b hb=>by have:=in18 b hb;(try simp only[World.size_alloc,World.size_drew] at this ⊢) <;> omega))
 clear Fg0r1_17
 have G18:=FrA.of_un rp18 nd18 in18 fcx
 clear rep18 rp18
 have Fx1_18:=Lib.hid G18;clear G18
 clear Fx1_18
 go_wp2_with fail
 obtain ⟨bl19,rep19,nd19,in19⟩:=(Fx2_18.out).un
 clear Fx2_18
 refine (markGrads_un _ _ d2 _ _ (by exact rep19) nd19 (by omega) (by omega)).mono ?_
 rintro e w19 ⟨rfl,rp19,on19⟩
 have B19:Below w.heap.size w w19:=Below.trans B18 (on19.below (fun b hb=>by have:=in19 b hb;(try simp only[World.size_alloc,World.size_drew] at this ⊢) <;> omega) fcx)
 have z19:w18.heap.size+0≤w19.heap.size:=by have:=on19.size;(try simp only[World.size_alloc,World.size_drew] at this ⊢) <;> omega
 have qa00_19:w19.cell? ⟨w.heap.size,0,none⟩=some (.slice ap0_0 an0_0 aq0_0):=(on19.cell (a:=⟨w.heap.size,0,none⟩) (fun hm=>by have:=in19 _ hm;(try simp only[World.size_alloc,World.size_drew] at this ⊢) <;> omega) fcx).trans qa00_18
 have zba0_19:w.heap.size<w19.heap.size:=fcx
 clear qa00_18
 have qa10_19:w19.cell? ⟨w.heap.size+1,0,none⟩=some (.slice ap1_0 an1_0 aq1_0):=(on19.cell (a:=⟨w.heap.size+1,0,none⟩) (fun hm=>by have:=in19 _ hm;(try simp only[World.size_alloc,World.size_drew] at this ⊢) <;> omega) fcx).trans qa10_18
 have qa11_19:w19.cell? ⟨w.heap.size+1,1,none⟩=some (.int .i64 ax1_1):=(on19.cell (a:=⟨w.heap.size+1,1,none⟩) (fun hm=>by have:=in19 _ hm;(try simp only[World.size_alloc,World.size_drew] at this ⊢) <;> omega) fcx).trans qa11_18
 have zba1_19:w.heap.size+1<w19.heap.size:=fcx
 clear qa10_18 qa11_18
 have qa20_19:w19.cell? ⟨w.heap.size+1+1,0,none⟩=some (.slice ap2_0 an2_0 aq2_0):=(on19.cell (a:=⟨w.heap.size+1+1,0,none⟩) (fun hm=>by have:=in19 _ hm;(try simp only[World.size_alloc,World.size_drew] at this ⊢) <;> omega) fcx).trans qa20_18
 have qa21_19:w19.cell? ⟨w.heap.size+1+1,1,none⟩=some (.int .i64 ax2_1):=(on19.cell (a:=⟨w.heap.size+1+1,1,none⟩) (fun hm=>by have:=in19 _ hm;(try simp only[World.size_alloc,World.size_drew] at this ⊢) <;> omega) fcx).trans qa21_18
 have qa22_19:w19.cell? ⟨w.heap.size+1+1,2,none⟩=some (.bool ax2_2):=(on19.cell (a:=⟨w.heap.size+1+1,2,none⟩) (fun hm=>by have:=in19 _ hm;(try simp only[World.size_alloc,World.size_drew] at this ⊢) <;> omega) fcx).trans qa22_18
 have zba2_19:w.heap.size+1+1<w19.heap.size:=fcx
 clear qa20_18 qa21_18 qa22_18
 have qw0r00_19:w19.cell? ⟨w0rg0,0,none⟩=some (.slice w0r0dp0 w0r0dn0 w0r0dq0):=(on19.cell (a:=⟨w0rg0,0,none⟩) (fun hm=>by have:=in19 _ hm;(try simp only[World.size_alloc,World.size_drew] at this ⊢) <;> omega) fcx).trans qw0r00_18
 have zbw0r0_19:w0rg0<w19.heap.size:=fcx
 clear qw0r00_18
 have qw0r10_19:w19.cell? ⟨w0rg1,0,none⟩=some (.slice w0r1dp0 w0r1dn0 w0r1dq0):=(on19.cell (a:=⟨w0rg1,0,none⟩) (fun hm=>by have:=in19 _ hm;(try simp only[World.size_alloc,World.size_drew] at this ⊢) <;> omega) fcx).trans qw0r10_18
 have qw0r11_19:w19.cell? ⟨w0rg1,1,none⟩=some (.int .i64 R1.2):=(on19.cell (a:=⟨w0rg1,1,none⟩) (fun hm=>by have:=in19 _ hm;(try simp only[World.size_alloc,World.size_drew] at this ⊢) <;> omega) fcx).trans qw0r11_18
 have zbw0r1_19:w0rg1<w19.heap.size:=fcx
 clear qw0r10_18 qw0r11_18
 have qx00_19:w19.cell? ⟨w5.heap.size,0,none⟩=some (.slice x0dp0 x0dn0 x0dq0):=(on19.cell (a:=⟨w5.heap.size,0,none⟩) (fun hm=>by have:=in19 _ hm;(try simp only[World.size_alloc,World.size_drew] at this ⊢) <;> omega) fcx).trans qx00_18
 have zbx0_19:w5.heap.size<w19.heap.size:=fcx
 clear qx00_18
 have qx10_19:w19.cell? ⟨w6.heap.size,0,none⟩=some (.slice x1dp0 x1dn0 x1dq0):=(on19.cell (a:=⟨w6.heap.size,0,none⟩) (fun hm=>by have:=in19 _ hm;(try simp only[World.size_alloc,World.size_drew] at this ⊢) <;> omega) fcx).trans qx10_18
 have qx11_19:w19.cell? ⟨w6.heap.size,1,none⟩=some (.int .i64 d1.2):=(on19.cell (a:=⟨w6.heap.size,1,none⟩) (fun hm=>by have:=in19 _ hm;(try simp only[World.size_alloc,World.size_drew] at this ⊢) <;> omega) fcx).trans qx11_18
 have zbx1_19:w6.heap.size<w19.heap.size:=fcx
 clear qx10_18 qx11_18
 have qx20_19:w19.cell? ⟨w7.heap.size,0,none⟩=some (.slice x2dp0 x2dn0 x2dq0):=(on19.cell (a:=⟨w7.heap.size,0,none⟩) (fun hm=>by have:=in19 _ hm;(try simp only[World.size_alloc,World.size_drew] at this ⊢) <;> omega) fcx).trans qx20_18
 have qx21_19:w19.cell? ⟨w7.heap.size,1,none⟩=some (.int .i64 d2.2.1):=(on19.cell (a:=⟨w7.heap.size,1,none⟩) (fun hm=>by have:=in19 _ hm;(try simp only[World.size_alloc,World.size_drew] at this ⊢) <;> omega) fcx).trans qx21_18
 have qx22_19:w19.cell? ⟨w7.heap.size,2,none⟩=some (.bool d2.2.2):=(on19.cell (a:=⟨w7.heap.size,2,none⟩) (fun hm=>by have:=in19 _ hm;(try simp only[World.size_alloc,World.size_drew] at this ⊢) <;> omega) fcx).trans qx22_18
 have zbx2_19:w7.heap.size<w19.heap.size:=fcx
 clear qx20_18 qx21_18 qx22_18
 have qg0r00_19:w19.cell? ⟨w8.heap.size,0,none⟩=some (.slice g0r0dp0 g0r0dn0 g0r0dq0):=(on19.cell (a:=⟨w8.heap.size,0,none⟩) (fun hm=>by have:=in19 _ hm;(try simp only[World.size_alloc,World.size_drew] at this ⊢) <;> omega) fcx).trans qg0r00_18
 have zbg0r0_19:w8.heap.size<w19.heap.size:=fcx
 clear qg0r00_18
 have qg0r10_19:w19.cell? ⟨w8.heap.size+1,0,none⟩=some (.slice g0r1dp0 g0r1dn0 g0r1dq0):=(on19.cell (a:=⟨w8.heap.size+1,0,none⟩) (fun hm=>by have:=in19 _ hm;(try simp only[World.size_alloc,World.size_drew] at this ⊢) <;> omega) fcx).trans qg0r10_18
 have qg0r11_19:w19.cell? ⟨w8.heap.size+1,1,none⟩=some (.int .i64 R1.2):=(on19.cell (a:=⟨w8.heap.size+1,1,none⟩) (fun hm=>by have:=in19 _ hm;(try simp only[World.size_alloc,World.size_drew] at this ⊢) <;> omega) fcx).trans qg0r11_18
 have zbg0r1_19:w8.heap.size+1<w19.heap.size:=fcx
 clear qg0r10_18 qg0r11_18
 have Fw0r0_19:=Lib.hid (Fw0r0_18.out.only on19 (fun b hb=>by have:=in19 b hb;(try simp only[World.size_alloc,World.size_drew] at this ⊢) <;> omega))
 clear Fw0r0_18
 have Fw0r1_19:=Lib.hid (Fw0r1_18.out.only on19 (fun b hb=>by have:=in19 b hb;(try simp only[World.size_alloc,World.size_drew] at this ⊢) <;> omega))
 clear Fw0r1_18
 have Fg0r0_19:=Lib.hid (Fg0r0_18.out.only on19 (fun b hb=>by have:=in19 b hb;(try simp only[World.size_alloc,World.size_drew] at this ⊢) <;> omega))
 clear Fg0r0_18
 have Fg0r1_19:=Lib.hid (Fg0r1_18.out.only on19 (fun b hb=>by have:=in19 b hb;(try simp only[World.size_alloc,World.size_drew] at this ⊢) <;> omega))
 clear Fg0r1_18
 have G19:=FrA.of_un rp19 nd19 in19 fcx
 clear rep19 rp19
 have Fx2_19:=Lib.hid G19;clear G19
 clear Fx2_19
 go_wp2_with fail
 refine (eqModel_any _ _ R0 _ (by exact (Fg0r0_19.out).rd) (by exact (Fw0r0_19.out).rd)).mono ?_
 rintro e w20 ⟨rfl,b20⟩
 have B20:Below w.heap.size w w20:=Below.trans B19 (b20.mono fcx)
 have z20:w19.heap.size+0≤w20.heap.size:=by have:=b20.size;(try simp only[World.size_alloc,World.size_drew] at this ⊢) <;> omega
 have qa00_20:w20.cell? ⟨w.heap.size,0,none⟩=some (.slice ap0_0 an0_0 aq0_0):=(b20.cell (p:=⟨w.heap.size,0,none⟩) fcx).trans qa00_19
 have zba0_20:w.heap.size<w20.heap.size:=fcx
 clear qa00_19
 have qa10_20:w20.cell? ⟨w.heap.size+1,0,none⟩=some (.slice ap1_0 an1_0 aq1_0):=(b20.cell (p:=⟨w.heap.size+1,0,none⟩) fcx).trans qa10_19
 have qa11_20:w20.cell? ⟨w.heap.size+1,1,none⟩=some (.int .i64 ax1_1):=(b20.cell (p:=⟨w.heap.size+1,1,none⟩) fcx).trans qa11_19
 have zba1_20:w.heap.size+1<w20.heap.size:=fcx
 clear qa10_19 qa11_19
 have qa20_20:w20.cell? ⟨w.heap.size+1+1,0,none⟩=some (.slice ap2_0 an2_0 aq2_0):=(b20.cell (p:=⟨w.heap.size+1+1,0,none⟩) fcx).trans qa20_19
 have qa21_20:w20.cell? ⟨w.heap.size+1+1,1,none⟩=some (.int .i64 ax2_1):=(b20.cell (p:=⟨w.heap.size+1+1,1,none⟩) fcx).trans qa21_19
 have qa22_20:w20.cell? ⟨w.heap.size+1+1,2,none⟩=some (.bool ax2_2):=(b20.cell (p:=⟨w.heap.size+1+1,2,none⟩) fcx).trans qa22_19
 have zba2_20:w.heap.size+1+1<w20.heap.size:=fcx
 clear qa20_19 qa21_19 qa22_19
 have qw0r00_20:w20.cell? ⟨w0rg0,0,none⟩=some (.slice w0r0dp0 w0r0dn0 w0r0dq0):=(b20.cell (p:=⟨w0rg0,0,none⟩) fcx).trans qw0r00_19
 have zbw0r0_20:w0rg0<w20.heap.size:=fcx
 clear qw0r00_19
 have qw0r10_20:w20.cell? ⟨w0rg1,0,none⟩=some (.slice w0r1dp0 w0r1dn0 w0r1dq0):=(b20.cell (p:=⟨w0rg1,0,none⟩) fcx).trans qw0r10_19
 have qw0r11_20:w20.cell? ⟨w0rg1,1,none⟩=some (.int .i64 R1.2):=(b20.cell (p:=⟨w0rg1,1,none⟩) fcx).trans qw0r11_19
 have zbw0r1_20:w0rg1<w20.heap.size:=fcx
 clear qw0r10_19 qw0r11_19
 have qx00_20:w20.cell? ⟨w5.heap.size,0,none⟩=some (.slice x0dp0 x0dn0 x0dq0):=(b20.cell (p:=⟨w5.heap.size,0,none⟩) fcx).trans qx00_19
 have zbx0_20:w5.heap.size<w20.heap.size:=fcx
 clear qx00_19
 have qx10_20:w20.cell? ⟨w6.heap.size,0,none⟩=some (.slice x1dp0 x1dn0 x1dq0):=(b20.cell (p:=⟨w6.heap.size,0,none⟩) fcx).trans qx10_19
 have qx11_20:w20.cell? ⟨w6.heap.size,1,none⟩=some (.int .i64 d1.2):=(b20.cell (p:=⟨w6.heap.size,1,none⟩) fcx).trans qx11_19
 have zbx1_20:w6.heap.size<w20.heap.size:=fcx
 clear qx10_19 qx11_19
 have qx20_20:w20.cell? ⟨w7.heap.size,0,none⟩=some (.slice x2dp0 x2dn0 x2dq0):=(b20.cell (p:=⟨w7.heap.size,0,none⟩) fcx).trans qx20_19
 have qx21_20:w20.cell? ⟨w7.heap.size,1,none⟩=some (.int .i64 d2.2.1):=(b20.cell (p:=⟨w7.heap.size,1,none⟩) fcx).trans qx21_19
 have qx22_20:w20.cell? ⟨w7.heap.size,2,none⟩=some (.bool d2.2.2):=(b20.cell (p:=⟨w7.heap.size,2,none⟩) fcx).trans qx22_19
 have zbx2_20:w7.heap.size<w20.heap.size:=fcx
 clear qx20_19 qx21_19 qx22_19
 have qg0r00_20:w20.cell? ⟨w8.heap.size,0,none⟩=some (.slice g0r0dp0 g0r0dn0 g0r0dq0):=(b20.cell (p:=⟨w8.heap.size,0,none⟩) fcx).trans qg0r00_19
 have zbg0r0_20:w8.heap.size<w20.heap.size:=fcx
 clear qg0r00_19
 have qg0r10_20:w20.cell? ⟨w8.heap.size+1,0,none⟩=some (.slice g0r1dp0 g0r1dn0 g0r1dq0):=(b20.cell (p:=⟨w8.heap.size+1,0,none⟩) fcx).trans qg0r10_19
 have qg0r11_20:w20.cell? ⟨w8.heap.size+1,1,none⟩=some (.int .i64 R1.2):=(b20.cell (p:=⟨w8.heap.size+1,1,none⟩) fcx).trans qg0r11_19
 have zbg0r1_20:w8.heap.size+1<w20.heap.size:=fcx
 clear qg0r10_19 qg0r11_19
 have Fw0r0_20:=Lib.hid (Fw0r0_19.out.below b20 fcx)
 clear Fw0r0_19
 have Fw0r1_20:=Lib.hid (Fw0r1_19.out.below b20 fcx)
 clear Fw0r1_19
 have Fg0r0_20:=Lib.hid (Fg0r0_19.out.below b20 fcx)
 clear Fg0r0_19
 have Fg0r1_20:=Lib.hid (Fg0r1_19.out.below b20 fcx)
 clear Fg0r1_19
 go_wp2_with fail
 refine (eqSwing_any _ _ R1 _ (by exact (Fg0r1_20.out).rd) (by exact (Fw0r1_20.out).rd)).mono ?_
 rintro e w21 ⟨rfl,b21⟩
 have B21:Below w.heap.size w w21:=Below.trans B20 (b21.mono fcx)
 have z21:w20.heap.size+0≤w21.heap.size:=by have:=b21.size;(try simp only[World.size_alloc,World.size_drew] at this ⊢) <;> omega
 have qa00_21:w21.cell? ⟨w.heap.size,0,none⟩=some (.slice ap0_0 an0_0 aq0_0):=(b21.cell (p:=⟨w.heap.size,0,none⟩) fcx).trans qa00_20
 have zba0_21:w.heap.size<w21.heap.size:=fcx
 clear qa00_20
 have qa10_21:w21.cell? ⟨w.heap.size+1,0,none⟩=some (.slice ap1_0 an1_0 aq1_0):=(b21.cell (p:=⟨w.heap.size+1,0,none⟩) fcx).trans qa10_20
 have qa11_21:w21.cell? ⟨w.heap.size+1,1,none⟩=some (.int .i64 ax1_1):=(b21.cell (p:=⟨w.heap.size+1,1,none⟩) fcx).trans qa11_20
 have zba1_21:w.heap.size+1<w21.heap.size:=fcx
 clear qa10_20 qa11_20
 have qa20_21:w21.cell? ⟨w.heap.size+1+1,0,none⟩=some (.slice ap2_0 an2_0 aq2_0):=(b21.cell (p:=⟨w.heap.size+1+1,0,none⟩) fcx).trans qa20_20
 have qa21_21:w21.cell? ⟨w.heap.size+1+1,1,none⟩=some (.int .i64 ax2_1):=(b21.cell (p:=⟨w.heap.size+1+1,1,none⟩) fcx).trans qa21_20
 have qa22_21:w21.cell? ⟨w.heap.size+1+1,2,none⟩=some (.bool ax2_2):=(b21.cell (p:=⟨w.heap.size+1+1,2,none⟩) fcx).trans qa22_20
 have zba2_21:w.heap.size+1+1<w21.heap.size:=fcx
 clear qa20_20 qa21_20 qa22_20
 have qw0r00_21:w21.cell? ⟨w0rg0,0,none⟩=some (.slice w0r0dp0 w0r0dn0 w0r0dq0):=(b21.cell (p:=⟨w0rg0,0,none⟩) fcx).trans qw0r00_20
 have zbw0r0_21:w0rg0<w21.heap.size:=fcx
 clear qw0r00_20
 have qw0r10_21:w21.cell? ⟨w0rg1,0,none⟩=some (.slice w0r1dp0 w0r1dn0 w0r1dq0):=(b21.cell (p:=⟨w0rg1,0,none⟩) fcx).trans qw0r10_20
 have qw0r11_21:w21.cell? ⟨w0rg1,1,none⟩=some (.int .i64 R1.2):=(b21.cell (p:=⟨w0rg1,1,none⟩) fcx).trans qw0r11_20
 have zbw0r1_21:w0rg1<w21.heap.size:=fcx
 clear qw0r10_20 qw0r11_20
 have qx00_21:w21.cell? ⟨w5.heap.size,0,none⟩=some (.slice x0dp0 x0dn0 x0dq0):=(b21.cell (p:=⟨w5.heap.size,0,none⟩) fcx).trans qx00_20
 have zbx0_21:w5.heap.size<w21.heap.size:=fcx
 clear qx00_20
 have qx10_21:w21.cell? ⟨w6.heap.size,0,none⟩=some (.slice x1dp0 x1dn0 x1dq0):=(b21.cell (p:=⟨w6.heap.size,0,none⟩) fcx).trans qx10_20
 have qx11_21:w21.cell? ⟨w6.heap.size,1,none⟩=some (.int .i64 d1.2):=(b21.cell (p:=⟨w6.heap.size,1,none⟩) fcx).trans qx11_20
 have zbx1_21:w6.heap.size<w21.heap.size:=fcx
 clear qx10_20 qx11_20
 have qx20_21:w21.cell? ⟨w7.heap.size,0,none⟩=some (.slice x2dp0 x2dn0 x2dq0):=(b21.cell (p:=⟨w7.heap.size,0,none⟩) fcx).trans qx20_20
 have qx21_21:w21.cell? ⟨w7.heap.size,1,none⟩=some (.int .i64 d2.2.1):=(b21.cell (p:=⟨w7.heap.size,1,none⟩) fcx).trans qx21_20
 have qx22_21:w21.cell? ⟨w7.heap.size,2,none⟩=some (.bool d2.2.2):=(b21.cell (p:=⟨w7.heap.size,2,none⟩) fcx).trans qx22_20
 have zbx2_21:w7.heap.size<w21.heap.size:=fcx
 clear qx20_20 qx21_20 qx22_20
 have qg0r00_21:w21.cell? ⟨w8.heap.size,0,none⟩=some (.slice g0r0dp0 g0r0dn0 g0r0dq0):=(b21.cell (p:=⟨w8.heap.size,0,none⟩) fcx).trans qg0r00_20
 have zbg0r0_21:w8.heap.size<w21.heap.size:=fcx
 clear qg0r00_20
 have qg0r10_21:w21.cell? ⟨w8.heap.size+1,0,none⟩=some (.slice g0r1dp0 g0r1dn0 g0r1dq0):=(b21.cell (p:=⟨w8.heap.size+1,0,none⟩) fcx).trans qg0r10_20
 have qg0r11_21:w21.cell? ⟨w8.heap.size+1,1,none⟩=some (.int .i64 R1.2):=(b21.cell (p:=⟨w8.heap.size+1,1,none⟩) fcx).trans qg0r11_20
 have zbg0r1_21:w8.heap.size+1<w21.heap.size:=fcx
 clear qg0r10_20 qg0r11_20
 have Fw0r0_21:=Lib.hid (Fw0r0_20.out.below b21 fcx)
 clear Fw0r0_20
 have Fw0r1_21:=Lib.hid (Fw0r1_20.out.below b21 fcx)
 clear Fw0r1_20
 have Fg0r0_21:=Lib.hid (Fg0r0_20.out.below b21 fcx)
 clear Fg0r0_20
 have Fg0r1_21:=Lib.hid (Fg0r1_20.out.below b21 fcx)
 clear Fg0r1_20
 go_wp2_with fail
 obtain ⟨rep22,nd22,in22,-⟩:=Fg0r0_21.out
 clear Fg0r0_21
 refine (markModel_un _ _ R0 _ _ (by exact rep22) nd22 (by omega) (by omega)).mono ?_
 rintro e w22 ⟨rfl,rp22,on22⟩
 have B22:Below w.heap.size w w22:=Below.trans B21 (on22.below (fun b hb=>by have:=in22 b hb;(try simp only[World.size_alloc,World.size_drew] at this ⊢) <;> omega) fcx)
 have z22:w21.heap.size+0≤w22.heap.size:=by have:=on22.size;(try simp only[World.size_alloc,World.size_drew] at this ⊢) <;> omega
 have qa00_22:w22.cell? ⟨w.heap.size,0,none⟩=some (.slice ap0_0 an0_0 aq0_0):=(on22.cell (a:=⟨w.heap.size,0,none⟩) (fun hm=>by have:=in22 _ hm;(try simp only[World.size_alloc,World.size_drew] at this ⊢) <;> omega) fcx).trans qa00_21
 have zba0_22:w.heap.size<w22.heap.size:=fcx
 clear qa00_21
 have qa10_22:w22.cell? ⟨w.heap.size+1,0,none⟩=some (.slice ap1_0 an1_0 aq1_0):=(on22.cell (a:=⟨w.heap.size+1,0,none⟩) (fun hm=>by have:=in22 _ hm;(try simp only[World.size_alloc,World.size_drew] at this ⊢) <;> omega) fcx).trans qa10_21
 have qa11_22:w22.cell? ⟨w.heap.size+1,1,none⟩=some (.int .i64 ax1_1):=(on22.cell (a:=⟨w.heap.size+1,1,none⟩) (fun hm=>by have:=in22 _ hm;(try simp only[World.size_alloc,World.size_drew] at this ⊢) <;> omega) fcx).trans qa11_21
 have zba1_22:w.heap.size+1<w22.heap.size:=fcx
 clear qa10_21 qa11_21
 have qa20_22:w22.cell? ⟨w.heap.size+1+1,0,none⟩=some (.slice ap2_0 an2_0 aq2_0):=(on22.cell (a:=⟨w.heap.size+1+1,0,none⟩) (fun hm=>by have:=in22 _ hm;(try simp only[World.size_alloc,World.size_drew] at this ⊢) <;> omega) fcx).trans qa20_21
 have qa21_22:w22.cell? ⟨w.heap.size+1+1,1,none⟩=some (.int .i64 ax2_1):=(on22.cell (a:=⟨w.heap.size+1+1,1,none⟩) (fun hm=>by have:=in22 _ hm;(try simp only[World.size_alloc,World.size_drew] at this ⊢) <;> omega) fcx).trans qa21_21
 have qa22_22:w22.cell? ⟨w.heap.size+1+1,2,none⟩=some (.bool ax2_2):=(on22.cell (a:=⟨w.heap.size+1+1,2,none⟩) (fun hm=>by have:=in22 _ hm;(try simp only[World.size_alloc,World.size_drew] at this ⊢) <;> omega) fcx).trans qa22_21
 have zba2_22:w.heap.size+1+1<w22.heap.size:=fcx
 clear qa20_21 qa21_21 qa22_21
 have qw0r00_22:w22.cell? ⟨w0rg0,0,none⟩=some (.slice w0r0dp0 w0r0dn0 w0r0dq0):=(on22.cell (a:=⟨w0rg0,0,none⟩) (fun hm=>by have:=in22 _ hm;(try simp only[World.size_alloc,World.size_drew] at this ⊢) <;> omega) fcx).trans qw0r00_21
 have zbw0r0_22:w0rg0<w22.heap.size:=fcx
 clear qw0r00_21
 have qw0r10_22:w22.cell? ⟨w0rg1,0,none⟩=some (.slice w0r1dp0 w0r1dn0 w0r1dq0):=(on22.cell (a:=⟨w0rg1,0,none⟩) (fun hm=>by have:=in22 _ hm;(try simp only[World.size_alloc,World.size_drew] at this ⊢) <;> omega) fcx).trans qw0r10_21
 have qw0r11_22:w22.cell? ⟨w0rg1,1,none⟩=some (.int .i64 R1.2):=(on22.cell (a:=⟨w0rg1,1,none⟩) (fun hm=>by have:=in22 _ hm;(try simp only[World.size_alloc,World.size_drew] at this ⊢) <;> omega) fcx).trans qw0r11_21
 have zbw0r1_22:w0rg1<w22.heap.size:=fcx
 clear qw0r10_21 qw0r11_21
 have qx00_22:w22.cell? ⟨w5.heap.size,0,none⟩=some (.slice x0dp0 x0dn0 x0dq0):=(on22.cell (a:=⟨w5.heap.size,0,none⟩) (fun hm=>by have:=in22 _ hm;(try simp only[World.size_alloc,World.size_drew] at this ⊢) <;> omega) fcx).trans qx00_21
 have zbx0_22:w5.heap.size<w22.heap.size:=fcx
 clear qx00_21
 have qx10_22:w22.cell? ⟨w6.heap.size,0,none⟩=some (.slice x1dp0 x1dn0 x1dq0):=(on22.cell (a:=⟨w6.heap.size,0,none⟩) (fun hm=>by have:=in22 _ hm;(try simp only[World.size_alloc,World.size_drew] at this ⊢) <;> omega) fcx).trans qx10_21
 have qx11_22:w22.cell? ⟨w6.heap.size,1,none⟩=some (.int .i64 d1.2):=(on22.cell (a:=⟨w6.heap.size,1,none⟩) (fun hm=>by have:=in22 _ hm;(try simp only[World.size_alloc,World.size_drew] at this ⊢) <;> omega) fcx).trans qx11_21
 have zbx1_22:w6.heap.size<w22.heap.size:=fcx
 clear qx10_21 qx11_21
 have qx20_22:w22.cell? ⟨w7.heap.size,0,none⟩=some (.slice x2dp0 x2dn0 x2dq0):=(on22.cell (a:=⟨w7.heap.size,0,none⟩) (fun hm=>by have:=in22 _ hm;(try simp only[World.size_alloc,World.size_drew] at this ⊢) <;> omega) fcx).trans qx20_21
 have qx21_22:w22.cell? ⟨w7.heap.size,1,none⟩=some (.int .i64 d2.2.1):=(on22.cell (a:=⟨w7.heap.size,1,none⟩) (fun hm=>by have:=in22 _ hm;(try simp only[World.size_alloc,World.size_drew] at this ⊢) <;> omega) fcx).trans qx21_21
 have qx22_22:w22.cell? ⟨w7.heap.size,2,none⟩=some (.bool d2.2.2):=(on22.cell (a:=⟨w7.heap.size,2,none⟩) (fun hm=>by have:=in22 _ hm;(try simp only[World.size_alloc,World.size_drew] at this ⊢) <;> omega) fcx).trans qx22_21
 have zbx2_22:w7.heap.size<w22.heap.size:=fcx
 clear qx20_21 qx21_21 qx22_21
 have qg0r00_22:w22.cell? ⟨w8.heap.size,0,none⟩=some (.slice g0r0dp0 g0r0dn0 g0r0dq0):=(on22.cell (a:=⟨w8.heap.size,0,none⟩) (fun hm=>by have:=in22 _ hm;(try simp only[World.size_alloc,World.size_drew] at this ⊢) <;> omega) fcx).trans qg0r00_21
 have zbg0r0_22:w8.heap.size<w22.heap.size:=fcx
 clear qg0r00_21
 have qg0r10_22:w22.cell? ⟨w8.heap.size+1,0,none⟩=some (.slice g0r1dp0 g0r1dn0 g0r1dq0):=(on22.cell (a:=⟨w8.heap.size+1,0,none⟩) (fun hm=>by have:=in22 _ hm;(try simp only[World.size_alloc,World.size_drew] at this ⊢) <;> omega) fcx).trans qg0r10_21
 have qg0r11_22:w22.cell? ⟨w8.heap.size+1,1,none⟩=some (.int .i64 R1.2):=(on22.cell (a:=⟨w8.heap.size+1,1,none⟩) (fun hm=>by have:=in22 _ hm;(try simp only[World.size_alloc,World.size_drew] at this ⊢) <;> omega) fcx).trans qg0r11_21
 have zbg0r1_22:w8.heap.size+1<w22.heap.size:=fcx
 clear qg0r10_21 qg0r11_21
 have Fw0r0_22:=Lib.hid (Fw0r0_21.out.only on22 (fun b hb=>by have:=in22 b hb;(try simp only[World.size_alloc,World.size_drew] at this ⊢) <;> omega))
 clear Fw0r0_21
 have Fw0r1_22:=Lib.hid (Fw0r1_21.out.only on22 (fun b hb=>by have:=in22 b hb;(try simp only[World.size_alloc,World.size_drew] at this ⊢) <;> omega))
 clear Fw0r1_21
 have Fg0r1_22:=Lib.hid (Fg0r1_21.out.onlyd on22 (fun b hb hm=>g0rdis b hb hm))
 clear Fg0r1_21
 have G22:=FrU.of rp22 nd22 in22 fcx
 clear rep22 rp22
 have Fg0r0_22:=Lib.hid G22;clear G22
 go_wp2_with fail
 obtain ⟨rep23,nd23,in23,-⟩:=Fg0r1_22.out
 clear Fg0r1_22
 refine (markSwing_un _ _ R1 _ _ (by exact rep23) nd23 (by omega) (by omega)).mono ?_
 rintro e w23 ⟨rfl,rp23,on23⟩
 have B23:Below w.heap.size w w23:=Below.trans B22 (on23.below (fun b hb=>by have:=in23 b hb;(try simp only[World.size_alloc,World.size_drew] at this ⊢) <;> omega) fcx)
 have z23:w22.heap.size+0≤w23.heap.size:=by have:=on23.size;(try simp only[World.size_alloc,World.size_drew] at this ⊢) <;> omega
 have qa00_23:w23.cell? ⟨w.heap.size,0,none⟩=some (.slice ap0_0 an0_0 aq0_0):=(on23.cell (a:=⟨w.heap.size,0,none⟩) (fun hm=>by have:=in23 _ hm;(try simp only[World.size_alloc,World.size_drew] at this ⊢) <;> omega) fcx).trans qa00_22
 have zba0_23:w.heap.size<w23.heap.size:=fcx
 clear qa00_22
 have qa10_23:w23.cell? ⟨w.heap.size+1,0,none⟩=some (.slice ap1_0 an1_0 aq1_0):=(on23.cell (a:=⟨w.heap.size+1,0,none⟩) (fun hm=>by have:=in23 _ hm;(try simp only[World.size_alloc,World.size_drew] at this ⊢) <;> omega) fcx).trans qa10_22
 have qa11_23:w23.cell? ⟨w.heap.size+1,1,none⟩=some (.int .i64 ax1_1):=(on23.cell (a:=⟨w.heap.size+1,1,none⟩) (fun hm=>by have:=in23 _ hm;(try simp only[World.size_alloc,World.size_drew] at this ⊢) <;> omega) fcx).trans qa11_22
 have zba1_23:w.heap.size+1<w23.heap.size:=fcx
 clear qa10_22 qa11_22
 have qa20_23:w23.cell? ⟨w.heap.size+1+1,0,none⟩=some (.slice ap2_0 an2_0 aq2_0):=(on23.cell (a:=⟨w.heap.size+1+1,0,none⟩) (fun hm=>by have:=in23 _ hm;(try simp only[World.size_alloc,World.size_drew] at this ⊢) <;> omega) fcx).trans qa20_22
 have qa21_23:w23.cell? ⟨w.heap.size+1+1,1,none⟩=some (.int .i64 ax2_1):=(on23.cell (a:=⟨w.heap.size+1+1,1,none⟩) (fun hm=>by have:=in23 _ hm;(try simp only[World.size_alloc,World.size_drew] at this ⊢) <;> omega) fcx).trans qa21_22
 have qa22_23:w23.cell? ⟨w.heap.size+1+1,2,none⟩=some (.bool ax2_2):=(on23.cell (a:=⟨w.heap.size+1+1,2,none⟩) (fun hm=>by have:=in23 _ hm;(try simp only[World.size_alloc,World.size_drew] at this ⊢) <;> omega) fcx).trans qa22_22
 have zba2_23:w.heap.size+1+1<w23.heap.size:=fcx
 clear qa20_22 qa21_22 qa22_22
 have qw0r00_23:w23.cell? ⟨w0rg0,0,none⟩=some (.slice w0r0dp0 w0r0dn0 w0r0dq0):=(on23.cell (a:=⟨w0rg0,0,none⟩) (fun hm=>by have:=in23 _ hm;(try simp only[World.size_alloc,World.size_drew] at this ⊢) <;> omega) fcx).trans qw0r00_22
 have zbw0r0_23:w0rg0<w23.heap.size:=fcx
 clear qw0r00_22
 have qw0r10_23:w23.cell? ⟨w0rg1,0,none⟩=some (.slice w0r1dp0 w0r1dn0 w0r1dq0):=(on23.cell (a:=⟨w0rg1,0,none⟩) (fun hm=>by have:=in23 _ hm;(try simp only[World.size_alloc,World.size_drew] at this ⊢) <;> omega) fcx).trans qw0r10_22
 have qw0r11_23:w23.cell? ⟨w0rg1,1,none⟩=some (.int .i64 R1.2):=(on23.cell (a:=⟨w0rg1,1,none⟩) (fun hm=>by have:=in23 _ hm;(try simp only[World.size_alloc,World.size_drew] at this ⊢) <;> omega) fcx).trans qw0r11_22
 have zbw0r1_23:w0rg1<w23.heap.size:=fcx
 clear qw0r10_22 qw0r11_22
 have qx00_23:w23.cell? ⟨w5.heap.size,0,none⟩=some (.slice x0dp0 x0dn0 x0dq0):=(on23.cell (a:=⟨w5.heap.size,0,none⟩) (fun hm=>by have:=in23 _ hm;(try simp only[World.size_alloc,World.size_drew] at this ⊢) <;> omega) fcx).trans qx00_22
 have zbx0_23:w5.heap.size<w23.heap.size:=fcx
 clear qx00_22
 have qx10_23:w23.cell? ⟨w6.heap.size,0,none⟩=some (.slice x1dp0 x1dn0 x1dq0):=(on23.cell (a:=⟨w6.heap.size,0,none⟩) (fun hm=>by have:=in23 _ hm;(try simp only[World.size_alloc,World.size_drew] at this ⊢) <;> omega) fcx).trans qx10_22
 have qx11_23:w23.cell? ⟨w6.heap.size,1,none⟩=some (.int .i64 d1.2):=(on23.cell (a:=⟨w6.heap.size,1,none⟩) (fun hm=>by have:=in23 _ hm;(try simp only[World.size_alloc,World.size_drew] at this ⊢) <;> omega) fcx).trans qx11_22
 have zbx1_23:w6.heap.size<w23.heap.size:=fcx
 clear qx10_22 qx11_22
 have qx20_23:w23.cell? ⟨w7.heap.size,0,none⟩=some (.slice x2dp0 x2dn0 x2dq0):=(on23.cell (a:=⟨w7.heap.size,0,none⟩) (fun hm=>by have:=in23 _ hm;(try simp only[World.size_alloc,World.size_drew] at this ⊢) <;> omega) fcx).trans qx20_22
 have qx21_23:w23.cell? ⟨w7.heap.size,1,none⟩=some (.int .i64 d2.2.1):=(on23.cell (a:=⟨w7.heap.size,1,none⟩) (fun hm=>by have:=in23 _ hm;(try simp only[World.size_alloc,World.size_drew] at this ⊢) <;> omega) fcx).trans qx21_22
 have qx22_23:w23.cell? ⟨w7.heap.size,2,none⟩=some (.bool d2.2.2):=(on23.cell (a:=⟨w7.heap.size,2,none⟩) (fun hm=>by have:=in23 _ hm;(try simp only[World.size_alloc,World.size_drew] at this ⊢) <;> omega) fcx).trans qx22_22
 have zbx2_23:w7.heap.size<w23.heap.size:=fcx
 clear qx20_22 qx21_22 qx22_22
 have qg0r00_23:w23.cell? ⟨w8.heap.size,0,none⟩=some (.slice g0r0dp0 g0r0dn0 g0r0dq0):=(on23.cell (a:=⟨w8.heap.size,0,none⟩) (fun hm=>by have:=in23 _ hm;(try simp only[World.size_alloc,World.size_drew] at this ⊢) <;> omega) fcx).trans qg0r00_22
 have zbg0r0_23:w8.heap.size<w23.heap.size:=fcx
 clear qg0r00_22
 have qg0r10_23:w23.cell? ⟨w8.heap.size+1,0,none⟩=some (.slice g0r1dp0 g0r1dn0 g0r1dq0):=(on23.cell (a:=⟨w8.heap.size+1,0,none⟩) (fun hm=>by have:=in23 _ hm;(try simp only[World.size_alloc,World.size_drew] at this ⊢) <;> omega) fcx).trans qg0r10_22
 have qg0r11_23:w23.cell? ⟨w8.heap.size+1,1,none⟩=some (.int .i64 R1.2):=(on23.cell (a:=⟨w8.heap.size+1,1,none⟩) (fun hm=>by have:=in23 _ hm;(try simp only[World.size_alloc,World.size_drew] at this ⊢) <;> omega) fcx).trans qg0r11_22
 have zbg0r1_23:w8.heap.size+1<w23.heap.size:=fcx
 clear qg0r10_22 qg0r11_22
 have Fw0r0_23:=Lib.hid (Fw0r0_22.out.only on23 (fun b hb=>by have:=in23 b hb;(try simp only[World.size_alloc,World.size_drew] at this ⊢) <;> omega))
 clear Fw0r0_22
 have Fw0r1_23:=Lib.hid (Fw0r1_22.out.only on23 (fun b hb=>by have:=in23 b hb;(try simp only[World.size_alloc,World.size_drew] at this ⊢) <;> omega))
 clear Fw0r1_22
 have Fg0r0_23:=Lib.hid (Fg0r0_22.out.onlyd on23 (fun b hb hm=>g0rdis b hm hb))
 clear Fg0r0_22
 have G23:=FrU.of rp23 nd23 in23 fcx
 clear rep23 rp23
 have Fg0r1_23:=Lib.hid G23;clear G23
 go_wp2_with fail
 refine (heldModel_any _ _ R0 _ (by exact (Fg0r0_23.out).rd) (by omega) (by omega)).mono ?_
 rintro e w24 ⟨rfl,b24⟩
 have B24:Below w.heap.size w w24:=Below.trans B23 (b24.mono fcx)
 have z24:w23.heap.size+0≤w24.heap.size:=by have:=b24.size;(try simp only[World.size_alloc,World.size_drew] at this ⊢) <;> omega
 have qa00_24:w24.cell? ⟨w.heap.size,0,none⟩=some (.slice ap0_0 an0_0 aq0_0):=(b24.cell (p:=⟨w.heap.size,0,none⟩) fcx).trans qa00_23
 have zba0_24:w.heap.size<w24.heap.size:=fcx
 clear qa00_23
 have qa10_24:w24.cell? ⟨w.heap.size+1,0,none⟩=some (.slice ap1_0 an1_0 aq1_0):=(b24.cell (p:=⟨w.heap.size+1,0,none⟩) fcx).trans qa10_23
 have qa11_24:w24.cell? ⟨w.heap.size+1,1,none⟩=some (.int .i64 ax1_1):=(b24.cell (p:=⟨w.heap.size+1,1,none⟩) fcx).trans qa11_23
 have zba1_24:w.heap.size+1<w24.heap.size:=fcx
 clear qa10_23 qa11_23
 have qa20_24:w24.cell? ⟨w.heap.size+1+1,0,none⟩=some (.slice ap2_0 an2_0 aq2_0):=(b24.cell (p:=⟨w.heap.size+1+1,0,none⟩) fcx).trans qa20_23
 have qa21_24:w24.cell? ⟨w.heap.size+1+1,1,none⟩=some (.int .i64 ax2_1):=(b24.cell (p:=⟨w.heap.size+1+1,1,none⟩) fcx).trans qa21_23
 have qa22_24:w24.cell? ⟨w.heap.size+1+1,2,none⟩=some (.bool ax2_2):=(b24.cell (p:=⟨w.heap.size+1+1,2,none⟩) fcx).trans qa22_23
 have zba2_24:w.heap.size+1+1<w24.heap.size:=fcx
 clear qa20_23 qa21_23 qa22_23
 have qw0r00_24:w24.cell? ⟨w0rg0,0,none⟩=some (.slice w0r0dp0 w0r0dn0 w0r0dq0):=(b24.cell (p:=⟨w0rg0,0,none⟩) fcx).trans qw0r00_23
 have zbw0r0_24:w0rg0<w24.heap.size:=fcx
 clear qw0r00_23
 have qw0r10_24:w24.cell? ⟨w0rg1,0,none⟩=some (.slice w0r1dp0 w0r1dn0 w0r1dq0):=(b24.cell (p:=⟨w0rg1,0,none⟩) fcx).trans qw0r10_23
 have qw0r11_24:w24.cell? ⟨w0rg1,1,none⟩=some (.int .i64 R1.2):=(b24.cell (p:=⟨w0rg1,1,none⟩) fcx).trans qw0r11_23
 have zbw0r1_24:w0rg1<w24.heap.size:=fcx
 clear qw0r10_23 qw0r11_23
 have qx00_24:w24.cell? ⟨w5.heap.size,0,none⟩=some (.slice x0dp0 x0dn0 x0dq0):=(b24.cell (p:=⟨w5.heap.size,0,none⟩) fcx).trans qx00_23
 have zbx0_24:w5.heap.size<w24.heap.size:=fcx
 clear qx00_23
 have qx10_24:w24.cell? ⟨w6.heap.size,0,none⟩=some (.slice x1dp0 x1dn0 x1dq0):=(b24.cell (p:=⟨w6.heap.size,0,none⟩) fcx).trans qx10_23
 have qx11_24:w24.cell? ⟨w6.heap.size,1,none⟩=some (.int .i64 d1.2):=(b24.cell (p:=⟨w6.heap.size,1,none⟩) fcx).trans qx11_23
 have zbx1_24:w6.heap.size<w24.heap.size:=fcx
 clear qx10_23 qx11_23
 have qx20_24:w24.cell? ⟨w7.heap.size,0,none⟩=some (.slice x2dp0 x2dn0 x2dq0):=(b24.cell (p:=⟨w7.heap.size,0,none⟩) fcx).trans qx20_23
 have qx21_24:w24.cell? ⟨w7.heap.size,1,none⟩=some (.int .i64 d2.2.1):=(b24.cell (p:=⟨w7.heap.size,1,none⟩) fcx).trans qx21_23
 have qx22_24:w24.cell? ⟨w7.heap.size,2,none⟩=some (.bool d2.2.2):=(b24.cell (p:=⟨w7.heap.size,2,none⟩) fcx).trans qx22_23
 have zbx2_24:w7.heap.size<w24.heap.size:=fcx
 clear qx20_23 qx21_23 qx22_23
 have qg0r00_24:w24.cell? ⟨w8.heap.size,0,none⟩=some (.slice g0r0dp0 g0r0dn0 g0r0dq0):=(b24.cell (p:=⟨w8.heap.size,0,none⟩) fcx).trans qg0r00_23
 have zbg0r0_24:w8.heap.size<w24.heap.size:=fcx
 clear qg0r00_23
 have qg0r10_24:w24.cell? ⟨w8.heap.size+1,0,none⟩=some (.slice g0r1dp0 g0r1dn0 g0r1dq0):=(b24.cell (p:=⟨w8.heap.size+1,0,none⟩) fcx).trans qg0r10_23
 have qg0r11_24:w24.cell? ⟨w8.heap.size+1,1,none⟩=some (.int .i64 R1.2):=(b24.cell (p:=⟨w8.heap.size+1,1,none⟩) fcx).trans qg0r11_23
 have zbg0r1_24:w8.heap.size+1<w24.heap.size:=fcx
 clear qg0r10_23 qg0r11_23
 have Fw0r0_24:=Lib.hid (Fw0r0_23.out.below b24 fcx)
 clear Fw0r0_23
 have Fw0r1_24:=Lib.hid (Fw0r1_23.out.below b24 fcx)
 clear Fw0r1_23
 have Fg0r0_24:=Lib.hid (Fg0r0_23.out.below b24 fcx)
 clear Fg0r0_23
 have Fg0r1_24:=Lib.hid (Fg0r1_23.out.below b24 fcx)
 clear Fg0r1_23
 go_wp2_with fail
 refine (heldSwing_any _ _ R1 _ (by exact (Fg0r1_24.out).rd) (by omega) (by omega)).mono ?_
 rintro e w25 ⟨rfl,b25⟩
 have B25:Below w.heap.size w w25:=Below.trans B24 (b25.mono fcx)
 have z25:w24.heap.size+0≤w25.heap.size:=by have:=b25.size;(try simp only[World.size_alloc,World.size_drew] at this ⊢) <;> omega
 have qa00_25:w25.cell? ⟨w.heap.size,0,none⟩=some (.slice ap0_0 an0_0 aq0_0):=(b25.cell (p:=⟨w.heap.size,0,none⟩) fcx).trans qa00_24
 have zba0_25:w.heap.size<w25.heap.size:=fcx
 clear qa00_24
 have qa10_25:w25.cell? ⟨w.heap.size+1,0,none⟩=some (.slice ap1_0 an1_0 aq1_0):=(b25.cell (p:=⟨w.heap.size+1,0,none⟩) fcx).trans qa10_24
 have qa11_25:w25.cell? ⟨w.heap.size+1,1,none⟩=some (.int .i64 ax1_1):=(b25.cell (p:=⟨w.heap.size+1,1,none⟩) fcx).trans qa11_24
 have zba1_25:w.heap.size+1<w25.heap.size:=fcx
 clear qa10_24 qa11_24
 have qa20_25:w25.cell? ⟨w.heap.size+1+1,0,none⟩=some (.slice ap2_0 an2_0 aq2_0):=(b25.cell (p:=⟨w.heap.size+1+1,0,none⟩) fcx).trans qa20_24
 have qa21_25:w25.cell? ⟨w.heap.size+1+1,1,none⟩=some (.int .i64 ax2_1):=(b25.cell (p:=⟨w.heap.size+1+1,1,none⟩) fcx).trans qa21_24
 have qa22_25:w25.cell? ⟨w.heap.size+1+1,2,none⟩=some (.bool ax2_2):=(b25.cell (p:=⟨w.heap.size+1+1,2,none⟩) fcx).trans qa22_24
 have zba2_25:w.heap.size+1+1<w25.heap.size:=fcx
 clear qa20_24 qa21_24 qa22_24
 have qw0r00_25:w25.cell? ⟨w0rg0,0,none⟩=some (.slice w0r0dp0 w0r0dn0 w0r0dq0):=(b25.cell (p:=⟨w0rg0,0,none⟩) fcx).trans qw0r00_24
 have zbw0r0_25:w0rg0<w25.heap.size:=fcx
 clear qw0r00_24
 have qw0r10_25:w25.cell? ⟨w0rg1,0,none⟩=some (.slice w0r1dp0 w0r1dn0 w0r1dq0):=(b25.cell (p:=⟨w0rg1,0,none⟩) fcx).trans qw0r10_24
 have qw0r11_25:w25.cell? ⟨w0rg1,1,none⟩=some (.int .i64 R1.2):=(b25.cell (p:=⟨w0rg1,1,none⟩) fcx).trans qw0r11_24
 have zbw0r1_25:w0rg1<w25.heap.size:=fcx
 clear qw0r10_24 qw0r11_24
 have qx00_25:w25.cell? ⟨w5.heap.size,0,none⟩=some (.slice x0dp0 x0dn0 x0dq0):=(b25.cell (p:=⟨w5.heap.size,0,none⟩) fcx).trans qx00_24
 have zbx0_25:w5.heap.size<w25.heap.size:=fcx
 clear qx00_24
 have qx10_25:w25.cell? ⟨w6.heap.size,0,none⟩=some (.slice x1dp0 x1dn0 x1dq0):=(b25.cell (p:=⟨w6.heap.size,0,none⟩) fcx).trans qx10_24
 have qx11_25:w25.cell? ⟨w6.heap.size,1,none⟩=some (.int .i64 d1.2):=(b25.cell (p:=⟨w6.heap.size,1,none⟩) fcx).trans qx11_24
 have zbx1_25:w6.heap.size<w25.heap.size:=fcx
 clear qx10_24 qx11_24
 have qx20_25:w25.cell? ⟨w7.heap.size,0,none⟩=some (.slice x2dp0 x2dn0 x2dq0):=(b25.cell (p:=⟨w7.heap.size,0,none⟩) fcx).trans qx20_24
 have qx21_25:w25.cell? ⟨w7.heap.size,1,none⟩=some (.int .i64 d2.2.1):=(b25.cell (p:=⟨w7.heap.size,1,none⟩) fcx).trans qx21_24
 have qx22_25:w25.cell? ⟨w7.heap.size,2,none⟩=some (.bool d2.2.2):=(b25.cell (p:=⟨w7.heap.size,2,none⟩) fcx).trans qx22_24
 have zbx2_25:w7.heap.size<w25.heap.size:=fcx
 clear qx20_24 qx21_24 qx22_24
 have qg0r00_25:w25.cell? ⟨w8.heap.size,0,none⟩=some (.slice g0r0dp0 g0r0dn0 g0r0dq0):=(b25.cell (p:=⟨w8.heap.size,0,none⟩) fcx).trans qg0r00_24
 have zbg0r0_25:w8.heap.size<w25.heap.size:=fcx
 clear qg0r00_24
 have qg0r10_25:w25.cell? ⟨w8.heap.size+1,0,none⟩=some (.slice g0r1dp0 g0r1dn0 g0r1dq0):=(b25.cell (p:=⟨w8.heap.size+1,0,none⟩) fcx).trans qg0r10_24
 have qg0r11_25:w25.cell? ⟨w8.heap.size+1,1,none⟩=some (.int .i64 R1.2):=(b25.cell (p:=⟨w8.heap.size+1,1,none⟩) fcx).trans qg0r11_24
 have zbg0r1_25:w8.heap.size+1<w25.heap.size:=fcx
 clear qg0r10_24 qg0r11_24
 have Fw0r0_25:=Lib.hid (Fw0r0_24.out.below b25 fcx)
 clear Fw0r0_24
 have Fw0r1_25:=Lib.hid (Fw0r1_24.out.below b25 fcx)
 clear Fw0r1_24
 have Fg0r0_25:=Lib.hid (Fg0r0_24.out.below b25 fcx)
 clear Fg0r0_24
 have Fg0r1_25:=Lib.hid (Fg0r1_24.out.below b25 fcx)
 clear Fg0r1_24
 go_wp2_with fail
 go_cut [24,25,26] (fun s24 s25 s26 wx=>∃ (h0rg0:Nat) (h0rg1:Nat) (h0r0dp0:Option Addr) (h0r0dn0:Nat) (h0r0dq0:Nat) (h0r1dp0:Option Addr) (h0r1dn0:Nat) (h0r1dq0:Nat),s24 = .pointer (some ⟨h0rg0,0,none⟩)∧s25 = .pointer (some ⟨h0rg1,0,none⟩)∧s26 = .bool R2∧wx.cell? ⟨h0rg0,0,none⟩=some (.slice h0r0dp0 h0r0dn0 h0r0dq0)∧wx.cell? ⟨h0rg1,0,none⟩=some (.slice h0r1dp0 h0r1dn0 h0r1dq0)∧wx.cell? ⟨h0rg1,1,none⟩=some (.int .i64 R1.2)∧Below w25.heap.size w25 wx∧w25.heap.size≤h0rg0∧h0rg0<wx.heap.size∧w25.heap.size≤h0rg1∧h0rg1<wx.heap.size∧(∃ lo hi,w25.heap.size≤lo∧FrR tModel lo hi wx [.slice h0r0dp0 h0r0dn0 h0r0dq0] R0)∧(∃ lo hi,w25.heap.size≤lo∧FrR tSwing lo hi wx [.slice h0r1dp0 h0r1dn0 h0r1dq0,.int .i64 R1.2] R1))
 case first =>
  rename_i J K' hJ hK
  refine wp_mono (sw_regionI (d0:=d0) (d1:=d1) (d2:=d2) (x3:=x3) (x4:=x4) (R0:=R0) (R1:=R1) (R2:=R2) (cs0:=[.slice ap0_0 an0_0 aq0_0]) (cs1:=[.slice ap1_0 an1_0 aq1_0,.int .i64 ax1_1]) (cs2:=[.slice ap2_0 an2_0 aq2_0,.int .i64 ax2_1,.bool ax2_2]) (by kernel_rfl) (fun cs0 cs1 cs2 w r0 r1 r2=>Calls.mono (HI.out cs0 cs1 cs2 w r0 r1 r2) (fun e w' ⟨rs0,rs1,y0,y1,he,f0,f1,_,fB⟩=>⟨rs0,rs1,he,f0.toR,f1.toR,fB⟩)) (by omega) (by omega) (by omega) HW3.out HW4.out rfl rfl (rd_below H0.out B25) (rd_below H1.out B25) (rd_below H2.out B25) rfl rfl rfl rfl rfl (cells1 qa00_25) (cells2 qa10_25 qa11_25) (cells3 qa20_25 qa21_25 qa22_25) (by omega) (by omega) (by omega)) ?_
  rintro ex a' w' ⟨rfl,hk,hd,hr⟩
  refine hK a' w' (Met.intro (hJ a' w' ?_))
  have he:=kept_mk hk hd
  (repeat apply Exists.intro)
  exact ⟨hr,he⟩
 obtain ⟨h0rg0,h0rg1,h0r0dp0,h0r0dn0,h0r0dq0,h0r1dp0,h0r1dn0,h0r1dq0,rfl,rfl,rfl,qh0r00_26,qh0r10_26,qh0r11_26,bcut,h0rg0lo,h0rg0hi,h0rg1lo,h0rg1hi,⟨h0rf0l,h0rf0h,h0rf0z,h0rf0⟩,⟨h0rf1l,h0rf1h,h0rf1z,h0rf1⟩⟩:=hcut
 obtain ⟨w26,rfl⟩:∃ z,z=wc:=⟨_,rfl⟩
 replace h0rf0:=FrR.mono h0rf0 h0rf0z h0rf0.hi_le (Nat.le_refl _)
 replace h0rf1:=FrR.mono h0rf1 h0rf1z h0rf1.hi_le (Nat.le_refl _)
 have B26:Below w.heap.size w w26:=Below.trans B25 (bcut.mono fcx)
 have z26:w25.heap.size+0≤w26.heap.size:=by have:=bcut.size;(try simp only[World.size_alloc,World.size_drew] at this ⊢) <;> omega
 have qa00_26:w26.cell? ⟨w.heap.size,0,none⟩=some (.slice ap0_0 an0_0 aq0_0):=(bcut.cell (p:=⟨w.heap.size,0,none⟩) fcx).trans qa00_25
 have zba0_26:w.heap.size<w26.heap.size:=fcx
 clear qa00_25
 have qa10_26:w26.cell? ⟨w.heap.size+1,0,none⟩=some (.slice ap1_0 an1_0 aq1_0):=(bcut.cell (p:=⟨w.heap.size+1,0,none⟩) fcx).trans qa10_25
 have qa11_26:w26.cell? ⟨w.heap.size+1,1,none⟩=some (.int .i64 ax1_1):=(bcut.cell (p:=⟨w.heap.size+1,1,none⟩) fcx).trans qa11_25
 have zba1_26:w.heap.size+1<w26.heap.size:=fcx
 clear qa10_25 qa11_25
 have qa20_26:w26.cell? ⟨w.heap.size+1+1,0,none⟩=some (.slice ap2_0 an2_0 aq2_0):=(bcut.cell (p:=⟨w.heap.size+1+1,0,none⟩) fcx).trans qa20_25
 have qa21_26:w26.cell? ⟨w.heap.size+1+1,1,none⟩=some (.int .i64 ax2_1):=(bcut.cell (p:=⟨w.heap.size+1+1,1,none⟩) fcx).trans qa21_25
 have qa22_26:w26.cell? ⟨w.heap.size+1+1,2,none⟩=some (.bool ax2_2):=(bcut.cell (p:=⟨w.heap.size+1+1,2,none⟩) fcx).trans qa22_25
 have zba2_26:w.heap.size+1+1<w26.heap.size:=fcx
 clear qa20_25 qa21_25 qa22_25
 have qw0r00_26:w26.cell? ⟨w0rg0,0,none⟩=some (.slice w0r0dp0 w0r0dn0 w0r0dq0):=(bcut.cell (p:=⟨w0rg0,0,none⟩) fcx).trans qw0r00_25
 have zbw0r0_26:w0rg0<w26.heap.size:=fcx
 clear qw0r00_25
 have qw0r10_26:w26.cell? ⟨w0rg1,0,none⟩=some (.slice w0r1dp0 w0r1dn0 w0r1dq0):=(bcut.cell (p:=⟨w0rg1,0,none⟩) fcx).trans qw0r10_25
 have qw0r11_26:w26.cell? ⟨w0rg1,1,none⟩=some (.int .i64 R1.2):=(bcut.cell (p:=⟨w0rg1,1,none⟩) fcx).trans qw0r11_25
 have zbw0r1_26:w0rg1<w26.heap.size:=fcx
 clear qw0r10_25 qw0r11_25
 have qx00_26:w26.cell? ⟨w5.heap.size,0,none⟩=some (.slice x0dp0 x0dn0 x0dq0):=(bcut.cell (p:=⟨w5.heap.size,0,none⟩) fcx).trans qx00_25
 have zbx0_26:w5.heap.size<w26.heap.size:=fcx
 clear qx00_25
 have qx10_26:w26.cell? ⟨w6.heap.size,0,none⟩=some (.slice x1dp0 x1dn0 x1dq0):=(bcut.cell (p:=⟨w6.heap.size,0,none⟩) fcx).trans qx10_25
 have qx11_26:w26.cell? ⟨w6.heap.size,1,none⟩=some (.int .i64 d1.2):=(bcut.cell (p:=⟨w6.heap.size,1,none⟩) fcx).trans qx11_25
 have zbx1_26:w6.heap.size<w26.heap.size:=fcx
 clear qx10_25 qx11_25
 have qx20_26:w26.cell? ⟨w7.heap.size,0,none⟩=some (.slice x2dp0 x2dn0 x2dq0):=(bcut.cell (p:=⟨w7.heap.size,0,none⟩) fcx).trans qx20_25
 have qx21_26:w26.cell? ⟨w7.heap.size,1,none⟩=some (.int .i64 d2.2.1):=(bcut.cell (p:=⟨w7.heap.size,1,none⟩) fcx).trans qx21_25
 have qx22_26:w26.cell? ⟨w7.heap.size,2,none⟩=some (.bool d2.2.2):=(bcut.cell (p:=⟨w7.heap.size,2,none⟩) fcx).trans qx22_25
 have zbx2_26:w7.heap.size<w26.heap.size:=fcx
 clear qx20_25 qx21_25 qx22_25
 have qg0r00_26:w26.cell? ⟨w8.heap.size,0,none⟩=some (.slice g0r0dp0 g0r0dn0 g0r0dq0):=(bcut.cell (p:=⟨w8.heap.size,0,none⟩) fcx).trans qg0r00_25
 have zbg0r0_26:w8.heap.size<w26.heap.size:=fcx
 clear qg0r00_25
 have qg0r10_26:w26.cell? ⟨w8.heap.size+1,0,none⟩=some (.slice g0r1dp0 g0r1dn0 g0r1dq0):=(bcut.cell (p:=⟨w8.heap.size+1,0,none⟩) fcx).trans qg0r10_25
 have qg0r11_26:w26.cell? ⟨w8.heap.size+1,1,none⟩=some (.int .i64 R1.2):=(bcut.cell (p:=⟨w8.heap.size+1,1,none⟩) fcx).trans qg0r11_25
 have zbg0r1_26:w8.heap.size+1<w26.heap.size:=fcx
 clear qg0r10_25 qg0r11_25
 have Fw0r0_26:=Lib.hid (Fw0r0_25.out.below bcut fcx)
 clear Fw0r0_25
 have Fw0r1_26:=Lib.hid (Fw0r1_25.out.below bcut fcx)
 clear Fw0r1_25
 have Fg0r0_26:=Lib.hid (Fg0r0_25.out.below bcut fcx)
 clear Fg0r0_25
 have Fg0r1_26:=Lib.hid (Fg0r1_25.out.below bcut fcx)
 clear Fg0r1_25
 have zbh0r0_26:h0rg0<w26.heap.size:=h0rg0hi
 have Fh0r0_26:=Lib.hid h0rf0;clear h0rf0
 have zbh0r1_26:h0rg1<w26.heap.size:=h0rg1hi
 have Fh0r1_26:=Lib.hid h0rf1;clear h0rf1
 go_wp2_with fail
 refine (eqModel_any _ _ R0 _ (by exact (Fh0r0_26.out).rd) (by exact (Fw0r0_26.out).rd)).mono ?_
 rintro e w27 ⟨rfl,b27⟩
 have B27:Below w.heap.size w w27:=Below.trans B26 (b27.mono fcx)
 have z27:w26.heap.size+0≤w27.heap.size:=by have:=b27.size;(try simp only[World.size_alloc,World.size_drew] at this ⊢) <;> omega
 have qa00_27:w27.cell? ⟨w.heap.size,0,none⟩=some (.slice ap0_0 an0_0 aq0_0):=(b27.cell (p:=⟨w.heap.size,0,none⟩) fcx).trans qa00_26
 have zba0_27:w.heap.size<w27.heap.size:=fcx
 clear qa00_26
 have qa10_27:w27.cell? ⟨w.heap.size+1,0,none⟩=some (.slice ap1_0 an1_0 aq1_0):=(b27.cell (p:=⟨w.heap.size+1,0,none⟩) fcx).trans qa10_26
 have qa11_27:w27.cell? ⟨w.heap.size+1,1,none⟩=some (.int .i64 ax1_1):=(b27.cell (p:=⟨w.heap.size+1,1,none⟩) fcx).trans qa11_26
 have zba1_27:w.heap.size+1<w27.heap.size:=fcx
 clear qa10_26 qa11_26
 have qa20_27:w27.cell? ⟨w.heap.size+1+1,0,none⟩=some (.slice ap2_0 an2_0 aq2_0):=(b27.cell (p:=⟨w.heap.size+1+1,0,none⟩) fcx).trans qa20_26
 have qa21_27:w27.cell? ⟨w.heap.size+1+1,1,none⟩=some (.int .i64 ax2_1):=(b27.cell (p:=⟨w.heap.size+1+1,1,none⟩) fcx).trans qa21_26
 have qa22_27:w27.cell? ⟨w.heap.size+1+1,2,none⟩=some (.bool ax2_2):=(b27.cell (p:=⟨w.heap.size+1+1,2,none⟩) fcx).trans qa22_26
 have zba2_27:w.heap.size+1+1<w27.heap.size:=fcx
 clear qa20_26 qa21_26 qa22_26
 have qw0r00_27:w27.cell? ⟨w0rg0,0,none⟩=some (.slice w0r0dp0 w0r0dn0 w0r0dq0):=(b27.cell (p:=⟨w0rg0,0,none⟩) fcx).trans qw0r00_26
 have zbw0r0_27:w0rg0<w27.heap.size:=fcx
 clear qw0r00_26
 have qw0r10_27:w27.cell? ⟨w0rg1,0,none⟩=some (.slice w0r1dp0 w0r1dn0 w0r1dq0):=(b27.cell (p:=⟨w0rg1,0,none⟩) fcx).trans qw0r10_26
 have qw0r11_27:w27.cell? ⟨w0rg1,1,none⟩=some (.int .i64 R1.2):=(b27.cell (p:=⟨w0rg1,1,none⟩) fcx).trans qw0r11_26
 have zbw0r1_27:w0rg1<w27.heap.size:=fcx
 clear qw0r10_26 qw0r11_26
 have qx00_27:w27.cell? ⟨w5.heap.size,0,none⟩=some (.slice x0dp0 x0dn0 x0dq0):=(b27.cell (p:=⟨w5.heap.size,0,none⟩) fcx).trans qx00_26
 have zbx0_27:w5.heap.size<w27.heap.size:=fcx
 clear qx00_26
 have qx10_27:w27.cell? ⟨w6.heap.size,0,none⟩=some (.slice x1dp0 x1dn0 x1dq0):=(b27.cell (p:=⟨w6.heap.size,0,none⟩) fcx).trans qx10_26
 have qx11_27:w27.cell? ⟨w6.heap.size,1,none⟩=some (.int .i64 d1.2):=(b27.cell (p:=⟨w6.heap.size,1,none⟩) fcx).trans qx11_26
 have zbx1_27:w6.heap.size<w27.heap.size:=fcx
 clear qx10_26 qx11_26
 have qx20_27:w27.cell? ⟨w7.heap.size,0,none⟩=some (.slice x2dp0 x2dn0 x2dq0):=(b27.cell (p:=⟨w7.heap.size,0,none⟩) fcx).trans qx20_26
 have qx21_27:w27.cell? ⟨w7.heap.size,1,none⟩=some (.int .i64 d2.2.1):=(b27.cell (p:=⟨w7.heap.size,1,none⟩) fcx).trans qx21_26
 have qx22_27:w27.cell? ⟨w7.heap.size,2,none⟩=some (.bool d2.2.2):=(b27.cell (p:=⟨w7.heap.size,2,none⟩) fcx).trans qx22_26
 have zbx2_27:w7.heap.size<w27.heap.size:=fcx
 clear qx20_26 qx21_26 qx22_26
 have qg0r00_27:w27.cell? ⟨w8.heap.size,0,none⟩=some (.slice g0r0dp0 g0r0dn0 g0r0dq0):=(b27.cell (p:=⟨w8.heap.size,0,none⟩) fcx).trans qg0r00_26
 have zbg0r0_27:w8.heap.size<w27.heap.size:=fcx
 clear qg0r00_26
 have qg0r10_27:w27.cell? ⟨w8.heap.size+1,0,none⟩=some (.slice g0r1dp0 g0r1dn0 g0r1dq0):=(b27.cell (p:=⟨w8.heap.size+1,0,none⟩) fcx).trans qg0r10_26
 have qg0r11_27:w27.cell? ⟨w8.heap.size+1,1,none⟩=some (.int .i64 R1.2):=(b27.cell (p:=⟨w8.heap.size+1,1,none⟩) fcx).trans qg0r11_26
 have zbg0r1_27:w8.heap.size+1<w27.heap.size:=fcx
 clear qg0r10_26 qg0r11_26
 have qh0r00_27:w27.cell? ⟨h0rg0,0,none⟩=some (.slice h0r0dp0 h0r0dn0 h0r0dq0):=(b27.cell (p:=⟨h0rg0,0,none⟩) fcx).trans qh0r00_26
 have zbh0r0_27:h0rg0<w27.heap.size:=fcx
 clear qh0r00_26
 have qh0r10_27:w27.cell? ⟨h0rg1,0,none⟩=some (.slice h0r1dp0 h0r1dn0 h0r1dq0):=(b27.cell (p:=⟨h0rg1,0,none⟩) fcx).trans qh0r10_26
 have qh0r11_27:w27.cell? ⟨h0rg1,1,none⟩=some (.int .i64 R1.2):=(b27.cell (p:=⟨h0rg1,1,none⟩) fcx).trans qh0r11_26
 have zbh0r1_27:h0rg1<w27.heap.size:=fcx
 clear qh0r10_26 qh0r11_26
 have Fw0r0_27:=Lib.hid (Fw0r0_26.out.below b27 fcx)
 clear Fw0r0_26
 have Fw0r1_27:=Lib.hid (Fw0r1_26.out.below b27 fcx)
 clear Fw0r1_26
 have Fg0r0_27:=Lib.hid (Fg0r0_26.out.below b27 fcx)
 clear Fg0r0_26
 have Fg0r1_27:=Lib.hid (Fg0r1_26.out.below b27 fcx)
 clear Fg0r1_26
 have Fh0r0_27:=Lib.hid (Fh0r0_26.out.below b27 fcx)
 clear Fh0r0_26
 have Fh0r1_27:=Lib.hid (Fh0r1_26.out.below b27 fcx)
 clear Fh0r1_26
 go_wp2_with fail
 refine (eqSwing_any _ _ R1 _ (by exact (Fh0r1_27.out).rd) (by exact (Fw0r1_27.out).rd)).mono ?_
 rintro e w28 ⟨rfl,b28⟩
 have B28:Below w.heap.size w w28:=Below.trans B27 (b28.mono fcx)
 have z28:w27.heap.size+0≤w28.heap.size:=by have:=b28.size;(try simp only[World.size_alloc,World.size_drew] at this ⊢) <;> omega
 have qa00_28:w28.cell? ⟨w.heap.size,0,none⟩=some (.slice ap0_0 an0_0 aq0_0):=(b28.cell (p:=⟨w.heap.size,0,none⟩) fcx).trans qa00_27
 have zba0_28:w.heap.size<w28.heap.size:=fcx
 clear qa00_27
 have qa10_28:w28.cell? ⟨w.heap.size+1,0,none⟩=some (.slice ap1_0 an1_0 aq1_0):=(b28.cell (p:=⟨w.heap.size+1,0,none⟩) fcx).trans qa10_27
 have qa11_28:w28.cell? ⟨w.heap.size+1,1,none⟩=some (.int .i64 ax1_1):=(b28.cell (p:=⟨w.heap.size+1,1,none⟩) fcx).trans qa11_27
 have zba1_28:w.heap.size+1<w28.heap.size:=fcx
 clear qa10_27 qa11_27
 have qa20_28:w28.cell? ⟨w.heap.size+1+1,0,none⟩=some (.slice ap2_0 an2_0 aq2_0):=(b28.cell (p:=⟨w.heap.size+1+1,0,none⟩) fcx).trans qa20_27
 have qa21_28:w28.cell? ⟨w.heap.size+1+1,1,none⟩=some (.int .i64 ax2_1):=(b28.cell (p:=⟨w.heap.size+1+1,1,none⟩) fcx).trans qa21_27
 have qa22_28:w28.cell? ⟨w.heap.size+1+1,2,none⟩=some (.bool ax2_2):=(b28.cell (p:=⟨w.heap.size+1+1,2,none⟩) fcx).trans qa22_27
 have zba2_28:w.heap.size+1+1<w28.heap.size:=fcx
 clear qa20_27 qa21_27 qa22_27
 have qw0r00_28:w28.cell? ⟨w0rg0,0,none⟩=some (.slice w0r0dp0 w0r0dn0 w0r0dq0):=(b28.cell (p:=⟨w0rg0,0,none⟩) fcx).trans qw0r00_27
 have zbw0r0_28:w0rg0<w28.heap.size:=fcx
 clear qw0r00_27
 have qw0r10_28:w28.cell? ⟨w0rg1,0,none⟩=some (.slice w0r1dp0 w0r1dn0 w0r1dq0):=(b28.cell (p:=⟨w0rg1,0,none⟩) fcx).trans qw0r10_27
 have qw0r11_28:w28.cell? ⟨w0rg1,1,none⟩=some (.int .i64 R1.2):=(b28.cell (p:=⟨w0rg1,1,none⟩) fcx).trans qw0r11_27
 have zbw0r1_28:w0rg1<w28.heap.size:=fcx
 clear qw0r10_27 qw0r11_27
 have qx00_28:w28.cell? ⟨w5.heap.size,0,none⟩=some (.slice x0dp0 x0dn0 x0dq0):=(b28.cell (p:=⟨w5.heap.size,0,none⟩) fcx).trans qx00_27
 have zbx0_28:w5.heap.size<w28.heap.size:=fcx
 clear qx00_27
 have qx10_28:w28.cell? ⟨w6.heap.size,0,none⟩=some (.slice x1dp0 x1dn0 x1dq0):=(b28.cell (p:=⟨w6.heap.size,0,none⟩) fcx).trans qx10_27
 have qx11_28:w28.cell? ⟨w6.heap.size,1,none⟩=some (.int .i64 d1.2):=(b28.cell (p:=⟨w6.heap.size,1,none⟩) fcx).trans qx11_27
 have zbx1_28:w6.heap.size<w28.heap.size:=fcx
 clear qx10_27 qx11_27
 have qx20_28:w28.cell? ⟨w7.heap.size,0,none⟩=some (.slice x2dp0 x2dn0 x2dq0):=(b28.cell (p:=⟨w7.heap.size,0,none⟩) fcx).trans qx20_27
 have qx21_28:w28.cell? ⟨w7.heap.size,1,none⟩=some (.int .i64 d2.2.1):=(b28.cell (p:=⟨w7.heap.size,1,none⟩) fcx).trans qx21_27
 have qx22_28:w28.cell? ⟨w7.heap.size,2,none⟩=some (.bool d2.2.2):=(b28.cell (p:=⟨w7.heap.size,2,none⟩) fcx).trans qx22_27
 have zbx2_28:w7.heap.size<w28.heap.size:=fcx
 clear qx20_27 qx21_27 qx22_27
 have qg0r00_28:w28.cell? ⟨w8.heap.size,0,none⟩=some (.slice g0r0dp0 g0r0dn0 g0r0dq0):=(b28.cell (p:=⟨w8.heap.size,0,none⟩) fcx).trans qg0r00_27
 have zbg0r0_28:w8.heap.size<w28.heap.size:=fcx
 clear qg0r00_27
 have qg0r10_28:w28.cell? ⟨w8.heap.size+1,0,none⟩=some (.slice g0r1dp0 g0r1dn0 g0r1dq0):=(b28.cell (p:=⟨w8.heap.size+1,0,none⟩) fcx).trans qg0r10_27
 have qg0r11_28:w28.cell? ⟨w8.heap.size+1,1,none⟩=some (.int .i64 R1.2):=(b28.cell (p:=⟨w8.heap.size+1,1,none⟩) fcx).trans qg0r11_27
 have zbg0r1_28:w8.heap.size+1<w28.heap.size:=fcx
 clear qg0r10_27 qg0r11_27
 have qh0r00_28:w28.cell? ⟨h0rg0,0,none⟩=some (.slice h0r0dp0 h0r0dn0 h0r0dq0):=(b28.cell (p:=⟨h0rg0,0,none⟩) fcx).trans qh0r00_27
 have zbh0r0_28:h0rg0<w28.heap.size:=fcx
 clear qh0r00_27
 have qh0r10_28:w28.cell? ⟨h0rg1,0,none⟩=some (.slice h0r1dp0 h0r1dn0 h0r1dq0):=(b28.cell (p:=⟨h0rg1,0,none⟩) fcx).trans qh0r10_27
 have qh0r11_28:w28.cell? ⟨h0rg1,1,none⟩=some (.int .i64 R1.2):=(b28.cell (p:=⟨h0rg1,1,none⟩) fcx).trans qh0r11_27
 have zbh0r1_28:h0rg1<w28.heap.size:=fcx
 clear qh0r10_27 qh0r11_27
 have Fw0r0_28:=Lib.hid (Fw0r0_27.out.below b28 fcx)
 clear Fw0r0_27
 have Fw0r1_28:=Lib.hid (Fw0r1_27.out.below b28 fcx)
 clear Fw0r1_27
 have Fg0r0_28:=Lib.hid (Fg0r0_27.out.below b28 fcx)
 clear Fg0r0_27
 have Fg0r1_28:=Lib.hid (Fg0r1_27.out.below b28 fcx)
 clear Fg0r1_27
 have Fh0r0_28:=Lib.hid (Fh0r0_27.out.below b28 fcx)
 clear Fh0r0_27
 have Fh0r1_28:=Lib.hid (Fh0r1_27.out.below b28 fcx)
 clear Fh0r1_27
 go_wp2_with fail
 refine (heldModel_any _ _ R0 _ (by exact (Fg0r0_28.out).rd) (by omega) (by omega)).mono ?_
 rintro e w29 ⟨rfl,b29⟩
 have B29:Below w.heap.size w w29:=Below.trans B28 (b29.mono fcx)
 have z29:w28.heap.size+0≤w29.heap.size:=by have:=b29.size;(try simp only[World.size_alloc,World.size_drew] at this ⊢) <;> omega
 have qa00_29:w29.cell? ⟨w.heap.size,0,none⟩=some (.slice ap0_0 an0_0 aq0_0):=(b29.cell (p:=⟨w.heap.size,0,none⟩) fcx).trans qa00_28
 have zba0_29:w.heap.size<w29.heap.size:=fcx
 clear qa00_28
 have qa10_29:w29.cell? ⟨w.heap.size+1,0,none⟩=some (.slice ap1_0 an1_0 aq1_0):=(b29.cell (p:=⟨w.heap.size+1,0,none⟩) fcx).trans qa10_28
 have qa11_29:w29.cell? ⟨w.heap.size+1,1,none⟩=some (.int .i64 ax1_1):=(b29.cell (p:=⟨w.heap.size+1,1,none⟩) fcx).trans qa11_28
 have zba1_29:w.heap.size+1<w29.heap.size:=fcx
 clear qa10_28 qa11_28
 have qa20_29:w29.cell? ⟨w.heap.size+1+1,0,none⟩=some (.slice ap2_0 an2_0 aq2_0):=(b29.cell (p:=⟨w.heap.size+1+1,0,none⟩) fcx).trans qa20_28
 have qa21_29:w29.cell? ⟨w.heap.size+1+1,1,none⟩=some (.int .i64 ax2_1):=(b29.cell (p:=⟨w.heap.size+1+1,1,none⟩) fcx).trans qa21_28
 have qa22_29:w29.cell? ⟨w.heap.size+1+1,2,none⟩=some (.bool ax2_2):=(b29.cell (p:=⟨w.heap.size+1+1,2,none⟩) fcx).trans qa22_28
 have zba2_29:w.heap.size+1+1<w29.heap.size:=fcx
 clear qa20_28 qa21_28 qa22_28
 have qw0r00_29:w29.cell? ⟨w0rg0,0,none⟩=some (.slice w0r0dp0 w0r0dn0 w0r0dq0):=(b29.cell (p:=⟨w0rg0,0,none⟩) fcx).trans qw0r00_28
 have zbw0r0_29:w0rg0<w29.heap.size:=fcx
 clear qw0r00_28
 have qw0r10_29:w29.cell? ⟨w0rg1,0,none⟩=some (.slice w0r1dp0 w0r1dn0 w0r1dq0):=(b29.cell (p:=⟨w0rg1,0,none⟩) fcx).trans qw0r10_28
 have qw0r11_29:w29.cell? ⟨w0rg1,1,none⟩=some (.int .i64 R1.2):=(b29.cell (p:=⟨w0rg1,1,none⟩) fcx).trans qw0r11_28
 have zbw0r1_29:w0rg1<w29.heap.size:=fcx
 clear qw0r10_28 qw0r11_28
 have qx00_29:w29.cell? ⟨w5.heap.size,0,none⟩=some (.slice x0dp0 x0dn0 x0dq0):=(b29.cell (p:=⟨w5.heap.size,0,none⟩) fcx).trans qx00_28
 have zbx0_29:w5.heap.size<w29.heap.size:=fcx
 clear qx00_28
 have qx10_29:w29.cell? ⟨w6.heap.size,0,none⟩=some (.slice x1dp0 x1dn0 x1dq0):=(b29.cell (p:=⟨w6.heap.size,0,none⟩) fcx).trans qx10_28
 have qx11_29:w29.cell? ⟨w6.heap.size,1,none⟩=some (.int .i64 d1.2):=(b29.cell (p:=⟨w6.heap.size,1,none⟩) fcx).trans qx11_28
 have zbx1_29:w6.heap.size<w29.heap.size:=fcx
 clear qx10_28 qx11_28
 have qx20_29:w29.cell? ⟨w7.heap.size,0,none⟩=some (.slice x2dp0 x2dn0 x2dq0):=(b29.cell (p:=⟨w7.heap.size,0,none⟩) fcx).trans qx20_28
 have qx21_29:w29.cell? ⟨w7.heap.size,1,none⟩=some (.int .i64 d2.2.1):=(b29.cell (p:=⟨w7.heap.size,1,none⟩) fcx).trans qx21_28
 have qx22_29:w29.cell? ⟨w7.heap.size,2,none⟩=some (.bool d2.2.2):=(b29.cell (p:=⟨w7.heap.size,2,none⟩) fcx).trans qx22_28
 have zbx2_29:w7.heap.size<w29.heap.size:=fcx
 clear qx20_28 qx21_28 qx22_28
 have qg0r00_29:w29.cell? ⟨w8.heap.size,0,none⟩=some (.slice g0r0dp0 g0r0dn0 g0r0dq0):=(b29.cell (p:=⟨w8.heap.size,0,none⟩) fcx).trans qg0r00_28
 have zbg0r0_29:w8.heap.size<w29.heap.size:=fcx
 clear qg0r00_28
 have qg0r10_29:w29.cell? ⟨w8.heap.size+1,0,none⟩=some (.slice g0r1dp0 g0r1dn0 g0r1dq0):=(b29.cell (p:=⟨w8.heap.size+1,0,none⟩) fcx).trans qg0r10_28
 have qg0r11_29:w29.cell? ⟨w8.heap.size+1,1,none⟩=some (.int .i64 R1.2):=(b29.cell (p:=⟨w8.heap.size+1,1,none⟩) fcx).trans qg0r11_28
 have zbg0r1_29:w8.heap.size+1<w29.heap.size:=fcx
 clear qg0r10_28 qg0r11_28
 have qh0r00_29:w29.cell? ⟨h0rg0,0,none⟩=some (.slice h0r0dp0 h0r0dn0 h0r0dq0):=(b29.cell (p:=⟨h0rg0,0,none⟩) fcx).trans qh0r00_28
 have zbh0r0_29:h0rg0<w29.heap.size:=fcx
 clear qh0r00_28
 have qh0r10_29:w29.cell? ⟨h0rg1,0,none⟩=some (.slice h0r1dp0 h0r1dn0 h0r1dq0):=(b29.cell (p:=⟨h0rg1,0,none⟩) fcx).trans qh0r10_28
 have qh0r11_29:w29.cell? ⟨h0rg1,1,none⟩=some (.int .i64 R1.2):=(b29.cell (p:=⟨h0rg1,1,none⟩) fcx).trans qh0r11_28
 have zbh0r1_29:h0rg1<w29.heap.size:=fcx
 clear qh0r10_28 qh0r11_28
 have Fw0r0_29:=Lib.hid (Fw0r0_28.out.below b29 fcx)
 clear Fw0r0_28
 have Fw0r1_29:=Lib.hid (Fw0r1_28.out.below b29 fcx)
 clear Fw0r1_28
 have Fg0r0_29:=Lib.hid (Fg0r0_28.out.below b29 fcx)
 clear Fg0r0_28
 have Fg0r1_29:=Lib.hid (Fg0r1_28.out.below b29 fcx)
 clear Fg0r1_28
 have Fh0r0_29:=Lib.hid (Fh0r0_28.out.below b29 fcx)
 clear Fh0r0_28
 have Fh0r1_29:=Lib.hid (Fh0r1_28.out.below b29 fcx)
 clear Fh0r1_28
 go_wp2_with fail
 refine (heldSwing_any _ _ R1 _ (by exact (Fg0r1_29.out).rd) (by omega) (by omega)).mono ?_
 rintro e w30 ⟨rfl,b30⟩
 have B30:Below w.heap.size w w30:=Below.trans B29 (b30.mono fcx)
 have z30:w29.heap.size+0≤w30.heap.size:=by have:=b30.size;(try simp only[World.size_alloc,World.size_drew] at this ⊢) <;> omega
 have qa00_30:w30.cell? ⟨w.heap.size,0,none⟩=some (.slice ap0_0 an0_0 aq0_0):=(b30.cell (p:=⟨w.heap.size,0,none⟩) fcx).trans qa00_29
 have zba0_30:w.heap.size<w30.heap.size:=fcx
 clear qa00_29
 have qa10_30:w30.cell? ⟨w.heap.size+1,0,none⟩=some (.slice ap1_0 an1_0 aq1_0):=(b30.cell (p:=⟨w.heap.size+1,0,none⟩) fcx).trans qa10_29
 have qa11_30:w30.cell? ⟨w.heap.size+1,1,none⟩=some (.int .i64 ax1_1):=(b30.cell (p:=⟨w.heap.size+1,1,none⟩) fcx).trans qa11_29
 have zba1_30:w.heap.size+1<w30.heap.size:=fcx
 clear qa10_29 qa11_29
 have qa20_30:w30.cell? ⟨w.heap.size+1+1,0,none⟩=some (.slice ap2_0 an2_0 aq2_0):=(b30.cell (p:=⟨w.heap.size+1+1,0,none⟩) fcx).trans qa20_29
 have qa21_30:w30.cell? ⟨w.heap.size+1+1,1,none⟩=some (.int .i64 ax2_1):=(b30.cell (p:=⟨w.heap.size+1+1,1,none⟩) fcx).trans qa21_29
 have qa22_30:w30.cell? ⟨w.heap.size+1+1,2,none⟩=some (.bool ax2_2):=(b30.cell (p:=⟨w.heap.size+1+1,2,none⟩) fcx).trans qa22_29
 have zba2_30:w.heap.size+1+1<w30.heap.size:=fcx
 clear qa20_29 qa21_29 qa22_29
 have qw0r00_30:w30.cell? ⟨w0rg0,0,none⟩=some (.slice w0r0dp0 w0r0dn0 w0r0dq0):=(b30.cell (p:=⟨w0rg0,0,none⟩) fcx).trans qw0r00_29
 have zbw0r0_30:w0rg0<w30.heap.size:=fcx
 clear qw0r00_29
 have qw0r10_30:w30.cell? ⟨w0rg1,0,none⟩=some (.slice w0r1dp0 w0r1dn0 w0r1dq0):=(b30.cell (p:=⟨w0rg1,0,none⟩) fcx).trans qw0r10_29
 have qw0r11_30:w30.cell? ⟨w0rg1,1,none⟩=some (.int .i64 R1.2):=(b30.cell (p:=⟨w0rg1,1,none⟩) fcx).trans qw0r11_29
 have zbw0r1_30:w0rg1<w30.heap.size:=fcx
 clear qw0r10_29 qw0r11_29
 have qx00_30:w30.cell? ⟨w5.heap.size,0,none⟩=some (.slice x0dp0 x0dn0 x0dq0):=(b30.cell (p:=⟨w5.heap.size,0,none⟩) fcx).trans qx00_29
 have zbx0_30:w5.heap.size<w30.heap.size:=fcx
 clear qx00_29
 have qx10_30:w30.cell? ⟨w6.heap.size,0,none⟩=some (.slice x1dp0 x1dn0 x1dq0):=(b30.cell (p:=⟨w6.heap.size,0,none⟩) fcx).trans qx10_29
 have qx11_30:w30.cell? ⟨w6.heap.size,1,none⟩=some (.int .i64 d1.2):=(b30.cell (p:=⟨w6.heap.size,1,none⟩) fcx).trans qx11_29
 have zbx1_30:w6.heap.size<w30.heap.size:=fcx
 clear qx10_29 qx11_29
 have qx20_30:w30.cell? ⟨w7.heap.size,0,none⟩=some (.slice x2dp0 x2dn0 x2dq0):=(b30.cell (p:=⟨w7.heap.size,0,none⟩) fcx).trans qx20_29
 have qx21_30:w30.cell? ⟨w7.heap.size,1,none⟩=some (.int .i64 d2.2.1):=(b30.cell (p:=⟨w7.heap.size,1,none⟩) fcx).trans qx21_29
 have qx22_30:w30.cell? ⟨w7.heap.size,2,none⟩=some (.bool d2.2.2):=(b30.cell (p:=⟨w7.heap.size,2,none⟩) fcx).trans qx22_29
 have zbx2_30:w7.heap.size<w30.heap.size:=fcx
 clear qx20_29 qx21_29 qx22_29
 have qg0r00_30:w30.cell? ⟨w8.heap.size,0,none⟩=some (.slice g0r0dp0 g0r0dn0 g0r0dq0):=(b30.cell (p:=⟨w8.heap.size,0,none⟩) fcx).trans qg0r00_29
 have zbg0r0_30:w8.heap.size<w30.heap.size:=fcx
 clear qg0r00_29
 have qg0r10_30:w30.cell? ⟨w8.heap.size+1,0,none⟩=some (.slice g0r1dp0 g0r1dn0 g0r1dq0):=(b30.cell (p:=⟨w8.heap.size+1,0,none⟩) fcx).trans qg0r10_29
 have qg0r11_30:w30.cell? ⟨w8.heap.size+1,1,none⟩=some (.int .i64 R1.2):=(b30.cell (p:=⟨w8.heap.size+1,1,none⟩) fcx).trans qg0r11_29
 have zbg0r1_30:w8.heap.size+1<w30.heap.size:=fcx
 clear qg0r10_29 qg0r11_29
 have qh0r00_30:w30.cell? ⟨h0rg0,0,none⟩=some (.slice h0r0dp0 h0r0dn0 h0r0dq0):=(b30.cell (p:=⟨h0rg0,0,none⟩) fcx).trans qh0r00_29
 have zbh0r0_30:h0rg0<w30.heap.size:=fcx
 clear qh0r00_29
 have qh0r10_30:w30.cell? ⟨h0rg1,0,none⟩=some (.slice h0r1dp0 h0r1dn0 h0r1dq0):=(b30.cell (p:=⟨h0rg1,0,none⟩) fcx).trans qh0r10_29
 have qh0r11_30:w30.cell? ⟨h0rg1,1,none⟩=some (.int .i64 R1.2):=(b30.cell (p:=⟨h0rg1,1,none⟩) fcx).trans qh0r11_29
 have zbh0r1_30:h0rg1<w30.heap.size:=fcx
 clear qh0r10_29 qh0r11_29
 have Fw0r0_30:=Lib.hid (Fw0r0_29.out.below b30 fcx)
 clear Fw0r0_29
 have Fw0r1_30:=Lib.hid (Fw0r1_29.out.below b30 fcx)
 clear Fw0r1_29
 have Fg0r0_30:=Lib.hid (Fg0r0_29.out.below b30 fcx)
 clear Fg0r0_29
 have Fg0r1_30:=Lib.hid (Fg0r1_29.out.below b30 fcx)
 clear Fg0r1_29
 have Fh0r0_30:=Lib.hid (Fh0r0_29.out.below b30 fcx)
 clear Fh0r0_29
 have Fh0r1_30:=Lib.hid (Fh0r1_29.out.below b30 fcx)
 clear Fh0r1_29
 go_wp2
 go_ret
 exact ⟨rfl,B30⟩
end Go.Proofs.Ytahggdiafncdhaa
