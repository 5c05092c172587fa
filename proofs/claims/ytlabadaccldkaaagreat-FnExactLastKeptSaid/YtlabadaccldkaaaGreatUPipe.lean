/- UPipe: lemmas. No conditions. -/
import Derived.Test.YtlabadaccldkaaaGreatTPipe
import Derived.Test.YtlabadaccldkaaaGreatUPath
import Derived.Test.YtlabadaccldkaaaGreatUPair
import Derived.Test.YtlabadaccldkaaaGreatUQueue
import Derived.Test.YtlabadaccldkaaaGreatUStage
namespace Go.Proofs.YtlabadaccldkaaaGreat
set_option maxRecDepth 100000
open Go.ChangeShapes Go.WideShapes Go.ChangeAt Go.RowKit
set_option linter.unusedVariables false
set_option linter.unusedSimpArgs false
set_option maxHeartbeats 4000000 in
theorem aKX (cs:Array Value) (k0:Int) (d:aH.D) (bl:List Nat) (w:World) (h:Un aH w cs.toList d bl) (hnd:bl.Nodup) (h0:0≤k0) (h1:k0+(nI aH d:Nat)≤1000000000000) :
  Calls Tryz.prog 11 #[.agg cs,.int .i64 k0] w (aWG aH w cs.toList (mkt aH d k0) bl (k0+(nI aH d:Nat))):=by
 obtain ⟨x0,⟨x1,⟨x2,x3⟩⟩⟩:=d
 have hcx:nI aH (x0,(x1,(x2,x3)))=aL (.slice 49 aM) x0+aL (.slice 57 aB) x1+aL (.slice 62 aE) x2+aL (.slice 62 aE) x3:=by first|rfl|(simp only[nI];omega)
 rw[hcx] at h1
 clear hcx
 obtain ⟨sp0,sn0,sq0,sp1,sn1,sq1,sp2,sn2,sq2,sp3,sn3,sq3,shcs,ss0,ss1,ss2,ss3⟩:=aHM (aWP h)
 obtain rfl:cs = #[.slice sp0 sn0 sq0,.slice sp1 sn1 sq1,.slice sp2 sn2 sq2,.slice sp3 sn3 sq3]:=eZ shcs
 clear shcs
 have hbl:=nP _ _ _ _ _ h
 have HH:=Lib.hid h
 go_enter Tryz.func11,Tryz.ntmps11
 obtain ⟨bu0,hR0,hn0,hs0,hA0⟩:=aHG HH.out hnd [false]
 have hq0:Un (.slice 49 aM) w [.slice sp0 sn0 sq0] x0 bu0:=hR0
 have HA0:=Lib.hid hA0;have HQ0:=Lib.hid hq0;clear hA0 hR0 hq0
 go_wp2_with fail
 refine (aHI _ _ _ _ x0 _ _ (by exact (Un.keep _ _ _ _ (fun q hq=>Below.heap_alloc _ _ _ (hbl q (hs0 q hq))) HQ0.out)) hn0 (by omega) (by omega)).mono ?_
 rintro e w90 ⟨rfl,rp0,on0⟩
 have HU1:=Lib.hid (HA0.out w90 _ (fun q hq hz=>(on0.block q hq (by simp;omega)).trans (Below.heap_alloc _ _ _ hz)) rp0)
 have O1:Only bl w w90:=Only.trans (Only.alloc (Only.refl _ w) _) (on0.mono hs0)
 have HB1:=Lib.hid (fun (a:Addr) (ha:a.block=w.heap.size)=>on0.cell (a:=a) (fun hm=>by have:=hbl _ (hs0 _ hm);omega) (by rw[ha];simp))
 have zb1:w.heap.size<w90.heap.size:=by have:=on0.size;(try simp at this);omega
 clear HA0 HQ0 rp0
 obtain ⟨bu1,hR1,hn1,hs1,hA1⟩:=aHG HU1.out hnd [true,false]
 have hq1:Un (.slice 57 aB) w90 [.slice sp1 sn1 sq1] x1 bu1:=hR1
 have HA1:=Lib.hid hA1;have HQ1:=Lib.hid hq1;clear hA1 hR1 hq1
 skip
 have q1_1:w90.cell? ⟨w.heap.size,1,none⟩=some (.slice sp1 sn1 sq1):=(HB1.out ⟨w.heap.size,1,none⟩ rfl).trans (by simp)
 go_wp2_with fail
 refine (aEB _ _ _ _ x1 _ _ (by exact HQ1.out) hn1 (by omega) (by omega)).mono ?_
 rintro e w91 ⟨rfl,rp1,on1⟩
 have HU2:=Lib.hid (HA1.out w91 _ (fun q hq hz=>on1.block q hq hz) rp1)
 have O2:Only bl w w91:=Only.trans O1 (on1.mono hs1)
 have HB2:=Lib.hid (fun (a:Addr) (ha:a.block=w.heap.size)=>(on1.cell (a:=a) (fun hm=>by have:=hbl _ (hs1 _ hm);omega) (by rw[ha];exact zb1)).trans (HB1.out a ha))
 clear q1_1
 have zb2:w.heap.size<w91.heap.size:=by have:=on1.size;(try simp at this);omega
 clear HA1 HQ1 rp1
 obtain ⟨bu2,hR2,hn2,hs2,hA2⟩:=aHG HU2.out hnd [true,true,false]
 have hq2:Un (.slice 62 aE) w91 [.slice sp2 sn2 sq2] x2 bu2:=hR2
 have HA2:=Lib.hid hA2;have HQ2:=Lib.hid hq2;clear hA2 hR2 hq2
 skip
 have q2_2:w91.cell? ⟨w.heap.size,2,none⟩=some (.slice sp2 sn2 sq2):=(HB2.out ⟨w.heap.size,2,none⟩ rfl).trans (by simp)
 go_wp2_with fail
 refine (vZ _ _ _ _ x2 _ _ (by exact HQ2.out) hn2 (by omega) (by omega)).mono ?_
 rintro e w92 ⟨rfl,rp2,on2⟩
 have HU3:=Lib.hid (HA2.out w92 _ (fun q hq hz=>on2.block q hq hz) rp2)
 have O3:Only bl w w92:=Only.trans O2 (on2.mono hs2)
 have HB3:=Lib.hid (fun (a:Addr) (ha:a.block=w.heap.size)=>(on2.cell (a:=a) (fun hm=>by have:=hbl _ (hs2 _ hm);omega) (by rw[ha];exact zb2)).trans (HB2.out a ha))
 clear q2_2
 have zb3:w.heap.size<w92.heap.size:=by have:=on2.size;(try simp at this);omega
 clear HA2 HQ2 rp2
 obtain ⟨bu3,hR3,hn3,hs3,hA3⟩:=aHG HU3.out hnd [true,true,true]
 have hq3:Un (.slice 62 aE) w92 [.slice sp3 sn3 sq3] x3 bu3:=hR3
 have HA3:=Lib.hid hA3;have HQ3:=Lib.hid hq3;clear hA3 hR3 hq3
 skip
 have q3_3:w92.cell? ⟨w.heap.size,3,none⟩=some (.slice sp3 sn3 sq3):=(HB3.out ⟨w.heap.size,3,none⟩ rfl).trans (by simp)
 go_wp2_with fail
 refine (vZ _ _ _ _ x3 _ _ (by exact HQ3.out) hn3 (by omega) (by omega)).mono ?_
 rintro e w93 ⟨rfl,rp3,on3⟩
 have HU4:=Lib.hid (HA3.out w93 _ (fun q hq hz=>on3.block q hq hz) rp3)
 have O4:Only bl w w93:=Only.trans O3 (on3.mono hs3)
 have HB4:=Lib.hid (fun (a:Addr) (ha:a.block=w.heap.size)=>(on3.cell (a:=a) (fun hm=>by have:=hbl _ (hs3 _ hm);omega) (by rw[ha];exact zb3)).trans (HB3.out a ha))
 clear q3_3
 have zb4:w.heap.size<w93.heap.size:=by have:=on3.size;(try simp at this);omega
 clear HA3 HQ3 rp3
 go_wp2
 go_ret
 exact ⟨dW (by have hcx:nI aH (x0,(x1,(x2,x3)))=aL (.slice 49 aM) x0+aL (.slice 57 aB) x1+aL (.slice 62 aE) x2+aL (.slice 62 aE) x3:=(by first|rfl|(simp only[nI];omega));rw[hcx];try omega),(by have hh:=HU4.out;first|exact hh|(have e9:mkt aH (x0,(x1,(x2,x3))) k0=((mk (.slice 49 aM) x0 (k0)),((mk (.slice 57 aB) x1 (k0+(aL (.slice 49 aM) x0:Nat))),((mk (.slice 62 aE) x2 (k0+(aL (.slice 49 aM) x0:Nat)+(aL (.slice 57 aB) x1:Nat))),(mk (.slice 62 aE) x3 (k0+(aL (.slice 49 aM) x0:Nat)+(aL (.slice 57 aB) x1:Nat)+(aL (.slice 62 aE) x2:Nat)))))):=(by simp only[mkt,nI,Int.natCast_add,Int.natCast_zero,Int.add_zero,Int.zero_add,← Int.add_assoc]);rw[e9];exact hh)),O4⟩
set_option maxHeartbeats 4000000 in
theorem yN (cs:Array Value) (k0:Int) (d:aH.D) (w:World) (h:rd aH w cs.toList (mkt aH d k0)) (h0:0≤k0) (h1:k0+(nI aH d:Nat)≤1000000000000) :
  Calls Tryz.prog 12 #[.agg cs,.int .i64 k0] w (jI (.int .i64 (k0+(nI aH d:Nat))) w):=by
 obtain ⟨x0,⟨x1,⟨x2,x3⟩⟩⟩:=d
 have hcx:nI aH (x0,(x1,(x2,x3)))=aL (.slice 49 aM) x0+aL (.slice 57 aB) x1+aL (.slice 62 aE) x2+aL (.slice 62 aE) x3:=by first|rfl|(simp only[nI];omega)
 rw[hcx] at h1
 clear hcx
 have hR2:rd aH w cs.toList ((mk (.slice 49 aM) x0 (k0)),((mk (.slice 57 aB) x1 (k0+(aL (.slice 49 aM) x0:Nat))),((mk (.slice 62 aE) x2 (k0+(aL (.slice 49 aM) x0:Nat)+(aL (.slice 57 aB) x1:Nat))),(mk (.slice 62 aE) x3 (k0+(aL (.slice 49 aM) x0:Nat)+(aL (.slice 57 aB) x1:Nat)+(aL (.slice 62 aE) x2:Nat)))))):=by
  first|exact h|(simpa only [mkt,nI,Int.natCast_add,Int.natCast_zero,Int.add_zero,Int.zero_add,← Int.add_assoc] using h)
 clear h
 obtain ⟨ap0,an0,aq0,ap1,an1,aq1,ap2,an2,aq2,ap3,an3,aq3,ahcs,as0,as1,as2,as3⟩:=aHM hR2
 obtain rfl:cs = #[.slice ap0 an0 aq0,.slice ap1 an1 aq1,.slice ap2 an2 aq2,.slice ap3 an3 aq3]:=eZ ahcs
 clear ahcs
 have HA0:=Lib.hid as0;clear as0
 have HA1:=Lib.hid as1;clear as1
 have HA2:=Lib.hid as2;clear as2
 have HA3:=Lib.hid as3;clear as3
 go_enter Tryz.func12,Tryz.ntmps12
 go_wp2_with fail
 refine (aEC _ _ _ _ x0 _ (by exact bY.below HA0.out dU) (by omega) (by omega)).mono ?_
 rintro e w90 ⟨rfl,b0⟩
 obtain ⟨u0,v0⟩:=iD b0
 have y0:=b0.size
 try simp only[szy] at u0 v0 y0
 have yy00:w.heap.size<w90.heap.size:=bM
 have hnn0:¬ (k0+(aL (.slice 49 aM) x0:Nat)<0):=by omega
 go_wp2_with fail
 refine (aCA _ _ _ _ x1 _ (by exact bY.below HA1.out dU) (by omega) (by omega)).mono ?_
 rintro e w91 ⟨rfl,b1⟩
 obtain ⟨u1,v1⟩:=iD b1
 have y1:=b1.size
 try simp only[szy] at u1 v1 y1
 have yy10:w.heap.size<w91.heap.size:=bM
 have hnn1:¬ (k0+(aL (.slice 49 aM) x0:Nat)+(aL (.slice 57 aB) x1:Nat)<0):=by omega
 go_wp2_with fail
 refine (tV _ _ _ _ x2 _ (by exact bY.below HA2.out dU) (by omega) (by omega)).mono ?_
 rintro e w92 ⟨rfl,b2⟩
 obtain ⟨u2,v2⟩:=iD b2
 have y2:=b2.size
 try simp only[szy] at u2 v2 y2
 have yy20:w.heap.size<w92.heap.size:=bM
 have hnn2:¬ (k0+(aL (.slice 49 aM) x0:Nat)+(aL (.slice 57 aB) x1:Nat)+(aL (.slice 62 aE) x2:Nat)<0):=by omega
 go_wp2_with fail
 refine (tV _ _ _ _ x3 _ (by exact bY.below HA3.out dU) (by omega) (by omega)).mono ?_
 rintro e w93 ⟨rfl,b3⟩
 obtain ⟨u3,v3⟩:=iD b3
 have y3:=b3.size
 try simp only[szy] at u3 v3 y3
 have yy30:w.heap.size<w93.heap.size:=bM
 have hnn3:¬ (k0+(aL (.slice 49 aM) x0:Nat)+(aL (.slice 57 aB) x1:Nat)+(aL (.slice 62 aE) x2:Nat)+(aL (.slice 62 aE) x3:Nat)<0):=by omega
 go_wp2
 go_ret
 exact ⟨dW (by have hcx:nI aH (x0,(x1,(x2,x3)))=aL (.slice 49 aM) x0+aL (.slice 57 aB) x1+aL (.slice 62 aE) x2+aL (.slice 62 aE) x3:=(by first|rfl|(simp only[nI];omega));rw[hcx];try omega),dU⟩
end Go.Proofs.YtlabadaccldkaaaGreat
