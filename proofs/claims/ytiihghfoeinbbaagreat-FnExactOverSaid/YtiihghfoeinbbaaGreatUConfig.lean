/- UConfig: lemmas. No conditions. -/
import Derived.Test.YtiihghfoeinbbaaGreatTConfig
import Derived.Test.YtiihghfoeinbbaaGreatUPath
import Derived.Test.YtiihghfoeinbbaaGreatUBools
import Derived.Test.YtiihghfoeinbbaaGreatUModel
namespace Go.Proofs.YtiihghfoeinbbaaGreat
open Go.ChangeShapes Go.WideShapes Go.ChangeAt Go.RowKit
set_option linter.unusedVariables false
set_option linter.unusedSimpArgs false
set_option maxHeartbeats 4000000 in
set_option maxRecDepth 100000 in
theorem aLW (cs:Array Value) (k0:Int) (d:aC.D) (bl:List Nat) (w:World) (h:Un aC w cs.toList d bl) (hnd:bl.Nodup) (h0:0≤k0) (h1:k0+(qS aC d:Nat)≤1000000000000) :
  Calls Tryz.prog 41 #[.agg cs,.int .i64 k0] w (bKQ aC w cs.toList (mkt aC d k0) bl (k0+(qS aC d:Nat))):=by
 obtain ⟨x0,⟨x1,⟨x2,⟨x3,⟨x4,x5⟩⟩⟩⟩⟩:=d
 have hcx:qS aC (x0,(x1,(x2,(x3,(x4,x5)))))=iP (.slice 146 bA) x0+iP aB x1+iP bX x3+iP aB x4+iP aB x5:=by first|rfl|(simp only[qS,aB,bX,fP,tI];omega)
 rw[hcx] at h1
 clear hcx
 obtain ⟨sp0,sn0,sq0,sp1,sn1,sq1,sp3,sn3,sq3,sp4,sn4,sq4,sp5,sn5,sq5,shcs,ss0,ss1,sw2,ss3,ss4,ss5⟩:=aB2 (bLV h)
 obtain rfl:cs = #[.slice sp0 sn0 sq0,.slice sp1 sn1 sq1,.int .i64 x2,.slice sp3 sn3 sq3,.slice sp4 sn4 sq4,.slice sp5 sn5 sq5]:=gL shcs
 clear shcs
 have hbl:=aCM _ _ _ _ _ h
 have HH:=Lib.hid h
 go_enter Tryz.func41,Tryz.ntmps41
 obtain ⟨bu0,hR0,hn0,hs0,hA0⟩:=aGS HH.out hnd [false]
 have hq0:Un aE w [.slice sp0 sn0 sq0] x0 bu0:=hR0
 have HA0:=Lib.hid hA0;have HQ0:=Lib.hid hq0;clear hA0 hR0 hq0
 go_wp2_with fail
 have ee0:qS aE x0=iP (.slice 146 bA) x0:=by first|rfl|(simp only[qS,aB,bX,fP,tI];omega)
 have eb0:k0+(qS aE x0:Nat)≤1000000000000:=by rw[ee0];omega
 refine (aQ2 _ _ x0 _ _ (by exact (Un.keep _ _ _ _ (fun q hq=>Below.heap_alloc _ _ _ (hbl q (hs0 q hq))) HQ0.out)) hn0 (by omega) eb0).mono ?_
 rintro e w90 ⟨rfl,rp0,on0⟩
 rw[ee0]
 have HU1:=Lib.hid (HA0.out w90 _ (fun q hq hz=>(on0.block q hq (by simp;omega)).trans (Below.heap_alloc _ _ _ hz)) rp0)
 have O1:Only bl w w90:=Only.trans (Only.alloc (Only.refl _ w) _) (on0.mono hs0)
 have HB1:=Lib.hid (fun (a:Addr) (ha:a.block=w.heap.size)=>on0.cell (a:=a) (fun hm=>by have:=hbl _ (hs0 _ hm);omega) (by rw[ha];simp))
 have zb1:w.heap.size<w90.heap.size:=by have:=on0.size;(try simp at this);omega
 clear HA0 HQ0 rp0
 obtain ⟨bu1,hR1,hn1,hs1,hA1⟩:=aGS HU1.out hnd [true,false]
 have hq1:Un aB w90 [.slice sp1 sn1 sq1] x1 bu1:=hR1
 have HA1:=Lib.hid hA1;have HQ1:=Lib.hid hq1;clear hA1 hR1 hq1
 skip
 have q1_1:w90.cell? ⟨w.heap.size,1,none⟩=some (.slice sp1 sn1 sq1):=(HB1.out ⟨w.heap.size,1,none⟩ rfl).trans (by simp)
 go_wp2_with fail
 refine (kW _ _ _ _ x1 _ _ (by exact HQ1.out) hn1 (by omega) (by have:=rO x1;omega)).mono ?_
 rintro e w91 ⟨rfl,rp1,on1⟩
 have HU2:=Lib.hid (HA1.out w91 _ (fun q hq hz=>on1.block q hq hz) rp1)
 have O2:Only bl w w91:=Only.trans O1 (on1.mono hs1)
 have HB2:=Lib.hid (fun (a:Addr) (ha:a.block=w.heap.size)=>(on1.cell (a:=a) (fun hm=>by have:=hbl _ (hs1 _ hm);omega) (by rw[ha];exact zb1)).trans (HB1.out a ha))
 clear q1_1
 have zb2:w.heap.size<w91.heap.size:=by have:=on1.size;(try simp at this);omega
 clear HA1 HQ1 rp1
 obtain ⟨bu3,hR3,hn3,hs3,hA3⟩:=aGS HU2.out hnd [true,true,true,false]
 have hq3:Un bX w91 [.slice sp3 sn3 sq3] x3 bu3:=hR3
 have HA3:=Lib.hid hA3;have HQ3:=Lib.hid hq3;clear hA3 hR3 hq3
 skip
 have q3_2:w91.cell? ⟨w.heap.size,3,none⟩=some (.slice sp3 sn3 sq3):=(HB2.out ⟨w.heap.size,3,none⟩ rfl).trans (by simp)
 go_wp2_with fail
 refine (aPP _ _ _ _ x3 _ _ (by exact HQ3.out) hn3 (by omega) (by have:=aNC x3;omega)).mono ?_
 rintro e w93 ⟨rfl,rp3,on3⟩
 have HU3:=Lib.hid (HA3.out w93 _ (fun q hq hz=>on3.block q hq hz) rp3)
 have O3:Only bl w w93:=Only.trans O2 (on3.mono hs3)
 have HB3:=Lib.hid (fun (a:Addr) (ha:a.block=w.heap.size)=>(on3.cell (a:=a) (fun hm=>by have:=hbl _ (hs3 _ hm);omega) (by rw[ha];exact zb2)).trans (HB2.out a ha))
 clear q3_2
 have zb3:w.heap.size<w93.heap.size:=by have:=on3.size;(try simp at this);omega
 clear HA3 HQ3 rp3
 obtain ⟨bu4,hR4,hn4,hs4,hA4⟩:=aGS HU3.out hnd [true,true,true,true,false]
 have hq4:Un aB w93 [.slice sp4 sn4 sq4] x4 bu4:=hR4
 have HA4:=Lib.hid hA4;have HQ4:=Lib.hid hq4;clear hA4 hR4 hq4
 skip
 have q4_3:w93.cell? ⟨w.heap.size,4,none⟩=some (.slice sp4 sn4 sq4):=(HB3.out ⟨w.heap.size,4,none⟩ rfl).trans (by simp)
 go_wp2_with fail
 refine (kW _ _ _ _ x4 _ _ (by exact HQ4.out) hn4 (by omega) (by have:=rO x4;omega)).mono ?_
 rintro e w94 ⟨rfl,rp4,on4⟩
 have HU4:=Lib.hid (HA4.out w94 _ (fun q hq hz=>on4.block q hq hz) rp4)
 have O4:Only bl w w94:=Only.trans O3 (on4.mono hs4)
 have HB4:=Lib.hid (fun (a:Addr) (ha:a.block=w.heap.size)=>(on4.cell (a:=a) (fun hm=>by have:=hbl _ (hs4 _ hm);omega) (by rw[ha];exact zb3)).trans (HB3.out a ha))
 clear q4_3
 have zb4:w.heap.size<w94.heap.size:=by have:=on4.size;(try simp at this);omega
 clear HA4 HQ4 rp4
 obtain ⟨bu5,hR5,hn5,hs5,hA5⟩:=aGS HU4.out hnd [true,true,true,true,true]
 have hq5:Un aB w94 [.slice sp5 sn5 sq5] x5 bu5:=hR5
 have HA5:=Lib.hid hA5;have HQ5:=Lib.hid hq5;clear hA5 hR5 hq5
 skip
 have q5_4:w94.cell? ⟨w.heap.size,5,none⟩=some (.slice sp5 sn5 sq5):=(HB4.out ⟨w.heap.size,5,none⟩ rfl).trans (by simp)
 go_wp2_with fail
 refine (kW _ _ _ _ x5 _ _ (by exact HQ5.out) hn5 (by omega) (by have:=rO x5;omega)).mono ?_
 rintro e w95 ⟨rfl,rp5,on5⟩
 have HU5:=Lib.hid (HA5.out w95 _ (fun q hq hz=>on5.block q hq hz) rp5)
 have O5:Only bl w w95:=Only.trans O4 (on5.mono hs5)
 have HB5:=Lib.hid (fun (a:Addr) (ha:a.block=w.heap.size)=>(on5.cell (a:=a) (fun hm=>by have:=hbl _ (hs5 _ hm);omega) (by rw[ha];exact zb4)).trans (HB4.out a ha))
 clear q5_4
 have zb5:w.heap.size<w95.heap.size:=by have:=on5.size;(try simp at this);omega
 clear HA5 HQ5 rp5
 go_wp2
 go_ret
 exact ⟨dC (by have hcx:qS aC (x0,(x1,(x2,(x3,(x4,x5)))))=iP (.slice 146 bA) x0+iP aB x1+iP bX x3+iP aB x4+iP aB x5:=(by first|rfl|(simp only[qS,aB,bX,fP,tI];omega));rw[hcx];try omega),(by have hh:=HU5.out;first|exact hh|(have e9:mkt aC (x0,(x1,(x2,(x3,(x4,x5))))) k0=((mk (.slice 146 bA) x0 (k0)),((mk aB x1 (k0+(iP (.slice 146 bA) x0:Nat))),(x2,((mk bX x3 (k0+(iP (.slice 146 bA) x0:Nat)+(iP aB x1:Nat))),((mk aB x4 (k0+(iP (.slice 146 bA) x0:Nat)+(iP aB x1:Nat)+(iP bX x3:Nat))),(mk aB x5 (k0+(iP (.slice 146 bA) x0:Nat)+(iP aB x1:Nat)+(iP bX x3:Nat)+(iP aB x4:Nat)))))))):=(by simp only[mkt,qS,Int.natCast_add,Int.natCast_zero,Int.add_zero,Int.zero_add,← Int.add_assoc]);rw[e9];exact hh)),O5⟩
end Go.Proofs.YtiihghfoeinbbaaGreat
