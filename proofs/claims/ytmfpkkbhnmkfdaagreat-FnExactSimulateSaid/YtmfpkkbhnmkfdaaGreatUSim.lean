/- USim: lemmas. No conditions. -/
import Derived.Test.YtmfpkkbhnmkfdaaGreatTSim
import Derived.Test.YtmfpkkbhnmkfdaaGreatUPath
namespace Go.Proofs.YtmfpkkbhnmkfdaaGreat
set_option maxRecDepth 100000
open Go.ChangeShapes Go.WideShapes Go.ChangeAt Go.RowKit
set_option linter.unusedVariables false
set_option linter.unusedSimpArgs false
set_option maxHeartbeats 4000000 in
theorem aZ1 (cs:Array Value) (k0:Int) (d:pG.D) (bl:List Nat) (w:World) (h:Un pG w cs.toList d bl) (hnd:bl.Nodup) (h0:0≤k0) (h1:k0+(jX pG d:Nat)≤1000000000000) :
  Calls Tryz.prog 39 #[.agg cs,.int .i64 k0] w (bJD pG w cs.toList (mkt pG d k0) bl (k0+(jX pG d:Nat))):=by
 obtain ⟨x0,⟨x1,⟨x2,x3⟩⟩⟩:=d
 have hcx:jX pG (x0,(x1,(x2,x3)))=jD aB x1+jD aB x2:=by first|rfl|(simp only[jX,aB,fG,tI];omega)
 rw[hcx] at h1
 clear hcx
 obtain ⟨sp1,sn1,sq1,sp2,sn2,sq2,shcs,sw0,ss1,ss2⟩:=bDJ (bNQ h)
 obtain rfl:cs = #[.int .i64 x0,.slice sp1 sn1 sq1,.slice sp2 sn2 sq2,.bool x3]:=dZ shcs
 clear shcs
 have hbl:=aDN _ _ _ _ _ h
 have HH:=Lib.hid h
 go_enter Tryz.func39,Tryz.ntmps39
 obtain ⟨bu1,hR1,hn1,hs1,hA1⟩:=aBI HH.out hnd [true,false]
 have hq1:Un aB w [.slice sp1 sn1 sq1] x1 bu1:=hR1
 have HA1:=Lib.hid hA1;have HQ1:=Lib.hid hq1;clear hA1 hR1 hq1
 go_wp2_with fail
 refine (jJ _ _ _ _ x1 _ _ (by exact (Un.keep _ _ _ _ (fun q hq=>Below.heap_alloc _ _ _ (hbl q (hs1 q hq))) HQ1.out)) hn1 (by omega) (by have:=gA x1;omega)).mono ?_
 rintro e w91 ⟨rfl,rp1,on1⟩
 have HU1:=Lib.hid (HA1.out w91 _ (fun q hq hz=>(on1.block q hq (by simp;omega)).trans (Below.heap_alloc _ _ _ hz)) rp1)
 have O1:Only bl w w91:=Only.trans (Only.alloc (Only.refl _ w) _) (on1.mono hs1)
 have HB1:=Lib.hid (fun (a:Addr) (ha:a.block=w.heap.size)=>on1.cell (a:=a) (fun hm=>by have:=hbl _ (hs1 _ hm);omega) (by rw[ha];simp))
 have zb1:w.heap.size<w91.heap.size:=by have:=on1.size;(try simp at this);omega
 clear HA1 HQ1 rp1
 obtain ⟨bu2,hR2,hn2,hs2,hA2⟩:=aBI HU1.out hnd [true,true,false]
 have hq2:Un aB w91 [.slice sp2 sn2 sq2] x2 bu2:=hR2
 have HA2:=Lib.hid hA2;have HQ2:=Lib.hid hq2;clear hA2 hR2 hq2
 skip
 have q2_1:w91.cell? ⟨w.heap.size,2,none⟩=some (.slice sp2 sn2 sq2):=(HB1.out ⟨w.heap.size,2,none⟩ rfl).trans (by simp)
 go_wp2_with fail
 refine (jJ _ _ _ _ x2 _ _ (by exact HQ2.out) hn2 (by omega) (by have:=gA x2;omega)).mono ?_
 rintro e w92 ⟨rfl,rp2,on2⟩
 have HU2:=Lib.hid (HA2.out w92 _ (fun q hq hz=>on2.block q hq hz) rp2)
 have O2:Only bl w w92:=Only.trans O1 (on2.mono hs2)
 have HB2:=Lib.hid (fun (a:Addr) (ha:a.block=w.heap.size)=>(on2.cell (a:=a) (fun hm=>by have:=hbl _ (hs2 _ hm);omega) (by rw[ha];exact zb1)).trans (HB1.out a ha))
 clear q2_1
 have zb2:w.heap.size<w92.heap.size:=by have:=on2.size;(try simp at this);omega
 clear HA2 HQ2 rp2
 go_wp2
 go_ret
 exact ⟨dH (by have hcx:jX pG (x0,(x1,(x2,x3)))=jD aB x1+jD aB x2:=(by first|rfl|(simp only[jX,aB,fG,tI];omega));rw[hcx];try omega),(by have hh:=HU2.out;first|exact hh|(have e9:mkt pG (x0,(x1,(x2,x3))) k0=(x0,((mk aB x1 (k0)),((mk aB x2 (k0+(jD aB x1:Nat))),x3))):=(by simp only[mkt,jX,Int.natCast_add,Int.natCast_zero,Int.add_zero,Int.zero_add,← Int.add_assoc]);rw[e9];exact hh)),O2⟩
set_option maxHeartbeats 4000000 in
theorem aIJ (cs:Array Value) (k0:Int) (d:pG.D) (w:World) (h:rd pG w cs.toList (mkt pG d k0)) (h0:0≤k0) (h1:k0+(jX pG d:Nat)≤1000000000000) :
  Calls Tryz.prog 40 #[.agg cs,.int .i64 k0] w (lK (.int .i64 (k0+(jX pG d:Nat))) w):=by
 obtain ⟨x0,⟨x1,⟨x2,x3⟩⟩⟩:=d
 have hcx:jX pG (x0,(x1,(x2,x3)))=jD aB x1+jD aB x2:=by first|rfl|(simp only[jX,aB,fG,tI];omega)
 rw[hcx] at h1
 clear hcx
 have hR2:rd pG w cs.toList (x0,((mk aB x1 (k0)),((mk aB x2 (k0+(jD aB x1:Nat))),x3))):=by
  first|exact h|(simpa only [mkt,jX,Int.natCast_add,Int.natCast_zero,Int.add_zero,Int.zero_add,← Int.add_assoc] using h)
 clear h
 obtain ⟨ap1,an1,aq1,ap2,an2,aq2,ahcs,aw0,as1,as2⟩:=bDJ hR2
 obtain rfl:cs = #[.int .i64 x0,.slice ap1 an1 aq1,.slice ap2 an2 aq2,.bool x3]:=dZ ahcs
 clear ahcs
 have HA1:=Lib.hid as1;clear as1
 have HA2:=Lib.hid as2;clear as2
 go_enter Tryz.func40,Tryz.ntmps40
 go_wp2_with fail
 refine (rZ _ _ _ _ x1 _ (by exact dY.below HA1.out cP) (by omega) (by have:=gA x1;omega)).mono ?_
 rintro e w91 ⟨rfl,b1⟩
 obtain ⟨u1,v1⟩:=dK b1
 have y1:=b1.size
 try simp only[rF] at u1 v1 y1
 have yy10:w.heap.size<w91.heap.size:=aN
 have hnn1:¬ (k0+(jD aB x1:Nat)<0):=by omega
 go_wp2_with fail
 refine (rZ _ _ _ _ x2 _ (by exact dY.below HA2.out cP) (by omega) (by have:=gA x2;omega)).mono ?_
 rintro e w92 ⟨rfl,b2⟩
 obtain ⟨u2,v2⟩:=dK b2
 have y2:=b2.size
 try simp only[rF] at u2 v2 y2
 have yy20:w.heap.size<w92.heap.size:=aN
 have hnn2:¬ (k0+(jD aB x1:Nat)+(jD aB x2:Nat)<0):=by omega
 go_wp2
 go_ret
 exact ⟨dH (by have hcx:jX pG (x0,(x1,(x2,x3)))=jD aB x1+jD aB x2:=(by first|rfl|(simp only[jX,aB,fG,tI];omega));rw[hcx];try omega),cP⟩
end Go.Proofs.YtmfpkkbhnmkfdaaGreat
