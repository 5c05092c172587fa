/- TPair: lemmas. No conditions. -/
import Derived.Test.YtiihghfoeinbbaaGreatCe
namespace Go.Proofs.YtiihghfoeinbbaaGreat
set_option maxRecDepth 100000
open Go.ChangeShapes Go.WideShapes Go.ChangeAt Go.RowKit
set_option linter.unusedVariables false
set_option linter.unusedSimpArgs false
theorem yE {w:World} {cs:List Value} {x0:Ty.D aB} {x1:Ty.D aB} (h:rd aI w cs (x0,x1)) :
  ∃ p0 n0 q0 p1 n1 q1,cs=[.slice p0 n0 q0,.slice p1 n1 q1]∧eN (Ty.n fP) (rd fP w) w p0 n0 q0 x0∧eN (Ty.n fP) (rd fP w) w p1 n1 q1 x1:=by
 obtain ⟨_,_,hcs,⟨p0,n0,q0,rfl,s0⟩,⟨p1,n1,q1,rfl,s1⟩⟩:=h
 exact ⟨_,_,_,_,_,_,hcs,s0,s1⟩
set_option maxHeartbeats 1000000 in
theorem aY3 (cs:Array Value) (d:aI.D) (w:World) (h:rd aI w cs.toList d) (hz:bD aI d≤1048576) :
  Calls Tryz.prog 86 #[.agg cs] w (bB9 aI w d):=by
 obtain ⟨x0,x1⟩:=d
 obtain ⟨p0,n0,q0,p1,n1,q1,hcs,s0,s1⟩:=yE h
 obtain rfl:cs = #[.slice p0 n0 q0,.slice p1 n1 q1]:=gL hcs
 have z0:bD aB x0≤1048576:=by simp only[bD] at hz ⊢;omega
 have z1:bD aB x1≤1048576:=by simp only[bD] at hz ⊢;omega
 clear hz hcs
 go_enter Tryz.func86,Tryz.ntmps86
 go_wp2_with fail
 refine (iZ _ _ _ x0 _ (by exact s0.below dR) (by simp only[bZ] at z0;omega)).mono ?_
 rintro e w90 ⟨r0,rc0,rfl,f0,b0⟩
 obtain ⟨u0,v0⟩:=dL b0
 have y0:=b0.size
 simp only[rY] at u0 v0 y0
 have yy00:w.heap.size<w90.heap.size:=aV
 have yy01:w.heap.size+1<w90.heap.size:=aV
 have yy02:w.heap.size+1+1<w90.heap.size:=aV
 go_wp2_with fail
 refine (iZ _ _ _ x1 _ (by exact s1.below dR) (by simp only[bZ] at z1;omega)).mono ?_
 rintro e w91 ⟨r1,rc1,rfl,f1,b1⟩
 obtain ⟨u1,v1⟩:=dL b1
 have y1:=b1.size
 simp only[rY] at u1 v1 y1
 have yy10:w.heap.size<w91.heap.size:=aV
 have yy11:w.heap.size+1<w91.heap.size:=aV
 have yy12:w.heap.size+1+1<w91.heap.size:=aV
 go_wp2
 refine bodyPost_ret (v:=.agg #[.slice r0 (List.length x0) rc0,.slice r1 (List.length x1) rc1]) (by simp[results,Tryz.results86,go_sem,u0,yy00,yy01,yy02,u1,yy10,yy11,yy12]) rfl ⟨_,rfl,?_,?_⟩
 ·refine bT.bMC (c1:=[_]) (c2:=[_]) (mid:=w90.heap.size) ?_ ?_ aV aV
  ·refine bT.mono (lo:=w.heap.size+1+1+1) (hi:=w90.heap.size) ?_ aV aV aV
   (repeat' first|refine bT.set1 ?_ aV _|refine bT.alloc ?_ _)
   refine bT.below ?_ b1 aV
   (repeat' first|refine bT.set1 ?_ aV _|refine bT.alloc ?_ _)
   exact f0.mono aV (Nat.le_refl _) (Nat.le_refl _)
  ·refine bT.mono (lo:=w90.heap.size) (hi:=w91.heap.size) ?_ aV aV aV
   (repeat' first|refine bT.set1 ?_ aV _|refine bT.alloc ?_ _)
   exact f1.mono aV (Nat.le_refl _) (Nat.le_refl _)
 ·exact dR
set_option maxHeartbeats 1000000 in
theorem tX (p:Option Addr) (len cap:Nat) (l:List aI.D) (w:World) (h:eN aI.n (rd aI w) w p len cap l) (hz:bD (.slice 130 aI) l≤1048576) :
  Calls Tryz.prog 35 #[.slice p len cap] w (bAG 130 aI w l):=by
 obtain rfl:=h.lens
 rw[bZ] at hz
 have hlen:l.length≤1048576:=by omega
 have hmk:=pA Tryz.prog 46 130 (.agg #[.slice none 0 0,.slice none 0 0]) 48 aI Tryz.underlying46 (by kernel_rfl) rfl l.length (by omega) (by omega)
 go_enter Tryz.func35,Tryz.ntmps35
 go_wp2
 go_loopw [4] (fun i wr=>∃ k:Nat,k≤l.length∧i = .int .i64 k∧Below w.heap.size w wr∧bT (.slice 130 aI) w.heap.size wr.heap.size wr [.slice (some ⟨w.heap.size,0,none⟩) l.length l.length] (l.take k++List.replicate (l.length - k) (aX aI))) (fun i _=>l.length - (intOf i).toNat)
 case atStart=>exact ⟨0,by omega,rfl,(Below.refl _ _).alloc (Nat.le_refl _) _,(bT.made w aI _ l.length (by simp[maxLen];omega)).mono (Nat.le_refl _) (by simp) (Nat.le_refl _)⟩
 case round =>
  obtain ⟨k,hk,rfl,hb,hf⟩:=hrel
  by_cases hlt:k<l.length
  ·obtain ⟨b,off,rfl,hlb,cs,hcs,hc,hR⟩:=h.2.2.2.2 k hlt
   have hzk:=aEB (bD aI) l k hlt
   obtain ⟨x,hx⟩:∃ x,l[k]=x:=⟨_,rfl⟩
   rw[hx] at hR hzk
   have hR0:rd aI wr cs x:=mN (fun q hq=>hb.block q hq) _ _ _ hR
   obtain ⟨x0,x1⟩:=x
   obtain ⟨p0,n0,q0,p1,n1,q1,rfl,s0,s1⟩:=yE hR
   have c0:wr.cell? ⟨b,off+k * 2,none⟩=some (.slice p0 n0 q0):=(hb.cell hlb).trans (by have hh:=hc 0 (by simp);rw[show Ty.n aI=2 from rfl] at hh;simpa using hh)
   have c1:wr.cell? ⟨b,off+k * 2+1,none⟩=some (.slice p1 n1 q1):=(hb.cell hlb).trans (by have hh:=hc 1 (by simp);rw[show Ty.n aI=2 from rfl] at hh;simpa using hh)
   obtain ⟨b',cap',hv,_,hbl,hfz,c,hcl,hcc,_⟩:=hf.at k (by simp;omega)
   simp only[Value.slice.injEq,cN,Addr.mk.injEq,and_true] at hv
   obtain ⟨rfl,-,rfl⟩:=hv
   have HF:=Lib.hid hf;have HX:=Lib.hid hx
   have e0:wr.cell? ⟨w.heap.size,k * 2,none⟩=some (c[0]'(by rw[hcl];decide)):=by simpa [Ty.n] using hcc 0 (by rw[hcl];decide)
   have g0:wr.frozen? ⟨w.heap.size,k * 2,none⟩=false:=hfz _
   have e1:wr.cell? ⟨w.heap.size,k * 2+1,none⟩=some (c[1]'(by rw[hcl];decide)):=by simpa [Ty.n] using hcc 1 (by rw[hcl];decide)
   have g1:wr.frozen? ⟨w.heap.size,k * 2+1,none⟩=false:=hfz _
   clear h hc hcc hfz hf hx
   go_wp2_with fail
   refine (aY3 _ (x0,x1) _ (by exact hR0) (by omega)).mono ?_
   rintro e w1 ⟨cs1,rfl,f1,b1⟩
   have rr:=f1.rd
   obtain ⟨rp0,rn0,rq0,rp1,rn1,rq1,rhcs,rs0,rs1⟩:=yE rr
   obtain rfl:cs1 = #[.slice rp0 rn0 rq0,.slice rp1 rn1 rq1]:=gL rhcs
   have e0':w1.cell? ⟨w.heap.size,k * 2,none⟩=some (c[0]'(by rw[hcl];decide)):=(b1.cell hbl).trans e0
   have g0':w1.frozen? ⟨w.heap.size,k * 2,none⟩=false:=(b1.frozen hbl).trans g0
   have e1':w1.cell? ⟨w.heap.size,k * 2+1,none⟩=some (c[1]'(by rw[hcl];decide)):=(b1.cell hbl).trans e1
   have g1':w1.frozen? ⟨w.heap.size,k * 2+1,none⟩=false:=(b1.frozen hbl).trans g1
   clear e0 g0 c0 e1 g1 c1 rhcs
   go_wp2
   go_roundw
   case rel =>
    refine ⟨k+1,by omega,by go_num,?_,?_⟩
    ·(repeat' first|refine Below.setCell ?_ aV _);exact hb.trans (b1.mono hb.size)
    ·have h1:=(HF.out.below b1 (Nat.le_refl _)).set k (by simp;omega) hb.size b1.size (x:=l[k]) (by rw[HX.out];exact f1)
     rw[aEX l (aX aI) k hlt] at h1
     refine bT.mono (hi:=w1.heap.size) ?_ (Nat.le_refl _) aV (Nat.le_refl _)
     exact h1
   case measure=>simp[intOf];omega
  ·clear h
   go_wp2
   go_ret
   obtain rfl:k=l.length:=by omega
   exact ⟨_,_,rfl,by simpa using hf,hb⟩
set_option maxHeartbeats 1000000 in
theorem aKI (ca:Array Value) (d:aI.D) (left:Int) (w:World) (ha:rd aI w ca.toList d) (h0:0≤left) (h2:left≤9223372036854775807) :
  Calls Tryz.prog 80 #[.agg ca,.int .i64 left] w (kZ (.int .i64 (szR left (bD aI d))) w):=by
 obtain ⟨x0,x1⟩:=d
 obtain ⟨ap0,an0,aq0,ap1,an1,aq1,ahcs,as0,as1⟩:=yE ha
 obtain rfl:ca = #[.slice ap0 an0 aq0,.slice ap1 an1 aq1]:=gL ahcs
 clear ahcs
 have e0:bD aI (x0,x1)=bD aB x0+bD aB x1:=by first|rfl|(simp only[bD];omega)
 have hl0:bD aB x0=an0:=by rw[as0.lens];exact eA x0
 have hm0:an0≤maxLen:=Nat.le_trans as0.2.1 as0.2.2.1
 have hl1:bD aB x1=an1:=by rw[as1.lens];exact eA x1
 have hm1:an1≤maxLen:=Nat.le_trans as1.2.1 as1.2.2.1
 have HS:Hid (bD aI (x0,x1)=an0+an1):=e0.trans (by rw[hl0,hl1])
 clear e0 hl0 hl1
 by_cases hf0:((an0:Nat):Int)≤left
 rotate_left
 ·go_enter Tryz.func80,Tryz.ntmps80
  go_wp2_with fail
  refine (rE _ _ _ _ _ hm0 (by omega) (by omega) (by omega)).mono ?_
  rintro e w90 ⟨rfl,b0⟩
  obtain ⟨u0,v0⟩:=dL b0
  have y0:=b0.size
  try simp only[rY] at u0 v0 y0
  have yy00:w.heap.size<w90.heap.size:=aV
  go_wp2
  go_ret
  exact ⟨dC (by (first|rw[HS.out]|skip);unfold szR;rw[if_neg (by omega)]),dR⟩
 by_cases hf1:((an1:Nat):Int)≤left - (an0:Nat)
 rotate_left
 ·go_enter Tryz.func80,Tryz.ntmps80
  go_wp2_with fail
  refine (jL _ _ _ _ _ hm0 (by omega) (by omega) (by omega)).mono ?_
  rintro e w90 ⟨rfl,b0⟩
  obtain ⟨u0,v0⟩:=dL b0
  have y0:=b0.size
  try simp only[rY] at u0 v0 y0
  have yy00:w.heap.size<w90.heap.size:=aV
  go_wp2_with fail
  refine (rE _ _ _ _ _ hm1 (by omega) (by omega) (by omega)).mono ?_
  rintro e w91 ⟨rfl,b1⟩
  obtain ⟨u1,v1⟩:=dL b1
  have y1:=b1.size
  try simp only[rY] at u1 v1 y1
  have yy10:w.heap.size<w91.heap.size:=aV
  go_wp2
  go_ret
  exact ⟨dC (by (first|rw[HS.out]|skip);unfold szR;rw[if_neg (by omega)]),dR⟩
 go_enter Tryz.func80,Tryz.ntmps80
 go_wp2_with fail
 refine (jL _ _ _ _ _ hm0 (by omega) (by omega) (by omega)).mono ?_
 rintro e w90 ⟨rfl,b0⟩
 obtain ⟨u0,v0⟩:=dL b0
 have y0:=b0.size
 try simp only[rY] at u0 v0 y0
 have yy00:w.heap.size<w90.heap.size:=aV
 go_wp2_with fail
 refine (jL _ _ _ _ _ hm1 (by omega) (by omega) (by omega)).mono ?_
 rintro e w91 ⟨rfl,b1⟩
 obtain ⟨u1,v1⟩:=dL b1
 have y1:=b1.size
 try simp only[rY] at u1 v1 y1
 have yy10:w.heap.size<w91.heap.size:=aV
 go_wp2
 go_ret
 exact ⟨dC (by (first|rw[HS.out]|skip);unfold szR;rw[if_pos (by omega)];try omega),dR⟩
theorem bDX (ca:Array Value) (d:aI.D) (left:Int) (w:World) (ha:rd aI w ca.toList d) (h0:0≤left) (h2:left≤9223372036854775807) (h:((bD aI d:Nat):Int)≤left) :
  Calls Tryz.prog 80 #[.agg ca,.int .i64 left] w (kZ (.int .i64 (left - (bD aI d:Nat))) w):=by
 have:=aKI ca d left w ha h0 h2
 rwa [uO h] at this
theorem bCL (ca:Array Value) (d:aI.D) (left:Int) (w:World) (ha:rd aI w ca.toList d) (h0:0≤left) (h2:left≤9223372036854775807) (h:¬ ((bD aI d:Nat):Int)≤left) :
  Calls Tryz.prog 80 #[.agg ca,.int .i64 left] w (kZ (.int .i64 (-1)) w):=by
 have:=aKI ca d left w ha h0 h2
 rwa [uN h] at this
set_option maxHeartbeats 1000000 in
theorem aHH (p:Option Addr) (len cap:Nat) (l:List aI.D) (left:Int) (w:World) (h:eN aI.n (rd aI w) w p len cap l) (h0:0≤left) (h2:left≤9223372036854775807) :
  Calls Tryz.prog 32 #[.slice p len cap,.int .i64 left] w (kZ (.int .i64 (szR left (bD (.slice 130 aI) l))) w):=by
 have hm:len≤maxLen:=Nat.le_trans h.2.1 h.2.2.1
 obtain rfl:=h.lens
 unfold maxLen at hm
 have HS:Hid (bD (.slice 130 aI) l=l.length+(l.map (bD aI)).sum):=bZ _ _ _
 by_cases hc:(l.length:Int)≤left
 rotate_left
 ·have hc2:(left - l.length<0):=by omega
  clear h
  go_enter Tryz.func32,Tryz.ntmps32
  go_wp2
  go_ret
  exact ⟨dC (by (first|rw[HS.out]|skip);unfold szR;rw[if_neg (by omega)]),Below.refl _ _⟩
 go_enter Tryz.func32,Tryz.ntmps32
 go_wp2
 go_loopw [1,5] (fun q i wr=>∃ k:Nat,k≤l.length∧i = .int .i64 k∧∃ m:Int,q = .int .i64 m∧m=left - l.length - (((l.take k).map (bD aI)).sum:Nat)∧0≤m∧Below w.heap.size w wr) (fun _ i _=>l.length - (intOf i).toNat)
 case atStart=>exact ⟨0,by omega,rfl,_,rfl,by simp,by omega,Below.refl _ _⟩
 case round =>
  obtain ⟨k,hk,rfl,m,rfl,hm1,hm2,hb⟩:=hrel
  have hmb:m≤left:=by omega
  by_cases hlt:k<l.length
  ·obtain ⟨b,off,rfl,hlb,cs,hcs,hc1,hR⟩:=h.2.2.2.2 k hlt
   have hsum:=fQ (bD aI) l k hlt
   have hsle:=mZ (bD aI) l (k+1)
   obtain ⟨x,hx⟩:∃ x,l[k]=x:=⟨_,rfl⟩
   rw[hx] at hR hsum
   have hR0:rd aI wr cs x:=mN (fun q hq=>hb.block q hq) _ _ _ hR
   obtain ⟨z,hz⟩:∃ z,bD aI x=z:=⟨_,rfl⟩
   obtain ⟨s0,hs0⟩:∃ z,((l.take k).map (bD aI)).sum=z:=⟨_,rfl⟩
   obtain ⟨s1,hs1⟩:∃ z,((l.take (k+1)).map (bD aI)).sum=z:=⟨_,rfl⟩
   obtain ⟨s2,hs2⟩:∃ z,(l.map (bD aI)).sum=z:=⟨_,rfl⟩
   rw[hs0] at hsum hm1
   rw[hs1,hz] at hsum
   rw[hs1] at hsle
   rw[hs2] at hsle
   have HZ:=Lib.hid hz;have HR:=Lib.hid hR0;have H1:=Lib.hid hs1;have H2:=Lib.hid hs2;have HM:=Lib.hid hm1;have HU:=Lib.hid hsum;have HX:=Lib.hid hz
   obtain ⟨x0,x1⟩:=x
   obtain ⟨ap0,an0,aq0,ap1,an1,aq1,rfl,as0,as1⟩:=yE hR
   have c0:wr.cell? ⟨b,off+k * 2,none⟩=some (.slice ap0 an0 aq0):=(hb.cell hlb).trans (by have hh:=hc1 0 (by simp);rw[show Ty.n aI=2 from rfl] at hh;simpa using hh)
   have c1:wr.cell? ⟨b,off+k * 2+1,none⟩=some (.slice ap1 an1 aq1):=(hb.cell hlb).trans (by have hh:=hc1 1 (by simp);rw[show Ty.n aI=2 from rfl] at hh;simpa using hh)
   clear h hc1 hcs hx hR0 hz hs0 hs1 hs2 hm1 hsum
   by_cases hfit:(z:Int)≤m
   ·go_wp2_with fail
    refine (bDX _ (x0,x1) _ _ (by exact HR.out) (by omega) (by omega) (by rw[HZ.out];omega)).mono ?_
    rintro e w3 ⟨rfl,b3⟩
    rw[HZ.out]
    have hmz:¬ (m - z<0):=by omega
    go_wp2
    go_roundw
    case rel=>exact ⟨k+1,by omega,by go_num,_,rfl,by rw[H1.out];have:=HM.out;have:=HU.out;omega,by omega,hb.trans (b3.mono hb.size)⟩
    case measure=>simp[intOf];omega
   ·go_wp2_with fail
    refine (bCL _ (x0,x1) _ _ (by exact HR.out) (by omega) (by omega) (by rw[HZ.out];omega)).mono ?_
    rintro e w3 ⟨rfl,b3⟩
    go_wp2
    go_ret
    exact ⟨dC (by rw[HS.out,H2.out];unfold szR;rw[if_neg (by have:=HM.out;have:=HU.out;omega)]),hb.trans (b3.mono hb.size)⟩
  ·clear h
   have HM:=Lib.hid hm1;clear hm1
   go_wp2
   go_ret
   obtain rfl:k=l.length:=by omega
   have hm1:=HM.out
   rw[List.take_length] at hm1
   exact ⟨dC (by (first|rw[HS.out]|skip);unfold szR;rw[if_pos (by omega)];try omega),hb⟩
theorem aXN (p:Option Addr) (len cap:Nat) (l:List aI.D) (left:Int) (w:World) (ha:eN aI.n (rd aI w) w p len cap l) (h0:0≤left) (h2:left≤9223372036854775807) (h:((bD (.slice 130 aI) l:Nat):Int)≤left) :
  Calls Tryz.prog 32 #[.slice p len cap,.int .i64 left] w (kZ (.int .i64 (left - (bD (.slice 130 aI) l:Nat))) w):=by
 have:=aHH p len cap l left w ha h0 h2
 rwa [uO h] at this
theorem aYP (p:Option Addr) (len cap:Nat) (l:List aI.D) (left:Int) (w:World) (ha:eN aI.n (rd aI w) w p len cap l) (h0:0≤left) (h2:left≤9223372036854775807) (h:¬ ((bD (.slice 130 aI) l:Nat):Int)≤left) :
  Calls Tryz.prog 32 #[.slice p len cap,.int .i64 left] w (kZ (.int .i64 (-1)) w):=by
 have:=aHH p len cap l left w ha h0 h2
 rwa [uN h] at this
set_option maxHeartbeats 1000000 in
theorem aZM (ca cb:Array Value) (d:aI.D) (w:World) (ha:rd aI w ca.toList d) (hb:rd aI w cb.toList d) :
  Calls Tryz.prog 94 #[.agg ca,.agg cb] w (kZ (.bool true) w):=by
 obtain ⟨x0,x1⟩:=d
 obtain ⟨ap0,an0,aq0,ap1,an1,aq1,ahcs,as0,as1⟩:=yE ha
 obtain ⟨bp0,bn0,bq0,bp1,bn1,bq1,bhcs,bs0,bs1⟩:=yE hb
 obtain rfl:ca = #[.slice ap0 an0 aq0,.slice ap1 an1 aq1]:=gL ahcs
 obtain rfl:cb = #[.slice bp0 bn0 bq0,.slice bp1 bn1 bq1]:=gL bhcs
 clear ahcs bhcs
 go_enter Tryz.func94,Tryz.ntmps94
 go_wp2_with fail
 refine (mP _ _ _ _ _ _ x0 _ (by exact as0.below dR) (by exact bs0.below dR)).mono ?_
 rintro e w90 ⟨rfl,b0⟩
 obtain ⟨u0,v0⟩:=dL b0
 have y0:=b0.size
 try simp only[rY] at u0 v0 y0
 have yy00:w.heap.size<w90.heap.size:=aV
 have yy01:w.heap.size+1<w90.heap.size:=aV
 go_wp2_with fail
 refine (mP _ _ _ _ _ _ x1 _ (by exact as1.below dR) (by exact bs1.below dR)).mono ?_
 rintro e w91 ⟨rfl,b1⟩
 obtain ⟨u1,v1⟩:=dL b1
 have y1:=b1.size
 try simp only[rY] at u1 v1 y1
 have yy10:w.heap.size<w91.heap.size:=aV
 have yy11:w.heap.size+1<w91.heap.size:=aV
 go_wp2
 go_ret
 exact ⟨rfl,dR⟩
set_option maxHeartbeats 1000000 in
theorem aT4 (p q:Option Addr) (len cap len' cap':Nat) (l:List aI.D) (w:World) (h:eN aI.n (rd aI w) w p len cap l) (h':eN aI.n (rd aI w) w q len' cap' l) :
  Calls Tryz.prog 40 #[.slice p len cap,.slice q len' cap'] w (kZ (.bool true) w):=by
 obtain rfl:=h.lens
 obtain rfl:=h'.lens
 have hmx:l.length≤maxLen:=by have:=h.2.1;have:=h.2.2.1;omega
 unfold maxLen at hmx
 go_enter Tryz.func40,Tryz.ntmps40
 go_wp2
 go_loopw [5] (fun i wr=>∃ k:Nat,k≤l.length∧i = .int .i64 k∧Below w.heap.size w wr) (fun i _=>l.length - (intOf i).toNat)
 case atStart=>exact ⟨0,by omega,rfl,Below.refl _ _⟩
 case round =>
  obtain ⟨k,hk,rfl,hb⟩:=hrel
  by_cases hlt:k<l.length
  ·obtain ⟨b,off,rfl,hlb,cs,hcs,hc,hR⟩:=h.2.2.2.2 k hlt
   obtain ⟨b2,off2,rfl,hlb2,cs2,hcs2,hc2,hR2⟩:=h'.2.2.2.2 k hlt
   obtain ⟨x,hx⟩:∃ x,l[k]=x:=⟨_,rfl⟩
   rw[hx] at hR hR2
   have hR0:rd aI wr.drew cs x:=mN (fun q hq=>hb.block q hq) _ _ _ hR
   have hR20:rd aI wr.drew cs2 x:=mN (fun q hq=>hb.block q hq) _ _ _ hR2
   obtain ⟨x0,x1⟩:=x
   obtain ⟨ap0,an0,aq0,ap1,an1,aq1,rfl,as0,as1⟩:=yE hR
   obtain ⟨bp0,bn0,bq0,bp1,bn1,bq1,rfl,bs0,bs1⟩:=yE hR2
   have c0:wr.cell? ⟨b,off+k * 2,none⟩=some (.slice ap0 an0 aq0):=(hb.cell hlb).trans (by have hh:=hc 0 (by simp);rw[show Ty.n aI=2 from rfl] at hh;simpa using hh)
   have c1:wr.cell? ⟨b,off+k * 2+1,none⟩=some (.slice ap1 an1 aq1):=(hb.cell hlb).trans (by have hh:=hc 1 (by simp);rw[show Ty.n aI=2 from rfl] at hh;simpa using hh)
   have d0:wr.cell? ⟨b2,off2+k * 2,none⟩=some (.slice bp0 bn0 bq0):=(hb.cell hlb2).trans (by have hh:=hc2 0 (by simp);rw[show Ty.n aI=2 from rfl] at hh;simpa using hh)
   have d1:wr.cell? ⟨b2,off2+k * 2+1,none⟩=some (.slice bp1 bn1 bq1):=(hb.cell hlb2).trans (by have hh:=hc2 1 (by simp);rw[show Ty.n aI=2 from rfl] at hh;simpa using hh)
   have HR:=Lib.hid hR0;have HR2:=Lib.hid hR20
   clear h h' hc hc2 hx hcs hcs2 hR0 hR20
   go_wp2
   go_still_tail 8,(by kernel_rfl)
   change wpList _ _ _ _ _ wr.drew
   have hb2:Below w.heap.size w wr.drew:=hb.drew
   generalize wr.drew=w2 at hb2 HR HR2 ⊢
   go_wp2_with fail
   refine (aZM _ _ (x0,x1) _ (by exact HR.out) (by exact HR2.out)).mono ?_
   rintro e w3 ⟨rfl,b3⟩
   go_wp2
   go_roundw
   case rel=>exact ⟨k+1,by omega,by go_num,hb2.trans (b3.mono hb2.size)⟩
   case measure=>simp[intOf];omega
  ·clear h h'
   go_wp2
   go_ret
   exact ⟨rfl,hb⟩
end Go.Proofs.YtiihghfoeinbbaaGreat
