/- TOp: lemmas. No conditions. -/
import Derived.Test.YtiihghfoeinbbaaGreatCe
namespace Go.Proofs.YtiihghfoeinbbaaGreat
set_option maxRecDepth 100000
open Go.ChangeShapes Go.WideShapes Go.ChangeAt Go.RowKit
set_option linter.unusedVariables false
set_option linter.unusedSimpArgs false
theorem aQB {w:World} {cs:List Value} {x0:Ty.D fP} {x1:Ty.D fP} {x2:Ty.D fP} {x3:Ty.D aB} (h:rd bA w cs (x0,(x1,(x2,x3)))) :
  ∃ p3 n3 q3,cs=[.int .i64 x0,.int .i64 x1,.int .i64 x2,.slice p3 n3 q3]∧(Lit.int .i64 x0).wf=true∧(Lit.int .i64 x1).wf=true∧(Lit.int .i64 x2).wf=true∧eN (Ty.n fP) (rd fP w) w p3 n3 q3 x3:=by
 obtain ⟨_,_,hcs,⟨rfl,w0⟩,⟨_,_,rfl,⟨rfl,w1⟩,⟨_,_,rfl,⟨rfl,w2⟩,⟨p3,n3,q3,rfl,s3⟩⟩⟩⟩:=h
 exact ⟨_,_,_,hcs,w0,w1,w2,s3⟩
set_option maxHeartbeats 1000000 in
theorem bF1 (cs:Array Value) (d:bA.D) (w:World) (h:rd bA w cs.toList d) (hz:bD bA d≤1048576) :
  Calls Tryz.prog 120 #[.agg cs] w (bB9 bA w d):=by
 obtain ⟨x0,⟨x1,⟨x2,x3⟩⟩⟩:=d
 obtain ⟨p3,n3,q3,hcs,w0,w1,w2,s3⟩:=aQB h
 obtain rfl:cs = #[.int .i64 x0,.int .i64 x1,.int .i64 x2,.slice p3 n3 q3]:=gL hcs
 have z3:bD aB x3≤1048576:=by simp only[bD] at hz ⊢;omega
 clear hz hcs
 go_enter Tryz.func120,Tryz.ntmps120
 go_wp2_with fail
 refine (iZ _ _ _ x3 _ (by exact s3.below dR) (by simp only[bZ] at z3;omega)).mono ?_
 rintro e w93 ⟨r3,rc3,rfl,f3,b3⟩
 obtain ⟨u3,v3⟩:=dL b3
 have y3:=b3.size
 simp only[rY] at u3 v3 y3
 have yy30:w.heap.size<w93.heap.size:=aV
 have yy31:w.heap.size+1<w93.heap.size:=aV
 have yy32:w.heap.size+1+1<w93.heap.size:=aV
 go_wp2
 refine bodyPost_ret (v:=.agg #[.int .i64 x0,.int .i64 x1,.int .i64 x2,.slice r3 (List.length x3) rc3]) (by simp[results,Tryz.results120,go_sem,u3,yy30,yy31,yy32]) rfl ⟨_,rfl,?_,?_⟩
 ·refine bT.bMC (c1:=[_]) (c2:=[_,_,_]) (mid:=w.heap.size) ?_ ?_ aV aV
  ·exact bT.int w0 aV
  ·refine bT.bMC (c1:=[_]) (c2:=[_,_]) (mid:=w.heap.size) ?_ ?_ aV aV
   ·exact bT.int w1 aV
   ·refine bT.bMC (c1:=[_]) (c2:=[_]) (mid:=w.heap.size) ?_ ?_ aV aV
    ·exact bT.int w2 aV
    ·refine bT.mono (lo:=w.heap.size+1+1+1) (hi:=w93.heap.size) ?_ aV aV aV
     (repeat' first|refine bT.set1 ?_ aV _|refine bT.alloc ?_ _)
     exact f3.mono aV (Nat.le_refl _) (Nat.le_refl _)
 ·exact dR
set_option maxHeartbeats 1000000 in
theorem bDS (p:Option Addr) (len cap:Nat) (l:List bA.D) (w:World) (h:eN bA.n (rd bA w) w p len cap l) (hz:bD (.slice 146 bA) l≤1048576) :
  Calls Tryz.prog 58 #[.slice p len cap] w (bAG 146 bA w l):=by
 obtain rfl:=h.lens
 rw[bZ] at hz
 have hlen:l.length≤1048576:=by omega
 have hmk:=pA Tryz.prog 28 146 (.agg #[.int .i64 0,.int .i64 0,.int .i64 0,.slice none 0 0]) 48 bA Tryz.underlying28 (by kernel_rfl) rfl l.length (by omega) (by omega)
 go_enter Tryz.func58,Tryz.ntmps58
 go_wp2
 go_loopw [4] (fun i wr=>∃ k:Nat,k≤l.length∧i = .int .i64 k∧Below w.heap.size w wr∧bT (.slice 146 bA) w.heap.size wr.heap.size wr [.slice (some ⟨w.heap.size,0,none⟩) l.length l.length] (l.take k++List.replicate (l.length - k) (aX bA))) (fun i _=>l.length - (intOf i).toNat)
 case atStart=>exact ⟨0,by omega,rfl,(Below.refl _ _).alloc (Nat.le_refl _) _,(bT.made w bA _ l.length (by simp[maxLen];omega)).mono (Nat.le_refl _) (by simp) (Nat.le_refl _)⟩
 case round =>
  obtain ⟨k,hk,rfl,hb,hf⟩:=hrel
  by_cases hlt:k<l.length
  ·obtain ⟨b,off,rfl,hlb,cs,hcs,hc,hR⟩:=h.2.2.2.2 k hlt
   have hzk:=aEB (bD bA) l k hlt
   obtain ⟨x,hx⟩:∃ x,l[k]=x:=⟨_,rfl⟩
   rw[hx] at hR hzk
   have hR0:rd bA wr cs x:=mN (fun q hq=>hb.block q hq) _ _ _ hR
   obtain ⟨x0,⟨x1,⟨x2,x3⟩⟩⟩:=x
   obtain ⟨p3,n3,q3,rfl,w0,w1,w2,s3⟩:=aQB hR
   have c0:wr.cell? ⟨b,off+k * 4,none⟩=some (.int .i64 x0):=(hb.cell hlb).trans (by have hh:=hc 0 (by simp);rw[show Ty.n bA=4 from rfl] at hh;simpa using hh)
   have c1:wr.cell? ⟨b,off+k * 4+1,none⟩=some (.int .i64 x1):=(hb.cell hlb).trans (by have hh:=hc 1 (by simp);rw[show Ty.n bA=4 from rfl] at hh;simpa using hh)
   have c2:wr.cell? ⟨b,off+k * 4+2,none⟩=some (.int .i64 x2):=(hb.cell hlb).trans (by have hh:=hc 2 (by simp);rw[show Ty.n bA=4 from rfl] at hh;simpa using hh)
   have c3:wr.cell? ⟨b,off+k * 4+3,none⟩=some (.slice p3 n3 q3):=(hb.cell hlb).trans (by have hh:=hc 3 (by simp);rw[show Ty.n bA=4 from rfl] at hh;simpa using hh)
   obtain ⟨b',cap',hv,_,hbl,hfz,c,hcl,hcc,_⟩:=hf.at k (by simp;omega)
   simp only[Value.slice.injEq,cN,Addr.mk.injEq,and_true] at hv
   obtain ⟨rfl,-,rfl⟩:=hv
   have HF:=Lib.hid hf;have HX:=Lib.hid hx
   have e0:wr.cell? ⟨w.heap.size,k * 4,none⟩=some (c[0]'(by rw[hcl];decide)):=by simpa [Ty.n] using hcc 0 (by rw[hcl];decide)
   have g0:wr.frozen? ⟨w.heap.size,k * 4,none⟩=false:=hfz _
   have e1:wr.cell? ⟨w.heap.size,k * 4+1,none⟩=some (c[1]'(by rw[hcl];decide)):=by simpa [Ty.n] using hcc 1 (by rw[hcl];decide)
   have g1:wr.frozen? ⟨w.heap.size,k * 4+1,none⟩=false:=hfz _
   have e2:wr.cell? ⟨w.heap.size,k * 4+2,none⟩=some (c[2]'(by rw[hcl];decide)):=by simpa [Ty.n] using hcc 2 (by rw[hcl];decide)
   have g2:wr.frozen? ⟨w.heap.size,k * 4+2,none⟩=false:=hfz _
   have e3:wr.cell? ⟨w.heap.size,k * 4+3,none⟩=some (c[3]'(by rw[hcl];decide)):=by simpa [Ty.n] using hcc 3 (by rw[hcl];decide)
   have g3:wr.frozen? ⟨w.heap.size,k * 4+3,none⟩=false:=hfz _
   clear h hc hcc hfz hf hx
   go_wp2_with fail
   refine (bF1 _ (x0,(x1,(x2,x3))) _ (by exact hR0) (by omega)).mono ?_
   rintro e w1 ⟨cs1,rfl,f1,b1⟩
   have rr:=f1.rd
   obtain ⟨rp3,rn3,rq3,rhcs,rw0,rw1,rw2,rs3⟩:=aQB rr
   obtain rfl:cs1 = #[.int .i64 x0,.int .i64 x1,.int .i64 x2,.slice rp3 rn3 rq3]:=gL rhcs
   have e0':w1.cell? ⟨w.heap.size,k * 4,none⟩=some (c[0]'(by rw[hcl];decide)):=(b1.cell hbl).trans e0
   have g0':w1.frozen? ⟨w.heap.size,k * 4,none⟩=false:=(b1.frozen hbl).trans g0
   have e1':w1.cell? ⟨w.heap.size,k * 4+1,none⟩=some (c[1]'(by rw[hcl];decide)):=(b1.cell hbl).trans e1
   have g1':w1.frozen? ⟨w.heap.size,k * 4+1,none⟩=false:=(b1.frozen hbl).trans g1
   have e2':w1.cell? ⟨w.heap.size,k * 4+2,none⟩=some (c[2]'(by rw[hcl];decide)):=(b1.cell hbl).trans e2
   have g2':w1.frozen? ⟨w.heap.size,k * 4+2,none⟩=false:=(b1.frozen hbl).trans g2
   have e3':w1.cell? ⟨w.heap.size,k * 4+3,none⟩=some (c[3]'(by rw[hcl];decide)):=(b1.cell hbl).trans e3
   have g3':w1.frozen? ⟨w.heap.size,k * 4+3,none⟩=false:=(b1.frozen hbl).trans g3
   clear e0 g0 c0 e1 g1 c1 e2 g2 c2 e3 g3 c3 rhcs
   go_wp2
   go_roundw
   case rel =>
    refine ⟨k+1,by omega,by go_num,?_,?_⟩
    ·(repeat' first|refine Below.setCell ?_ aV _);exact hb.trans (b1.mono hb.size)
    ·have h1:=(HF.out.below b1 (Nat.le_refl _)).set k (by simp;omega) hb.size b1.size (x:=l[k]) (by rw[HX.out];exact f1)
     rw[aEX l (aX bA) k hlt] at h1
     refine bT.mono (hi:=w1.heap.size) ?_ (Nat.le_refl _) aV (Nat.le_refl _)
     exact h1
   case measure=>simp[intOf];omega
  ·clear h
   go_wp2
   go_ret
   obtain rfl:k=l.length:=by omega
   exact ⟨_,_,rfl,by simpa using hf,hb⟩
set_option maxHeartbeats 1000000 in
theorem aT5 (ca:Array Value) (d:bA.D) (left:Int) (w:World) (ha:rd bA w ca.toList d) (h0:0≤left) (h2:left≤9223372036854775807) :
  Calls Tryz.prog 108 #[.agg ca,.int .i64 left] w (kZ (.int .i64 (szR left (bD bA d))) w):=by
 obtain ⟨x0,⟨x1,⟨x2,x3⟩⟩⟩:=d
 obtain ⟨ap3,an3,aq3,ahcs,aw0,aw1,aw2,as3⟩:=aQB ha
 obtain rfl:ca = #[.int .i64 x0,.int .i64 x1,.int .i64 x2,.slice ap3 an3 aq3]:=gL ahcs
 clear ahcs
 have e0:bD bA (x0,(x1,(x2,x3)))=bD aB x3:=by first|rfl|(simp only[bD];omega)
 have hl3:bD aB x3=an3:=by rw[as3.lens];exact eA x3
 have hm3:an3≤maxLen:=Nat.le_trans as3.2.1 as3.2.2.1
 have HS:Hid (bD bA (x0,(x1,(x2,x3)))=an3):=e0.trans (by rw[hl3])
 clear e0 hl3
 by_cases hf3:((an3:Nat):Int)≤left
 rotate_left
 ·go_enter Tryz.func108,Tryz.ntmps108
  go_wp2_with fail
  refine (rE _ _ _ _ _ hm3 (by omega) (by omega) (by omega)).mono ?_
  rintro e w93 ⟨rfl,b3⟩
  obtain ⟨u3,v3⟩:=dL b3
  have y3:=b3.size
  try simp only[rY] at u3 v3 y3
  have yy30:w.heap.size<w93.heap.size:=aV
  go_wp2
  go_ret
  exact ⟨dC (by (first|rw[HS.out]|skip);unfold szR;rw[if_neg (by omega)]),dR⟩
 go_enter Tryz.func108,Tryz.ntmps108
 go_wp2_with fail
 refine (jL _ _ _ _ _ hm3 (by omega) (by omega) (by omega)).mono ?_
 rintro e w93 ⟨rfl,b3⟩
 obtain ⟨u3,v3⟩:=dL b3
 have y3:=b3.size
 try simp only[rY] at u3 v3 y3
 have yy30:w.heap.size<w93.heap.size:=aV
 go_wp2
 go_ret
 exact ⟨dC (by (first|rw[HS.out]|skip);unfold szR;rw[if_pos (by omega)];try omega),dR⟩
theorem bJY (ca:Array Value) (d:bA.D) (left:Int) (w:World) (ha:rd bA w ca.toList d) (h0:0≤left) (h2:left≤9223372036854775807) (h:((bD bA d:Nat):Int)≤left) :
  Calls Tryz.prog 108 #[.agg ca,.int .i64 left] w (kZ (.int .i64 (left - (bD bA d:Nat))) w):=by
 have:=aT5 ca d left w ha h0 h2
 rwa [uO h] at this
theorem bJJ (ca:Array Value) (d:bA.D) (left:Int) (w:World) (ha:rd bA w ca.toList d) (h0:0≤left) (h2:left≤9223372036854775807) (h:¬ ((bD bA d:Nat):Int)≤left) :
  Calls Tryz.prog 108 #[.agg ca,.int .i64 left] w (kZ (.int .i64 (-1)) w):=by
 have:=aT5 ca d left w ha h0 h2
 rwa [uN h] at this
set_option maxHeartbeats 1000000 in
theorem aN9 (p:Option Addr) (len cap:Nat) (l:List bA.D) (left:Int) (w:World) (h:eN bA.n (rd bA w) w p len cap l) (h0:0≤left) (h2:left≤9223372036854775807) :
  Calls Tryz.prog 52 #[.slice p len cap,.int .i64 left] w (kZ (.int .i64 (szR left (bD (.slice 146 bA) l))) w):=by
 have hm:len≤maxLen:=Nat.le_trans h.2.1 h.2.2.1
 obtain rfl:=h.lens
 unfold maxLen at hm
 have HS:Hid (bD (.slice 146 bA) l=l.length+(l.map (bD bA)).sum):=bZ _ _ _
 by_cases hc:(l.length:Int)≤left
 rotate_left
 ·have hc2:(left - l.length<0):=by omega
  clear h
  go_enter Tryz.func52,Tryz.ntmps52
  go_wp2
  go_ret
  exact ⟨dC (by (first|rw[HS.out]|skip);unfold szR;rw[if_neg (by omega)]),Below.refl _ _⟩
 go_enter Tryz.func52,Tryz.ntmps52
 go_wp2
 go_loopw [1,5] (fun q i wr=>∃ k:Nat,k≤l.length∧i = .int .i64 k∧∃ m:Int,q = .int .i64 m∧m=left - l.length - (((l.take k).map (bD bA)).sum:Nat)∧0≤m∧Below w.heap.size w wr) (fun _ i _=>l.length - (intOf i).toNat)
 case atStart=>exact ⟨0,by omega,rfl,_,rfl,by simp,by omega,Below.refl _ _⟩
 case round =>
  obtain ⟨k,hk,rfl,m,rfl,hm1,hm2,hb⟩:=hrel
  have hmb:m≤left:=by omega
  by_cases hlt:k<l.length
  ·obtain ⟨b,off,rfl,hlb,cs,hcs,hc1,hR⟩:=h.2.2.2.2 k hlt
   have hsum:=fQ (bD bA) l k hlt
   have hsle:=mZ (bD bA) l (k+1)
   obtain ⟨x,hx⟩:∃ x,l[k]=x:=⟨_,rfl⟩
   rw[hx] at hR hsum
   have hR0:rd bA wr cs x:=mN (fun q hq=>hb.block q hq) _ _ _ hR
   obtain ⟨z,hz⟩:∃ z,bD bA x=z:=⟨_,rfl⟩
   obtain ⟨s0,hs0⟩:∃ z,((l.take k).map (bD bA)).sum=z:=⟨_,rfl⟩
   obtain ⟨s1,hs1⟩:∃ z,((l.take (k+1)).map (bD bA)).sum=z:=⟨_,rfl⟩
   obtain ⟨s2,hs2⟩:∃ z,(l.map (bD bA)).sum=z:=⟨_,rfl⟩
   rw[hs0] at hsum hm1
   rw[hs1,hz] at hsum
   rw[hs1] at hsle
   rw[hs2] at hsle
   have HZ:=Lib.hid hz;have HR:=Lib.hid hR0;have H1:=Lib.hid hs1;have H2:=Lib.hid hs2;have HM:=Lib.hid hm1;have HU:=Lib.hid hsum;have HX:=Lib.hid hz
   obtain ⟨x0,⟨x1,⟨x2,x3⟩⟩⟩:=x
   obtain ⟨ap3,an3,aq3,rfl,aw0,aw1,aw2,as3⟩:=aQB hR
   have c0:wr.cell? ⟨b,off+k * 4,none⟩=some (.int .i64 x0):=(hb.cell hlb).trans (by have hh:=hc1 0 (by simp);rw[show Ty.n bA=4 from rfl] at hh;simpa using hh)
   have c1:wr.cell? ⟨b,off+k * 4+1,none⟩=some (.int .i64 x1):=(hb.cell hlb).trans (by have hh:=hc1 1 (by simp);rw[show Ty.n bA=4 from rfl] at hh;simpa using hh)
   have c2:wr.cell? ⟨b,off+k * 4+2,none⟩=some (.int .i64 x2):=(hb.cell hlb).trans (by have hh:=hc1 2 (by simp);rw[show Ty.n bA=4 from rfl] at hh;simpa using hh)
   have c3:wr.cell? ⟨b,off+k * 4+3,none⟩=some (.slice ap3 an3 aq3):=(hb.cell hlb).trans (by have hh:=hc1 3 (by simp);rw[show Ty.n bA=4 from rfl] at hh;simpa using hh)
   clear h hc1 hcs hx hR0 hz hs0 hs1 hs2 hm1 hsum
   by_cases hfit:(z:Int)≤m
   ·go_wp2_with fail
    refine (bJY _ (x0,(x1,(x2,x3))) _ _ (by exact HR.out) (by omega) (by omega) (by rw[HZ.out];omega)).mono ?_
    rintro e w3 ⟨rfl,b3⟩
    rw[HZ.out]
    have hmz:¬ (m - z<0):=by omega
    go_wp2
    go_roundw
    case rel=>exact ⟨k+1,by omega,by go_num,_,rfl,by rw[H1.out];have:=HM.out;have:=HU.out;omega,by omega,hb.trans (b3.mono hb.size)⟩
    case measure=>simp[intOf];omega
   ·go_wp2_with fail
    refine (bJJ _ (x0,(x1,(x2,x3))) _ _ (by exact HR.out) (by omega) (by omega) (by rw[HZ.out];omega)).mono ?_
    rintro e w3 ⟨rfl,b3⟩
    go_wp2
    go_ret
    exact ⟨dC (by rw[HS.out,H2.out];unfold szR;rw[if_neg (by have:=HM.out;have:=HU.out;omega)]),hb.trans (b3.mono hb.size)⟩
  ·clear h
   have HM:=Lib.hid hm1;clear hm1
   go_wp2
   go_ret
   obtain rfl:k=l.length:=by omega
   have hm1:=HM.out
   rw[List.take_length] at hm1
   exact ⟨dC (by (first|rw[HS.out]|skip);unfold szR;rw[if_pos (by omega)];try omega),hb⟩
theorem bFD (p:Option Addr) (len cap:Nat) (l:List bA.D) (left:Int) (w:World) (ha:eN bA.n (rd bA w) w p len cap l) (h0:0≤left) (h2:left≤9223372036854775807) (h:((bD (.slice 146 bA) l:Nat):Int)≤left) :
  Calls Tryz.prog 52 #[.slice p len cap,.int .i64 left] w (kZ (.int .i64 (left - (bD (.slice 146 bA) l:Nat))) w):=by
 have:=aN9 p len cap l left w ha h0 h2
 rwa [uO h] at this
theorem bG1 (p:Option Addr) (len cap:Nat) (l:List bA.D) (left:Int) (w:World) (ha:eN bA.n (rd bA w) w p len cap l) (h0:0≤left) (h2:left≤9223372036854775807) (h:¬ ((bD (.slice 146 bA) l:Nat):Int)≤left) :
  Calls Tryz.prog 52 #[.slice p len cap,.int .i64 left] w (kZ (.int .i64 (-1)) w):=by
 have:=aN9 p len cap l left w ha h0 h2
 rwa [uN h] at this
set_option maxHeartbeats 1000000 in
theorem bHY (ca cb:Array Value) (d:bA.D) (w:World) (ha:rd bA w ca.toList d) (hb:rd bA w cb.toList d) :
  Calls Tryz.prog 131 #[.agg ca,.agg cb] w (kZ (.bool true) w):=by
 obtain ⟨x0,⟨x1,⟨x2,x3⟩⟩⟩:=d
 obtain ⟨ap3,an3,aq3,ahcs,aw0,aw1,aw2,as3⟩:=aQB ha
 obtain ⟨bp3,bn3,bq3,bhcs,bw0,bw1,bw2,bs3⟩:=aQB hb
 obtain rfl:ca = #[.int .i64 x0,.int .i64 x1,.int .i64 x2,.slice ap3 an3 aq3]:=gL ahcs
 obtain rfl:cb = #[.int .i64 x0,.int .i64 x1,.int .i64 x2,.slice bp3 bn3 bq3]:=gL bhcs
 clear ahcs bhcs
 go_enter Tryz.func131,Tryz.ntmps131
 go_wp2_with fail
 refine (mP _ _ _ _ _ _ x3 _ (by exact as3.below dR) (by exact bs3.below dR)).mono ?_
 rintro e w93 ⟨rfl,b3⟩
 obtain ⟨u3,v3⟩:=dL b3
 have y3:=b3.size
 try simp only[rY] at u3 v3 y3
 have yy30:w.heap.size<w93.heap.size:=aV
 have yy31:w.heap.size+1<w93.heap.size:=aV
 go_wp2
 go_ret
 exact ⟨rfl,dR⟩
set_option maxHeartbeats 1000000 in
theorem bDQ (p q:Option Addr) (len cap len' cap':Nat) (l:List bA.D) (w:World) (h:eN bA.n (rd bA w) w p len cap l) (h':eN bA.n (rd bA w) w q len' cap' l) :
  Calls Tryz.prog 64 #[.slice p len cap,.slice q len' cap'] w (kZ (.bool true) w):=by
 obtain rfl:=h.lens
 obtain rfl:=h'.lens
 have hmx:l.length≤maxLen:=by have:=h.2.1;have:=h.2.2.1;omega
 unfold maxLen at hmx
 go_enter Tryz.func64,Tryz.ntmps64
 go_wp2
 go_loopw [5] (fun i wr=>∃ k:Nat,k≤l.length∧i = .int .i64 k∧Below w.heap.size w wr) (fun i _=>l.length - (intOf i).toNat)
 case atStart=>exact ⟨0,by omega,rfl,Below.refl _ _⟩
 case round =>
  obtain ⟨k,hk,rfl,hb⟩:=hrel
  by_cases hlt:k<l.length
  ·obtain ⟨b,off,rfl,hlb,cs,hcs,hc,hR⟩:=h.2.2.2.2 k hlt
   obtain ⟨b2,off2,rfl,hlb2,cs2,hcs2,hc2,hR2⟩:=h'.2.2.2.2 k hlt
   obtain ⟨x,hx⟩:∃ x,l[k]=x:=⟨_,rfl⟩
   rw[hx] at hR hR2
   have hR0:rd bA wr.drew cs x:=mN (fun q hq=>hb.block q hq) _ _ _ hR
   have hR20:rd bA wr.drew cs2 x:=mN (fun q hq=>hb.block q hq) _ _ _ hR2
   obtain ⟨x0,⟨x1,⟨x2,x3⟩⟩⟩:=x
   obtain ⟨ap3,an3,aq3,rfl,aw0,aw1,aw2,as3⟩:=aQB hR
   obtain ⟨bp3,bn3,bq3,rfl,bw0,bw1,bw2,bs3⟩:=aQB hR2
   have c0:wr.cell? ⟨b,off+k * 4,none⟩=some (.int .i64 x0):=(hb.cell hlb).trans (by have hh:=hc 0 (by simp);rw[show Ty.n bA=4 from rfl] at hh;simpa using hh)
   have c1:wr.cell? ⟨b,off+k * 4+1,none⟩=some (.int .i64 x1):=(hb.cell hlb).trans (by have hh:=hc 1 (by simp);rw[show Ty.n bA=4 from rfl] at hh;simpa using hh)
   have c2:wr.cell? ⟨b,off+k * 4+2,none⟩=some (.int .i64 x2):=(hb.cell hlb).trans (by have hh:=hc 2 (by simp);rw[show Ty.n bA=4 from rfl] at hh;simpa using hh)
   have c3:wr.cell? ⟨b,off+k * 4+3,none⟩=some (.slice ap3 an3 aq3):=(hb.cell hlb).trans (by have hh:=hc 3 (by simp);rw[show Ty.n bA=4 from rfl] at hh;simpa using hh)
   have d0:wr.cell? ⟨b2,off2+k * 4,none⟩=some (.int .i64 x0):=(hb.cell hlb2).trans (by have hh:=hc2 0 (by simp);rw[show Ty.n bA=4 from rfl] at hh;simpa using hh)
   have d1:wr.cell? ⟨b2,off2+k * 4+1,none⟩=some (.int .i64 x1):=(hb.cell hlb2).trans (by have hh:=hc2 1 (by simp);rw[show Ty.n bA=4 from rfl] at hh;simpa using hh)
   have d2:wr.cell? ⟨b2,off2+k * 4+2,none⟩=some (.int .i64 x2):=(hb.cell hlb2).trans (by have hh:=hc2 2 (by simp);rw[show Ty.n bA=4 from rfl] at hh;simpa using hh)
   have d3:wr.cell? ⟨b2,off2+k * 4+3,none⟩=some (.slice bp3 bn3 bq3):=(hb.cell hlb2).trans (by have hh:=hc2 3 (by simp);rw[show Ty.n bA=4 from rfl] at hh;simpa using hh)
   have HR:=Lib.hid hR0;have HR2:=Lib.hid hR20
   clear h h' hc hc2 hx hcs hcs2 hR0 hR20
   go_wp2
   go_still_tail 8,(by kernel_rfl)
   change wpList _ _ _ _ _ wr.drew
   have hb2:Below w.heap.size w wr.drew:=hb.drew
   generalize wr.drew=w2 at hb2 HR HR2 ⊢
   go_wp2_with fail
   refine (bHY _ _ (x0,(x1,(x2,x3))) _ (by exact HR.out) (by exact HR2.out)).mono ?_
   rintro e w3 ⟨rfl,b3⟩
   go_wp2
   go_roundw
   case rel=>exact ⟨k+1,by omega,by go_num,hb2.trans (b3.mono hb2.size)⟩
   case measure=>simp[intOf];omega
  ·clear h h'
   go_wp2
   go_ret
   exact ⟨rfl,hb⟩
end Go.Proofs.YtiihghfoeinbbaaGreat
