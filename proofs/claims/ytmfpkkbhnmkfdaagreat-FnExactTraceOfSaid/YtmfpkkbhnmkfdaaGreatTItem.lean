/- The laws' own helpers over Item: copy, compare, count, mark, look at the marks. -/
import Derived.Test.YtmfpkkbhnmkfdaaGreatCe
namespace Go.Proofs.YtmfpkkbhnmkfdaaGreat
open Go.ChangeShapes Go.WideShapes Go.ChangeAt Go.RowKit
set_option linter.unusedVariables false
set_option linter.unusedSimpArgs false
theorem uA {w:World} {cs:List Value} {x0:Ty.D cP} {x1:Ty.D aB} (h:rd aD w cs (x0,x1)) :
  ∃ p1 n1 q1,cs = [.int .i64 x0,.slice p1 n1 q1]∧(Lit.int .i64 x0).wf = true∧cM (Ty.n cP) (rd cP w) w p1 n1 q1 x1:=by
 obtain ⟨_,_,hcs,⟨rfl,w0⟩,⟨p1,n1,q1,rfl,s1⟩⟩:=h
 exact ⟨_,_,_,hcs,w0,s1⟩
set_option maxHeartbeats 1000000 in
set_option maxRecDepth 100000 in
theorem aRF (cs:Array Value) (d:aD.D) (w:World) (h:rd aD w cs.toList d) (hz:aW aD d≤1048576) :
  Calls Tryz.prog 283 #[.agg cs] w (yY aD w d):=by
 obtain ⟨x0,x1⟩:=d
 obtain ⟨p1,n1,q1,hcs,w0,s1⟩:=uA h
 obtain rfl:cs = #[.int .i64 x0,.slice p1 n1 q1]:=cA hcs
 have z1:aW aB x1≤1048576:=by simp only [aW] at hz ⊢;omega
 clear hz hcs
 go_enter Tryz.func283,Tryz.ntmps283
 go_wp2_with fail
 refine (eZ _ _ _ x1 _ (by exact s1.below bO) (by simp only [bI] at z1;omega)).mono ?_
 rintro e w91 ⟨r1,rc1,rfl,f1,b1⟩
 obtain ⟨u1,v1⟩:=bR b1
 have y1:=b1.size
 simp only [World.size_alloc,World.size_setCell] at u1 v1 y1
 have yy10:w.heap.size < w91.heap.size:=aP
 have yy11:w.heap.size + 1 < w91.heap.size:=aP
 have yy12:w.heap.size + 1 + 1 < w91.heap.size:=aP
 go_wp2
 refine bodyPost_ret (v:=.agg #[.int .i64 x0,.slice r1 (List.length x1) rc1]) (by simp [results,Tryz.results283,go_sem,u1,yy10,yy11,yy12]) rfl ⟨_,rfl,?_,?_⟩
 ·refine aR.pair (c1:=[_]) (c2:=[_]) (mid:=w.heap.size) ?_ ?_ aP aP
  ·exact aR.int w0 aP
  ·refine aR.mono (lo:=w.heap.size + 1 + 1 + 1) (hi:=w91.heap.size) ?_ aP aP aP
   (repeat' first | refine aR.set1 ?_ aP _ | refine aR.alloc ?_ _)
   exact f1.mono aP (Nat.le_refl _) (Nat.le_refl _)
 ·exact bO
set_option maxHeartbeats 1000000 in
set_option maxRecDepth 100000 in
theorem aNY (p:Option Addr) (len cap:Nat) (l:List aD.D) (w:World) (h:cM aD.n (rd aD w) w p len cap l) (hz:aW (.slice 161 aD) l≤1048576) :
  Calls Tryz.prog 204 #[.slice p len cap] w (aB8 161 aD w l):=by
 obtain rfl:=h.lens
 rw [bI] at hz
 have hlen:l.length≤1048576:=by omega
 have hmk:=fY Tryz.prog 155 161 (.agg #[.int .i64 0,.slice none 0 0]) 32 aD Tryz.underlying155 (by kernel_rfl) rfl l.length (by omega) (by omega)
 go_enter Tryz.func204,Tryz.ntmps204
 go_wp2
 go_loopw [4] (fun i wr=>∃ k:Nat,k≤l.length∧i = .int .i64 k∧Below w.heap.size w wr∧aR (.slice 161 aD) w.heap.size wr.heap.size wr [.slice (some ⟨w.heap.size,0,none⟩) l.length l.length] (l.take k ++ List.replicate (l.length - k) (aS aD))) (fun i _=>l.length - (intOf i).toNat)
 case atStart=>exact ⟨0,by omega,rfl,(Below.refl _ _).alloc (Nat.le_refl _) _,(aR.made w aD _ l.length (by simp [maxLen];omega)).mono (Nat.le_refl _) (by simp) (Nat.le_refl _)⟩
 case round =>
  obtain ⟨k,hk,rfl,hb,hf⟩:=hrel
  by_cases hlt:k < l.length
  ·obtain ⟨b,off,rfl,hlb,cs,hcs,hc,hR⟩:=h.2.2.2.2 k hlt
   have hzk:=iV (aW aD) l k hlt
   obtain ⟨x,hx⟩:∃ x,l[k] = x:=⟨_,rfl⟩
   rw [hx] at hR hzk
   have hR0:rd aD wr cs x:=cO (fun q hq=>hb.block q hq) _ _ _ hR
   obtain ⟨x0,x1⟩:=x
   obtain ⟨p1,n1,q1,rfl,w0,s1⟩:=uA hR
   have c0:wr.cell? ⟨b,off + k * 2,none⟩ = some (.int .i64 x0):=(hb.cell hlb).trans (by have hh:=hc 0 (by simp);rw [show Ty.n aD = 2 from rfl] at hh;simpa using hh)
   have c1:wr.cell? ⟨b,off + k * 2 + 1,none⟩ = some (.slice p1 n1 q1):=(hb.cell hlb).trans (by have hh:=hc 1 (by simp);rw [show Ty.n aD = 2 from rfl] at hh;simpa using hh)
   obtain ⟨b',cap',hv,_,hbl,hfz,c,hcl,hcc,_⟩:=hf.at k (by simp;omega)
   simp only [Value.slice.injEq,Option.some.injEq,Addr.mk.injEq,and_true] at hv
   obtain ⟨rfl,-,rfl⟩:=hv
   have HF:=Lib.hid hf;have HX:=Lib.hid hx
   have e0:wr.cell? ⟨w.heap.size,k * 2,none⟩ = some (c[0]'(by rw [hcl];decide)):=by simpa [Ty.n] using hcc 0 (by rw [hcl];decide)
   have g0:wr.frozen? ⟨w.heap.size,k * 2,none⟩ = false:=hfz _
   have e1:wr.cell? ⟨w.heap.size,k * 2 + 1,none⟩ = some (c[1]'(by rw [hcl];decide)):=by simpa [Ty.n] using hcc 1 (by rw [hcl];decide)
   have g1:wr.frozen? ⟨w.heap.size,k * 2 + 1,none⟩ = false:=hfz _
   clear h hc hcc hfz hf hx
   go_wp2_with fail
   refine (aRF _ (x0,x1) _ (by exact hR0) (by omega)).mono ?_
   rintro e w1 ⟨cs1,rfl,f1,b1⟩
   have rr:=f1.rd
   obtain ⟨rp1,rn1,rq1,rhcs,rw0,rs1⟩:=uA rr
   obtain rfl:cs1 = #[.int .i64 x0,.slice rp1 rn1 rq1]:=cA rhcs
   have e0':w1.cell? ⟨w.heap.size,k * 2,none⟩ = some (c[0]'(by rw [hcl];decide)):=(b1.cell hbl).trans e0
   have g0':w1.frozen? ⟨w.heap.size,k * 2,none⟩ = false:=(b1.frozen hbl).trans g0
   have e1':w1.cell? ⟨w.heap.size,k * 2 + 1,none⟩ = some (c[1]'(by rw [hcl];decide)):=(b1.cell hbl).trans e1
   have g1':w1.frozen? ⟨w.heap.size,k * 2 + 1,none⟩ = false:=(b1.frozen hbl).trans g1
   clear e0 g0 c0 e1 g1 c1 rhcs
   go_wp2
   go_roundw
   case rel =>
    refine ⟨k + 1,by omega,by go_num,?_,?_⟩
    ·(repeat' first | refine Below.setCell ?_ aP _);exact hb.trans (b1.mono hb.size)
    ·have h1:=(HF.out.below b1 (Nat.le_refl _)).set k (by simp;omega) hb.size b1.size (x:=l[k]) (by rw [HX.out];exact f1)
     rw [lR l (aS aD) k hlt] at h1
     refine aR.mono (hi:=w1.heap.size) ?_ (Nat.le_refl _) aP (Nat.le_refl _)
     exact h1
   case measure=>simp [intOf];omega
  ·clear h
   go_wp2
   go_ret
   obtain rfl:k = l.length:=by omega
   exact ⟨_,_,rfl,by simpa using hf,hb⟩
set_option maxHeartbeats 1000000 in
set_option maxRecDepth 100000 in
theorem aFT (ca:Array Value) (d:aD.D) (left:Int) (w:World) (ha:rd aD w ca.toList d) (h0:0≤left) (h2:left≤9223372036854775807) :
  Calls Tryz.prog 271 #[.agg ca,.int .i64 left] w (dO (.int .i64 (gM left (aW aD d))) w):=by
 obtain ⟨x0,x1⟩:=d
 obtain ⟨ap1,an1,aq1,ahcs,aw0,as1⟩:=uA ha
 obtain rfl:ca = #[.int .i64 x0,.slice ap1 an1 aq1]:=cA ahcs
 clear ahcs
 have e0:aW aD (x0,x1) = aW aB x1:=by first | rfl | (simp only [aW];omega)
 have hl1:aW aB x1 = an1:=by rw [as1.lens];exact dK x1
 have hm1:an1≤maxLen:=Nat.le_trans as1.2.1 as1.2.2.1
 have HS:Hid (aW aD (x0,x1) = an1):=e0.trans (by rw [hl1])
 clear e0 hl1
 by_cases hf1:((an1:Nat):Int)≤left
 rotate_left
 ·go_enter Tryz.func271,Tryz.ntmps271
  go_wp2_with fail
  refine (sM _ _ _ _ _ hm1 (by omega) (by omega) (by omega)).mono ?_
  rintro e w91 ⟨rfl,b1⟩
  obtain ⟨u1,v1⟩:=bR b1
  have y1:=b1.size
  try simp only [World.size_alloc,World.size_setCell] at u1 v1 y1
  have yy10:w.heap.size < w91.heap.size:=aP
  go_wp2
  go_ret
  exact ⟨bH (by (first | rw [HS.out] | skip);unfold gM;rw [if_neg (by omega)]),bO⟩
 go_enter Tryz.func271,Tryz.ntmps271
 go_wp2_with fail
 refine (oW _ _ _ _ _ hm1 (by omega) (by omega) (by omega)).mono ?_
 rintro e w91 ⟨rfl,b1⟩
 obtain ⟨u1,v1⟩:=bR b1
 have y1:=b1.size
 try simp only [World.size_alloc,World.size_setCell] at u1 v1 y1
 have yy10:w.heap.size < w91.heap.size:=aP
 go_wp2
 go_ret
 exact ⟨bH (by (first | rw [HS.out] | skip);unfold gM;rw [if_pos (by omega)];try omega),bO⟩
theorem aVO (ca:Array Value) (d:aD.D) (left:Int) (w:World) (ha:rd aD w ca.toList d) (h0:0≤left) (h2:left≤9223372036854775807) (h:((aW aD d:Nat):Int)≤left) :
  Calls Tryz.prog 271 #[.agg ca,.int .i64 left] w (dO (.int .i64 (left - (aW aD d:Nat))) w):=by
 have:=aFT ca d left w ha h0 h2
 rwa [jL h] at this
theorem aX1 (ca:Array Value) (d:aD.D) (left:Int) (w:World) (ha:rd aD w ca.toList d) (h0:0≤left) (h2:left≤9223372036854775807) (h:¬ ((aW aD d:Nat):Int)≤left) :
  Calls Tryz.prog 271 #[.agg ca,.int .i64 left] w (dO (.int .i64 (-1)) w):=by
 have:=aFT ca d left w ha h0 h2
 rwa [jN h] at this
set_option maxHeartbeats 1000000 in
set_option maxRecDepth 100000 in
theorem aDW (p:Option Addr) (len cap:Nat) (l:List aD.D) (left:Int) (w:World) (h:cM aD.n (rd aD w) w p len cap l) (h0:0≤left) (h2:left≤9223372036854775807) :
  Calls Tryz.prog 190 #[.slice p len cap,.int .i64 left] w (dO (.int .i64 (gM left (aW (.slice 161 aD) l))) w):=by
 have hm:len≤maxLen:=Nat.le_trans h.2.1 h.2.2.1
 obtain rfl:=h.lens
 unfold maxLen at hm
 have HS:Hid (aW (.slice 161 aD) l = l.length + (l.map (aW aD)).sum):=bI _ _ _
 by_cases hc:(l.length:Int)≤left
 rotate_left
 ·have hc2:(left - l.length < 0):=by omega
  clear h
  go_enter Tryz.func190,Tryz.ntmps190
  go_wp2
  go_ret
  exact ⟨bH (by (first | rw [HS.out] | skip);unfold gM;rw [if_neg (by omega)]),Below.refl _ _⟩
 go_enter Tryz.func190,Tryz.ntmps190
 go_wp2
 go_loopw [1,5] (fun q i wr=>∃ k:Nat,k≤l.length∧i = .int .i64 k∧∃ m:Int,q = .int .i64 m∧m = left - l.length - (((l.take k).map (aW aD)).sum:Nat)∧0≤m∧Below w.heap.size w wr) (fun _ i _=>l.length - (intOf i).toNat)
 case atStart=>exact ⟨0,by omega,rfl,_,rfl,by simp,by omega,Below.refl _ _⟩
 case round =>
  obtain ⟨k,hk,rfl,m,rfl,hm1,hm2,hb⟩:=hrel
  have hmb:m≤left:=by omega
  by_cases hlt:k < l.length
  ·obtain ⟨b,off,rfl,hlb,cs,hcs,hc1,hR⟩:=h.2.2.2.2 k hlt
   have hsum:=cH (aW aD) l k hlt
   have hsle:=cX (aW aD) l (k + 1)
   obtain ⟨x,hx⟩:∃ x,l[k] = x:=⟨_,rfl⟩
   rw [hx] at hR hsum
   have hR0:rd aD wr cs x:=cO (fun q hq=>hb.block q hq) _ _ _ hR
   obtain ⟨z,hz⟩:∃ z,aW aD x = z:=⟨_,rfl⟩
   obtain ⟨s0,hs0⟩:∃ z,((l.take k).map (aW aD)).sum = z:=⟨_,rfl⟩
   obtain ⟨s1,hs1⟩:∃ z,((l.take (k + 1)).map (aW aD)).sum = z:=⟨_,rfl⟩
   obtain ⟨s2,hs2⟩:∃ z,(l.map (aW aD)).sum = z:=⟨_,rfl⟩
   rw [hs0] at hsum hm1
   rw [hs1,hz] at hsum
   rw [hs1] at hsle
   rw [hs2] at hsle
   have HZ:=Lib.hid hz;have HR:=Lib.hid hR0;have H1:=Lib.hid hs1;have H2:=Lib.hid hs2;have HM:=Lib.hid hm1;have HU:=Lib.hid hsum;have HX:=Lib.hid hz
   obtain ⟨x0,x1⟩:=x
   obtain ⟨ap1,an1,aq1,rfl,aw0,as1⟩:=uA hR
   have c0:wr.cell? ⟨b,off + k * 2,none⟩ = some (.int .i64 x0):=(hb.cell hlb).trans (by have hh:=hc1 0 (by simp);rw [show Ty.n aD = 2 from rfl] at hh;simpa using hh)
   have c1:wr.cell? ⟨b,off + k * 2 + 1,none⟩ = some (.slice ap1 an1 aq1):=(hb.cell hlb).trans (by have hh:=hc1 1 (by simp);rw [show Ty.n aD = 2 from rfl] at hh;simpa using hh)
   clear h hc1 hcs hx hR0 hz hs0 hs1 hs2 hm1 hsum
   by_cases hfit:(z:Int)≤m
   ·go_wp2_with fail
    refine (aVO _ (x0,x1) _ _ (by exact HR.out) (by omega) (by omega) (by rw [HZ.out];omega)).mono ?_
    rintro e w3 ⟨rfl,b3⟩
    rw [HZ.out]
    have hmz:¬ (m - z < 0):=by omega
    go_wp2
    go_roundw
    case rel=>exact ⟨k + 1,by omega,by go_num,_,rfl,by rw [H1.out];have:=HM.out;have:=HU.out;omega,by omega,hb.trans (b3.mono hb.size)⟩
    case measure=>simp [intOf];omega
   ·go_wp2_with fail
    refine (aX1 _ (x0,x1) _ _ (by exact HR.out) (by omega) (by omega) (by rw [HZ.out];omega)).mono ?_
    rintro e w3 ⟨rfl,b3⟩
    go_wp2
    go_ret
    exact ⟨bH (by rw [HS.out,H2.out];unfold gM;rw [if_neg (by have:=HM.out;have:=HU.out;omega)]),hb.trans (b3.mono hb.size)⟩
  ·clear h
   have HM:=Lib.hid hm1;clear hm1
   go_wp2
   go_ret
   obtain rfl:k = l.length:=by omega
   have hm1:=HM.out
   rw [List.take_length] at hm1
   exact ⟨bH (by (first | rw [HS.out] | skip);unfold gM;rw [if_pos (by omega)];try omega),hb⟩
theorem aRL (p:Option Addr) (len cap:Nat) (l:List aD.D) (left:Int) (w:World) (ha:cM aD.n (rd aD w) w p len cap l) (h0:0≤left) (h2:left≤9223372036854775807) (h:((aW (.slice 161 aD) l:Nat):Int)≤left) :
  Calls Tryz.prog 190 #[.slice p len cap,.int .i64 left] w (dO (.int .i64 (left - (aW (.slice 161 aD) l:Nat))) w):=by
 have:=aDW p len cap l left w ha h0 h2
 rwa [jL h] at this
theorem aTI (p:Option Addr) (len cap:Nat) (l:List aD.D) (left:Int) (w:World) (ha:cM aD.n (rd aD w) w p len cap l) (h0:0≤left) (h2:left≤9223372036854775807) (h:¬ ((aW (.slice 161 aD) l:Nat):Int)≤left) :
  Calls Tryz.prog 190 #[.slice p len cap,.int .i64 left] w (dO (.int .i64 (-1)) w):=by
 have:=aDW p len cap l left w ha h0 h2
 rwa [jN h] at this
set_option maxHeartbeats 1000000 in
set_option maxRecDepth 100000 in
theorem aQO (ca cb:Array Value) (d:aD.D) (w:World) (ha:rd aD w ca.toList d) (hb:rd aD w cb.toList d) :
  Calls Tryz.prog 293 #[.agg ca,.agg cb] w (dO (.bool true) w):=by
 obtain ⟨x0,x1⟩:=d
 obtain ⟨ap1,an1,aq1,ahcs,aw0,as1⟩:=uA ha
 obtain ⟨bp1,bn1,bq1,bhcs,bw0,bs1⟩:=uA hb
 obtain rfl:ca = #[.int .i64 x0,.slice ap1 an1 aq1]:=cA ahcs
 obtain rfl:cb = #[.int .i64 x0,.slice bp1 bn1 bq1]:=cA bhcs
 clear ahcs bhcs
 go_enter Tryz.func293,Tryz.ntmps293
 go_wp2_with fail
 refine (hN _ _ _ _ _ _ x1 _ (by exact as1.below bO) (by exact bs1.below bO)).mono ?_
 rintro e w91 ⟨rfl,b1⟩
 obtain ⟨u1,v1⟩:=bR b1
 have y1:=b1.size
 try simp only [World.size_alloc,World.size_setCell] at u1 v1 y1
 have yy10:w.heap.size < w91.heap.size:=aP
 have yy11:w.heap.size + 1 < w91.heap.size:=aP
 go_wp2
 go_ret
 exact ⟨rfl,bO⟩
set_option maxHeartbeats 1000000 in
set_option maxRecDepth 100000 in
theorem aOL (p q:Option Addr) (len cap len' cap':Nat) (l:List aD.D) (w:World) (h:cM aD.n (rd aD w) w p len cap l) (h':cM aD.n (rd aD w) w q len' cap' l) :
  Calls Tryz.prog 224 #[.slice p len cap,.slice q len' cap'] w (dO (.bool true) w):=by
 obtain rfl:=h.lens
 obtain rfl:=h'.lens
 have hmx:l.length≤maxLen:=by have:=h.2.1;have:=h.2.2.1;omega
 unfold maxLen at hmx
 go_enter Tryz.func224,Tryz.ntmps224
 go_wp2
 go_loopw [5] (fun i wr=>∃ k:Nat,k≤l.length∧i = .int .i64 k∧Below w.heap.size w wr) (fun i _=>l.length - (intOf i).toNat)
 case atStart=>exact ⟨0,by omega,rfl,Below.refl _ _⟩
 case round =>
  obtain ⟨k,hk,rfl,hb⟩:=hrel
  by_cases hlt:k < l.length
  ·obtain ⟨b,off,rfl,hlb,cs,hcs,hc,hR⟩:=h.2.2.2.2 k hlt
   obtain ⟨b2,off2,rfl,hlb2,cs2,hcs2,hc2,hR2⟩:=h'.2.2.2.2 k hlt
   obtain ⟨x,hx⟩:∃ x,l[k] = x:=⟨_,rfl⟩
   rw [hx] at hR hR2
   have hR0:rd aD wr.drew cs x:=cO (fun q hq=>hb.block q hq) _ _ _ hR
   have hR20:rd aD wr.drew cs2 x:=cO (fun q hq=>hb.block q hq) _ _ _ hR2
   obtain ⟨x0,x1⟩:=x
   obtain ⟨ap1,an1,aq1,rfl,aw0,as1⟩:=uA hR
   obtain ⟨bp1,bn1,bq1,rfl,bw0,bs1⟩:=uA hR2
   have c0:wr.cell? ⟨b,off + k * 2,none⟩ = some (.int .i64 x0):=(hb.cell hlb).trans (by have hh:=hc 0 (by simp);rw [show Ty.n aD = 2 from rfl] at hh;simpa using hh)
   have c1:wr.cell? ⟨b,off + k * 2 + 1,none⟩ = some (.slice ap1 an1 aq1):=(hb.cell hlb).trans (by have hh:=hc 1 (by simp);rw [show Ty.n aD = 2 from rfl] at hh;simpa using hh)
   have d0:wr.cell? ⟨b2,off2 + k * 2,none⟩ = some (.int .i64 x0):=(hb.cell hlb2).trans (by have hh:=hc2 0 (by simp);rw [show Ty.n aD = 2 from rfl] at hh;simpa using hh)
   have d1:wr.cell? ⟨b2,off2 + k * 2 + 1,none⟩ = some (.slice bp1 bn1 bq1):=(hb.cell hlb2).trans (by have hh:=hc2 1 (by simp);rw [show Ty.n aD = 2 from rfl] at hh;simpa using hh)
   have HR:=Lib.hid hR0;have HR2:=Lib.hid hR20
   clear h h' hc hc2 hx hcs hcs2 hR0 hR20
   go_wp2
   go_still_tail 8,(by kernel_rfl)
   change wpList _ _ _ _ _ wr.drew
   have hb2:Below w.heap.size w wr.drew:=hb.drew
   generalize wr.drew = w2 at hb2 HR HR2 ⊢
   go_wp2_with fail
   refine (aQO _ _ (x0,x1) _ (by exact HR.out) (by exact HR2.out)).mono ?_
   rintro e w3 ⟨rfl,b3⟩
   go_wp2
   go_roundw
   case rel=>exact ⟨k + 1,by omega,by go_num,hb2.trans (b3.mono hb2.size)⟩
   case measure=>simp [intOf];omega
  ·clear h h'
   go_wp2
   go_ret
   exact ⟨rfl,hb⟩
end Go.Proofs.YtmfpkkbhnmkfdaaGreat
