/- The laws' own helpers over Row: copy, compare, count, mark, look at the marks. -/
import Derived.Test.YtahggdiafncdhaaCe
namespace Go.Proofs.Ytahggdiafncdhaa
open Go.ChangeShapes Go.WideShapes Go.ChangeAt Go.RowKit
set_option linter.unusedVariables false
set_option linter.unusedSimpArgs false
set_option maxHeartbeats 1000000 in
set_option maxRecDepth 100000 in
theorem toRow_any (cs:Array Value) (d:tRow.D) (w:World) (h:rd tRow w cs.toList d) (hz:szT tRow d≤1048576) :
  Calls Try.prog 137 #[.agg cs] w (RetAg tRow w d):=by
 obtain ⟨x0,hx0⟩:∃ x,x=d:=⟨_,rfl⟩
 subst hx0
 obtain ⟨p0,n0,q0,hcs,s0⟩:=h
 obtain rfl:cs = #[.slice p0 n0 q0]:=arr_of hcs
 have z0:szT tInts x0≤1048576:=by simp only[szT] at hz ⊢;omega
 clear hz hcs
 go_enter Try.func137,Try.ntmps137
 go_wp2_with fail
 refine (toIntS_any _ _ _ x0 _ (by exact s0.below belx) (by simp only[szT_slice] at z0;omega)).mono ?_
 rintro e w90 ⟨r0,rc0,rfl,f0,b0⟩
 obtain ⟨u0,v0⟩:=bcell b0
 have y0:=b0.size
 simp only[World.size_alloc,World.size_setCell] at u0 v0 y0
 have yy00:w.heap.size<w90.heap.size:=fcx
 have yy01:w.heap.size+1<w90.heap.size:=fcx
 have yy02:w.heap.size+1+1<w90.heap.size:=fcx
 go_wp2
 refine bodyPost_ret (v:=.agg #[.slice r0 (List.length x0) rc0]) (by simp[results,Try.results137,go_sem,u0,yy00,yy01,yy02]) rfl ⟨_,rfl,?_,?_⟩
 ·refine FrIn.mono (lo:=w.heap.size+1+1+1) (hi:=w90.heap.size) ?_ fcx fcx fcx
  (repeat' first|refine FrIn.set1 ?_ fcx _|refine FrIn.alloc ?_ _)
  exact f0.mono fcx (Nat.le_refl _) (Nat.le_refl _)
 ·exact belx

set_option maxHeartbeats 1000000 in
set_option maxRecDepth 100000 in
theorem toRowS_any (p:Option Addr) (len cap:Nat) (l:List tRow.D) (w:World) (h:SlRd tRow.n (rd tRow w) w p len cap l) (hz:szT (.slice 92 tRow) l≤1048576) :
  Calls Try.prog 89 #[.slice p len cap] w (RetSl 92 tRow w l):=by
 obtain rfl:=h.lens
 rw[szT_slice] at hz
 have hlen:l.length≤1048576:=by omega
 have hmk:=run_make_fr Try.prog 35 92 (.agg #[.slice none 0 0]) 24 tRow Try.underlying35 (by kernel_rfl) rfl l.length (by omega) (by omega)
 go_enter Try.func89,Try.ntmps89
 go_wp2
 go_loopw [4] (fun i wr=>∃ k:Nat,k≤l.length∧i = .int .i64 k∧Below w.heap.size w wr∧FrIn (.slice 92 tRow) w.heap.size wr.heap.size wr [.slice (some ⟨w.heap.size,0,none⟩) l.length l.length] (l.take k++List.replicate (l.length - k) (zeroD tRow))) (fun i _=>l.length - (intOf i).toNat)
 case atStart=>exact ⟨0,by omega,rfl,(Below.refl _ _).alloc (Nat.le_refl _) _,(FrIn.made w tRow _ l.length (by simp[maxLen];omega)).mono (Nat.le_refl _) (by simp) (Nat.le_refl _)⟩
 case round =>
  obtain ⟨k,hk,rfl,hb,hf⟩:=hrel
  by_cases hlt:k<l.length
  ·obtain ⟨b,off,rfl,hlb,cs,hcs,hc,hR⟩:=h.2.2.2.2 k hlt
   have hzk:=sum_get_le (szT tRow) l k hlt
   obtain ⟨x,hx⟩:∃ x,l[k]=x:=⟨_,rfl⟩
   rw[hx] at hR hzk
   have hR0:rd tRow wr cs x:=rd_mono (fun q hq=>hb.block q hq) _ _ _ hR
   obtain ⟨x0,hx0⟩:∃ y,y=x:=⟨_,rfl⟩
   subst hx0
   obtain ⟨p0,n0,q0,rfl,s0⟩:=hR
   have c0:wr.cell? ⟨b,off+k,none⟩=some (.slice p0 n0 q0):=(hb.cell hlb).trans (by have hh:=hc 0 (by simp);rw[show Ty.n tRow=1 from rfl] at hh;simpa using hh)
   obtain ⟨b',cap',hv,_,hbl,hfz,c,hcl,hcc,_⟩:=hf.at k (by simp;omega)
   simp only[Value.slice.injEq,Option.some.injEq,Addr.mk.injEq,and_true] at hv
   obtain ⟨rfl,-,rfl⟩:=hv
   have HF:=Lib.hid hf;have HX:=Lib.hid hx
   have e0:wr.cell? ⟨w.heap.size,k,none⟩=some (c[0]'(by rw[hcl];decide)):=by simpa [Ty.n] using hcc 0 (by rw[hcl];decide)
   have g0:wr.frozen? ⟨w.heap.size,k,none⟩=false:=hfz _
   clear h hc hcc hfz hf hx
   go_wp2_with fail
   refine (toRow_any _ x0 _ (by exact hR0) (by omega)).mono ?_
   rintro e w1 ⟨cs1,rfl,f1,b1⟩
   have rr:=f1.rd
   obtain ⟨rp0,rn0,rq0,rhcs,rs0⟩:=rr
   obtain rfl:cs1 = #[.slice rp0 rn0 rq0]:=arr_of rhcs
   have e0':w1.cell? ⟨w.heap.size,k,none⟩=some (c[0]'(by rw[hcl];decide)):=(b1.cell hbl).trans e0
   have g0':w1.frozen? ⟨w.heap.size,k,none⟩=false:=(b1.frozen hbl).trans g0
   clear e0 g0 c0 rhcs
   go_wp2
   go_roundw
   case rel =>
    refine ⟨k+1,by omega,by go_num,?_,?_⟩
    ·(repeat' first|refine Below.setCell ?_ fcx _);exact hb.trans (b1.mono hb.size)
    ·have h1:=(HF.out.below b1 (Nat.le_refl _)).set k (by simp;omega) hb.size b1.size (x:=l[k]) (by rw[HX.out];exact f1)
     rw[set_zero l (zeroD tRow) k hlt] at h1
     rw[show Ty.n tRow=1 from rfl,Nat.mul_one] at h1
     refine FrIn.mono (hi:=w1.heap.size) ?_ (Nat.le_refl _) fcx (Nat.le_refl _)
     exact h1
   case measure=>simp[intOf];omega
  ·clear h
   go_wp2
   go_ret
   obtain rfl:k=l.length:=by omega
   exact ⟨_,_,rfl,by simpa using hf,hb⟩

set_option maxHeartbeats 1000000 in
set_option maxRecDepth 100000 in
theorem szRow_any (ca:Array Value) (d:tRow.D) (left:Int) (w:World) (ha:rd tRow w ca.toList d) (h0:0≤left) (h2:left≤9223372036854775807) :
  Calls Try.prog 132 #[.agg ca,.int .i64 left] w (RetV (.int .i64 (szR left (szT tRow d))) w):=by
 obtain ⟨x0,hx0⟩:∃ y,y=d:=⟨_,rfl⟩
 subst hx0
 obtain ⟨ap0,an0,aq0,ahcs,as0⟩:=ha
 obtain rfl:ca = #[.slice ap0 an0 aq0]:=arr_of ahcs
 clear ahcs
 have e0:szT tRow x0=szT tInts x0:=by first|rfl|(simp only[szT];omega)
 have hl0:szT tInts x0=an0:=by rw[as0.lens];exact szT_ints x0
 have hm0:an0≤maxLen:=Nat.le_trans as0.2.1 as0.2.2.1
 have HS:Hid (szT tRow x0=an0):=e0.trans (by rw[hl0])
 clear e0 hl0
 by_cases hf0:((an0:Nat):Int)≤left
 rotate_left
 ·go_enter Try.func132,Try.ntmps132
  go_wp2_with fail
  refine (szIntS_no _ _ _ _ _ hm0 (by omega) (by omega) (by omega)).mono ?_
  rintro e w90 ⟨rfl,b0⟩
  obtain ⟨u0,v0⟩:=bcell b0
  have y0:=b0.size
  try simp only[World.size_alloc,World.size_setCell] at u0 v0 y0
  have yy00:w.heap.size<w90.heap.size:=fcx
  go_wp2
  go_ret
  exact ⟨ret_int (by (first|rw[HS.out]|skip);unfold szR;rw[if_neg (by omega)]),belx⟩
 go_enter Try.func132,Try.ntmps132
 go_wp2_with fail
 refine (szIntS_ok _ _ _ _ _ hm0 (by omega) (by omega) (by omega)).mono ?_
 rintro e w90 ⟨rfl,b0⟩
 obtain ⟨u0,v0⟩:=bcell b0
 have y0:=b0.size
 try simp only[World.size_alloc,World.size_setCell] at u0 v0 y0
 have yy00:w.heap.size<w90.heap.size:=fcx
 go_wp2
 go_ret
 exact ⟨ret_int (by (first|rw[HS.out]|skip);unfold szR;rw[if_pos (by omega)];try omega),belx⟩

theorem szRow_ok (ca:Array Value) (d:tRow.D) (left:Int) (w:World) (ha:rd tRow w ca.toList d) (h0:0≤left) (h2:left≤9223372036854775807) (h:((szT tRow d:Nat):Int)≤left) :
  Calls Try.prog 132 #[.agg ca,.int .i64 left] w (RetV (.int .i64 (left - (szT tRow d:Nat))) w):=by
 have:=szRow_any ca d left w ha h0 h2
 rwa [szR_pos h] at this
theorem szRow_no (ca:Array Value) (d:tRow.D) (left:Int) (w:World) (ha:rd tRow w ca.toList d) (h0:0≤left) (h2:left≤9223372036854775807) (h:¬ ((szT tRow d:Nat):Int)≤left) :
  Calls Try.prog 132 #[.agg ca,.int .i64 left] w (RetV (.int .i64 (-1)) w):=by
 have:=szRow_any ca d left w ha h0 h2
 rwa [szR_neg h] at this

set_option maxHeartbeats 1000000 in
set_option maxRecDepth 100000 in
theorem szRowS_any (p:Option Addr) (len cap:Nat) (l:List tRow.D) (left:Int) (w:World) (h:SlRd tRow.n (rd tRow w) w p len cap l) (h0:0≤left) (h2:left≤9223372036854775807) :
  Calls Try.prog 82 #[.slice p len cap,.int .i64 left] w (RetV (.int .i64 (szR left (szT (.slice 92 tRow) l))) w):=by
 have hm:len≤maxLen:=Nat.le_trans h.2.1 h.2.2.1
 obtain rfl:=h.lens
 unfold maxLen at hm
 have HS:Hid (szT (.slice 92 tRow) l=l.length+(l.map (szT tRow)).sum):=szT_slice _ _ _
 by_cases hc:(l.length:Int)≤left
 rotate_left
 ·have hc2:(left - l.length<0):=by omega
  clear h
  go_enter Try.func82,Try.ntmps82
  go_wp2
  go_ret
  exact ⟨ret_int (by (first|rw[HS.out]|skip);unfold szR;rw[if_neg (by omega)]),Below.refl _ _⟩
 go_enter Try.func82,Try.ntmps82
 go_wp2
 go_loopw [1,5] (fun q i wr=>∃ k:Nat,k≤l.length∧i = .int .i64 k∧∃ m:Int,q = .int .i64 m∧m=left - l.length - (((l.take k).map (szT tRow)).sum:Nat)∧0≤m∧Below w.heap.size w wr) (fun _ i _=>l.length - (intOf i).toNat)
 case atStart=>exact ⟨0,by omega,rfl,_,rfl,by simp,by omega,Below.refl _ _⟩
 case round =>
  obtain ⟨k,hk,rfl,m,rfl,hm1,hm2,hb⟩:=hrel
  have hmb:m≤left:=by omega
  by_cases hlt:k<l.length
  ·obtain ⟨b,off,rfl,hlb,cs,hcs,hc1,hR⟩:=h.2.2.2.2 k hlt
   have hsum:=sum_take_succ (szT tRow) l k hlt
   have hsle:=sum_take_le (szT tRow) l (k+1)
   obtain ⟨x,hx⟩:∃ x,l[k]=x:=⟨_,rfl⟩
   rw[hx] at hR hsum
   have hR0:rd tRow wr cs x:=rd_mono (fun q hq=>hb.block q hq) _ _ _ hR
   obtain ⟨z,hz⟩:∃ z,szT tRow x=z:=⟨_,rfl⟩
   obtain ⟨s0,hs0⟩:∃ z,((l.take k).map (szT tRow)).sum=z:=⟨_,rfl⟩
   obtain ⟨s1,hs1⟩:∃ z,((l.take (k+1)).map (szT tRow)).sum=z:=⟨_,rfl⟩
   obtain ⟨s2,hs2⟩:∃ z,(l.map (szT tRow)).sum=z:=⟨_,rfl⟩
   rw[hs0] at hsum hm1
   rw[hs1,hz] at hsum
   rw[hs1] at hsle
   rw[hs2] at hsle
   have HZ:=Lib.hid hz;have HR:=Lib.hid hR0;have H1:=Lib.hid hs1;have H2:=Lib.hid hs2;have HM:=Lib.hid hm1;have HU:=Lib.hid hsum;have HX:=Lib.hid hz
   obtain ⟨x0,hx0⟩:∃ y,y=x:=⟨_,rfl⟩
   subst hx0
   obtain ⟨ap0,an0,aq0,rfl,as0⟩:=hR
   have c0:wr.cell? ⟨b,off+k,none⟩=some (.slice ap0 an0 aq0):=(hb.cell hlb).trans (by have hh:=hc1 0 (by simp);rw[show Ty.n tRow=1 from rfl] at hh;simpa using hh)
   clear h hc1 hcs hx hR0 hz hs0 hs1 hs2 hm1 hsum
   by_cases hfit:(z:Int)≤m
   ·go_wp2_with fail
    refine (szRow_ok _ x0 _ _ (by exact HR.out) (by omega) (by omega) (by rw[HZ.out];omega)).mono ?_
    rintro e w3 ⟨rfl,b3⟩
    rw[HZ.out]
    have hmz:¬ (m - z<0):=by omega
    go_wp2
    go_roundw
    case rel=>exact ⟨k+1,by omega,by go_num,_,rfl,by rw[H1.out];have:=HM.out;have:=HU.out;omega,by omega,hb.trans (b3.mono hb.size)⟩
    case measure=>simp[intOf];omega
   ·go_wp2_with fail
    refine (szRow_no _ x0 _ _ (by exact HR.out) (by omega) (by omega) (by rw[HZ.out];omega)).mono ?_
    rintro e w3 ⟨rfl,b3⟩
    go_wp2
    go_ret
    exact ⟨ret_int (by rw[HS.out,H2.out];unfold szR;rw[if_neg (by have:=HM.out;have:=HU.out;omega)]),hb.trans (b3.mono hb.size)⟩
  ·clear h
   have HM:=Lib.hid hm1;clear hm1
   go_wp2
   go_ret
   obtain rfl:k=l.length:=by omega
   have hm1:=HM.out
   rw[List.take_length] at hm1
   exact ⟨ret_int (by (first|rw[HS.out]|skip);unfold szR;rw[if_pos (by omega)];try omega),hb⟩

theorem szRowS_ok (p:Option Addr) (len cap:Nat) (l:List tRow.D) (left:Int) (w:World) (ha:SlRd tRow.n (rd tRow w) w p len cap l) (h0:0≤left) (h2:left≤9223372036854775807) (h:((szT (.slice 92 tRow) l:Nat):Int)≤left) :
  Calls Try.prog 82 #[.slice p len cap,.int .i64 left] w (RetV (.int .i64 (left - (szT (.slice 92 tRow) l:Nat))) w):=by
 have:=szRowS_any p len cap l left w ha h0 h2
 rwa [szR_pos h] at this
theorem szRowS_no (p:Option Addr) (len cap:Nat) (l:List tRow.D) (left:Int) (w:World) (ha:SlRd tRow.n (rd tRow w) w p len cap l) (h0:0≤left) (h2:left≤9223372036854775807) (h:¬ ((szT (.slice 92 tRow) l:Nat):Int)≤left) :
  Calls Try.prog 82 #[.slice p len cap,.int .i64 left] w (RetV (.int .i64 (-1)) w):=by
 have:=szRowS_any p len cap l left w ha h0 h2
 rwa [szR_neg h] at this

set_option maxHeartbeats 1000000 in
set_option maxRecDepth 100000 in
theorem eqRow_any (ca cb:Array Value) (d:tRow.D) (w:World) (ha:rd tRow w ca.toList d) (hb:rd tRow w cb.toList d) :
  Calls Try.prog 139 #[.agg ca,.agg cb] w (RetV (.bool true) w):=by
 obtain ⟨x0,hx0⟩:∃ y,y=d:=⟨_,rfl⟩
 subst hx0
 obtain ⟨ap0,an0,aq0,ahcs,as0⟩:=ha
 obtain ⟨bp0,bn0,bq0,bhcs,bs0⟩:=hb
 obtain rfl:ca = #[.slice ap0 an0 aq0]:=arr_of ahcs
 obtain rfl:cb = #[.slice bp0 bn0 bq0]:=arr_of bhcs
 clear ahcs bhcs
 go_enter Try.func139,Try.ntmps139
 go_wp2_with fail
 refine (eqIntS_any _ _ _ _ _ _ x0 _ (by exact as0.below belx) (by exact bs0.below belx)).mono ?_
 rintro e w90 ⟨rfl,b0⟩
 obtain ⟨u0,v0⟩:=bcell b0
 have y0:=b0.size
 try simp only[World.size_alloc,World.size_setCell] at u0 v0 y0
 have yy00:w.heap.size<w90.heap.size:=fcx
 have yy01:w.heap.size+1<w90.heap.size:=fcx
 go_wp2
 go_ret
 exact ⟨rfl,belx⟩

set_option maxHeartbeats 1000000 in
set_option maxRecDepth 100000 in
theorem eqRowS_any (p q:Option Addr) (len cap len' cap':Nat) (l:List tRow.D) (w:World) (h:SlRd tRow.n (rd tRow w) w p len cap l) (h':SlRd tRow.n (rd tRow w) w q len' cap' l) :
  Calls Try.prog 93 #[.slice p len cap,.slice q len' cap'] w (RetV (.bool true) w):=by
 obtain rfl:=h.lens
 obtain rfl:=h'.lens
 have hmx:l.length≤maxLen:=by have:=h.2.1;have:=h.2.2.1;omega
 unfold maxLen at hmx
 go_enter Try.func93,Try.ntmps93
 go_wp2
 go_loopw [5] (fun i wr=>∃ k:Nat,k≤l.length∧i = .int .i64 k∧Below w.heap.size w wr) (fun i _=>l.length - (intOf i).toNat)
 case atStart=>exact ⟨0,by omega,rfl,Below.refl _ _⟩
 case round =>
  obtain ⟨k,hk,rfl,hb⟩:=hrel
  by_cases hlt:k<l.length
  ·obtain ⟨b,off,rfl,hlb,cs,hcs,hc,hR⟩:=h.2.2.2.2 k hlt
   obtain ⟨b2,off2,rfl,hlb2,cs2,hcs2,hc2,hR2⟩:=h'.2.2.2.2 k hlt
   obtain ⟨x,hx⟩:∃ x,l[k]=x:=⟨_,rfl⟩
   rw[hx] at hR hR2
   have hR0:rd tRow wr.drew cs x:=rd_mono (fun q hq=>hb.block q hq) _ _ _ hR
   have hR20:rd tRow wr.drew cs2 x:=rd_mono (fun q hq=>hb.block q hq) _ _ _ hR2
   obtain ⟨x0,hx0⟩:∃ y,y=x:=⟨_,rfl⟩
   subst hx0
   obtain ⟨ap0,an0,aq0,rfl,as0⟩:=hR
   obtain ⟨bp0,bn0,bq0,rfl,bs0⟩:=hR2
   have c0:wr.cell? ⟨b,off+k,none⟩=some (.slice ap0 an0 aq0):=(hb.cell hlb).trans (by have hh:=hc 0 (by simp);rw[show Ty.n tRow=1 from rfl] at hh;simpa using hh)
   have d0:wr.cell? ⟨b2,off2+k,none⟩=some (.slice bp0 bn0 bq0):=(hb.cell hlb2).trans (by have hh:=hc2 0 (by simp);rw[show Ty.n tRow=1 from rfl] at hh;simpa using hh)
   have HR:=Lib.hid hR0;have HR2:=Lib.hid hR20
   clear h h' hc hc2 hx hcs hcs2 hR0 hR20
   go_wp2
   go_still_tail 8,(by kernel_rfl)
   change wpList _ _ _ _ _ wr.drew
   have hb2:Below w.heap.size w wr.drew:=hb.drew
   generalize wr.drew=w2 at hb2 HR HR2 ⊢
   go_wp2_with fail
   refine (eqRow_any _ _ x0 _ (by exact HR.out) (by exact HR2.out)).mono ?_
   rintro e w3 ⟨rfl,b3⟩
   go_wp2
   go_roundw
   case rel=>exact ⟨k+1,by omega,by go_num,hb2.trans (b3.mono hb2.size)⟩
   case measure=>simp[intOf];omega
  ·clear h h'
   go_wp2
   go_ret
   exact ⟨rfl,hb⟩

end Go.Proofs.Ytahggdiafncdhaa
