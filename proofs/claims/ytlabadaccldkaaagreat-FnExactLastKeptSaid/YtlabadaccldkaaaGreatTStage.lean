/- TStage: lemmas. No conditions. -/
import Derived.Test.YtlabadaccldkaaaGreatTGrads
import Derived.Test.YtlabadaccldkaaaGreatTIns
import Derived.Test.YtlabadaccldkaaaGreatTOp
import Derived.Test.YtlabadaccldkaaaGreatTRow
import Derived.Test.YtlabadaccldkaaaGreatTSaved
namespace Go.Proofs.YtlabadaccldkaaaGreat
set_option maxRecDepth 100000
open Go.ChangeShapes Go.WideShapes Go.ChangeAt Go.RowKit
set_option linter.unusedVariables false
set_option linter.unusedSimpArgs false
theorem zA {w:World} {cs:List Value} {x0:Ty.D eI} {x1:Ty.D (.slice 88 aJ)} {x2:Ty.D (.slice 90 aZ)} {x3:Ty.D .bool} {x4:Ty.D .bool} {x5:Ty.D (.slice 94 aD)} {x6:Ty.D (.slice 117 bC)} {x7:Ty.D aA} {x8:Ty.D aA} {x9:Ty.D aA} {x10:Ty.D aA} {x11:Ty.D (.slice 117 bC)} {x12:Ty.D eI} {x13:Ty.D .bool} (h:rd aB w cs (x0,(x1,(x2,(x3,(x4,(x5,(x6,(x7,(x8,(x9,(x10,(x11,(x12,x13)))))))))))))) :
  ∃ p1 n1 q1 p2 n2 q2 p5 n5 q5 p6 n6 q6 p7 n7 q7 p8 n8 q8 p9 n9 q9 p10 n10 q10 p11 n11 q11,cs=[.int .i64 x0,.slice p1 n1 q1,.slice p2 n2 q2,.bool x3,.bool x4,.slice p5 n5 q5,.slice p6 n6 q6,.slice p7 n7 q7,.slice p8 n8 q8,.slice p9 n9 q9,.slice p10 n10 q10,.slice p11 n11 q11,.int .i64 x12,.bool x13]∧(Lit.int .i64 x0).wf=true∧bY (Ty.n aJ) (rd aJ w) w p1 n1 q1 x1∧bY (Ty.n aZ) (rd aZ w) w p2 n2 q2 x2∧bY (Ty.n aD) (rd aD w) w p5 n5 q5 x5∧bY (Ty.n bC) (rd bC w) w p6 n6 q6 x6∧bY (Ty.n eI) (rd eI w) w p7 n7 q7 x7∧bY (Ty.n eI) (rd eI w) w p8 n8 q8 x8∧bY (Ty.n eI) (rd eI w) w p9 n9 q9 x9∧bY (Ty.n eI) (rd eI w) w p10 n10 q10 x10∧bY (Ty.n bC) (rd bC w) w p11 n11 q11 x11∧(Lit.int .i64 x12).wf=true:=by
 obtain ⟨_,_,hcs,⟨rfl,w0⟩,⟨_,_,rfl,⟨p1,n1,q1,rfl,s1⟩,⟨_,_,rfl,⟨p2,n2,q2,rfl,s2⟩,⟨_,_,rfl,rfl,⟨_,_,rfl,rfl,⟨_,_,rfl,⟨p5,n5,q5,rfl,s5⟩,⟨_,_,rfl,⟨p6,n6,q6,rfl,s6⟩,⟨_,_,rfl,⟨p7,n7,q7,rfl,s7⟩,⟨_,_,rfl,⟨p8,n8,q8,rfl,s8⟩,⟨_,_,rfl,⟨p9,n9,q9,rfl,s9⟩,⟨_,_,rfl,⟨p10,n10,q10,rfl,s10⟩,⟨_,_,rfl,⟨p11,n11,q11,rfl,s11⟩,⟨_,_,rfl,⟨rfl,w12⟩,rfl⟩⟩⟩⟩⟩⟩⟩⟩⟩⟩⟩⟩⟩:=h
 exact ⟨_,_,_,_,_,_,_,_,_,_,_,_,_,_,_,_,_,_,_,_,_,_,_,_,_,_,_,hcs,w0,s1,s2,s5,s6,s7,s8,s9,s10,s11,w12⟩
set_option maxHeartbeats 1000000 in
theorem aKV (ca cb:Array Value) (d:aB.D) (w:World) (ha:rd aB w ca.toList d) (hb:rd aB w cb.toList d) :
  Calls Tryz.prog 36 #[.agg ca,.agg cb] w (jI (.bool true) w):=by
 obtain ⟨x0,⟨x1,⟨x2,⟨x3,⟨x4,⟨x5,⟨x6,⟨x7,⟨x8,⟨x9,⟨x10,⟨x11,⟨x12,x13⟩⟩⟩⟩⟩⟩⟩⟩⟩⟩⟩⟩⟩:=d
 obtain ⟨ap1,an1,aq1,ap2,an2,aq2,ap5,an5,aq5,ap6,an6,aq6,ap7,an7,aq7,ap8,an8,aq8,ap9,an9,aq9,ap10,an10,aq10,ap11,an11,aq11,ahcs,aw0,as1,as2,as5,as6,as7,as8,as9,as10,as11,aw12⟩:=zA ha
 obtain ⟨bp1,bn1,bq1,bp2,bn2,bq2,bp5,bn5,bq5,bp6,bn6,bq6,bp7,bn7,bq7,bp8,bn8,bq8,bp9,bn9,bq9,bp10,bn10,bq10,bp11,bn11,bq11,bhcs,bw0,bs1,bs2,bs5,bs6,bs7,bs8,bs9,bs10,bs11,bw12⟩:=zA hb
 obtain rfl:ca = #[.int .i64 x0,.slice ap1 an1 aq1,.slice ap2 an2 aq2,.bool x3,.bool x4,.slice ap5 an5 aq5,.slice ap6 an6 aq6,.slice ap7 an7 aq7,.slice ap8 an8 aq8,.slice ap9 an9 aq9,.slice ap10 an10 aq10,.slice ap11 an11 aq11,.int .i64 x12,.bool x13]:=eZ ahcs
 obtain rfl:cb = #[.int .i64 x0,.slice bp1 bn1 bq1,.slice bp2 bn2 bq2,.bool x3,.bool x4,.slice bp5 bn5 bq5,.slice bp6 bn6 bq6,.slice bp7 bn7 bq7,.slice bp8 bn8 bq8,.slice bp9 bn9 bq9,.slice bp10 bn10 bq10,.slice bp11 bn11 bq11,.int .i64 x12,.bool x13]:=eZ bhcs
 clear ahcs bhcs
 go_enter Tryz.func36,Tryz.ntmps36
 go_wp2_with fail
 refine (aNG _ _ _ _ _ _ x1 _ (by exact as1.below dU) (by exact bs1.below dU)).mono ?_
 rintro e w91 ⟨rfl,b1⟩
 obtain ⟨u1,v1⟩:=iD b1
 have y1:=b1.size
 try simp only[szy] at u1 v1 y1
 have yy10:w.heap.size<w91.heap.size:=bM
 have yy11:w.heap.size+1<w91.heap.size:=bM
 go_wp2_with fail
 refine (aQD _ _ _ _ _ _ x2 _ (by exact as2.below dU) (by exact bs2.below dU)).mono ?_
 rintro e w92 ⟨rfl,b2⟩
 obtain ⟨u2,v2⟩:=iD b2
 have y2:=b2.size
 try simp only[szy] at u2 v2 y2
 have yy20:w.heap.size<w92.heap.size:=bM
 have yy21:w.heap.size+1<w92.heap.size:=bM
 go_wp2_with fail
 refine (aIG _ _ _ _ _ _ x5 _ (by exact as5.below dU) (by exact bs5.below dU)).mono ?_
 rintro e w95 ⟨rfl,b5⟩
 obtain ⟨u5,v5⟩:=iD b5
 have y5:=b5.size
 try simp only[szy] at u5 v5 y5
 have yy50:w.heap.size<w95.heap.size:=bM
 have yy51:w.heap.size+1<w95.heap.size:=bM
 go_wp2_with fail
 refine (wL _ _ _ _ _ _ x6 _ (by exact as6.below dU) (by exact bs6.below dU)).mono ?_
 rintro e w96 ⟨rfl,b6⟩
 obtain ⟨u6,v6⟩:=iD b6
 have y6:=b6.size
 try simp only[szy] at u6 v6 y6
 have yy60:w.heap.size<w96.heap.size:=bM
 have yy61:w.heap.size+1<w96.heap.size:=bM
 go_wp2_with fail
 refine (iB _ _ _ _ _ _ x7 _ (by exact as7.below dU) (by exact bs7.below dU)).mono ?_
 rintro e w97 ⟨rfl,b7⟩
 obtain ⟨u7,v7⟩:=iD b7
 have y7:=b7.size
 try simp only[szy] at u7 v7 y7
 have yy70:w.heap.size<w97.heap.size:=bM
 have yy71:w.heap.size+1<w97.heap.size:=bM
 go_wp2_with fail
 refine (iB _ _ _ _ _ _ x8 _ (by exact as8.below dU) (by exact bs8.below dU)).mono ?_
 rintro e w98 ⟨rfl,b8⟩
 obtain ⟨u8,v8⟩:=iD b8
 have y8:=b8.size
 try simp only[szy] at u8 v8 y8
 have yy80:w.heap.size<w98.heap.size:=bM
 have yy81:w.heap.size+1<w98.heap.size:=bM
 go_wp2_with fail
 refine (iB _ _ _ _ _ _ x9 _ (by exact as9.below dU) (by exact bs9.below dU)).mono ?_
 rintro e w99 ⟨rfl,b9⟩
 obtain ⟨u9,v9⟩:=iD b9
 have y9:=b9.size
 try simp only[szy] at u9 v9 y9
 have yy90:w.heap.size<w99.heap.size:=bM
 have yy91:w.heap.size+1<w99.heap.size:=bM
 go_wp2_with fail
 refine (iB _ _ _ _ _ _ x10 _ (by exact as10.below dU) (by exact bs10.below dU)).mono ?_
 rintro e w910 ⟨rfl,b10⟩
 obtain ⟨u10,v10⟩:=iD b10
 have y10:=b10.size
 try simp only[szy] at u10 v10 y10
 have yy100:w.heap.size<w910.heap.size:=bM
 have yy101:w.heap.size+1<w910.heap.size:=bM
 go_wp2_with fail
 refine (aIN _ _ (x11,(x12,x13)) _ (by exact ⟨[_],[_,_],rfl,⟨_,_,_,rfl,as11.below dU⟩,⟨[_],[_],rfl,⟨rfl,aw12⟩,rfl⟩⟩) (by exact ⟨[_],[_,_],rfl,⟨_,_,_,rfl,bs11.below dU⟩,⟨[_],[_],rfl,⟨rfl,bw12⟩,rfl⟩⟩)).mono ?_
 rintro e w911 ⟨rfl,b11⟩
 obtain ⟨u11,v11⟩:=iD b11
 have y11:=b11.size
 try simp only[szy] at u11 v11 y11
 have yy110:w.heap.size<w911.heap.size:=bM
 have yy111:w.heap.size+1<w911.heap.size:=bM
 go_wp2
 go_ret
 exact ⟨rfl,dU⟩
set_option maxHeartbeats 1000000 in
theorem aIK (p q:Option Addr) (len cap len' cap':Nat) (l:List aB.D) (w:World) (h:bY aB.n (rd aB w) w p len cap l) (h':bY aB.n (rd aB w) w q len' cap' l) :
  Calls Tryz.prog 16 #[.slice p len cap,.slice q len' cap'] w (jI (.bool true) w):=by
 obtain rfl:=h.lens
 obtain rfl:=h'.lens
 have hmx:l.length≤maxLen:=by have:=h.2.1;have:=h.2.2.1;omega
 unfold maxLen at hmx
 go_enter Tryz.func16,Tryz.ntmps16
 go_wp2
 go_loopw [5] (fun i wr=>∃ k:Nat,k≤l.length∧i = .int .i64 k∧Below w.heap.size w wr) (fun i _=>l.length - (intOf i).toNat)
 case atStart=>exact ⟨0,by omega,rfl,Below.refl _ _⟩
 case round =>
  obtain ⟨k,hk,rfl,hb⟩:=hrel
  by_cases hlt:k<l.length
  ·obtain ⟨b,off,rfl,hlb,cs,hcs,hc,hR⟩:=h.2.2.2.2 k hlt
   obtain ⟨b2,off2,rfl,hlb2,cs2,hcs2,hc2,hR2⟩:=h'.2.2.2.2 k hlt
   obtain ⟨x,hx⟩:∃ x,l[k]=x:=⟨_,rfl⟩
   rw[hx] at hR hR2
   have hR0:rd aB wr.drew cs x:=fT (fun q hq=>hb.block q hq) _ _ _ hR
   have hR20:rd aB wr.drew cs2 x:=fT (fun q hq=>hb.block q hq) _ _ _ hR2
   obtain ⟨x0,⟨x1,⟨x2,⟨x3,⟨x4,⟨x5,⟨x6,⟨x7,⟨x8,⟨x9,⟨x10,⟨x11,⟨x12,x13⟩⟩⟩⟩⟩⟩⟩⟩⟩⟩⟩⟩⟩:=x
   obtain ⟨ap1,an1,aq1,ap2,an2,aq2,ap5,an5,aq5,ap6,an6,aq6,ap7,an7,aq7,ap8,an8,aq8,ap9,an9,aq9,ap10,an10,aq10,ap11,an11,aq11,rfl,aw0,as1,as2,as5,as6,as7,as8,as9,as10,as11,aw12⟩:=zA hR
   obtain ⟨bp1,bn1,bq1,bp2,bn2,bq2,bp5,bn5,bq5,bp6,bn6,bq6,bp7,bn7,bq7,bp8,bn8,bq8,bp9,bn9,bq9,bp10,bn10,bq10,bp11,bn11,bq11,rfl,bw0,bs1,bs2,bs5,bs6,bs7,bs8,bs9,bs10,bs11,bw12⟩:=zA hR2
   have c0:wr.cell? ⟨b,off+k * 14,none⟩=some (.int .i64 x0):=(hb.cell hlb).trans (by have hh:=hc 0 (by simp);rw[show Ty.n aB=14 from rfl] at hh;simpa using hh)
   have c1:wr.cell? ⟨b,off+k * 14+1,none⟩=some (.slice ap1 an1 aq1):=(hb.cell hlb).trans (by have hh:=hc 1 (by simp);rw[show Ty.n aB=14 from rfl] at hh;simpa using hh)
   have c2:wr.cell? ⟨b,off+k * 14+2,none⟩=some (.slice ap2 an2 aq2):=(hb.cell hlb).trans (by have hh:=hc 2 (by simp);rw[show Ty.n aB=14 from rfl] at hh;simpa using hh)
   have c3:wr.cell? ⟨b,off+k * 14+3,none⟩=some (.bool x3):=(hb.cell hlb).trans (by have hh:=hc 3 (by simp);rw[show Ty.n aB=14 from rfl] at hh;simpa using hh)
   have c4:wr.cell? ⟨b,off+k * 14+4,none⟩=some (.bool x4):=(hb.cell hlb).trans (by have hh:=hc 4 (by simp);rw[show Ty.n aB=14 from rfl] at hh;simpa using hh)
   have c5:wr.cell? ⟨b,off+k * 14+5,none⟩=some (.slice ap5 an5 aq5):=(hb.cell hlb).trans (by have hh:=hc 5 (by simp);rw[show Ty.n aB=14 from rfl] at hh;simpa using hh)
   have c6:wr.cell? ⟨b,off+k * 14+6,none⟩=some (.slice ap6 an6 aq6):=(hb.cell hlb).trans (by have hh:=hc 6 (by simp);rw[show Ty.n aB=14 from rfl] at hh;simpa using hh)
   have c7:wr.cell? ⟨b,off+k * 14+7,none⟩=some (.slice ap7 an7 aq7):=(hb.cell hlb).trans (by have hh:=hc 7 (by simp);rw[show Ty.n aB=14 from rfl] at hh;simpa using hh)
   have c8:wr.cell? ⟨b,off+k * 14+8,none⟩=some (.slice ap8 an8 aq8):=(hb.cell hlb).trans (by have hh:=hc 8 (by simp);rw[show Ty.n aB=14 from rfl] at hh;simpa using hh)
   have c9:wr.cell? ⟨b,off+k * 14+9,none⟩=some (.slice ap9 an9 aq9):=(hb.cell hlb).trans (by have hh:=hc 9 (by simp);rw[show Ty.n aB=14 from rfl] at hh;simpa using hh)
   have c10:wr.cell? ⟨b,off+k * 14+10,none⟩=some (.slice ap10 an10 aq10):=(hb.cell hlb).trans (by have hh:=hc 10 (by simp);rw[show Ty.n aB=14 from rfl] at hh;simpa using hh)
   have c11:wr.cell? ⟨b,off+k * 14+11,none⟩=some (.slice ap11 an11 aq11):=(hb.cell hlb).trans (by have hh:=hc 11 (by simp);rw[show Ty.n aB=14 from rfl] at hh;simpa using hh)
   have c12:wr.cell? ⟨b,off+k * 14+12,none⟩=some (.int .i64 x12):=(hb.cell hlb).trans (by have hh:=hc 12 (by simp);rw[show Ty.n aB=14 from rfl] at hh;simpa using hh)
   have c13:wr.cell? ⟨b,off+k * 14+13,none⟩=some (.bool x13):=(hb.cell hlb).trans (by have hh:=hc 13 (by simp);rw[show Ty.n aB=14 from rfl] at hh;simpa using hh)
   have d0:wr.cell? ⟨b2,off2+k * 14,none⟩=some (.int .i64 x0):=(hb.cell hlb2).trans (by have hh:=hc2 0 (by simp);rw[show Ty.n aB=14 from rfl] at hh;simpa using hh)
   have d1:wr.cell? ⟨b2,off2+k * 14+1,none⟩=some (.slice bp1 bn1 bq1):=(hb.cell hlb2).trans (by have hh:=hc2 1 (by simp);rw[show Ty.n aB=14 from rfl] at hh;simpa using hh)
   have d2:wr.cell? ⟨b2,off2+k * 14+2,none⟩=some (.slice bp2 bn2 bq2):=(hb.cell hlb2).trans (by have hh:=hc2 2 (by simp);rw[show Ty.n aB=14 from rfl] at hh;simpa using hh)
   have d3:wr.cell? ⟨b2,off2+k * 14+3,none⟩=some (.bool x3):=(hb.cell hlb2).trans (by have hh:=hc2 3 (by simp);rw[show Ty.n aB=14 from rfl] at hh;simpa using hh)
   have d4:wr.cell? ⟨b2,off2+k * 14+4,none⟩=some (.bool x4):=(hb.cell hlb2).trans (by have hh:=hc2 4 (by simp);rw[show Ty.n aB=14 from rfl] at hh;simpa using hh)
   have d5:wr.cell? ⟨b2,off2+k * 14+5,none⟩=some (.slice bp5 bn5 bq5):=(hb.cell hlb2).trans (by have hh:=hc2 5 (by simp);rw[show Ty.n aB=14 from rfl] at hh;simpa using hh)
   have d6:wr.cell? ⟨b2,off2+k * 14+6,none⟩=some (.slice bp6 bn6 bq6):=(hb.cell hlb2).trans (by have hh:=hc2 6 (by simp);rw[show Ty.n aB=14 from rfl] at hh;simpa using hh)
   have d7:wr.cell? ⟨b2,off2+k * 14+7,none⟩=some (.slice bp7 bn7 bq7):=(hb.cell hlb2).trans (by have hh:=hc2 7 (by simp);rw[show Ty.n aB=14 from rfl] at hh;simpa using hh)
   have d8:wr.cell? ⟨b2,off2+k * 14+8,none⟩=some (.slice bp8 bn8 bq8):=(hb.cell hlb2).trans (by have hh:=hc2 8 (by simp);rw[show Ty.n aB=14 from rfl] at hh;simpa using hh)
   have d9:wr.cell? ⟨b2,off2+k * 14+9,none⟩=some (.slice bp9 bn9 bq9):=(hb.cell hlb2).trans (by have hh:=hc2 9 (by simp);rw[show Ty.n aB=14 from rfl] at hh;simpa using hh)
   have d10:wr.cell? ⟨b2,off2+k * 14+10,none⟩=some (.slice bp10 bn10 bq10):=(hb.cell hlb2).trans (by have hh:=hc2 10 (by simp);rw[show Ty.n aB=14 from rfl] at hh;simpa using hh)
   have d11:wr.cell? ⟨b2,off2+k * 14+11,none⟩=some (.slice bp11 bn11 bq11):=(hb.cell hlb2).trans (by have hh:=hc2 11 (by simp);rw[show Ty.n aB=14 from rfl] at hh;simpa using hh)
   have d12:wr.cell? ⟨b2,off2+k * 14+12,none⟩=some (.int .i64 x12):=(hb.cell hlb2).trans (by have hh:=hc2 12 (by simp);rw[show Ty.n aB=14 from rfl] at hh;simpa using hh)
   have d13:wr.cell? ⟨b2,off2+k * 14+13,none⟩=some (.bool x13):=(hb.cell hlb2).trans (by have hh:=hc2 13 (by simp);rw[show Ty.n aB=14 from rfl] at hh;simpa using hh)
   have HR:=Lib.hid hR0;have HR2:=Lib.hid hR20
   clear h h' hc hc2 hx hcs hcs2 hR0 hR20
   go_wp2
   go_still_tail 8,(by kernel_rfl)
   change wpList _ _ _ _ _ wr.drew
   have hb2:Below w.heap.size w wr.drew:=hb.drew
   generalize wr.drew=w2 at hb2 HR HR2 ⊢
   go_wp2_with fail
   refine (aKV _ _ (x0,(x1,(x2,(x3,(x4,(x5,(x6,(x7,(x8,(x9,(x10,(x11,(x12,x13))))))))))))) _ (by exact HR.out) (by exact HR2.out)).mono ?_
   rintro e w3 ⟨rfl,b3⟩
   go_wp2
   go_roundw
   case rel=>exact ⟨k+1,by omega,by go_num,hb2.trans (b3.mono hb2.size)⟩
   case measure=>simp[intOf];omega
  ·clear h h'
   go_wp2
   go_ret
   exact ⟨rfl,hb⟩
end Go.Proofs.YtlabadaccldkaaaGreat
