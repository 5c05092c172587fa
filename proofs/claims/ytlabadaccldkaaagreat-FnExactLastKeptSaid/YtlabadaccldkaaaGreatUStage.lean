/- UStage: lemmas. No conditions. -/
import Derived.Test.YtlabadaccldkaaaGreatTStage
import Derived.Test.YtlabadaccldkaaaGreatUPath
import Derived.Test.YtlabadaccldkaaaGreatUGrads
import Derived.Test.YtlabadaccldkaaaGreatUIns
import Derived.Test.YtlabadaccldkaaaGreatUOp
import Derived.Test.YtlabadaccldkaaaGreatURow
import Derived.Test.YtlabadaccldkaaaGreatUSaved
namespace Go.Proofs.YtlabadaccldkaaaGreat
set_option maxRecDepth 100000
open Go.ChangeShapes Go.WideShapes Go.ChangeAt Go.RowKit
set_option linter.unusedVariables false
set_option linter.unusedSimpArgs false
set_option maxHeartbeats 4000000 in
theorem aEB (p:Option Addr) (len cap:Nat) (k0:Int) (l:List aB.D) (bl:List Nat) (w:World) (h:Un (.slice 57 aB) w [.slice p len cap] l bl) (hnd:bl.Nodup) (h0:0≤k0) (h1:k0+(aL (.slice 57 aB) l:Nat)≤1000000000000) :
  Calls Tryz.prog 20 #[.slice p len cap,.int .i64 k0] w (yE (.slice 57 aB) w [.slice p len cap] (mk (.slice 57 aB) l k0) bl (k0+(aL (.slice 57 aB) l:Nat))):=by
 obtain ⟨rfl,hmx⟩:=qM h
 have HL:=Lib.hid (dX (e:=57) (t:=aB) l k0)
 rw[bF] at h1
 have hbl:=nP _ _ _ _ _ h
 unfold maxLen at hmx
 go_enter Tryz.func20,Tryz.ntmps20
 go_wp2
 go_loopw [1,5] (fun q i wr=>∃ k:Nat,k≤l.length∧i = .int .i64 k∧(∃ kk:Int,q = .int .i64 kk∧Hid (kk=k0+(((l.take k).map (aL aB)).sum:Nat))∧0≤kk∧kk≤1000000000000)∧Only bl w wr∧Hid (Un (.slice 57 aB) wr [.slice p l.length cap] ((mk (.slice 57 aB) l k0:List aB.D).take k++l.drop k) bl)) (fun _ i _=>l.length - (intOf i).toNat)
 case atStart=>exact ⟨0,by omega,rfl,⟨_,rfl,by show _=_;simp,by omega,by omega⟩,Only.refl _ _,by show Un _ _ _ _ _;simpa using h⟩
 case round =>
  obtain ⟨k,hk,rfl,⟨kk,rfl,hkk,hk0,hk1⟩,hb,hf⟩:=hrel
  clear h
  by_cases hlt:k<l.length
  ·obtain ⟨M,hM⟩:∃ M,M=(mk (.slice 57 aB) l k0:List aB.D).take k++l.drop k:=⟨_,rfl⟩
   have hkl:k<M.length:=by rw[hM];simp only[List.length_append,List.length_take,List.length_drop,HL.out];omega
   obtain ⟨x,hx⟩:∃ x,l[k]=x:=⟨_,rfl⟩
   have hMk:M[k]=x:=by subst hM;rw[nZ _ _ _ hlt HL.out,hx]
   have hset:∀ y,(mk (.slice 57 aB) l k0:List aB.D)[k]'(by rw[HL.out];exact hlt)=y→M.set k y=(mk (.slice 57 aB) l k0:List aB.D).take (k+1)++l.drop (k+1):=fun y hy=>by subst hM;exact nV _ _ _ hlt HL.out _ hy
   have hmk:=jK (e:=57) (t:=aB) l k0 k hlt (by rw[HL.out];exact hlt)
   rw[hx,← hkk.out] at hmk
   have hs1:=cD (aL aB) l k hlt
   have hs2:=cP (aL aB) l (k+1)
   rw[hx] at hs1
   have hf0:Un (.slice 57 aB) wr [.slice p l.length cap] (M.set k x) bl:=by have hf1:=hf.out;rw[← hM] at hf1;rw[← hMk,List.set_getElem_self];exact hf1
   have hxb:kk+(aL aB x:Nat)≤1000000000000:=by have:=hkk.out;omega
   have HS1:=Lib.hid hs1;have HSET:=Lib.hid hset;have HMK:=Lib.hid hmk
   clear hx hM hs1 hs2 hset hmk hf hMk
   obtain ⟨x0,⟨x1,⟨x2,⟨x3,⟨x4,⟨x5,⟨x6,⟨x7,⟨x8,⟨x9,⟨x10,⟨x11,⟨x12,x13⟩⟩⟩⟩⟩⟩⟩⟩⟩⟩⟩⟩⟩:=x
   have hcx:aL aB (x0,(x1,(x2,(x3,(x4,(x5,(x6,(x7,(x8,(x9,(x10,(x11,(x12,x13)))))))))))))=1+aL (.slice 88 aJ) x1+aL (.slice 90 aZ) x2+1+1+aL (.slice 94 aD) x5+aL (.slice 117 bC) x6+aL aA x7+aL aA x8+aL aA x9+aL aA x10+aL (.slice 117 bC) x11+1+1:=by first|rfl|(simp only[aL];omega)
   rw[hcx] at hxb
   clear hcx
   obtain ⟨b0,cap0,cu0,bu0,hv0,hbm0,hfz0,hc0,hR0,hn0,hs0,hA0,hB0⟩:=cS hf0 hnd hkl [false]
   simp only[Value.slice.injEq,bQ,Addr.mk.injEq,and_true] at hv0
   obtain ⟨rfl,-,-⟩:=hv0
   have hq0:Un eI wr cu0 x0 bu0:=hR0
   have hl0:cu0.length=1:=by rw[hq0.1];rfl
   have e0:∃ u,wr.cell? ⟨b0,k * 14,none⟩=some u:=⟨_,hc0 0 (by rw[hl0];exact Nat.zero_lt_one)⟩
   obtain ⟨u0,e0⟩:=e0
   have g0:wr.frozen? ⟨b0,k * 14,none⟩=false:=hfz0 _
   have hg0:Un (.slice 57 aB) (wr.setCell ⟨b0,k * 14,none⟩ (.int .i64 (kk))) [.slice (some ⟨b0,0,none⟩) l.length cap] (M.set k (rY aB [false] _ (show Ty.D eI from (kk:Int)))) bl:=hB0 (.int .i64 (kk)) _ hl0 ⟨rfl,nL (show -9223372036854775808≤(kk:Int)∧(kk:Int)≤9223372036854775807 by omega),hq0.2.2⟩
   have hb0:Only bl w (wr.setCell ⟨b0,k * 14,none⟩ (.int .i64 (kk))):=Only.setCell hb hbm0 _
   clear hA0 hB0 hc0 hfz0 hR0 hq0 hl0
   obtain ⟨b1,cap1,cu1,bu1,hv1,hbm1,hfz1,hc1,hR1,hn1,hs1,hA1,hB1⟩:=cS hg0 hnd hkl [true,false]
   simp only[Value.slice.injEq,bQ,Addr.mk.injEq,and_true] at hv1
   obtain ⟨hvb,-,-⟩:=hv1
   subst hvb
   obtain ⟨p1,n1,q1,rfl⟩:=gB hR1
   have e1:(wr.setCell ⟨b0,k * 14,none⟩ (.int .i64 (kk))).cell? ⟨b0,k * 14+1,none⟩=some (.slice p1 n1 q1):=hc1 0 Nat.zero_lt_one
   have HA1:=Lib.hid hA1;clear hA1 hB1 hc1 hfz1
   go_wp2_with fail
   refine (aIR _ _ _ _ x1 _ _ (by exact hR1) hn1 (by omega) (by omega)).mono ?_
   rintro e w1 ⟨rfl,rp1,on1⟩
   have hg1:=HA1.out w1 _ (fun q hq hz=>on1.block q hq hz) rp1
   have hb1:Only bl w w1:=Only.trans hb0 (on1.mono hs1)
   clear HA1 rp1 hR1 e1
   obtain ⟨b2,cap2,cu2,bu2,hv2,hbm2,hfz2,hc2,hR2,hn2,hs2,hA2,hB2⟩:=cS hg1 hnd hkl [true,true,false]
   simp only[Value.slice.injEq,bQ,Addr.mk.injEq,and_true] at hv2
   obtain ⟨hvb,-,-⟩:=hv2
   subst hvb
   obtain ⟨p2,n2,q2,rfl⟩:=gB hR2
   have e2:w1.cell? ⟨b0,k * 14+2,none⟩=some (.slice p2 n2 q2):=hc2 0 Nat.zero_lt_one
   have HA2:=Lib.hid hA2;clear hA2 hB2 hc2 hfz2
   go_wp2_with fail
   refine (aMH _ _ _ _ x2 _ _ (by exact hR2) hn2 (by omega) (by omega)).mono ?_
   rintro e w2 ⟨rfl,rp2,on2⟩
   have hg2:=HA2.out w2 _ (fun q hq hz=>on2.block q hq hz) rp2
   have hb2:Only bl w w2:=Only.trans hb1 (on2.mono hs2)
   clear HA2 rp2 hR2 e2
   obtain ⟨b3,cap3,cu3,bu3,hv3,hbm3,hfz3,hc3,hR3,hn3,hs3,hA3,hB3⟩:=cS hg2 hnd hkl [true,true,true,false]
   simp only[Value.slice.injEq,bQ,Addr.mk.injEq,and_true] at hv3
   obtain ⟨hvb,-,-⟩:=hv3
   subst hvb
   have hq3:Un .bool w2 cu3 x3 bu3:=hR3
   have hl3:cu3.length=1:=by rw[hq3.1];rfl
   have e3:∃ u,w2.cell? ⟨b0,k * 14+3,none⟩=some u:=⟨_,hc3 0 (by rw[hl3];exact Nat.zero_lt_one)⟩
   obtain ⟨u3,e3⟩:=e3
   have g3:w2.frozen? ⟨b0,k * 14+3,none⟩=false:=hfz3 _
   have hg3:Un (.slice 57 aB) (w2.setCell ⟨b0,k * 14+3,none⟩ (.bool ((kk+1+(aL (.slice 88 aJ) x1:Nat)+(aL (.slice 90 aZ) x2:Nat):Int) % 3==0))) [.slice (some ⟨b0,0,none⟩) l.length cap] (M.set k (rY aB [true,true,true,false] _ (show Ty.D .bool from ((kk+1+(aL (.slice 88 aJ) x1:Nat)+(aL (.slice 90 aZ) x2:Nat):Int) % 3==0)))) bl:=hB3 (.bool ((kk+1+(aL (.slice 88 aJ) x1:Nat)+(aL (.slice 90 aZ) x2:Nat):Int) % 3==0)) _ hl3 ⟨rfl,hq3.2⟩
   have hb3:Only bl w (w2.setCell ⟨b0,k * 14+3,none⟩ (.bool ((kk+1+(aL (.slice 88 aJ) x1:Nat)+(aL (.slice 90 aZ) x2:Nat):Int) % 3==0))):=Only.setCell hb2 hbm0 _
   clear hA3 hB3 hc3 hfz3 hR3 hq3 hl3
   obtain ⟨b4,cap4,cu4,bu4,hv4,hbm4,hfz4,hc4,hR4,hn4,hs4,hA4,hB4⟩:=cS hg3 hnd hkl [true,true,true,true,false]
   simp only[Value.slice.injEq,bQ,Addr.mk.injEq,and_true] at hv4
   obtain ⟨hvb,-,-⟩:=hv4
   subst hvb
   have hq4:Un .bool (w2.setCell ⟨b0,k * 14+3,none⟩ (.bool ((kk+1+(aL (.slice 88 aJ) x1:Nat)+(aL (.slice 90 aZ) x2:Nat):Int) % 3==0))) cu4 x4 bu4:=hR4
   have hl4:cu4.length=1:=by rw[hq4.1];rfl
   have e4:∃ u,(w2.setCell ⟨b0,k * 14+3,none⟩ (.bool ((kk+1+(aL (.slice 88 aJ) x1:Nat)+(aL (.slice 90 aZ) x2:Nat):Int) % 3==0))).cell? ⟨b0,k * 14+4,none⟩=some u:=⟨_,hc4 0 (by rw[hl4];exact Nat.zero_lt_one)⟩
   obtain ⟨u4,e4⟩:=e4
   have g4:(w2.setCell ⟨b0,k * 14+3,none⟩ (.bool ((kk+1+(aL (.slice 88 aJ) x1:Nat)+(aL (.slice 90 aZ) x2:Nat):Int) % 3==0))).frozen? ⟨b0,k * 14+4,none⟩=false:=hfz4 _
   have hg4:Un (.slice 57 aB) ((w2.setCell ⟨b0,k * 14+3,none⟩ (.bool ((kk+1+(aL (.slice 88 aJ) x1:Nat)+(aL (.slice 90 aZ) x2:Nat):Int) % 3==0))).setCell ⟨b0,k * 14+4,none⟩ (.bool ((kk+1+(aL (.slice 88 aJ) x1:Nat)+(aL (.slice 90 aZ) x2:Nat)+1:Int) % 3==0))) [.slice (some ⟨b0,0,none⟩) l.length cap] (M.set k (rY aB [true,true,true,true,false] _ (show Ty.D .bool from ((kk+1+(aL (.slice 88 aJ) x1:Nat)+(aL (.slice 90 aZ) x2:Nat)+1:Int) % 3==0)))) bl:=hB4 (.bool ((kk+1+(aL (.slice 88 aJ) x1:Nat)+(aL (.slice 90 aZ) x2:Nat)+1:Int) % 3==0)) _ hl4 ⟨rfl,hq4.2⟩
   have hb4:Only bl w ((w2.setCell ⟨b0,k * 14+3,none⟩ (.bool ((kk+1+(aL (.slice 88 aJ) x1:Nat)+(aL (.slice 90 aZ) x2:Nat):Int) % 3==0))).setCell ⟨b0,k * 14+4,none⟩ (.bool ((kk+1+(aL (.slice 88 aJ) x1:Nat)+(aL (.slice 90 aZ) x2:Nat)+1:Int) % 3==0))):=Only.setCell hb3 hbm0 _
   clear hA4 hB4 hc4 hfz4 hR4 hq4 hl4
   obtain ⟨b5,cap5,cu5,bu5,hv5,hbm5,hfz5,hc5,hR5,hn5,hs5,hA5,hB5⟩:=cS hg4 hnd hkl [true,true,true,true,true,false]
   simp only[Value.slice.injEq,bQ,Addr.mk.injEq,and_true] at hv5
   obtain ⟨hvb,-,-⟩:=hv5
   subst hvb
   obtain ⟨p5,n5,q5,rfl⟩:=gB hR5
   have e5:((w2.setCell ⟨b0,k * 14+3,none⟩ (.bool ((kk+1+(aL (.slice 88 aJ) x1:Nat)+(aL (.slice 90 aZ) x2:Nat):Int) % 3==0))).setCell ⟨b0,k * 14+4,none⟩ (.bool ((kk+1+(aL (.slice 88 aJ) x1:Nat)+(aL (.slice 90 aZ) x2:Nat)+1:Int) % 3==0))).cell? ⟨b0,k * 14+5,none⟩=some (.slice p5 n5 q5):=hc5 0 Nat.zero_lt_one
   have HA5:=Lib.hid hA5;clear hA5 hB5 hc5 hfz5
   go_wp2_with fail
   refine (aED _ _ _ _ x5 _ _ (by exact hR5) hn5 (by omega) (by omega)).mono ?_
   rintro e w5 ⟨rfl,rp5,on5⟩
   have hg5:=HA5.out w5 _ (fun q hq hz=>on5.block q hq hz) rp5
   have hb5:Only bl w w5:=Only.trans hb4 (on5.mono hs5)
   clear HA5 rp5 hR5 e5
   obtain ⟨b6,cap6,cu6,bu6,hv6,hbm6,hfz6,hc6,hR6,hn6,hs6,hA6,hB6⟩:=cS hg5 hnd hkl [true,true,true,true,true,true,false]
   simp only[Value.slice.injEq,bQ,Addr.mk.injEq,and_true] at hv6
   obtain ⟨hvb,-,-⟩:=hv6
   subst hvb
   obtain ⟨p6,n6,q6,rfl⟩:=gB hR6
   have e6:w5.cell? ⟨b0,k * 14+6,none⟩=some (.slice p6 n6 q6):=hc6 0 Nat.zero_lt_one
   have HA6:=Lib.hid hA6;clear hA6 hB6 hc6 hfz6
   go_wp2_with fail
   refine (tX _ _ _ _ x6 _ _ (by exact hR6) hn6 (by omega) (by omega)).mono ?_
   rintro e w6 ⟨rfl,rp6,on6⟩
   have hg6:=HA6.out w6 _ (fun q hq hz=>on6.block q hq hz) rp6
   have hb6:Only bl w w6:=Only.trans hb5 (on6.mono hs6)
   clear HA6 rp6 hR6 e6
   obtain ⟨b7,cap7,cu7,bu7,hv7,hbm7,hfz7,hc7,hR7,hn7,hs7,hA7,hB7⟩:=cS hg6 hnd hkl [true,true,true,true,true,true,true,false]
   simp only[Value.slice.injEq,bQ,Addr.mk.injEq,and_true] at hv7
   obtain ⟨hvb,-,-⟩:=hv7
   subst hvb
   obtain ⟨p7,n7,q7,rfl⟩:=gB hR7
   have e7:w6.cell? ⟨b0,k * 14+7,none⟩=some (.slice p7 n7 q7):=hc7 0 Nat.zero_lt_one
   have HA7:=Lib.hid hA7;clear hA7 hB7 hc7 hfz7
   go_wp2_with fail
   refine (fW _ _ _ _ x7 _ _ (by exact hR7) hn7 (by omega) (by have:=cG x7;omega)).mono ?_
   rintro e w7 ⟨rfl,rp7,on7⟩
   have hg7:=HA7.out w7 _ (fun q hq hz=>on7.block q hq hz) rp7
   have hb7:Only bl w w7:=Only.trans hb6 (on7.mono hs7)
   clear HA7 rp7 hR7 e7
   obtain ⟨b8,cap8,cu8,bu8,hv8,hbm8,hfz8,hc8,hR8,hn8,hs8,hA8,hB8⟩:=cS hg7 hnd hkl [true,true,true,true,true,true,true,true,false]
   simp only[Value.slice.injEq,bQ,Addr.mk.injEq,and_true] at hv8
   obtain ⟨hvb,-,-⟩:=hv8
   subst hvb
   obtain ⟨p8,n8,q8,rfl⟩:=gB hR8
   have e8:w7.cell? ⟨b0,k * 14+8,none⟩=some (.slice p8 n8 q8):=hc8 0 Nat.zero_lt_one
   have HA8:=Lib.hid hA8;clear hA8 hB8 hc8 hfz8
   go_wp2_with fail
   refine (fW _ _ _ _ x8 _ _ (by exact hR8) hn8 (by omega) (by have:=cG x8;omega)).mono ?_
   rintro e w8 ⟨rfl,rp8,on8⟩
   have hg8:=HA8.out w8 _ (fun q hq hz=>on8.block q hq hz) rp8
   have hb8:Only bl w w8:=Only.trans hb7 (on8.mono hs8)
   clear HA8 rp8 hR8 e8
   obtain ⟨b9,cap9,cu9,bu9,hv9,hbm9,hfz9,hc9,hR9,hn9,hs9,hA9,hB9⟩:=cS hg8 hnd hkl [true,true,true,true,true,true,true,true,true,false]
   simp only[Value.slice.injEq,bQ,Addr.mk.injEq,and_true] at hv9
   obtain ⟨hvb,-,-⟩:=hv9
   subst hvb
   obtain ⟨p9,n9,q9,rfl⟩:=gB hR9
   have e9:w8.cell? ⟨b0,k * 14+9,none⟩=some (.slice p9 n9 q9):=hc9 0 Nat.zero_lt_one
   have HA9:=Lib.hid hA9;clear hA9 hB9 hc9 hfz9
   go_wp2_with fail
   refine (fW _ _ _ _ x9 _ _ (by exact hR9) hn9 (by omega) (by have:=cG x9;omega)).mono ?_
   rintro e w9 ⟨rfl,rp9,on9⟩
   have hg9:=HA9.out w9 _ (fun q hq hz=>on9.block q hq hz) rp9
   have hb9:Only bl w w9:=Only.trans hb8 (on9.mono hs9)
   clear HA9 rp9 hR9 e9
   obtain ⟨b10,cap10,cu10,bu10,hv10,hbm10,hfz10,hc10,hR10,hn10,hs10,hA10,hB10⟩:=cS hg9 hnd hkl [true,true,true,true,true,true,true,true,true,true,false]
   simp only[Value.slice.injEq,bQ,Addr.mk.injEq,and_true] at hv10
   obtain ⟨hvb,-,-⟩:=hv10
   subst hvb
   obtain ⟨p10,n10,q10,rfl⟩:=gB hR10
   have e10:w9.cell? ⟨b0,k * 14+10,none⟩=some (.slice p10 n10 q10):=hc10 0 Nat.zero_lt_one
   have HA10:=Lib.hid hA10;clear hA10 hB10 hc10 hfz10
   go_wp2_with fail
   refine (fW _ _ _ _ x10 _ _ (by exact hR10) hn10 (by omega) (by have:=cG x10;omega)).mono ?_
   rintro e w10 ⟨rfl,rp10,on10⟩
   have hg10:=HA10.out w10 _ (fun q hq hz=>on10.block q hq hz) rp10
   have hb10:Only bl w w10:=Only.trans hb9 (on10.mono hs10)
   clear HA10 rp10 hR10 e10
   obtain ⟨b11,cap11,cu11,bu11,hv11,hbm11,hfz11,hc11,hR11,hn11,hs11,hA11,hB11⟩:=cS hg10 hnd hkl [true,true,true,true,true,true,true,true,true,true,true,false]
   simp only[Value.slice.injEq,bQ,Addr.mk.injEq,and_true] at hv11
   obtain ⟨hvb,-,-⟩:=hv11
   subst hvb
   obtain ⟨p11,n11,q11,rfl⟩:=gB hR11
   have e11:w10.cell? ⟨b0,k * 14+11,none⟩=some (.slice p11 n11 q11):=hc11 0 Nat.zero_lt_one
   have HA11:=Lib.hid hA11;clear hA11 hB11 hc11 hfz11
   go_wp2_with fail
   refine (tX _ _ _ _ x11 _ _ (by exact hR11) hn11 (by omega) (by omega)).mono ?_
   rintro e w11 ⟨rfl,rp11,on11⟩
   have hg11:=HA11.out w11 _ (fun q hq hz=>on11.block q hq hz) rp11
   have hb11:Only bl w w11:=Only.trans hb10 (on11.mono hs11)
   clear HA11 rp11 hR11 e11
   obtain ⟨b12,cap12,cu12,bu12,hv12,hbm12,hfz12,hc12,hR12,hn12,hs12,hA12,hB12⟩:=cS hg11 hnd hkl [true,true,true,true,true,true,true,true,true,true,true,true,false]
   simp only[Value.slice.injEq,bQ,Addr.mk.injEq,and_true] at hv12
   obtain ⟨hvb,-,-⟩:=hv12
   subst hvb
   have hq12:Un eI w11 cu12 x12 bu12:=hR12
   have hl12:cu12.length=1:=by rw[hq12.1];rfl
   have e12:∃ u,w11.cell? ⟨b0,k * 14+12,none⟩=some u:=⟨_,hc12 0 (by rw[hl12];exact Nat.zero_lt_one)⟩
   obtain ⟨u12,e12⟩:=e12
   have g12:w11.frozen? ⟨b0,k * 14+12,none⟩=false:=hfz12 _
   have hg12:Un (.slice 57 aB) (w11.setCell ⟨b0,k * 14+12,none⟩ (.int .i64 (kk+1+(aL (.slice 88 aJ) x1:Nat)+(aL (.slice 90 aZ) x2:Nat)+1+1+(aL (.slice 94 aD) x5:Nat)+(aL (.slice 117 bC) x6:Nat)+(aL aA x7:Nat)+(aL aA x8:Nat)+(aL aA x9:Nat)+(aL aA x10:Nat)+(aL (.slice 117 bC) x11:Nat)))) [.slice (some ⟨b0,0,none⟩) l.length cap] (M.set k (rY aB [true,true,true,true,true,true,true,true,true,true,true,true,false] _ (show Ty.D eI from (kk+1+(aL (.slice 88 aJ) x1:Nat)+(aL (.slice 90 aZ) x2:Nat)+1+1+(aL (.slice 94 aD) x5:Nat)+(aL (.slice 117 bC) x6:Nat)+(aL aA x7:Nat)+(aL aA x8:Nat)+(aL aA x9:Nat)+(aL aA x10:Nat)+(aL (.slice 117 bC) x11:Nat):Int)))) bl:=hB12 (.int .i64 (kk+1+(aL (.slice 88 aJ) x1:Nat)+(aL (.slice 90 aZ) x2:Nat)+1+1+(aL (.slice 94 aD) x5:Nat)+(aL (.slice 117 bC) x6:Nat)+(aL aA x7:Nat)+(aL aA x8:Nat)+(aL aA x9:Nat)+(aL aA x10:Nat)+(aL (.slice 117 bC) x11:Nat))) _ hl12 ⟨rfl,nL (show -9223372036854775808≤(kk+1+(aL (.slice 88 aJ) x1:Nat)+(aL (.slice 90 aZ) x2:Nat)+1+1+(aL (.slice 94 aD) x5:Nat)+(aL (.slice 117 bC) x6:Nat)+(aL aA x7:Nat)+(aL aA x8:Nat)+(aL aA x9:Nat)+(aL aA x10:Nat)+(aL (.slice 117 bC) x11:Nat):Int)∧(kk+1+(aL (.slice 88 aJ) x1:Nat)+(aL (.slice 90 aZ) x2:Nat)+1+1+(aL (.slice 94 aD) x5:Nat)+(aL (.slice 117 bC) x6:Nat)+(aL aA x7:Nat)+(aL aA x8:Nat)+(aL aA x9:Nat)+(aL aA x10:Nat)+(aL (.slice 117 bC) x11:Nat):Int)≤9223372036854775807 by omega),hq12.2.2⟩
   have hb12:Only bl w (w11.setCell ⟨b0,k * 14+12,none⟩ (.int .i64 (kk+1+(aL (.slice 88 aJ) x1:Nat)+(aL (.slice 90 aZ) x2:Nat)+1+1+(aL (.slice 94 aD) x5:Nat)+(aL (.slice 117 bC) x6:Nat)+(aL aA x7:Nat)+(aL aA x8:Nat)+(aL aA x9:Nat)+(aL aA x10:Nat)+(aL (.slice 117 bC) x11:Nat)))):=Only.setCell hb11 hbm0 _
   clear hA12 hB12 hc12 hfz12 hR12 hq12 hl12
   obtain ⟨b13,cap13,cu13,bu13,hv13,hbm13,hfz13,hc13,hR13,hn13,hs13,hA13,hB13⟩:=cS hg12 hnd hkl [true,true,true,true,true,true,true,true,true,true,true,true,true]
   simp only[Value.slice.injEq,bQ,Addr.mk.injEq,and_true] at hv13
   obtain ⟨hvb,-,-⟩:=hv13
   subst hvb
   have hq13:Un .bool (w11.setCell ⟨b0,k * 14+12,none⟩ (.int .i64 (kk+1+(aL (.slice 88 aJ) x1:Nat)+(aL (.slice 90 aZ) x2:Nat)+1+1+(aL (.slice 94 aD) x5:Nat)+(aL (.slice 117 bC) x6:Nat)+(aL aA x7:Nat)+(aL aA x8:Nat)+(aL aA x9:Nat)+(aL aA x10:Nat)+(aL (.slice 117 bC) x11:Nat)))) cu13 x13 bu13:=hR13
   have hl13:cu13.length=1:=by rw[hq13.1];rfl
   have e13:∃ u,(w11.setCell ⟨b0,k * 14+12,none⟩ (.int .i64 (kk+1+(aL (.slice 88 aJ) x1:Nat)+(aL (.slice 90 aZ) x2:Nat)+1+1+(aL (.slice 94 aD) x5:Nat)+(aL (.slice 117 bC) x6:Nat)+(aL aA x7:Nat)+(aL aA x8:Nat)+(aL aA x9:Nat)+(aL aA x10:Nat)+(aL (.slice 117 bC) x11:Nat)))).cell? ⟨b0,k * 14+13,none⟩=some u:=⟨_,hc13 0 (by rw[hl13];exact Nat.zero_lt_one)⟩
   obtain ⟨u13,e13⟩:=e13
   have g13:(w11.setCell ⟨b0,k * 14+12,none⟩ (.int .i64 (kk+1+(aL (.slice 88 aJ) x1:Nat)+(aL (.slice 90 aZ) x2:Nat)+1+1+(aL (.slice 94 aD) x5:Nat)+(aL (.slice 117 bC) x6:Nat)+(aL aA x7:Nat)+(aL aA x8:Nat)+(aL aA x9:Nat)+(aL aA x10:Nat)+(aL (.slice 117 bC) x11:Nat)))).frozen? ⟨b0,k * 14+13,none⟩=false:=hfz13 _
   have hg13:Un (.slice 57 aB) ((w11.setCell ⟨b0,k * 14+12,none⟩ (.int .i64 (kk+1+(aL (.slice 88 aJ) x1:Nat)+(aL (.slice 90 aZ) x2:Nat)+1+1+(aL (.slice 94 aD) x5:Nat)+(aL (.slice 117 bC) x6:Nat)+(aL aA x7:Nat)+(aL aA x8:Nat)+(aL aA x9:Nat)+(aL aA x10:Nat)+(aL (.slice 117 bC) x11:Nat)))).setCell ⟨b0,k * 14+13,none⟩ (.bool ((kk+1+(aL (.slice 88 aJ) x1:Nat)+(aL (.slice 90 aZ) x2:Nat)+1+1+(aL (.slice 94 aD) x5:Nat)+(aL (.slice 117 bC) x6:Nat)+(aL aA x7:Nat)+(aL aA x8:Nat)+(aL aA x9:Nat)+(aL aA x10:Nat)+(aL (.slice 117 bC) x11:Nat)+1:Int) % 3==0))) [.slice (some ⟨b0,0,none⟩) l.length cap] (M.set k (rY aB [true,true,true,true,true,true,true,true,true,true,true,true,true] _ (show Ty.D .bool from ((kk+1+(aL (.slice 88 aJ) x1:Nat)+(aL (.slice 90 aZ) x2:Nat)+1+1+(aL (.slice 94 aD) x5:Nat)+(aL (.slice 117 bC) x6:Nat)+(aL aA x7:Nat)+(aL aA x8:Nat)+(aL aA x9:Nat)+(aL aA x10:Nat)+(aL (.slice 117 bC) x11:Nat)+1:Int) % 3==0)))) bl:=hB13 (.bool ((kk+1+(aL (.slice 88 aJ) x1:Nat)+(aL (.slice 90 aZ) x2:Nat)+1+1+(aL (.slice 94 aD) x5:Nat)+(aL (.slice 117 bC) x6:Nat)+(aL aA x7:Nat)+(aL aA x8:Nat)+(aL aA x9:Nat)+(aL aA x10:Nat)+(aL (.slice 117 bC) x11:Nat)+1:Int) % 3==0)) _ hl13 ⟨rfl,hq13.2⟩
   have hb13:Only bl w ((w11.setCell ⟨b0,k * 14+12,none⟩ (.int .i64 (kk+1+(aL (.slice 88 aJ) x1:Nat)+(aL (.slice 90 aZ) x2:Nat)+1+1+(aL (.slice 94 aD) x5:Nat)+(aL (.slice 117 bC) x6:Nat)+(aL aA x7:Nat)+(aL aA x8:Nat)+(aL aA x9:Nat)+(aL aA x10:Nat)+(aL (.slice 117 bC) x11:Nat)))).setCell ⟨b0,k * 14+13,none⟩ (.bool ((kk+1+(aL (.slice 88 aJ) x1:Nat)+(aL (.slice 90 aZ) x2:Nat)+1+1+(aL (.slice 94 aD) x5:Nat)+(aL (.slice 117 bC) x6:Nat)+(aL aA x7:Nat)+(aL aA x8:Nat)+(aL aA x9:Nat)+(aL aA x10:Nat)+(aL (.slice 117 bC) x11:Nat)+1:Int) % 3==0))):=Only.setCell hb12 hbm0 _
   clear hA13 hB13 hc13 hfz13 hR13 hq13 hl13
   have HF:=Lib.hid hg13
   clear hf0 hg0 hg1 hg2 hg3 hg4 hg5 hg6 hg7 hg8 hg9 hg10 hg11 hg12 hg13
   go_wp2
   go_roundw
   case rel =>
    refine ⟨k+1,by omega,by go_num,⟨_,rfl,by show _=_;have:=HS1.out;have:=hkk.out;have hcx9:aL aB (x0,(x1,(x2,(x3,(x4,(x5,(x6,(x7,(x8,(x9,(x10,(x11,(x12,x13)))))))))))))=1+aL (.slice 88 aJ) x1+aL (.slice 90 aZ) x2+1+1+aL (.slice 94 aD) x5+aL (.slice 117 bC) x6+aL aA x7+aL aA x8+aL aA x9+aL aA x10+aL (.slice 117 bC) x11+1+1:=(by first|rfl|(simp only[aL];omega));omega,by omega,by omega⟩,hb13,?_⟩
    have h2:=HF.out
    rw[HSET.out _ (HMK.out.trans (by rfl))] at h2
    exact h2
   case measure=>simp[intOf];omega
  ·go_wp2
   go_ret
   obtain rfl:k=l.length:=by omega
   have hkk:=hkk.out
   rw[List.take_length] at hkk
   refine ⟨dW (by rw[bF];exact hkk),?_,hb⟩
   have hf:=hf.out
   have e1:(mk (.slice 57 aB) l k0:List aB.D).take l.length++l.drop l.length=mk (.slice 57 aB) l k0:=by
    rw[List.drop_length,List.append_nil,List.take_of_length_le (by rw[HL.out];exact Nat.le_refl _)]
   rw[e1] at hf
   exact hf
set_option maxHeartbeats 4000000 in
theorem aCA (p:Option Addr) (len cap:Nat) (k0:Int) (l:List aB.D) (w:World) (h:bY aB.n (rd aB w) w p len cap (mk (.slice 57 aB) l k0)) (h0:0≤k0) (h1:k0+(aL (.slice 57 aB) l:Nat)≤1000000000000) :
  Calls Tryz.prog 23 #[.slice p len cap,.int .i64 k0] w (jI (.int .i64 (k0+(aL (.slice 57 aB) l:Nat))) w):=by
 have HL:=dX (e:=57) (t:=aB) l k0
 obtain rfl:len=l.length:=by rw[h.lens];exact HL
 have hmx:l.length≤maxLen:=Nat.le_trans h.2.1 h.2.2.1
 unfold maxLen at hmx
 rw[bF] at h1
 have HL2:=Lib.hid HL
 clear HL
 go_enter Tryz.func23,Tryz.ntmps23
 go_wp2
 go_loopw [1,5] (fun q i wr=>∃ k:Nat,k≤l.length∧i = .int .i64 k∧(∃ kk:Int,q = .int .i64 kk∧Hid (kk=k0+(((l.take k).map (aL aB)).sum:Nat))∧0≤kk∧kk≤1000000000000)∧Below w.heap.size w wr) (fun _ i _=>l.length - (intOf i).toNat)
 case atStart=>exact ⟨0,by omega,rfl,⟨_,rfl,by show _=_;simp,by omega,by omega⟩,Below.refl _ _⟩
 case round =>
  obtain ⟨k,hk,rfl,⟨kk,rfl,hkk,hk0,hk1⟩,hb⟩:=hrel
  by_cases hlt:k<l.length
  ·obtain ⟨b,off,rfl,hlb,cs,hcs,hc,hR⟩:=h.2.2.2.2 k (by rw[HL2.out];exact hlt)
   have hx9:=jK (e:=57) (t:=aB) l k0 k hlt (by rw[HL2.out];exact hlt)
   obtain ⟨x,hx⟩:∃ x,l[k]=x:=⟨_,rfl⟩
   rw[hx,← hkk.out] at hx9
   rw[hx9] at hR
   have hs1:=cD (aL aB) l k hlt
   have hs2:=cP (aL aB) l (k+1)
   rw[hx] at hs1
   have hxb:kk+(aL aB x:Nat)≤1000000000000:=by have:=hkk.out;omega
   have HS1:=Lib.hid hs1
   clear hx hx9 hs1 hs2
   obtain ⟨x0,⟨x1,⟨x2,⟨x3,⟨x4,⟨x5,⟨x6,⟨x7,⟨x8,⟨x9,⟨x10,⟨x11,⟨x12,x13⟩⟩⟩⟩⟩⟩⟩⟩⟩⟩⟩⟩⟩:=x
   have hcx:aL aB (x0,(x1,(x2,(x3,(x4,(x5,(x6,(x7,(x8,(x9,(x10,(x11,(x12,x13)))))))))))))=1+aL (.slice 88 aJ) x1+aL (.slice 90 aZ) x2+1+1+aL (.slice 94 aD) x5+aL (.slice 117 bC) x6+aL aA x7+aL aA x8+aL aA x9+aL aA x10+aL (.slice 117 bC) x11+1+1:=by first|rfl|(simp only[aL];omega)
   rw[hcx] at hxb
   clear hcx
   have hR2:rd aB w cs ((kk),((mk (.slice 88 aJ) x1 (kk+1)),((mk (.slice 90 aZ) x2 (kk+1+(aL (.slice 88 aJ) x1:Nat))),(((kk+1+(aL (.slice 88 aJ) x1:Nat)+(aL (.slice 90 aZ) x2:Nat)) % 3==0),(((kk+1+(aL (.slice 88 aJ) x1:Nat)+(aL (.slice 90 aZ) x2:Nat)+1) % 3==0),((mk (.slice 94 aD) x5 (kk+1+(aL (.slice 88 aJ) x1:Nat)+(aL (.slice 90 aZ) x2:Nat)+1+1)),((mk (.slice 117 bC) x6 (kk+1+(aL (.slice 88 aJ) x1:Nat)+(aL (.slice 90 aZ) x2:Nat)+1+1+(aL (.slice 94 aD) x5:Nat))),((mk aA x7 (kk+1+(aL (.slice 88 aJ) x1:Nat)+(aL (.slice 90 aZ) x2:Nat)+1+1+(aL (.slice 94 aD) x5:Nat)+(aL (.slice 117 bC) x6:Nat))),((mk aA x8 (kk+1+(aL (.slice 88 aJ) x1:Nat)+(aL (.slice 90 aZ) x2:Nat)+1+1+(aL (.slice 94 aD) x5:Nat)+(aL (.slice 117 bC) x6:Nat)+(aL aA x7:Nat))),((mk aA x9 (kk+1+(aL (.slice 88 aJ) x1:Nat)+(aL (.slice 90 aZ) x2:Nat)+1+1+(aL (.slice 94 aD) x5:Nat)+(aL (.slice 117 bC) x6:Nat)+(aL aA x7:Nat)+(aL aA x8:Nat))),((mk aA x10 (kk+1+(aL (.slice 88 aJ) x1:Nat)+(aL (.slice 90 aZ) x2:Nat)+1+1+(aL (.slice 94 aD) x5:Nat)+(aL (.slice 117 bC) x6:Nat)+(aL aA x7:Nat)+(aL aA x8:Nat)+(aL aA x9:Nat))),((mk (.slice 117 bC) x11 (kk+1+(aL (.slice 88 aJ) x1:Nat)+(aL (.slice 90 aZ) x2:Nat)+1+1+(aL (.slice 94 aD) x5:Nat)+(aL (.slice 117 bC) x6:Nat)+(aL aA x7:Nat)+(aL aA x8:Nat)+(aL aA x9:Nat)+(aL aA x10:Nat))),((kk+1+(aL (.slice 88 aJ) x1:Nat)+(aL (.slice 90 aZ) x2:Nat)+1+1+(aL (.slice 94 aD) x5:Nat)+(aL (.slice 117 bC) x6:Nat)+(aL aA x7:Nat)+(aL aA x8:Nat)+(aL aA x9:Nat)+(aL aA x10:Nat)+(aL (.slice 117 bC) x11:Nat)),((kk+1+(aL (.slice 88 aJ) x1:Nat)+(aL (.slice 90 aZ) x2:Nat)+1+1+(aL (.slice 94 aD) x5:Nat)+(aL (.slice 117 bC) x6:Nat)+(aL aA x7:Nat)+(aL aA x8:Nat)+(aL aA x9:Nat)+(aL aA x10:Nat)+(aL (.slice 117 bC) x11:Nat)+1) % 3==0)))))))))))))):=hR
   clear hR
   obtain ⟨ap1,an1,aq1,ap2,an2,aq2,ap5,an5,aq5,ap6,an6,aq6,ap7,an7,aq7,ap8,an8,aq8,ap9,an9,aq9,ap10,an10,aq10,ap11,an11,aq11,rfl,aw0,as1,as2,as5,as6,as7,as8,as9,as10,as11,aw12⟩:=zA hR2
   have c0_0:wr.cell? ⟨b,off+k * 14,none⟩=some (.int .i64 (kk)):=(hb.cell hlb).trans (by have hh:=hc 0 (by simp);rw[show Ty.n aB=14 from rfl] at hh;simpa using hh)
   have c1_0:wr.cell? ⟨b,off+k * 14+1,none⟩=some (.slice ap1 an1 aq1):=(hb.cell hlb).trans (by have hh:=hc 1 (by simp);rw[show Ty.n aB=14 from rfl] at hh;simpa using hh)
   have HC:=Lib.hid hc
   have HA1:=Lib.hid as1
   have HA2:=Lib.hid as2
   have HA5:=Lib.hid as5
   have HA6:=Lib.hid as6
   have HA7:=Lib.hid as7
   have HA8:=Lib.hid as8
   have HA9:=Lib.hid as9
   have HA10:=Lib.hid as10
   have HA11:=Lib.hid as11
   clear h hc hcs as1 as2 as5 as6 as7 as8 as9 as10 as11
   go_wp2_with fail
   refine (aHZ _ _ _ _ x1 _ (by exact bY.below HA1.out hb) (by omega) (by omega)).mono ?_
   rintro e w91 ⟨rfl,b91⟩
   have hb91:=hb.trans (b91.mono hb.size)
   have hnn1:¬ (kk+1+(aL (.slice 88 aJ) x1:Nat)<0):=by omega
   clear c0_0 c1_0
   have hc:=HC.out
   have c2_2:w91.cell? ⟨b,off+k * 14+2,none⟩=some (.slice ap2 an2 aq2):=(hb91.cell hlb).trans (by have hh:=hc 2 (by simp);rw[show Ty.n aB=14 from rfl] at hh;simpa using hh)
   clear hc
   go_wp2_with fail
   refine (aK4 _ _ _ _ x2 _ (by exact bY.below HA2.out hb91) (by omega) (by omega)).mono ?_
   rintro e w92 ⟨rfl,b92⟩
   have hb92:=hb91.trans (b92.mono hb91.size)
   have hnn2:¬ (kk+1+(aL (.slice 88 aJ) x1:Nat)+(aL (.slice 90 aZ) x2:Nat)<0):=by omega
   clear c2_2
   have hc:=HC.out
   have c3_3:w92.cell? ⟨b,off+k * 14+3,none⟩=some (.bool ((kk+1+(aL (.slice 88 aJ) x1:Nat)+(aL (.slice 90 aZ) x2:Nat)) % 3==0)):=(hb92.cell hlb).trans (by have hh:=hc 3 (by simp);rw[show Ty.n aB=14 from rfl] at hh;simpa using hh)
   have c4_3:w92.cell? ⟨b,off+k * 14+4,none⟩=some (.bool ((kk+1+(aL (.slice 88 aJ) x1:Nat)+(aL (.slice 90 aZ) x2:Nat)+1) % 3==0)):=(hb92.cell hlb).trans (by have hh:=hc 4 (by simp);rw[show Ty.n aB=14 from rfl] at hh;simpa using hh)
   have c5_3:w92.cell? ⟨b,off+k * 14+5,none⟩=some (.slice ap5 an5 aq5):=(hb92.cell hlb).trans (by have hh:=hc 5 (by simp);rw[show Ty.n aB=14 from rfl] at hh;simpa using hh)
   clear hc
   go_wp2_with fail
   refine (aC1 _ _ _ _ x5 _ (by exact bY.below HA5.out hb92) (by omega) (by omega)).mono ?_
   rintro e w95 ⟨rfl,b95⟩
   have hb95:=hb92.trans (b95.mono hb92.size)
   have hnn5:¬ (kk+1+(aL (.slice 88 aJ) x1:Nat)+(aL (.slice 90 aZ) x2:Nat)+1+1+(aL (.slice 94 aD) x5:Nat)<0):=by omega
   clear c3_3 c4_3 c5_3
   have hc:=HC.out
   have c6_6:w95.cell? ⟨b,off+k * 14+6,none⟩=some (.slice ap6 an6 aq6):=(hb95.cell hlb).trans (by have hh:=hc 6 (by simp);rw[show Ty.n aB=14 from rfl] at hh;simpa using hh)
   clear hc
   go_wp2_with fail
   refine (rK _ _ _ _ x6 _ (by exact bY.below HA6.out hb95) (by omega) (by omega)).mono ?_
   rintro e w96 ⟨rfl,b96⟩
   have hb96:=hb95.trans (b96.mono hb95.size)
   have hnn6:¬ (kk+1+(aL (.slice 88 aJ) x1:Nat)+(aL (.slice 90 aZ) x2:Nat)+1+1+(aL (.slice 94 aD) x5:Nat)+(aL (.slice 117 bC) x6:Nat)<0):=by omega
   clear c6_6
   have hc:=HC.out
   have c7_7:w96.cell? ⟨b,off+k * 14+7,none⟩=some (.slice ap7 an7 aq7):=(hb96.cell hlb).trans (by have hh:=hc 7 (by simp);rw[show Ty.n aB=14 from rfl] at hh;simpa using hh)
   clear hc
   go_wp2_with fail
   refine (fD _ _ _ _ x7 _ (by exact bY.below HA7.out hb96) (by omega) (by have:=cG x7;omega)).mono ?_
   rintro e w97 ⟨rfl,b97⟩
   have hb97:=hb96.trans (b97.mono hb96.size)
   have hnn7:¬ (kk+1+(aL (.slice 88 aJ) x1:Nat)+(aL (.slice 90 aZ) x2:Nat)+1+1+(aL (.slice 94 aD) x5:Nat)+(aL (.slice 117 bC) x6:Nat)+(aL aA x7:Nat)<0):=by omega
   clear c7_7
   have hc:=HC.out
   have c8_8:w97.cell? ⟨b,off+k * 14+8,none⟩=some (.slice ap8 an8 aq8):=(hb97.cell hlb).trans (by have hh:=hc 8 (by simp);rw[show Ty.n aB=14 from rfl] at hh;simpa using hh)
   clear hc
   go_wp2_with fail
   refine (fD _ _ _ _ x8 _ (by exact bY.below HA8.out hb97) (by omega) (by have:=cG x8;omega)).mono ?_
   rintro e w98 ⟨rfl,b98⟩
   have hb98:=hb97.trans (b98.mono hb97.size)
   have hnn8:¬ (kk+1+(aL (.slice 88 aJ) x1:Nat)+(aL (.slice 90 aZ) x2:Nat)+1+1+(aL (.slice 94 aD) x5:Nat)+(aL (.slice 117 bC) x6:Nat)+(aL aA x7:Nat)+(aL aA x8:Nat)<0):=by omega
   clear c8_8
   have hc:=HC.out
   have c9_9:w98.cell? ⟨b,off+k * 14+9,none⟩=some (.slice ap9 an9 aq9):=(hb98.cell hlb).trans (by have hh:=hc 9 (by simp);rw[show Ty.n aB=14 from rfl] at hh;simpa using hh)
   clear hc
   go_wp2_with fail
   refine (fD _ _ _ _ x9 _ (by exact bY.below HA9.out hb98) (by omega) (by have:=cG x9;omega)).mono ?_
   rintro e w99 ⟨rfl,b99⟩
   have hb99:=hb98.trans (b99.mono hb98.size)
   have hnn9:¬ (kk+1+(aL (.slice 88 aJ) x1:Nat)+(aL (.slice 90 aZ) x2:Nat)+1+1+(aL (.slice 94 aD) x5:Nat)+(aL (.slice 117 bC) x6:Nat)+(aL aA x7:Nat)+(aL aA x8:Nat)+(aL aA x9:Nat)<0):=by omega
   clear c9_9
   have hc:=HC.out
   have c10_10:w99.cell? ⟨b,off+k * 14+10,none⟩=some (.slice ap10 an10 aq10):=(hb99.cell hlb).trans (by have hh:=hc 10 (by simp);rw[show Ty.n aB=14 from rfl] at hh;simpa using hh)
   clear hc
   go_wp2_with fail
   refine (fD _ _ _ _ x10 _ (by exact bY.below HA10.out hb99) (by omega) (by have:=cG x10;omega)).mono ?_
   rintro e w910 ⟨rfl,b910⟩
   have hb910:=hb99.trans (b910.mono hb99.size)
   have hnn10:¬ (kk+1+(aL (.slice 88 aJ) x1:Nat)+(aL (.slice 90 aZ) x2:Nat)+1+1+(aL (.slice 94 aD) x5:Nat)+(aL (.slice 117 bC) x6:Nat)+(aL aA x7:Nat)+(aL aA x8:Nat)+(aL aA x9:Nat)+(aL aA x10:Nat)<0):=by omega
   clear c10_10
   have hc:=HC.out
   have c11_11:w910.cell? ⟨b,off+k * 14+11,none⟩=some (.slice ap11 an11 aq11):=(hb910.cell hlb).trans (by have hh:=hc 11 (by simp);rw[show Ty.n aB=14 from rfl] at hh;simpa using hh)
   clear hc
   go_wp2_with fail
   refine (rK _ _ _ _ x11 _ (by exact bY.below HA11.out hb910) (by omega) (by omega)).mono ?_
   rintro e w911 ⟨rfl,b911⟩
   have hb911:=hb910.trans (b911.mono hb910.size)
   have hnn11:¬ (kk+1+(aL (.slice 88 aJ) x1:Nat)+(aL (.slice 90 aZ) x2:Nat)+1+1+(aL (.slice 94 aD) x5:Nat)+(aL (.slice 117 bC) x6:Nat)+(aL aA x7:Nat)+(aL aA x8:Nat)+(aL aA x9:Nat)+(aL aA x10:Nat)+(aL (.slice 117 bC) x11:Nat)<0):=by omega
   clear c11_11
   have hc:=HC.out
   have c12_12:w911.cell? ⟨b,off+k * 14+12,none⟩=some (.int .i64 (kk+1+(aL (.slice 88 aJ) x1:Nat)+(aL (.slice 90 aZ) x2:Nat)+1+1+(aL (.slice 94 aD) x5:Nat)+(aL (.slice 117 bC) x6:Nat)+(aL aA x7:Nat)+(aL aA x8:Nat)+(aL aA x9:Nat)+(aL aA x10:Nat)+(aL (.slice 117 bC) x11:Nat))):=(hb911.cell hlb).trans (by have hh:=hc 12 (by simp);rw[show Ty.n aB=14 from rfl] at hh;simpa using hh)
   have c13_12:w911.cell? ⟨b,off+k * 14+13,none⟩=some (.bool ((kk+1+(aL (.slice 88 aJ) x1:Nat)+(aL (.slice 90 aZ) x2:Nat)+1+1+(aL (.slice 94 aD) x5:Nat)+(aL (.slice 117 bC) x6:Nat)+(aL aA x7:Nat)+(aL aA x8:Nat)+(aL aA x9:Nat)+(aL aA x10:Nat)+(aL (.slice 117 bC) x11:Nat)+1) % 3==0)):=(hb911.cell hlb).trans (by have hh:=hc 13 (by simp);rw[show Ty.n aB=14 from rfl] at hh;simpa using hh)
   clear hc
   go_wp2
   go_roundw
   case rel=>exact ⟨k+1,by omega,by go_num,⟨_,rfl,by show _=_;have:=HS1.out;have:=hkk.out;have hcx9:aL aB (x0,(x1,(x2,(x3,(x4,(x5,(x6,(x7,(x8,(x9,(x10,(x11,(x12,x13)))))))))))))=1+aL (.slice 88 aJ) x1+aL (.slice 90 aZ) x2+1+1+aL (.slice 94 aD) x5+aL (.slice 117 bC) x6+aL aA x7+aL aA x8+aL aA x9+aL aA x10+aL (.slice 117 bC) x11+1+1:=(by first|rfl|(simp only[aL];omega));omega,by omega,by omega⟩,hb911⟩
   case measure=>simp[intOf];omega
  ·clear h
   go_wp2
   go_ret
   obtain rfl:k=l.length:=by omega
   have hkk:=hkk.out
   rw[List.take_length] at hkk
   exact ⟨dW (by rw[bF];exact hkk),hb⟩
end Go.Proofs.YtlabadaccldkaaaGreat
