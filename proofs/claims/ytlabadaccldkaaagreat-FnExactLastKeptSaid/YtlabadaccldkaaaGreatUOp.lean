/- UOp: lemmas. No conditions. -/
import Derived.Test.YtlabadaccldkaaaGreatTOp
import Derived.Test.YtlabadaccldkaaaGreatUPath
namespace Go.Proofs.YtlabadaccldkaaaGreat
set_option maxRecDepth 100000
open Go.ChangeShapes Go.WideShapes Go.ChangeAt Go.RowKit
set_option linter.unusedVariables false
set_option linter.unusedSimpArgs false
set_option maxHeartbeats 4000000 in
theorem aMH (p:Option Addr) (len cap:Nat) (k0:Int) (l:List aZ.D) (bl:List Nat) (w:World) (h:Un (.slice 90 aZ) w [.slice p len cap] l bl) (hnd:bl.Nodup) (h0:0≤k0) (h1:k0+(aL (.slice 90 aZ) l:Nat)≤1000000000000) :
  Calls Tryz.prog 40 #[.slice p len cap,.int .i64 k0] w (yE (.slice 90 aZ) w [.slice p len cap] (mk (.slice 90 aZ) l k0) bl (k0+(aL (.slice 90 aZ) l:Nat))):=by
 obtain ⟨rfl,hmx⟩:=qM h
 have HL:=Lib.hid (dX (e:=90) (t:=aZ) l k0)
 rw[bF] at h1
 have hbl:=nP _ _ _ _ _ h
 unfold maxLen at hmx
 go_enter Tryz.func40,Tryz.ntmps40
 go_wp2
 go_loopw [1,5] (fun q i wr=>∃ k:Nat,k≤l.length∧i = .int .i64 k∧(∃ kk:Int,q = .int .i64 kk∧Hid (kk=k0+(((l.take k).map (aL aZ)).sum:Nat))∧0≤kk∧kk≤1000000000000)∧Only bl w wr∧Hid (Un (.slice 90 aZ) wr [.slice p l.length cap] ((mk (.slice 90 aZ) l k0:List aZ.D).take k++l.drop k) bl)) (fun _ i _=>l.length - (intOf i).toNat)
 case atStart=>exact ⟨0,by omega,rfl,⟨_,rfl,by show _=_;simp,by omega,by omega⟩,Only.refl _ _,by show Un _ _ _ _ _;simpa using h⟩
 case round =>
  obtain ⟨k,hk,rfl,⟨kk,rfl,hkk,hk0,hk1⟩,hb,hf⟩:=hrel
  clear h
  by_cases hlt:k<l.length
  ·obtain ⟨M,hM⟩:∃ M,M=(mk (.slice 90 aZ) l k0:List aZ.D).take k++l.drop k:=⟨_,rfl⟩
   have hkl:k<M.length:=by rw[hM];simp only[List.length_append,List.length_take,List.length_drop,HL.out];omega
   obtain ⟨x,hx⟩:∃ x,l[k]=x:=⟨_,rfl⟩
   have hMk:M[k]=x:=by subst hM;rw[nZ _ _ _ hlt HL.out,hx]
   have hset:∀ y,(mk (.slice 90 aZ) l k0:List aZ.D)[k]'(by rw[HL.out];exact hlt)=y→M.set k y=(mk (.slice 90 aZ) l k0:List aZ.D).take (k+1)++l.drop (k+1):=fun y hy=>by subst hM;exact nV _ _ _ hlt HL.out _ hy
   have hmk:=jK (e:=90) (t:=aZ) l k0 k hlt (by rw[HL.out];exact hlt)
   rw[hx,← hkk.out] at hmk
   have hs1:=cD (aL aZ) l k hlt
   have hs2:=cP (aL aZ) l (k+1)
   rw[hx] at hs1
   have hf0:Un (.slice 90 aZ) wr [.slice p l.length cap] (M.set k x) bl:=by have hf1:=hf.out;rw[← hM] at hf1;rw[← hMk,List.set_getElem_self];exact hf1
   have hxb:kk+(aL aZ x:Nat)≤1000000000000:=by have:=hkk.out;omega
   have HS1:=Lib.hid hs1;have HSET:=Lib.hid hset;have HMK:=Lib.hid hmk
   clear hx hM hs1 hs2 hset hmk hf hMk
   obtain ⟨x0,⟨x1,⟨x2,x3⟩⟩⟩:=x
   have hcx:aL aZ (x0,(x1,(x2,x3)))=1+1+1+aL aA x3:=by first|rfl|(simp only[aL];omega)
   rw[hcx] at hxb
   clear hcx
   obtain ⟨b0,cap0,cu0,bu0,hv0,hbm0,hfz0,hc0,hR0,hn0,hs0,hA0,hB0⟩:=cS hf0 hnd hkl [false]
   simp only[Value.slice.injEq,bQ,Addr.mk.injEq,and_true] at hv0
   obtain ⟨rfl,-,-⟩:=hv0
   have hq0:Un eI wr cu0 x0 bu0:=hR0
   have hl0:cu0.length=1:=by rw[hq0.1];rfl
   have e0:∃ u,wr.cell? ⟨b0,k * 4,none⟩=some u:=⟨_,hc0 0 (by rw[hl0];exact Nat.zero_lt_one)⟩
   obtain ⟨u0,e0⟩:=e0
   have g0:wr.frozen? ⟨b0,k * 4,none⟩=false:=hfz0 _
   have hg0:Un (.slice 90 aZ) (wr.setCell ⟨b0,k * 4,none⟩ (.int .i64 (kk))) [.slice (some ⟨b0,0,none⟩) l.length cap] (M.set k (rY aZ [false] _ (show Ty.D eI from (kk:Int)))) bl:=hB0 (.int .i64 (kk)) _ hl0 ⟨rfl,nL (show -9223372036854775808≤(kk:Int)∧(kk:Int)≤9223372036854775807 by omega),hq0.2.2⟩
   have hb0:Only bl w (wr.setCell ⟨b0,k * 4,none⟩ (.int .i64 (kk))):=Only.setCell hb hbm0 _
   clear hA0 hB0 hc0 hfz0 hR0 hq0 hl0
   obtain ⟨b1,cap1,cu1,bu1,hv1,hbm1,hfz1,hc1,hR1,hn1,hs1,hA1,hB1⟩:=cS hg0 hnd hkl [true,false]
   simp only[Value.slice.injEq,bQ,Addr.mk.injEq,and_true] at hv1
   obtain ⟨hvb,-,-⟩:=hv1
   subst hvb
   have hq1:Un eI (wr.setCell ⟨b0,k * 4,none⟩ (.int .i64 (kk))) cu1 x1 bu1:=hR1
   have hl1:cu1.length=1:=by rw[hq1.1];rfl
   have e1:∃ u,(wr.setCell ⟨b0,k * 4,none⟩ (.int .i64 (kk))).cell? ⟨b0,k * 4+1,none⟩=some u:=⟨_,hc1 0 (by rw[hl1];exact Nat.zero_lt_one)⟩
   obtain ⟨u1,e1⟩:=e1
   have g1:(wr.setCell ⟨b0,k * 4,none⟩ (.int .i64 (kk))).frozen? ⟨b0,k * 4+1,none⟩=false:=hfz1 _
   have hg1:Un (.slice 90 aZ) ((wr.setCell ⟨b0,k * 4,none⟩ (.int .i64 (kk))).setCell ⟨b0,k * 4+1,none⟩ (.int .i64 (kk+1))) [.slice (some ⟨b0,0,none⟩) l.length cap] (M.set k (rY aZ [true,false] _ (show Ty.D eI from (kk+1:Int)))) bl:=hB1 (.int .i64 (kk+1)) _ hl1 ⟨rfl,nL (show -9223372036854775808≤(kk+1:Int)∧(kk+1:Int)≤9223372036854775807 by omega),hq1.2.2⟩
   have hb1:Only bl w ((wr.setCell ⟨b0,k * 4,none⟩ (.int .i64 (kk))).setCell ⟨b0,k * 4+1,none⟩ (.int .i64 (kk+1))):=Only.setCell hb0 hbm0 _
   clear hA1 hB1 hc1 hfz1 hR1 hq1 hl1
   obtain ⟨b2,cap2,cu2,bu2,hv2,hbm2,hfz2,hc2,hR2,hn2,hs2,hA2,hB2⟩:=cS hg1 hnd hkl [true,true,false]
   simp only[Value.slice.injEq,bQ,Addr.mk.injEq,and_true] at hv2
   obtain ⟨hvb,-,-⟩:=hv2
   subst hvb
   have hq2:Un eI ((wr.setCell ⟨b0,k * 4,none⟩ (.int .i64 (kk))).setCell ⟨b0,k * 4+1,none⟩ (.int .i64 (kk+1))) cu2 x2 bu2:=hR2
   have hl2:cu2.length=1:=by rw[hq2.1];rfl
   have e2:∃ u,((wr.setCell ⟨b0,k * 4,none⟩ (.int .i64 (kk))).setCell ⟨b0,k * 4+1,none⟩ (.int .i64 (kk+1))).cell? ⟨b0,k * 4+2,none⟩=some u:=⟨_,hc2 0 (by rw[hl2];exact Nat.zero_lt_one)⟩
   obtain ⟨u2,e2⟩:=e2
   have g2:((wr.setCell ⟨b0,k * 4,none⟩ (.int .i64 (kk))).setCell ⟨b0,k * 4+1,none⟩ (.int .i64 (kk+1))).frozen? ⟨b0,k * 4+2,none⟩=false:=hfz2 _
   have hg2:Un (.slice 90 aZ) (((wr.setCell ⟨b0,k * 4,none⟩ (.int .i64 (kk))).setCell ⟨b0,k * 4+1,none⟩ (.int .i64 (kk+1))).setCell ⟨b0,k * 4+2,none⟩ (.int .i64 (kk+1+1))) [.slice (some ⟨b0,0,none⟩) l.length cap] (M.set k (rY aZ [true,true,false] _ (show Ty.D eI from (kk+1+1:Int)))) bl:=hB2 (.int .i64 (kk+1+1)) _ hl2 ⟨rfl,nL (show -9223372036854775808≤(kk+1+1:Int)∧(kk+1+1:Int)≤9223372036854775807 by omega),hq2.2.2⟩
   have hb2:Only bl w (((wr.setCell ⟨b0,k * 4,none⟩ (.int .i64 (kk))).setCell ⟨b0,k * 4+1,none⟩ (.int .i64 (kk+1))).setCell ⟨b0,k * 4+2,none⟩ (.int .i64 (kk+1+1))):=Only.setCell hb1 hbm0 _
   clear hA2 hB2 hc2 hfz2 hR2 hq2 hl2
   obtain ⟨b3,cap3,cu3,bu3,hv3,hbm3,hfz3,hc3,hR3,hn3,hs3,hA3,hB3⟩:=cS hg2 hnd hkl [true,true,true]
   simp only[Value.slice.injEq,bQ,Addr.mk.injEq,and_true] at hv3
   obtain ⟨hvb,-,-⟩:=hv3
   subst hvb
   obtain ⟨p3,n3,q3,rfl⟩:=gB hR3
   have e3:(((wr.setCell ⟨b0,k * 4,none⟩ (.int .i64 (kk))).setCell ⟨b0,k * 4+1,none⟩ (.int .i64 (kk+1))).setCell ⟨b0,k * 4+2,none⟩ (.int .i64 (kk+1+1))).cell? ⟨b0,k * 4+3,none⟩=some (.slice p3 n3 q3):=hc3 0 Nat.zero_lt_one
   have HA3:=Lib.hid hA3;clear hA3 hB3 hc3 hfz3
   go_wp2_with fail
   refine (fW _ _ _ _ x3 _ _ (by exact hR3) hn3 (by omega) (by have:=cG x3;omega)).mono ?_
   rintro e w3 ⟨rfl,rp3,on3⟩
   have hg3:=HA3.out w3 _ (fun q hq hz=>on3.block q hq hz) rp3
   have hb3:Only bl w w3:=Only.trans hb2 (on3.mono hs3)
   clear HA3 rp3 hR3 e3
   have HF:=Lib.hid hg3
   clear hf0 hg0 hg1 hg2 hg3
   go_wp2
   go_roundw
   case rel =>
    refine ⟨k+1,by omega,by go_num,⟨_,rfl,by show _=_;have:=HS1.out;have:=hkk.out;have hcx9:aL aZ (x0,(x1,(x2,x3)))=1+1+1+aL aA x3:=(by first|rfl|(simp only[aL];omega));omega,by omega,by omega⟩,hb3,?_⟩
    have h2:=HF.out
    rw[HSET.out _ (HMK.out.trans (by rfl))] at h2
    exact h2
   case measure=>simp[intOf];omega
  ·go_wp2
   go_ret
   obtain rfl:k=l.length:=by omega
   have hkk:=hkk.out
   rw[List.take_length] at hkk
   refine ⟨dW (by rw[bF];exact hkk),?_,hb⟩
   have hf:=hf.out
   have e1:(mk (.slice 90 aZ) l k0:List aZ.D).take l.length++l.drop l.length=mk (.slice 90 aZ) l k0:=by
    rw[List.drop_length,List.append_nil,List.take_of_length_le (by rw[HL.out];exact Nat.le_refl _)]
   rw[e1] at hf
   exact hf
set_option maxHeartbeats 4000000 in
theorem aK4 (p:Option Addr) (len cap:Nat) (k0:Int) (l:List aZ.D) (w:World) (h:bY aZ.n (rd aZ w) w p len cap (mk (.slice 90 aZ) l k0)) (h0:0≤k0) (h1:k0+(aL (.slice 90 aZ) l:Nat)≤1000000000000) :
  Calls Tryz.prog 46 #[.slice p len cap,.int .i64 k0] w (jI (.int .i64 (k0+(aL (.slice 90 aZ) l:Nat))) w):=by
 have HL:=dX (e:=90) (t:=aZ) l k0
 obtain rfl:len=l.length:=by rw[h.lens];exact HL
 have hmx:l.length≤maxLen:=Nat.le_trans h.2.1 h.2.2.1
 unfold maxLen at hmx
 rw[bF] at h1
 have HL2:=Lib.hid HL
 clear HL
 go_enter Tryz.func46,Tryz.ntmps46
 go_wp2
 go_loopw [1,5] (fun q i wr=>∃ k:Nat,k≤l.length∧i = .int .i64 k∧(∃ kk:Int,q = .int .i64 kk∧Hid (kk=k0+(((l.take k).map (aL aZ)).sum:Nat))∧0≤kk∧kk≤1000000000000)∧Below w.heap.size w wr) (fun _ i _=>l.length - (intOf i).toNat)
 case atStart=>exact ⟨0,by omega,rfl,⟨_,rfl,by show _=_;simp,by omega,by omega⟩,Below.refl _ _⟩
 case round =>
  obtain ⟨k,hk,rfl,⟨kk,rfl,hkk,hk0,hk1⟩,hb⟩:=hrel
  by_cases hlt:k<l.length
  ·obtain ⟨b,off,rfl,hlb,cs,hcs,hc,hR⟩:=h.2.2.2.2 k (by rw[HL2.out];exact hlt)
   have hx9:=jK (e:=90) (t:=aZ) l k0 k hlt (by rw[HL2.out];exact hlt)
   obtain ⟨x,hx⟩:∃ x,l[k]=x:=⟨_,rfl⟩
   rw[hx,← hkk.out] at hx9
   rw[hx9] at hR
   have hs1:=cD (aL aZ) l k hlt
   have hs2:=cP (aL aZ) l (k+1)
   rw[hx] at hs1
   have hxb:kk+(aL aZ x:Nat)≤1000000000000:=by have:=hkk.out;omega
   have HS1:=Lib.hid hs1
   clear hx hx9 hs1 hs2
   obtain ⟨x0,⟨x1,⟨x2,x3⟩⟩⟩:=x
   have hcx:aL aZ (x0,(x1,(x2,x3)))=1+1+1+aL aA x3:=by first|rfl|(simp only[aL];omega)
   rw[hcx] at hxb
   clear hcx
   have hR2:rd aZ w cs ((kk),((kk+1),((kk+1+1),(mk aA x3 (kk+1+1+1))))):=hR
   clear hR
   obtain ⟨ap3,an3,aq3,rfl,aw0,aw1,aw2,as3⟩:=aR8 hR2
   have c0_0:wr.cell? ⟨b,off+k * 4,none⟩=some (.int .i64 (kk)):=(hb.cell hlb).trans (by have hh:=hc 0 (by simp);rw[show Ty.n aZ=4 from rfl] at hh;simpa using hh)
   have c1_0:wr.cell? ⟨b,off+k * 4+1,none⟩=some (.int .i64 (kk+1)):=(hb.cell hlb).trans (by have hh:=hc 1 (by simp);rw[show Ty.n aZ=4 from rfl] at hh;simpa using hh)
   have c2_0:wr.cell? ⟨b,off+k * 4+2,none⟩=some (.int .i64 (kk+1+1)):=(hb.cell hlb).trans (by have hh:=hc 2 (by simp);rw[show Ty.n aZ=4 from rfl] at hh;simpa using hh)
   have c3_0:wr.cell? ⟨b,off+k * 4+3,none⟩=some (.slice ap3 an3 aq3):=(hb.cell hlb).trans (by have hh:=hc 3 (by simp);rw[show Ty.n aZ=4 from rfl] at hh;simpa using hh)
   have HC:=Lib.hid hc
   have HA3:=Lib.hid as3
   clear h hc hcs as3
   go_wp2_with fail
   refine (fD _ _ _ _ x3 _ (by exact bY.below HA3.out hb) (by omega) (by have:=cG x3;omega)).mono ?_
   rintro e w93 ⟨rfl,b93⟩
   have hb93:=hb.trans (b93.mono hb.size)
   have hnn3:¬ (kk+1+1+1+(aL aA x3:Nat)<0):=by omega
   clear c0_0 c1_0 c2_0 c3_0
   go_wp2
   go_roundw
   case rel=>exact ⟨k+1,by omega,by go_num,⟨_,rfl,by show _=_;have:=HS1.out;have:=hkk.out;have hcx9:aL aZ (x0,(x1,(x2,x3)))=1+1+1+aL aA x3:=(by first|rfl|(simp only[aL];omega));omega,by omega,by omega⟩,hb93⟩
   case measure=>simp[intOf];omega
  ·clear h
   go_wp2
   go_ret
   obtain rfl:k=l.length:=by omega
   have hkk:=hkk.out
   rw[List.take_length] at hkk
   exact ⟨dW (by rw[bF];exact hkk),hb⟩
end Go.Proofs.YtlabadaccldkaaaGreat
