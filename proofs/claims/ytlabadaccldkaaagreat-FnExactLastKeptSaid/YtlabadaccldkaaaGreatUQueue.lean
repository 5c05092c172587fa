/- UQueue: lemmas. No conditions. -/
import Derived.Test.YtlabadaccldkaaaGreatTQueue
import Derived.Test.YtlabadaccldkaaaGreatUPath
import Derived.Test.YtlabadaccldkaaaGreatUItem
namespace Go.Proofs.YtlabadaccldkaaaGreat
set_option maxRecDepth 100000
open Go.ChangeShapes Go.WideShapes Go.ChangeAt Go.RowKit
set_option linter.unusedVariables false
set_option linter.unusedSimpArgs false
set_option maxHeartbeats 4000000 in
theorem vZ (p:Option Addr) (len cap:Nat) (k0:Int) (l:List aE.D) (bl:List Nat) (w:World) (h:Un (.slice 62 aE) w [.slice p len cap] l bl) (hnd:bl.Nodup) (h0:0≤k0) (h1:k0+(aL (.slice 62 aE) l:Nat)≤1000000000000) :
  Calls Tryz.prog 21 #[.slice p len cap,.int .i64 k0] w (yE (.slice 62 aE) w [.slice p len cap] (mk (.slice 62 aE) l k0) bl (k0+(aL (.slice 62 aE) l:Nat))):=by
 obtain ⟨rfl,hmx⟩:=qM h
 have HL:=Lib.hid (dX (e:=62) (t:=aE) l k0)
 rw[bF] at h1
 have hbl:=nP _ _ _ _ _ h
 unfold maxLen at hmx
 go_enter Tryz.func21,Tryz.ntmps21
 go_wp2
 go_loopw [1,5] (fun q i wr=>∃ k:Nat,k≤l.length∧i = .int .i64 k∧(∃ kk:Int,q = .int .i64 kk∧Hid (kk=k0+(((l.take k).map (aL aE)).sum:Nat))∧0≤kk∧kk≤1000000000000)∧Only bl w wr∧Hid (Un (.slice 62 aE) wr [.slice p l.length cap] ((mk (.slice 62 aE) l k0:List aE.D).take k++l.drop k) bl)) (fun _ i _=>l.length - (intOf i).toNat)
 case atStart=>exact ⟨0,by omega,rfl,⟨_,rfl,by show _=_;simp,by omega,by omega⟩,Only.refl _ _,by show Un _ _ _ _ _;simpa using h⟩
 case round =>
  obtain ⟨k,hk,rfl,⟨kk,rfl,hkk,hk0,hk1⟩,hb,hf⟩:=hrel
  clear h
  by_cases hlt:k<l.length
  ·obtain ⟨M,hM⟩:∃ M,M=(mk (.slice 62 aE) l k0:List aE.D).take k++l.drop k:=⟨_,rfl⟩
   have hkl:k<M.length:=by rw[hM];simp only[List.length_append,List.length_take,List.length_drop,HL.out];omega
   obtain ⟨x,hx⟩:∃ x,l[k]=x:=⟨_,rfl⟩
   have hMk:M[k]=x:=by subst hM;rw[nZ _ _ _ hlt HL.out,hx]
   have hset:∀ y,(mk (.slice 62 aE) l k0:List aE.D)[k]'(by rw[HL.out];exact hlt)=y→M.set k y=(mk (.slice 62 aE) l k0:List aE.D).take (k+1)++l.drop (k+1):=fun y hy=>by subst hM;exact nV _ _ _ hlt HL.out _ hy
   have hmk:=jK (e:=62) (t:=aE) l k0 k hlt (by rw[HL.out];exact hlt)
   rw[hx,← hkk.out] at hmk
   have hs1:=cD (aL aE) l k hlt
   have hs2:=cP (aL aE) l (k+1)
   rw[hx] at hs1
   have hf0:Un (.slice 62 aE) wr [.slice p l.length cap] (M.set k x) bl:=by have hf1:=hf.out;rw[← hM] at hf1;rw[← hMk,List.set_getElem_self];exact hf1
   have hxb:kk+(aL aE x:Nat)≤1000000000000:=by have:=hkk.out;omega
   have HS1:=Lib.hid hs1;have HSET:=Lib.hid hset;have HMK:=Lib.hid hmk
   clear hx hM hs1 hs2 hset hmk hf hMk
   obtain ⟨x0,x1⟩:=x
   have hcx:aL aE (x0,x1)=1+aL (.slice 97 aP) x1:=by first|rfl|(simp only[aL];omega)
   rw[hcx] at hxb
   clear hcx
   obtain ⟨b0,cap0,cu0,bu0,hv0,hbm0,hfz0,hc0,hR0,hn0,hs0,hA0,hB0⟩:=cS hf0 hnd hkl [false]
   simp only[Value.slice.injEq,bQ,Addr.mk.injEq,and_true] at hv0
   obtain ⟨rfl,-,-⟩:=hv0
   have hq0:Un eI wr cu0 x0 bu0:=hR0
   have hl0:cu0.length=1:=by rw[hq0.1];rfl
   have e0:∃ u,wr.cell? ⟨b0,k * 2,none⟩=some u:=⟨_,hc0 0 (by rw[hl0];exact Nat.zero_lt_one)⟩
   obtain ⟨u0,e0⟩:=e0
   have g0:wr.frozen? ⟨b0,k * 2,none⟩=false:=hfz0 _
   have hg0:Un (.slice 62 aE) (wr.setCell ⟨b0,k * 2,none⟩ (.int .i64 (kk))) [.slice (some ⟨b0,0,none⟩) l.length cap] (M.set k (rY aE [false] _ (show Ty.D eI from (kk:Int)))) bl:=hB0 (.int .i64 (kk)) _ hl0 ⟨rfl,nL (show -9223372036854775808≤(kk:Int)∧(kk:Int)≤9223372036854775807 by omega),hq0.2.2⟩
   have hb0:Only bl w (wr.setCell ⟨b0,k * 2,none⟩ (.int .i64 (kk))):=Only.setCell hb hbm0 _
   clear hA0 hB0 hc0 hfz0 hR0 hq0 hl0
   obtain ⟨b1,cap1,cu1,bu1,hv1,hbm1,hfz1,hc1,hR1,hn1,hs1,hA1,hB1⟩:=cS hg0 hnd hkl [true]
   simp only[Value.slice.injEq,bQ,Addr.mk.injEq,and_true] at hv1
   obtain ⟨hvb,-,-⟩:=hv1
   subst hvb
   obtain ⟨p1,n1,q1,rfl⟩:=gB hR1
   have e1:(wr.setCell ⟨b0,k * 2,none⟩ (.int .i64 (kk))).cell? ⟨b0,k * 2+1,none⟩=some (.slice p1 n1 q1):=hc1 0 Nat.zero_lt_one
   have HA1:=Lib.hid hA1;clear hA1 hB1 hc1 hfz1
   go_wp2_with fail
   refine (aHH _ _ _ _ x1 _ _ (by exact hR1) hn1 (by omega) (by omega)).mono ?_
   rintro e w1 ⟨rfl,rp1,on1⟩
   have hg1:=HA1.out w1 _ (fun q hq hz=>on1.block q hq hz) rp1
   have hb1:Only bl w w1:=Only.trans hb0 (on1.mono hs1)
   clear HA1 rp1 hR1 e1
   have HF:=Lib.hid hg1
   clear hf0 hg0 hg1
   go_wp2
   go_roundw
   case rel =>
    refine ⟨k+1,by omega,by go_num,⟨_,rfl,by show _=_;have:=HS1.out;have:=hkk.out;have hcx9:aL aE (x0,x1)=1+aL (.slice 97 aP) x1:=(by first|rfl|(simp only[aL];omega));omega,by omega,by omega⟩,hb1,?_⟩
    have h2:=HF.out
    rw[HSET.out _ (HMK.out.trans (by rfl))] at h2
    exact h2
   case measure=>simp[intOf];omega
  ·go_wp2
   go_ret
   obtain rfl:k=l.length:=by omega
   have hkk:=hkk.out
   rw[List.take_length] at hkk
   refine ⟨dW (by rw[bF];exact hkk),?_,hb⟩
   have hf:=hf.out
   have e1:(mk (.slice 62 aE) l k0:List aE.D).take l.length++l.drop l.length=mk (.slice 62 aE) l k0:=by
    rw[List.drop_length,List.append_nil,List.take_of_length_le (by rw[HL.out];exact Nat.le_refl _)]
   rw[e1] at hf
   exact hf
set_option maxHeartbeats 4000000 in
theorem tV (p:Option Addr) (len cap:Nat) (k0:Int) (l:List aE.D) (w:World) (h:bY aE.n (rd aE w) w p len cap (mk (.slice 62 aE) l k0)) (h0:0≤k0) (h1:k0+(aL (.slice 62 aE) l:Nat)≤1000000000000) :
  Calls Tryz.prog 24 #[.slice p len cap,.int .i64 k0] w (jI (.int .i64 (k0+(aL (.slice 62 aE) l:Nat))) w):=by
 have HL:=dX (e:=62) (t:=aE) l k0
 obtain rfl:len=l.length:=by rw[h.lens];exact HL
 have hmx:l.length≤maxLen:=Nat.le_trans h.2.1 h.2.2.1
 unfold maxLen at hmx
 rw[bF] at h1
 have HL2:=Lib.hid HL
 clear HL
 go_enter Tryz.func24,Tryz.ntmps24
 go_wp2
 go_loopw [1,5] (fun q i wr=>∃ k:Nat,k≤l.length∧i = .int .i64 k∧(∃ kk:Int,q = .int .i64 kk∧Hid (kk=k0+(((l.take k).map (aL aE)).sum:Nat))∧0≤kk∧kk≤1000000000000)∧Below w.heap.size w wr) (fun _ i _=>l.length - (intOf i).toNat)
 case atStart=>exact ⟨0,by omega,rfl,⟨_,rfl,by show _=_;simp,by omega,by omega⟩,Below.refl _ _⟩
 case round =>
  obtain ⟨k,hk,rfl,⟨kk,rfl,hkk,hk0,hk1⟩,hb⟩:=hrel
  by_cases hlt:k<l.length
  ·obtain ⟨b,off,rfl,hlb,cs,hcs,hc,hR⟩:=h.2.2.2.2 k (by rw[HL2.out];exact hlt)
   have hx9:=jK (e:=62) (t:=aE) l k0 k hlt (by rw[HL2.out];exact hlt)
   obtain ⟨x,hx⟩:∃ x,l[k]=x:=⟨_,rfl⟩
   rw[hx,← hkk.out] at hx9
   rw[hx9] at hR
   have hs1:=cD (aL aE) l k hlt
   have hs2:=cP (aL aE) l (k+1)
   rw[hx] at hs1
   have hxb:kk+(aL aE x:Nat)≤1000000000000:=by have:=hkk.out;omega
   have HS1:=Lib.hid hs1
   clear hx hx9 hs1 hs2
   obtain ⟨x0,x1⟩:=x
   have hcx:aL aE (x0,x1)=1+aL (.slice 97 aP) x1:=by first|rfl|(simp only[aL];omega)
   rw[hcx] at hxb
   clear hcx
   have hR2:rd aE w cs ((kk),(mk (.slice 97 aP) x1 (kk+1))):=hR
   clear hR
   obtain ⟨ap1,an1,aq1,rfl,aw0,as1⟩:=yV hR2
   have c0_0:wr.cell? ⟨b,off+k * 2,none⟩=some (.int .i64 (kk)):=(hb.cell hlb).trans (by have hh:=hc 0 (by simp);rw[show Ty.n aE=2 from rfl] at hh;simpa using hh)
   have c1_0:wr.cell? ⟨b,off+k * 2+1,none⟩=some (.slice ap1 an1 aq1):=(hb.cell hlb).trans (by have hh:=hc 1 (by simp);rw[show Ty.n aE=2 from rfl] at hh;simpa using hh)
   have HC:=Lib.hid hc
   have HA1:=Lib.hid as1
   clear h hc hcs as1
   go_wp2_with fail
   refine (aEU _ _ _ _ x1 _ (by exact bY.below HA1.out hb) (by omega) (by omega)).mono ?_
   rintro e w91 ⟨rfl,b91⟩
   have hb91:=hb.trans (b91.mono hb.size)
   have hnn1:¬ (kk+1+(aL (.slice 97 aP) x1:Nat)<0):=by omega
   clear c0_0 c1_0
   go_wp2
   go_roundw
   case rel=>exact ⟨k+1,by omega,by go_num,⟨_,rfl,by show _=_;have:=HS1.out;have:=hkk.out;have hcx9:aL aE (x0,x1)=1+aL (.slice 97 aP) x1:=(by first|rfl|(simp only[aL];omega));omega,by omega,by omega⟩,hb91⟩
   case measure=>simp[intOf];omega
  ·clear h
   go_wp2
   go_ret
   obtain rfl:k=l.length:=by omega
   have hkk:=hkk.out
   rw[List.take_length] at hkk
   exact ⟨dW (by rw[bF];exact hkk),hb⟩
end Go.Proofs.YtlabadaccldkaaaGreat
