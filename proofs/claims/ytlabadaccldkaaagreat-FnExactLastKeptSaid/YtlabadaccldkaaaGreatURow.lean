/- URow: lemmas. No conditions. -/
import Derived.Test.YtlabadaccldkaaaGreatTRow
import Derived.Test.YtlabadaccldkaaaGreatUPath
namespace Go.Proofs.YtlabadaccldkaaaGreat
set_option maxRecDepth 100000
open Go.ChangeShapes Go.WideShapes Go.ChangeAt Go.RowKit
set_option linter.unusedVariables false
set_option linter.unusedSimpArgs false
set_option maxHeartbeats 4000000 in
theorem tX (p:Option Addr) (len cap:Nat) (k0:Int) (l:List bC.D) (bl:List Nat) (w:World) (h:Un (.slice 117 bC) w [.slice p len cap] l bl) (hnd:bl.Nodup) (h0:0≤k0) (h1:k0+(aL (.slice 117 bC) l:Nat)≤1000000000000) :
  Calls Tryz.prog 42 #[.slice p len cap,.int .i64 k0] w (yE (.slice 117 bC) w [.slice p len cap] (mk (.slice 117 bC) l k0) bl (k0+(aL (.slice 117 bC) l:Nat))):=by
 obtain ⟨rfl,hmx⟩:=qM h
 have HL:=Lib.hid (dX (e:=117) (t:=bC) l k0)
 rw[bF] at h1
 have hbl:=nP _ _ _ _ _ h
 unfold maxLen at hmx
 go_enter Tryz.func42,Tryz.ntmps42
 go_wp2
 go_loopw [1,5] (fun q i wr=>∃ k:Nat,k≤l.length∧i = .int .i64 k∧(∃ kk:Int,q = .int .i64 kk∧Hid (kk=k0+(((l.take k).map (aL bC)).sum:Nat))∧0≤kk∧kk≤1000000000000)∧Only bl w wr∧Hid (Un (.slice 117 bC) wr [.slice p l.length cap] ((mk (.slice 117 bC) l k0:List bC.D).take k++l.drop k) bl)) (fun _ i _=>l.length - (intOf i).toNat)
 case atStart=>exact ⟨0,by omega,rfl,⟨_,rfl,by show _=_;simp,by omega,by omega⟩,Only.refl _ _,by show Un _ _ _ _ _;simpa using h⟩
 case round =>
  obtain ⟨k,hk,rfl,⟨kk,rfl,hkk,hk0,hk1⟩,hb,hf⟩:=hrel
  clear h
  by_cases hlt:k<l.length
  ·obtain ⟨M,hM⟩:∃ M,M=(mk (.slice 117 bC) l k0:List bC.D).take k++l.drop k:=⟨_,rfl⟩
   have hkl:k<M.length:=by rw[hM];simp only[List.length_append,List.length_take,List.length_drop,HL.out];omega
   obtain ⟨x,hx⟩:∃ x,l[k]=x:=⟨_,rfl⟩
   have hMk:M[k]=x:=by subst hM;rw[nZ _ _ _ hlt HL.out,hx]
   have hset:∀ y,(mk (.slice 117 bC) l k0:List bC.D)[k]'(by rw[HL.out];exact hlt)=y→M.set k y=(mk (.slice 117 bC) l k0:List bC.D).take (k+1)++l.drop (k+1):=fun y hy=>by subst hM;exact nV _ _ _ hlt HL.out _ hy
   have hmk:=jK (e:=117) (t:=bC) l k0 k hlt (by rw[HL.out];exact hlt)
   rw[hx,← hkk.out] at hmk
   have hs1:=cD (aL bC) l k hlt
   have hs2:=cP (aL bC) l (k+1)
   rw[hx] at hs1
   have hf0:Un (.slice 117 bC) wr [.slice p l.length cap] (M.set k x) bl:=by have hf1:=hf.out;rw[← hM] at hf1;rw[← hMk,List.set_getElem_self];exact hf1
   have hxb:kk+(aL bC x:Nat)≤1000000000000:=by have:=hkk.out;omega
   have HS1:=Lib.hid hs1;have HSET:=Lib.hid hset;have HMK:=Lib.hid hmk
   clear hx hM hs1 hs2 hset hmk hf hMk
   obtain ⟨x0,hx0⟩:∃ y,y=x:=⟨_,rfl⟩
   subst hx0
   have hcx:aL bC x0=aL aA x0:=by first|rfl|(simp only[aL];omega)
   rw[hcx] at hxb
   clear hcx
   obtain ⟨b0,cap0,cu0,bu0,hv0,hbm0,hfz0,hc0,hR0,hn0,hs0,hA0,hB0⟩:=cS hf0 hnd hkl []
   simp only[Value.slice.injEq,bQ,Addr.mk.injEq,and_true] at hv0
   obtain ⟨rfl,-,-⟩:=hv0
   obtain ⟨p0,n0,q0,rfl⟩:=gB hR0
   have e0:wr.cell? ⟨b0,k,none⟩=some (.slice p0 n0 q0):=by have hh:=hc0 0 Nat.zero_lt_one;rw[show Ty.n bC=1 from rfl,Nat.mul_one,show aE6 bC []+0=0 from rfl,Nat.add_zero] at hh;exact hh
   have HA0:=Lib.hid hA0;clear hA0 hB0 hc0 hfz0
   go_wp2_with fail
   refine (fW _ _ _ _ x0 _ _ (by exact hR0) hn0 (by omega) (by have:=cG x0;omega)).mono ?_
   rintro e w0 ⟨rfl,rp0,on0⟩
   have hg0:=HA0.out w0 _ (fun q hq hz=>on0.block q hq hz) rp0
   have hb0:Only bl w w0:=Only.trans hb (on0.mono hs0)
   clear HA0 rp0 hR0 e0
   have HF:=Lib.hid hg0
   clear hf0 hg0
   go_wp2
   go_roundw
   case rel =>
    refine ⟨k+1,by omega,by go_num,⟨_,rfl,by show _=_;have:=HS1.out;have:=hkk.out;have hcx9:aL bC x0=aL aA x0:=(by first|rfl|(simp only[aL];omega));omega,by omega,by omega⟩,hb0,?_⟩
    have h2:=HF.out
    rw[HSET.out _ (HMK.out.trans (by rfl))] at h2
    exact h2
   case measure=>simp[intOf];omega
  ·go_wp2
   go_ret
   obtain rfl:k=l.length:=by omega
   have hkk:=hkk.out
   rw[List.take_length] at hkk
   refine ⟨dW (by rw[bF];exact hkk),?_,hb⟩
   have hf:=hf.out
   have e1:(mk (.slice 117 bC) l k0:List bC.D).take l.length++l.drop l.length=mk (.slice 117 bC) l k0:=by
    rw[List.drop_length,List.append_nil,List.take_of_length_le (by rw[HL.out];exact Nat.le_refl _)]
   rw[e1] at hf
   exact hf
set_option maxHeartbeats 4000000 in
theorem rK (p:Option Addr) (len cap:Nat) (k0:Int) (l:List bC.D) (w:World) (h:bY bC.n (rd bC w) w p len cap (mk (.slice 117 bC) l k0)) (h0:0≤k0) (h1:k0+(aL (.slice 117 bC) l:Nat)≤1000000000000) :
  Calls Tryz.prog 48 #[.slice p len cap,.int .i64 k0] w (jI (.int .i64 (k0+(aL (.slice 117 bC) l:Nat))) w):=by
 have HL:=dX (e:=117) (t:=bC) l k0
 obtain rfl:len=l.length:=by rw[h.lens];exact HL
 have hmx:l.length≤maxLen:=Nat.le_trans h.2.1 h.2.2.1
 unfold maxLen at hmx
 rw[bF] at h1
 have HL2:=Lib.hid HL
 clear HL
 go_enter Tryz.func48,Tryz.ntmps48
 go_wp2
 go_loopw [1,5] (fun q i wr=>∃ k:Nat,k≤l.length∧i = .int .i64 k∧(∃ kk:Int,q = .int .i64 kk∧Hid (kk=k0+(((l.take k).map (aL bC)).sum:Nat))∧0≤kk∧kk≤1000000000000)∧Below w.heap.size w wr) (fun _ i _=>l.length - (intOf i).toNat)
 case atStart=>exact ⟨0,by omega,rfl,⟨_,rfl,by show _=_;simp,by omega,by omega⟩,Below.refl _ _⟩
 case round =>
  obtain ⟨k,hk,rfl,⟨kk,rfl,hkk,hk0,hk1⟩,hb⟩:=hrel
  by_cases hlt:k<l.length
  ·obtain ⟨b,off,rfl,hlb,cs,hcs,hc,hR⟩:=h.2.2.2.2 k (by rw[HL2.out];exact hlt)
   have hx9:=jK (e:=117) (t:=bC) l k0 k hlt (by rw[HL2.out];exact hlt)
   obtain ⟨x,hx⟩:∃ x,l[k]=x:=⟨_,rfl⟩
   rw[hx,← hkk.out] at hx9
   rw[hx9] at hR
   have hs1:=cD (aL bC) l k hlt
   have hs2:=cP (aL bC) l (k+1)
   rw[hx] at hs1
   have hxb:kk+(aL bC x:Nat)≤1000000000000:=by have:=hkk.out;omega
   have HS1:=Lib.hid hs1
   clear hx hx9 hs1 hs2
   obtain ⟨x0,hx0⟩:∃ y,y=x:=⟨_,rfl⟩
   subst hx0
   have hcx:aL bC x0=aL aA x0:=by first|rfl|(simp only[aL];omega)
   rw[hcx] at hxb
   clear hcx
   have hR2:rd bC w cs (mk aA x0 (kk)):=hR
   clear hR
   obtain ⟨ap0,an0,aq0,rfl,as0⟩:=hR2
   have c0_0:wr.cell? ⟨b,off+k,none⟩=some (.slice ap0 an0 aq0):=(hb.cell hlb).trans (by have hh:=hc 0 (by simp);rw[show Ty.n bC=1 from rfl] at hh;simpa using hh)
   have HC:=Lib.hid hc
   have HA0:=Lib.hid as0
   clear h hc hcs as0
   go_wp2_with fail
   refine (fD _ _ _ _ x0 _ (by exact bY.below HA0.out hb) (by omega) (by have:=cG x0;omega)).mono ?_
   rintro e w90 ⟨rfl,b90⟩
   have hb90:=hb.trans (b90.mono hb.size)
   have hnn0:¬ (kk+(aL aA x0:Nat)<0):=by omega
   clear c0_0
   go_wp2
   go_roundw
   case rel=>exact ⟨k+1,by omega,by go_num,⟨_,rfl,by show _=_;have:=HS1.out;have:=hkk.out;have hcx9:aL bC x0=aL aA x0:=(by first|rfl|(simp only[aL];omega));omega,by omega,by omega⟩,hb90⟩
   case measure=>simp[intOf];omega
  ·clear h
   go_wp2
   go_ret
   obtain rfl:k=l.length:=by omega
   have hkk:=hkk.out
   rw[List.take_length] at hkk
   exact ⟨dW (by rw[bF];exact hkk),hb⟩
end Go.Proofs.YtlabadaccldkaaaGreat
