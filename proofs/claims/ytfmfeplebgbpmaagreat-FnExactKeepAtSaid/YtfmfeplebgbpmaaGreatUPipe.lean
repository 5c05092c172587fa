/- UPipe: lemmas. No conditions. -/
import Derived.Test.YtfmfeplebgbpmaaGreatUGrads
namespace Go.Proofs.YtfmfeplebgbpmaaGreat
open Go.ChangeShapes Go.WideShapes Go.ChangeAt Go.RowKit
set_option linter.unusedVariables false
set_option linter.unusedSimpArgs false
set_option maxHeartbeats 4000000 in
set_option maxRecDepth 100000 in
theorem bSP (p:Option Addr) (len cap:Nat) (k0:Int) (l:List aU.D) (bl:List Nat) (w:World) (h:Un (.slice 159 aU) w [.slice p len cap] l bl) (hnd:bl.Nodup) (h0:0<=k0) (h1:k0+(cR (.slice 159 aU) l:Nat)<=1000000000000) :
  Calls Tryz.prog 180 #[.slice p len cap,.int .i64 k0] w (aWK (.slice 159 aU) w [.slice p len cap] (mk (.slice 159 aU) l k0) bl (k0+(cR (.slice 159 aU) l:Nat))):=by
 obtain⟨rfl,hmx⟩:=aJT h
 have HL:=Lib.hid (aB2 (e:=159) (t:=aU) l k0)
 rw[mP] at h1
 have hbl:=aF5 _ _ _ _ _ h
 unfold maxLen at hmx
 go_enter Tryz.func180,Tryz.ntmps180
 go_wp2
 go_loopw [1,5] (fun q i wr=>∃k:Nat,k<=l.length/\i = .int .i64 k/\(∃kk:Int,q = .int .i64 kk/\Hid (kk=k0+(((l.take k).map (cR aU)).sum:Nat))/\0<=kk/\kk<=1000000000000)/\Only bl w wr/\Hid (Un (.slice 159 aU) wr [.slice p l.length cap] ((mk (.slice 159 aU) l k0:List aU.D).take k++l.drop k) bl)) (fun _ i _=>l.length - (intOf i).toNat)
 case atStart=>exact⟨0,by omega,rfl,⟨_,rfl,by show _=_;simp,by omega,by omega⟩,Only.refl _ _,by show Un _ _ _ _ _;simpa using h⟩
 case round =>
  obtain⟨k,hk,rfl,⟨kk,rfl,hkk,Ch,hk1⟩,hb,hf⟩:=hrel
  clear h
  by_cases hlt:k<l.length
  ·obtain⟨M,hM⟩:∃M,M=(mk (.slice 159 aU) l k0:List aU.D).take k++l.drop k:=⟨_,rfl⟩
   have hkl:k<M.length:=by rw[hM];simp only[List.length_append,List.length_take,List.length_drop,HL.out];omega
   obtain⟨x,hx⟩:∃x,l[k]=x:=⟨_,rfl⟩
   have A5:M[k]=x:=by subst hM;rw[aFS _ _ _ hlt HL.out,hx]
   have Ab:∀y,(mk (.slice 159 aU) l k0:List aU.D)[k]'(by rw[HL.out];exact hlt)=y->M.set k y=(mk (.slice 159 aU) l k0:List aU.D).take (k+1)++l.drop (k+1):=fun y hy=>by subst hM;exact aFM _ _ _ hlt HL.out _ hy
   have hmk:=aPI (e:=159) (t:=aU) l k0 k hlt (by rw[HL.out];exact hlt)
   rw[hx,<-hkk.out] at hmk
   have hs1:=gN (cR aU) l k hlt
   have hs2:=sL (cR aU) l (k+1)
   rw[hx] at hs1
   have An:Un (.slice 159 aU) wr [.slice p l.length cap] (M.set k x) bl:=by have Ae:=hf.out;rw[<-hM] at Ae;rw[<-A5,List.set_getElem_self];exact Ae
   have Bm:kk+(cR aU x:Nat)<=1000000000000:=by have:=hkk.out;omega
   have HS1:=Lib.hid hs1;have HSET:=Lib.hid Ab;have HMK:=Lib.hid hmk
   clear hx hM hs1 hs2 Ab hmk hf A5
   obtain⟨x0,x1⟩:=x
   have Ao:cR aU (x0,x1)=1+1:=by first|rfl|(simp only[cR];omega)
   rw[Ao] at Bm
   clear Ao
   obtain⟨b0,cap0,cu0,bu0,hv0,Af,Ad,hc0,Aq,hn0,hs0,Au,A8⟩:=jP An hnd hkl [false]
   simp only[Value.slice.injEq,eW,Addr.mk.injEq,and_true] at hv0
   obtain⟨rfl,-,-⟩:=hv0
   have hq0:Un pN wr cu0 x0 bu0:=Aq
   have hl0:cu0.length=1:=by rw[hq0.1];rfl
   have e0:∃u,wr.cell? ⟨b0,k * 2,none⟩=some u:=⟨_,hc0 0 (by rw[hl0];exact Nat.zero_lt_one)⟩
   obtain⟨u0,e0⟩:=e0
   have g0:wr.frozen? ⟨b0,k * 2,none⟩=false:=Ad _
   have hg0:Un (.slice 159 aU) (wr.setCell ⟨b0,k * 2,none⟩ (.int .i64 (kk))) [.slice (some ⟨b0,0,none⟩) l.length cap] (M.set k (aMM aU [false] _ (show Ty.D pN from(kk:Int)))) bl:=A8 (.int .i64 (kk)) _ hl0 ⟨rfl,aAF (show -9223372036854775808<=(kk:Int)/\(kk:Int)<=9223372036854775807 by omega),hq0.2.2⟩
   have hb0:Only bl w (wr.setCell ⟨b0,k * 2,none⟩ (.int .i64 (kk))):=Only.setCell hb Af _
   clear Au A8 hc0 Ad Aq hq0 hl0
   obtain⟨b1,cap1,cu1,bu1,hv1,Cj,Am,hc1,Ap,Ah,hs1,A9,Bs⟩:=jP hg0 hnd hkl [true]
   simp only[Value.slice.injEq,eW,Addr.mk.injEq,and_true] at hv1
   obtain⟨hvb,-,-⟩:=hv1
   subst hvb
   have hq1:Un pN (wr.setCell ⟨b0,k * 2,none⟩ (.int .i64 (kk))) cu1 x1 bu1:=Ap
   have A0:cu1.length=1:=by rw[hq1.1];rfl
   have e1:∃u,(wr.setCell ⟨b0,k * 2,none⟩ (.int .i64 (kk))).cell? ⟨b0,k * 2+1,none⟩=some u:=⟨_,hc1 0 (by rw[A0];exact Nat.zero_lt_one)⟩
   obtain⟨u1,e1⟩:=e1
   have g1:(wr.setCell ⟨b0,k * 2,none⟩ (.int .i64 (kk))).frozen? ⟨b0,k * 2+1,none⟩=false:=Am _
   have hg1:Un (.slice 159 aU) ((wr.setCell ⟨b0,k * 2,none⟩ (.int .i64 (kk))).setCell ⟨b0,k * 2+1,none⟩ (.int .i64 (kk+1))) [.slice (some ⟨b0,0,none⟩) l.length cap] (M.set k (aMM aU [true] _ (show Ty.D pN from(kk+1:Int)))) bl:=Bs (.int .i64 (kk+1)) _ A0 ⟨rfl,aAF (show -9223372036854775808<=(kk+1:Int)/\(kk+1:Int)<=9223372036854775807 by omega),hq1.2.2⟩
   have hb1:Only bl w ((wr.setCell ⟨b0,k * 2,none⟩ (.int .i64 (kk))).setCell ⟨b0,k * 2+1,none⟩ (.int .i64 (kk+1))):=Only.setCell hb0 Af _
   clear A9 Bs hc1 Am Ap hq1 A0
   have HF:=Lib.hid hg1
   clear An hg0 hg1
   go_wp2
   go_roundw
   case rel =>
    refine⟨k+1,by omega,by go_num,⟨_,rfl,by show _=_;have:=HS1.out;have:=hkk.out;have Bp:cR aU (x0,x1)=1+1:=(by first|rfl|(simp only[cR];omega));omega,by omega,by omega⟩,hb1,?_⟩
    have h2:=HF.out
    rw[HSET.out _ (HMK.out.trans (by rfl))] at h2
    exact h2
   case measure=>simp[intOf];omega
  ·go_wp2
   go_ret
   obtain rfl:k=l.length:=by omega
   have hkk:=hkk.out
   rw[List.take_length] at hkk
   refine⟨aDQ (by rw[mP];exact hkk),?_,hb⟩
   have hf:=hf.out
   have e1:(mk (.slice 159 aU) l k0:List aU.D).take l.length++l.drop l.length=mk (.slice 159 aU) l k0:=by
    rw[List.drop_length,List.append_nil,List.take_of_length_le (by rw[HL.out];exact Nat.le_refl _)]
   rw[e1] at hf
   exact hf
set_option maxHeartbeats 4000000 in
set_option maxRecDepth 100000 in
theorem bV5 (p:Option Addr) (len cap:Nat) (k0:Int) (l:List bK.D) (bl:List Nat) (w:World) (h:Un (.slice 243 bK) w [.slice p len cap] l bl) (hnd:bl.Nodup) (h0:0<=k0) (h1:k0+(cR (.slice 243 bK) l:Nat)<=1000000000000) :
  Calls Tryz.prog 153 #[.slice p len cap,.int .i64 k0] w (aWK (.slice 243 bK) w [.slice p len cap] (mk (.slice 243 bK) l k0) bl (k0+(cR (.slice 243 bK) l:Nat))):=by
 obtain⟨rfl,hmx⟩:=aJT h
 have HL:=Lib.hid (aB2 (e:=243) (t:=bK) l k0)
 rw[mP] at h1
 have hbl:=aF5 _ _ _ _ _ h
 unfold maxLen at hmx
 go_enter Tryz.func153,Tryz.ntmps153
 go_wp2
 go_loopw [1,5] (fun q i wr=>∃k:Nat,k<=l.length/\i = .int .i64 k/\(∃kk:Int,q = .int .i64 kk/\Hid (kk=k0+(((l.take k).map (cR bK)).sum:Nat))/\0<=kk/\kk<=1000000000000)/\Only bl w wr/\Hid (Un (.slice 243 bK) wr [.slice p l.length cap] ((mk (.slice 243 bK) l k0:List bK.D).take k++l.drop k) bl)) (fun _ i _=>l.length - (intOf i).toNat)
 case atStart=>exact⟨0,by omega,rfl,⟨_,rfl,by show _=_;simp,by omega,by omega⟩,Only.refl _ _,by show Un _ _ _ _ _;simpa using h⟩
 case round =>
  obtain⟨k,hk,rfl,⟨kk,rfl,hkk,Ch,hk1⟩,hb,hf⟩:=hrel
  clear h
  by_cases hlt:k<l.length
  ·obtain⟨M,hM⟩:∃M,M=(mk (.slice 243 bK) l k0:List bK.D).take k++l.drop k:=⟨_,rfl⟩
   have hkl:k<M.length:=by rw[hM];simp only[List.length_append,List.length_take,List.length_drop,HL.out];omega
   obtain⟨x,hx⟩:∃x,l[k]=x:=⟨_,rfl⟩
   have A5:M[k]=x:=by subst hM;rw[aFS _ _ _ hlt HL.out,hx]
   have Ab:∀y,(mk (.slice 243 bK) l k0:List bK.D)[k]'(by rw[HL.out];exact hlt)=y->M.set k y=(mk (.slice 243 bK) l k0:List bK.D).take (k+1)++l.drop (k+1):=fun y hy=>by subst hM;exact aFM _ _ _ hlt HL.out _ hy
   have hmk:=aPI (e:=243) (t:=bK) l k0 k hlt (by rw[HL.out];exact hlt)
   rw[hx,<-hkk.out] at hmk
   have hs1:=gN (cR bK) l k hlt
   have hs2:=sL (cR bK) l (k+1)
   rw[hx] at hs1
   have An:Un (.slice 243 bK) wr [.slice p l.length cap] (M.set k x) bl:=by have Ae:=hf.out;rw[<-hM] at Ae;rw[<-A5,List.set_getElem_self];exact Ae
   have Bm:kk+(cR bK x:Nat)<=1000000000000:=by have:=hkk.out;omega
   have HS1:=Lib.hid hs1;have HSET:=Lib.hid Ab;have HMK:=Lib.hid hmk
   clear hx hM hs1 hs2 Ab hmk hf A5
   obtain⟨x0,⟨x1,⟨x2,x3⟩⟩⟩:=x
   have Ao:cR bK (x0,(x1,(x2,x3)))=1+1+1+cR aA x3:=by first|rfl|(simp only[cR];omega)
   rw[Ao] at Bm
   clear Ao
   obtain⟨b0,cap0,cu0,bu0,hv0,Af,Ad,hc0,Aq,hn0,hs0,Au,A8⟩:=jP An hnd hkl [false]
   simp only[Value.slice.injEq,eW,Addr.mk.injEq,and_true] at hv0
   obtain⟨rfl,-,-⟩:=hv0
   have hq0:Un pN wr cu0 x0 bu0:=Aq
   have hl0:cu0.length=1:=by rw[hq0.1];rfl
   have e0:∃u,wr.cell? ⟨b0,k * 4,none⟩=some u:=⟨_,hc0 0 (by rw[hl0];exact Nat.zero_lt_one)⟩
   obtain⟨u0,e0⟩:=e0
   have g0:wr.frozen? ⟨b0,k * 4,none⟩=false:=Ad _
   have hg0:Un (.slice 243 bK) (wr.setCell ⟨b0,k * 4,none⟩ (.int .i64 (kk))) [.slice (some ⟨b0,0,none⟩) l.length cap] (M.set k (aMM bK [false] _ (show Ty.D pN from(kk:Int)))) bl:=A8 (.int .i64 (kk)) _ hl0 ⟨rfl,aAF (show -9223372036854775808<=(kk:Int)/\(kk:Int)<=9223372036854775807 by omega),hq0.2.2⟩
   have hb0:Only bl w (wr.setCell ⟨b0,k * 4,none⟩ (.int .i64 (kk))):=Only.setCell hb Af _
   clear Au A8 hc0 Ad Aq hq0 hl0
   obtain⟨b1,cap1,cu1,bu1,hv1,Cj,Am,hc1,Ap,Ah,hs1,A9,Bs⟩:=jP hg0 hnd hkl [true,false]
   simp only[Value.slice.injEq,eW,Addr.mk.injEq,and_true] at hv1
   obtain⟨hvb,-,-⟩:=hv1
   subst hvb
   have hq1:Un pN (wr.setCell ⟨b0,k * 4,none⟩ (.int .i64 (kk))) cu1 x1 bu1:=Ap
   have A0:cu1.length=1:=by rw[hq1.1];rfl
   have e1:∃u,(wr.setCell ⟨b0,k * 4,none⟩ (.int .i64 (kk))).cell? ⟨b0,k * 4+1,none⟩=some u:=⟨_,hc1 0 (by rw[A0];exact Nat.zero_lt_one)⟩
   obtain⟨u1,e1⟩:=e1
   have g1:(wr.setCell ⟨b0,k * 4,none⟩ (.int .i64 (kk))).frozen? ⟨b0,k * 4+1,none⟩=false:=Am _
   have hg1:Un (.slice 243 bK) ((wr.setCell ⟨b0,k * 4,none⟩ (.int .i64 (kk))).setCell ⟨b0,k * 4+1,none⟩ (.int .i64 (kk+1))) [.slice (some ⟨b0,0,none⟩) l.length cap] (M.set k (aMM bK [true,false] _ (show Ty.D pN from(kk+1:Int)))) bl:=Bs (.int .i64 (kk+1)) _ A0 ⟨rfl,aAF (show -9223372036854775808<=(kk+1:Int)/\(kk+1:Int)<=9223372036854775807 by omega),hq1.2.2⟩
   have hb1:Only bl w ((wr.setCell ⟨b0,k * 4,none⟩ (.int .i64 (kk))).setCell ⟨b0,k * 4+1,none⟩ (.int .i64 (kk+1))):=Only.setCell hb0 Af _
   clear A9 Bs hc1 Am Ap hq1 A0
   obtain⟨b2,cap2,cu2,bu2,hv2,Ir,Dd,hc2,Dg,A7,hs2,En,G5⟩:=jP hg1 hnd hkl [true,true,false]
   simp only[Value.slice.injEq,eW,Addr.mk.injEq,and_true] at hv2
   obtain⟨hvb,-,-⟩:=hv2
   subst hvb
   have hq2:Un pN ((wr.setCell ⟨b0,k * 4,none⟩ (.int .i64 (kk))).setCell ⟨b0,k * 4+1,none⟩ (.int .i64 (kk+1))) cu2 x2 bu2:=Dg
   have hl2:cu2.length=1:=by rw[hq2.1];rfl
   have e2:∃u,((wr.setCell ⟨b0,k * 4,none⟩ (.int .i64 (kk))).setCell ⟨b0,k * 4+1,none⟩ (.int .i64 (kk+1))).cell? ⟨b0,k * 4+2,none⟩=some u:=⟨_,hc2 0 (by rw[hl2];exact Nat.zero_lt_one)⟩
   obtain⟨u2,e2⟩:=e2
   have g2:((wr.setCell ⟨b0,k * 4,none⟩ (.int .i64 (kk))).setCell ⟨b0,k * 4+1,none⟩ (.int .i64 (kk+1))).frozen? ⟨b0,k * 4+2,none⟩=false:=Dd _
   have hg2:Un (.slice 243 bK) (((wr.setCell ⟨b0,k * 4,none⟩ (.int .i64 (kk))).setCell ⟨b0,k * 4+1,none⟩ (.int .i64 (kk+1))).setCell ⟨b0,k * 4+2,none⟩ (.int .i64 (kk+1+1))) [.slice (some ⟨b0,0,none⟩) l.length cap] (M.set k (aMM bK [true,true,false] _ (show Ty.D pN from(kk+1+1:Int)))) bl:=G5 (.int .i64 (kk+1+1)) _ hl2 ⟨rfl,aAF (show -9223372036854775808<=(kk+1+1:Int)/\(kk+1+1:Int)<=9223372036854775807 by omega),hq2.2.2⟩
   have hb2:Only bl w (((wr.setCell ⟨b0,k * 4,none⟩ (.int .i64 (kk))).setCell ⟨b0,k * 4+1,none⟩ (.int .i64 (kk+1))).setCell ⟨b0,k * 4+2,none⟩ (.int .i64 (kk+1+1))):=Only.setCell hb1 Af _
   clear En G5 hc2 Dd Dg hq2 hl2
   obtain⟨b3,cap3,cu3,bu3,hv3,Iq,Dc,hc3,Df,Ep,hs3,Em,G4⟩:=jP hg2 hnd hkl [true,true,true]
   simp only[Value.slice.injEq,eW,Addr.mk.injEq,and_true] at hv3
   obtain⟨hvb,-,-⟩:=hv3
   subst hvb
   obtain⟨p3,n3,q3,rfl⟩:=tR Df
   have e3:(((wr.setCell ⟨b0,k * 4,none⟩ (.int .i64 (kk))).setCell ⟨b0,k * 4+1,none⟩ (.int .i64 (kk+1))).setCell ⟨b0,k * 4+2,none⟩ (.int .i64 (kk+1+1))).cell? ⟨b0,k * 4+3,none⟩=some (.slice p3 n3 q3):=hc3 0 Nat.zero_lt_one
   have HA3:=Lib.hid Em;clear Em G4 hc3 Dc
   go_wp2_with fail
   refine(rC _ _ _ _ x3 _ _ (by exact Df) Ep (by omega) (by have:=zI x3;omega)).mono ?_
   rintro e w3 ⟨rfl,rp3,on3⟩
   have hg3:=HA3.out w3 _ (fun q hq hz=>on3.block q hq hz) rp3
   have hb3:Only bl w w3:=Only.trans hb2 (on3.mono hs3)
   clear HA3 rp3 Df e3
   have HF:=Lib.hid hg3
   clear An hg0 hg1 hg2 hg3
   go_wp2
   go_roundw
   case rel =>
    refine⟨k+1,by omega,by go_num,⟨_,rfl,by show _=_;have:=HS1.out;have:=hkk.out;have Bp:cR bK (x0,(x1,(x2,x3)))=1+1+1+cR aA x3:=(by first|rfl|(simp only[cR];omega));omega,by omega,by omega⟩,hb3,?_⟩
    have h2:=HF.out
    rw[HSET.out _ (HMK.out.trans (by rfl))] at h2
    exact h2
   case measure=>simp[intOf];omega
  ·go_wp2
   go_ret
   obtain rfl:k=l.length:=by omega
   have hkk:=hkk.out
   rw[List.take_length] at hkk
   refine⟨aDQ (by rw[mP];exact hkk),?_,hb⟩
   have hf:=hf.out
   have e1:(mk (.slice 243 bK) l k0:List bK.D).take l.length++l.drop l.length=mk (.slice 243 bK) l k0:=by
    rw[List.drop_length,List.append_nil,List.take_of_length_le (by rw[HL.out];exact Nat.le_refl _)]
   rw[e1] at hf
   exact hf
set_option maxHeartbeats 4000000 in
set_option maxRecDepth 100000 in
theorem bI3 (p:Option Addr) (len cap:Nat) (k0:Int) (l:List aJ.D) (bl:List Nat) (w:World) (h:Un (.slice 245 aJ) w [.slice p len cap] l bl) (hnd:bl.Nodup) (h0:0<=k0) (h1:k0+(cR (.slice 245 aJ) l:Nat)<=1000000000000) :
  Calls Tryz.prog 181 #[.slice p len cap,.int .i64 k0] w (aWK (.slice 245 aJ) w [.slice p len cap] (mk (.slice 245 aJ) l k0) bl (k0+(cR (.slice 245 aJ) l:Nat))):=by
 obtain⟨rfl,hmx⟩:=aJT h
 have HL:=Lib.hid (aB2 (e:=245) (t:=aJ) l k0)
 rw[mP] at h1
 have hbl:=aF5 _ _ _ _ _ h
 unfold maxLen at hmx
 go_enter Tryz.func181,Tryz.ntmps181
 go_wp2
 go_loopw [1,5] (fun q i wr=>∃k:Nat,k<=l.length/\i = .int .i64 k/\(∃kk:Int,q = .int .i64 kk/\Hid (kk=k0+(((l.take k).map (cR aJ)).sum:Nat))/\0<=kk/\kk<=1000000000000)/\Only bl w wr/\Hid (Un (.slice 245 aJ) wr [.slice p l.length cap] ((mk (.slice 245 aJ) l k0:List aJ.D).take k++l.drop k) bl)) (fun _ i _=>l.length - (intOf i).toNat)
 case atStart=>exact⟨0,by omega,rfl,⟨_,rfl,by show _=_;simp,by omega,by omega⟩,Only.refl _ _,by show Un _ _ _ _ _;simpa using h⟩
 case round =>
  obtain⟨k,hk,rfl,⟨kk,rfl,hkk,Ch,hk1⟩,hb,hf⟩:=hrel
  clear h
  by_cases hlt:k<l.length
  ·obtain⟨M,hM⟩:∃M,M=(mk (.slice 245 aJ) l k0:List aJ.D).take k++l.drop k:=⟨_,rfl⟩
   have hkl:k<M.length:=by rw[hM];simp only[List.length_append,List.length_take,List.length_drop,HL.out];omega
   obtain⟨x,hx⟩:∃x,l[k]=x:=⟨_,rfl⟩
   have A5:M[k]=x:=by subst hM;rw[aFS _ _ _ hlt HL.out,hx]
   have Ab:∀y,(mk (.slice 245 aJ) l k0:List aJ.D)[k]'(by rw[HL.out];exact hlt)=y->M.set k y=(mk (.slice 245 aJ) l k0:List aJ.D).take (k+1)++l.drop (k+1):=fun y hy=>by subst hM;exact aFM _ _ _ hlt HL.out _ hy
   have hmk:=aPI (e:=245) (t:=aJ) l k0 k hlt (by rw[HL.out];exact hlt)
   rw[hx,<-hkk.out] at hmk
   have hs1:=gN (cR aJ) l k hlt
   have hs2:=sL (cR aJ) l (k+1)
   rw[hx] at hs1
   have An:Un (.slice 245 aJ) wr [.slice p l.length cap] (M.set k x) bl:=by have Ae:=hf.out;rw[<-hM] at Ae;rw[<-A5,List.set_getElem_self];exact Ae
   have Bm:kk+(cR aJ x:Nat)<=1000000000000:=by have:=hkk.out;omega
   have HS1:=Lib.hid hs1;have HSET:=Lib.hid Ab;have HMK:=Lib.hid hmk
   clear hx hM hs1 hs2 Ab hmk hf A5
   obtain⟨x0,x1⟩:=x
   have Ao:cR aJ (x0,x1)=1+cR (.slice 253 fD) x1:=by first|rfl|(simp only[cR];omega)
   rw[Ao] at Bm
   clear Ao
   obtain⟨b0,cap0,cu0,bu0,hv0,Af,Ad,hc0,Aq,hn0,hs0,Au,A8⟩:=jP An hnd hkl [false]
   simp only[Value.slice.injEq,eW,Addr.mk.injEq,and_true] at hv0
   obtain⟨rfl,-,-⟩:=hv0
   have hq0:Un pN wr cu0 x0 bu0:=Aq
   have hl0:cu0.length=1:=by rw[hq0.1];rfl
   have e0:∃u,wr.cell? ⟨b0,k * 2,none⟩=some u:=⟨_,hc0 0 (by rw[hl0];exact Nat.zero_lt_one)⟩
   obtain⟨u0,e0⟩:=e0
   have g0:wr.frozen? ⟨b0,k * 2,none⟩=false:=Ad _
   have hg0:Un (.slice 245 aJ) (wr.setCell ⟨b0,k * 2,none⟩ (.int .i64 (kk))) [.slice (some ⟨b0,0,none⟩) l.length cap] (M.set k (aMM aJ [false] _ (show Ty.D pN from(kk:Int)))) bl:=A8 (.int .i64 (kk)) _ hl0 ⟨rfl,aAF (show -9223372036854775808<=(kk:Int)/\(kk:Int)<=9223372036854775807 by omega),hq0.2.2⟩
   have hb0:Only bl w (wr.setCell ⟨b0,k * 2,none⟩ (.int .i64 (kk))):=Only.setCell hb Af _
   clear Au A8 hc0 Ad Aq hq0 hl0
   obtain⟨b1,cap1,cu1,bu1,hv1,Cj,Am,hc1,Ap,Ah,hs1,A9,Bs⟩:=jP hg0 hnd hkl [true]
   simp only[Value.slice.injEq,eW,Addr.mk.injEq,and_true] at hv1
   obtain⟨hvb,-,-⟩:=hv1
   subst hvb
   obtain⟨p1,n1,q1,rfl⟩:=tR Ap
   have e1:(wr.setCell ⟨b0,k * 2,none⟩ (.int .i64 (kk))).cell? ⟨b0,k * 2+1,none⟩=some (.slice p1 n1 q1):=hc1 0 Nat.zero_lt_one
   have HA1:=Lib.hid A9;clear A9 Bs hc1 Am
   go_wp2_with fail
   refine(aOM _ _ _ _ x1 _ _ (by exact Ap) Ah (by omega) (by omega)).mono ?_
   rintro e w1 ⟨rfl,rp1,on1⟩
   have hg1:=HA1.out w1 _ (fun q hq hz=>on1.block q hq hz) rp1
   have hb1:Only bl w w1:=Only.trans hb0 (on1.mono hs1)
   clear HA1 rp1 Ap e1
   have HF:=Lib.hid hg1
   clear An hg0 hg1
   go_wp2
   go_roundw
   case rel =>
    refine⟨k+1,by omega,by go_num,⟨_,rfl,by show _=_;have:=HS1.out;have:=hkk.out;have Bp:cR aJ (x0,x1)=1+cR (.slice 253 fD) x1:=(by first|rfl|(simp only[cR];omega));omega,by omega,by omega⟩,hb1,?_⟩
    have h2:=HF.out
    rw[HSET.out _ (HMK.out.trans (by rfl))] at h2
    exact h2
   case measure=>simp[intOf];omega
  ·go_wp2
   go_ret
   obtain rfl:k=l.length:=by omega
   have hkk:=hkk.out
   rw[List.take_length] at hkk
   refine⟨aDQ (by rw[mP];exact hkk),?_,hb⟩
   have hf:=hf.out
   have e1:(mk (.slice 245 aJ) l k0:List aJ.D).take l.length++l.drop l.length=mk (.slice 245 aJ) l k0:=by
    rw[List.drop_length,List.append_nil,List.take_of_length_le (by rw[HL.out];exact Nat.le_refl _)]
   rw[e1] at hf
   exact hf
set_option maxHeartbeats 4000000 in
set_option maxRecDepth 100000 in
theorem bIB (p:Option Addr) (len cap:Nat) (k0:Int) (l:List aB.D) (bl:List Nat) (w:World) (h:Un (.slice 142 aB) w [.slice p len cap] l bl) (hnd:bl.Nodup) (h0:0<=k0) (h1:k0+(cR (.slice 142 aB) l:Nat)<=1000000000000) :
  Calls Tryz.prog 87 #[.slice p len cap,.int .i64 k0] w (aWK (.slice 142 aB) w [.slice p len cap] (mk (.slice 142 aB) l k0) bl (k0+(cR (.slice 142 aB) l:Nat))):=by
 obtain⟨rfl,hmx⟩:=aJT h
 have HL:=Lib.hid (aB2 (e:=142) (t:=aB) l k0)
 rw[mP] at h1
 have hbl:=aF5 _ _ _ _ _ h
 unfold maxLen at hmx
 go_enter Tryz.func87,Tryz.ntmps87
 go_wp2
 go_loopw [1,5] (fun q i wr=>∃k:Nat,k<=l.length/\i = .int .i64 k/\(∃kk:Int,q = .int .i64 kk/\Hid (kk=k0+(((l.take k).map (cR aB)).sum:Nat))/\0<=kk/\kk<=1000000000000)/\Only bl w wr/\Hid (Un (.slice 142 aB) wr [.slice p l.length cap] ((mk (.slice 142 aB) l k0:List aB.D).take k++l.drop k) bl)) (fun _ i _=>l.length - (intOf i).toNat)
 case atStart=>exact⟨0,by omega,rfl,⟨_,rfl,by show _=_;simp,by omega,by omega⟩,Only.refl _ _,by show Un _ _ _ _ _;simpa using h⟩
 case round =>
  obtain⟨k,hk,rfl,⟨kk,rfl,hkk,Ch,hk1⟩,hb,hf⟩:=hrel
  clear h
  by_cases hlt:k<l.length
  ·obtain⟨M,hM⟩:∃M,M=(mk (.slice 142 aB) l k0:List aB.D).take k++l.drop k:=⟨_,rfl⟩
   have hkl:k<M.length:=by rw[hM];simp only[List.length_append,List.length_take,List.length_drop,HL.out];omega
   obtain⟨x,hx⟩:∃x,l[k]=x:=⟨_,rfl⟩
   have A5:M[k]=x:=by subst hM;rw[aFS _ _ _ hlt HL.out,hx]
   have Ab:∀y,(mk (.slice 142 aB) l k0:List aB.D)[k]'(by rw[HL.out];exact hlt)=y->M.set k y=(mk (.slice 142 aB) l k0:List aB.D).take (k+1)++l.drop (k+1):=fun y hy=>by subst hM;exact aFM _ _ _ hlt HL.out _ hy
   have hmk:=aPI (e:=142) (t:=aB) l k0 k hlt (by rw[HL.out];exact hlt)
   rw[hx,<-hkk.out] at hmk
   have hs1:=gN (cR aB) l k hlt
   have hs2:=sL (cR aB) l (k+1)
   rw[hx] at hs1
   have An:Un (.slice 142 aB) wr [.slice p l.length cap] (M.set k x) bl:=by have Ae:=hf.out;rw[<-hM] at Ae;rw[<-A5,List.set_getElem_self];exact Ae
   have Bm:kk+(cR aB x:Nat)<=1000000000000:=by have:=hkk.out;omega
   have HS1:=Lib.hid hs1;have HSET:=Lib.hid Ab;have HMK:=Lib.hid hmk
   clear hx hM hs1 hs2 Ab hmk hf A5
   obtain⟨x0,⟨x1,⟨x2,⟨x3,⟨x4,⟨x5,⟨x6,⟨x7,⟨x8,⟨x9,⟨x10,⟨x11,⟨x12,x13⟩⟩⟩⟩⟩⟩⟩⟩⟩⟩⟩⟩⟩:=x
   have Ao:cR aB (x0,(x1,(x2,(x3,(x4,(x5,(x6,(x7,(x8,(x9,(x10,(x11,(x12,x13)))))))))))))=1+cR (.slice 159 aU) x1+cR (.slice 243 bK) x2+1+1+cR (.slice 245 aJ) x5+cR (.slice 253 fD) x6+cR aA x7+cR aA x8+cR aA x9+cR aA x10+cR (.slice 253 fD) x11+1+1:=by first|rfl|(simp only[cR];omega)
   rw[Ao] at Bm
   clear Ao
   obtain⟨b0,cap0,cu0,bu0,hv0,Af,Ad,hc0,Aq,hn0,hs0,Au,A8⟩:=jP An hnd hkl [false]
   simp only[Value.slice.injEq,eW,Addr.mk.injEq,and_true] at hv0
   obtain⟨rfl,-,-⟩:=hv0
   have hq0:Un pN wr cu0 x0 bu0:=Aq
   have hl0:cu0.length=1:=by rw[hq0.1];rfl
   have e0:∃u,wr.cell? ⟨b0,k * 14,none⟩=some u:=⟨_,hc0 0 (by rw[hl0];exact Nat.zero_lt_one)⟩
   obtain⟨u0,e0⟩:=e0
   have g0:wr.frozen? ⟨b0,k * 14,none⟩=false:=Ad _
   have hg0:Un (.slice 142 aB) (wr.setCell ⟨b0,k * 14,none⟩ (.int .i64 (kk))) [.slice (some ⟨b0,0,none⟩) l.length cap] (M.set k (aMM aB [false] _ (show Ty.D pN from(kk:Int)))) bl:=A8 (.int .i64 (kk)) _ hl0 ⟨rfl,aAF (show -9223372036854775808<=(kk:Int)/\(kk:Int)<=9223372036854775807 by omega),hq0.2.2⟩
   have hb0:Only bl w (wr.setCell ⟨b0,k * 14,none⟩ (.int .i64 (kk))):=Only.setCell hb Af _
   clear Au A8 hc0 Ad Aq hq0 hl0
   obtain⟨b1,cap1,cu1,bu1,hv1,Cj,Am,hc1,Ap,Ah,hs1,A9,Bs⟩:=jP hg0 hnd hkl [true,false]
   simp only[Value.slice.injEq,eW,Addr.mk.injEq,and_true] at hv1
   obtain⟨hvb,-,-⟩:=hv1
   subst hvb
   obtain⟨p1,n1,q1,rfl⟩:=tR Ap
   have e1:(wr.setCell ⟨b0,k * 14,none⟩ (.int .i64 (kk))).cell? ⟨b0,k * 14+1,none⟩=some (.slice p1 n1 q1):=hc1 0 Nat.zero_lt_one
   have HA1:=Lib.hid A9;clear A9 Bs hc1 Am
   go_wp2_with fail
   refine(bSP _ _ _ _ x1 _ _ (by exact Ap) Ah (by omega) (by omega)).mono ?_
   rintro e w1 ⟨rfl,rp1,on1⟩
   have hg1:=HA1.out w1 _ (fun q hq hz=>on1.block q hq hz) rp1
   have hb1:Only bl w w1:=Only.trans hb0 (on1.mono hs1)
   clear HA1 rp1 Ap e1
   obtain⟨b2,cap2,cu2,bu2,hv2,Ir,Dd,hc2,Dg,A7,hs2,En,G5⟩:=jP hg1 hnd hkl [true,true,false]
   simp only[Value.slice.injEq,eW,Addr.mk.injEq,and_true] at hv2
   obtain⟨hvb,-,-⟩:=hv2
   subst hvb
   obtain⟨p2,n2,q2,rfl⟩:=tR Dg
   have e2:w1.cell? ⟨b0,k * 14+2,none⟩=some (.slice p2 n2 q2):=hc2 0 Nat.zero_lt_one
   have HA2:=Lib.hid En;clear En G5 hc2 Dd
   go_wp2_with fail
   refine(bV5 _ _ _ _ x2 _ _ (by exact Dg) A7 (by omega) (by omega)).mono ?_
   rintro e w2 ⟨rfl,rp2,on2⟩
   have hg2:=HA2.out w2 _ (fun q hq hz=>on2.block q hq hz) rp2
   have hb2:Only bl w w2:=Only.trans hb1 (on2.mono hs2)
   clear HA2 rp2 Dg e2
   obtain⟨b3,cap3,cu3,bu3,hv3,Iq,Dc,hc3,Df,Ep,hs3,Em,G4⟩:=jP hg2 hnd hkl [true,true,true,false]
   simp only[Value.slice.injEq,eW,Addr.mk.injEq,and_true] at hv3
   obtain⟨hvb,-,-⟩:=hv3
   subst hvb
   have D7:Un .bool w2 cu3 x3 bu3:=Df
   have Cl:cu3.length=1:=by rw[D7.1];rfl
   have e3:∃u,w2.cell? ⟨b0,k * 14+3,none⟩=some u:=⟨_,hc3 0 (by rw[Cl];exact Nat.zero_lt_one)⟩
   obtain⟨u3,e3⟩:=e3
   have g3:w2.frozen? ⟨b0,k * 14+3,none⟩=false:=Dc _
   have hg3:Un (.slice 142 aB) (w2.setCell ⟨b0,k * 14+3,none⟩ (.bool ((kk+1+(cR (.slice 159 aU) x1:Nat)+(cR (.slice 243 bK) x2:Nat):Int) % 3==0))) [.slice (some ⟨b0,0,none⟩) l.length cap] (M.set k (aMM aB [true,true,true,false] _ (show Ty.D .bool from((kk+1+(cR (.slice 159 aU) x1:Nat)+(cR (.slice 243 bK) x2:Nat):Int) % 3==0)))) bl:=G4 (.bool ((kk+1+(cR (.slice 159 aU) x1:Nat)+(cR (.slice 243 bK) x2:Nat):Int) % 3==0)) _ Cl ⟨rfl,D7.2⟩
   have hb3:Only bl w (w2.setCell ⟨b0,k * 14+3,none⟩ (.bool ((kk+1+(cR (.slice 159 aU) x1:Nat)+(cR (.slice 243 bK) x2:Nat):Int) % 3==0))):=Only.setCell hb2 Af _
   clear Em G4 hc3 Dc Df D7 Cl
   obtain⟨b4,cap4,cu4,bu4,hv4,Mo,Fp,F3,Ko,J1,hs4,M3,hB4⟩:=jP hg3 hnd hkl [true,true,true,true,false]
   simp only[Value.slice.injEq,eW,Addr.mk.injEq,and_true] at hv4
   obtain⟨hvb,-,-⟩:=hv4
   subst hvb
   have Lh:Un .bool (w2.setCell ⟨b0,k * 14+3,none⟩ (.bool ((kk+1+(cR (.slice 159 aU) x1:Nat)+(cR (.slice 243 bK) x2:Nat):Int) % 3==0))) cu4 x4 bu4:=Ko
   have hl4:cu4.length=1:=by rw[Lh.1];rfl
   have e4:∃u,(w2.setCell ⟨b0,k * 14+3,none⟩ (.bool ((kk+1+(cR (.slice 159 aU) x1:Nat)+(cR (.slice 243 bK) x2:Nat):Int) % 3==0))).cell? ⟨b0,k * 14+4,none⟩=some u:=⟨_,F3 0 (by rw[hl4];exact Nat.zero_lt_one)⟩
   obtain⟨u4,e4⟩:=e4
   have g4:(w2.setCell ⟨b0,k * 14+3,none⟩ (.bool ((kk+1+(cR (.slice 159 aU) x1:Nat)+(cR (.slice 243 bK) x2:Nat):Int) % 3==0))).frozen? ⟨b0,k * 14+4,none⟩=false:=Fp _
   have hg4:Un (.slice 142 aB) ((w2.setCell ⟨b0,k * 14+3,none⟩ (.bool ((kk+1+(cR (.slice 159 aU) x1:Nat)+(cR (.slice 243 bK) x2:Nat):Int) % 3==0))).setCell ⟨b0,k * 14+4,none⟩ (.bool ((kk+1+(cR (.slice 159 aU) x1:Nat)+(cR (.slice 243 bK) x2:Nat)+1:Int) % 3==0))) [.slice (some ⟨b0,0,none⟩) l.length cap] (M.set k (aMM aB [true,true,true,true,false] _ (show Ty.D .bool from((kk+1+(cR (.slice 159 aU) x1:Nat)+(cR (.slice 243 bK) x2:Nat)+1:Int) % 3==0)))) bl:=hB4 (.bool ((kk+1+(cR (.slice 159 aU) x1:Nat)+(cR (.slice 243 bK) x2:Nat)+1:Int) % 3==0)) _ hl4 ⟨rfl,Lh.2⟩
   have hb4:Only bl w ((w2.setCell ⟨b0,k * 14+3,none⟩ (.bool ((kk+1+(cR (.slice 159 aU) x1:Nat)+(cR (.slice 243 bK) x2:Nat):Int) % 3==0))).setCell ⟨b0,k * 14+4,none⟩ (.bool ((kk+1+(cR (.slice 159 aU) x1:Nat)+(cR (.slice 243 bK) x2:Nat)+1:Int) % 3==0))):=Only.setCell hb3 Af _
   clear M3 hB4 F3 Fp Ko Lh hl4
   obtain⟨b5,cap5,cu5,bu5,Jr,Mn,Ih,Ki,I8,Lv,hs5,Jb,M2⟩:=jP hg4 hnd hkl [true,true,true,true,true,false]
   simp only[Value.slice.injEq,eW,Addr.mk.injEq,and_true] at Jr
   obtain⟨hvb,-,-⟩:=Jr
   subst hvb
   obtain⟨p5,n5,q5,rfl⟩:=tR I8
   have e5:((w2.setCell ⟨b0,k * 14+3,none⟩ (.bool ((kk+1+(cR (.slice 159 aU) x1:Nat)+(cR (.slice 243 bK) x2:Nat):Int) % 3==0))).setCell ⟨b0,k * 14+4,none⟩ (.bool ((kk+1+(cR (.slice 159 aU) x1:Nat)+(cR (.slice 243 bK) x2:Nat)+1:Int) % 3==0))).cell? ⟨b0,k * 14+5,none⟩=some (.slice p5 n5 q5):=Ki 0 Nat.zero_lt_one
   have HA5:=Lib.hid Jb;clear Jb M2 Ki Ih
   go_wp2_with fail
   refine(bI3 _ _ _ _ x5 _ _ (by exact I8) Lv (by omega) (by omega)).mono ?_
   rintro e w5 ⟨rfl,rp5,on5⟩
   have Kb:=HA5.out w5 _ (fun q hq hz=>on5.block q hq hz) rp5
   have Gz:Only bl w w5:=Only.trans hb4 (on5.mono hs5)
   clear HA5 rp5 I8 e5
   obtain⟨b6,cap6,cu6,bu6,Jq,Mm,Ig,Gw,I7,J0,Ld,Kx,M1⟩:=jP Kb hnd hkl [true,true,true,true,true,true,false]
   simp only[Value.slice.injEq,eW,Addr.mk.injEq,and_true] at Jq
   obtain⟨hvb,-,-⟩:=Jq
   subst hvb
   obtain⟨p6,n6,q6,rfl⟩:=tR I7
   have e6:w5.cell? ⟨b0,k * 14+6,none⟩=some (.slice p6 n6 q6):=Gw 0 Nat.zero_lt_one
   have HA6:=Lib.hid Kx;clear Kx M1 Gw Ig
   go_wp2_with fail
   refine(aOM _ _ _ _ x6 _ _ (by exact I7) J0 (by omega) (by omega)).mono ?_
   rintro e w6 ⟨rfl,rp6,on6⟩
   have Ka:=HA6.out w6 _ (fun q hq hz=>on6.block q hq hz) rp6
   have Mu:Only bl w w6:=Only.trans Gz (on6.mono Ld)
   clear HA6 rp6 I7 e6
   obtain⟨b7,cap7,cu7,bu7,Jp,Ml,Ie,Gv,I6,Jz,Lc,Kw,M0⟩:=jP Ka hnd hkl [true,true,true,true,true,true,true,false]
   simp only[Value.slice.injEq,eW,Addr.mk.injEq,and_true] at Jp
   obtain⟨hvb,-,-⟩:=Jp
   subst hvb
   obtain⟨p7,n7,q7,rfl⟩:=tR I6
   have e7:w6.cell? ⟨b0,k * 14+7,none⟩=some (.slice p7 n7 q7):=Gv 0 Nat.zero_lt_one
   have HA7:=Lib.hid Kw;clear Kw M0 Gv Ie
   go_wp2_with fail
   refine(rC _ _ _ _ x7 _ _ (by exact I6) Jz (by omega) (by have:=zI x7;omega)).mono ?_
   rintro e w7 ⟨rfl,rp7,on7⟩
   have J9:=HA7.out w7 _ (fun q hq hz=>on7.block q hq hz) rp7
   have Mt:Only bl w w7:=Only.trans Mu (on7.mono Lc)
   clear HA7 rp7 I6 e7
   obtain⟨b8,cap8,cu8,bu8,Jo,Mk,Id,Kh,I5,Eo,Lb,Kv,Mz⟩:=jP J9 hnd hkl [true,true,true,true,true,true,true,true,false]
   simp only[Value.slice.injEq,eW,Addr.mk.injEq,and_true] at Jo
   obtain⟨hvb,-,-⟩:=Jo
   subst hvb
   obtain⟨p8,n8,q8,rfl⟩:=tR I5
   have e8:w7.cell? ⟨b0,k * 14+8,none⟩=some (.slice p8 n8 q8):=Kh 0 Nat.zero_lt_one
   have HA8:=Lib.hid Kv;clear Kv Mz Kh Id
   go_wp2_with fail
   refine(rC _ _ _ _ x8 _ _ (by exact I5) Eo (by omega) (by have:=zI x8;omega)).mono ?_
   rintro e w8 ⟨rfl,rp8,on8⟩
   have J8:=HA8.out w8 _ (fun q hq hz=>on8.block q hq hz) rp8
   have Gy:Only bl w w8:=Only.trans Mt (on8.mono Lb)
   clear HA8 rp8 I5 e8
   obtain⟨b9,cap9,cu9,bu9,Jn,Mj,Ic,Kg,I4,Lu,La,Ku,My⟩:=jP J8 hnd hkl [true,true,true,true,true,true,true,true,true,false]
   simp only[Value.slice.injEq,eW,Addr.mk.injEq,and_true] at Jn
   obtain⟨hvb,-,-⟩:=Jn
   subst hvb
   obtain⟨p9,n9,q9,rfl⟩:=tR I4
   have e9:w8.cell? ⟨b0,k * 14+9,none⟩=some (.slice p9 n9 q9):=Kg 0 Nat.zero_lt_one
   have HA9:=Lib.hid Ku;clear Ku My Kg Ic
   go_wp2_with fail
   refine(rC _ _ _ _ x9 _ _ (by exact I4) Lu (by omega) (by have:=zI x9;omega)).mono ?_
   rintro e w9 ⟨rfl,rp9,on9⟩
   have J7:=HA9.out w9 _ (fun q hq hz=>on9.block q hq hz) rp9
   have Ms:Only bl w w9:=Only.trans Gy (on9.mono La)
   clear HA9 rp9 I4 e9
   obtain⟨b10,cap10,cu10,bu10,E2,Km,Fr,F7,Ek,Hu,Hd,Gl,Ja⟩:=jP J7 hnd hkl [true,true,true,true,true,true,true,true,true,true,false]
   simp only[Value.slice.injEq,eW,Addr.mk.injEq,and_true] at E2
   obtain⟨hvb,-,-⟩:=E2
   subst hvb
   obtain⟨p10,n10,q10,rfl⟩:=tR Ek
   have e10:w9.cell? ⟨b0,k * 14+10,none⟩=some (.slice p10 n10 q10):=F7 0 Nat.zero_lt_one
   have HA10:=Lib.hid Gl;clear Gl Ja F7 Fr
   go_wp2_with fail
   refine(rC _ _ _ _ x10 _ _ (by exact Ek) Hu (by omega) (by have:=zI x10;omega)).mono ?_
   rintro e w10 ⟨rfl,rp10,on10⟩
   have Fo:=HA10.out w10 _ (fun q hq hz=>on10.block q hq hz) rp10
   have Iz:Only bl w w10:=Only.trans Ms (on10.mono Hd)
   clear HA10 rp10 Ek e10
   obtain⟨b11,cap11,cu11,bu11,E1,Kl,Fq,F6,Ej,Ht,Hc,Gk,I9⟩:=jP Fo hnd hkl [true,true,true,true,true,true,true,true,true,true,true,false]
   simp only[Value.slice.injEq,eW,Addr.mk.injEq,and_true] at E1
   obtain⟨hvb,-,-⟩:=E1
   subst hvb
   obtain⟨p11,n11,q11,rfl⟩:=tR Ej
   have e11:w10.cell? ⟨b0,k * 14+11,none⟩=some (.slice p11 n11 q11):=F6 0 Nat.zero_lt_one
   have HA11:=Lib.hid Gk;clear Gk I9 F6 Fq
   go_wp2_with fail
   refine(aOM _ _ _ _ x11 _ _ (by exact Ej) Ht (by omega) (by omega)).mono ?_
   rintro e w11 ⟨rfl,rp11,on11⟩
   have Fn:=HA11.out w11 _ (fun q hq hz=>on11.block q hq hz) rp11
   have Iy:Only bl w w11:=Only.trans Iz (on11.mono Hc)
   clear HA11 rp11 Ej e11
   obtain⟨b12,cap12,cu12,bu12,E0,Kk,Ds,F5,Gg,Lx,Lf,Jd,Gj⟩:=jP Fn hnd hkl [true,true,true,true,true,true,true,true,true,true,true,true,false]
   simp only[Value.slice.injEq,eW,Addr.mk.injEq,and_true] at E0
   obtain⟨hvb,-,-⟩:=E0
   subst hvb
   have Hk:Un pN w11 cu12 x12 bu12:=Gg
   have hl12:cu12.length=1:=by rw[Hk.1];rfl
   have e12:∃u,w11.cell? ⟨b0,k * 14+12,none⟩=some u:=⟨_,F5 0 (by rw[hl12];exact Nat.zero_lt_one)⟩
   obtain⟨u12,e12⟩:=e12
   have g12:w11.frozen? ⟨b0,k * 14+12,none⟩=false:=Ds _
   have Fm:Un (.slice 142 aB) (w11.setCell ⟨b0,k * 14+12,none⟩ (.int .i64 (kk+1+(cR (.slice 159 aU) x1:Nat)+(cR (.slice 243 bK) x2:Nat)+1+1+(cR (.slice 245 aJ) x5:Nat)+(cR (.slice 253 fD) x6:Nat)+(cR aA x7:Nat)+(cR aA x8:Nat)+(cR aA x9:Nat)+(cR aA x10:Nat)+(cR (.slice 253 fD) x11:Nat)))) [.slice (some ⟨b0,0,none⟩) l.length cap] (M.set k (aMM aB [true,true,true,true,true,true,true,true,true,true,true,true,false] _ (show Ty.D pN from(kk+1+(cR (.slice 159 aU) x1:Nat)+(cR (.slice 243 bK) x2:Nat)+1+1+(cR (.slice 245 aJ) x5:Nat)+(cR (.slice 253 fD) x6:Nat)+(cR aA x7:Nat)+(cR aA x8:Nat)+(cR aA x9:Nat)+(cR aA x10:Nat)+(cR (.slice 253 fD) x11:Nat):Int)))) bl:=Gj (.int .i64 (kk+1+(cR (.slice 159 aU) x1:Nat)+(cR (.slice 243 bK) x2:Nat)+1+1+(cR (.slice 245 aJ) x5:Nat)+(cR (.slice 253 fD) x6:Nat)+(cR aA x7:Nat)+(cR aA x8:Nat)+(cR aA x9:Nat)+(cR aA x10:Nat)+(cR (.slice 253 fD) x11:Nat))) _ hl12 ⟨rfl,aAF (show -9223372036854775808<=(kk+1+(cR (.slice 159 aU) x1:Nat)+(cR (.slice 243 bK) x2:Nat)+1+1+(cR (.slice 245 aJ) x5:Nat)+(cR (.slice 253 fD) x6:Nat)+(cR aA x7:Nat)+(cR aA x8:Nat)+(cR aA x9:Nat)+(cR aA x10:Nat)+(cR (.slice 253 fD) x11:Nat):Int)/\(kk+1+(cR (.slice 159 aU) x1:Nat)+(cR (.slice 243 bK) x2:Nat)+1+1+(cR (.slice 245 aJ) x5:Nat)+(cR (.slice 253 fD) x6:Nat)+(cR aA x7:Nat)+(cR aA x8:Nat)+(cR aA x9:Nat)+(cR aA x10:Nat)+(cR (.slice 253 fD) x11:Nat):Int)<=9223372036854775807 by omega),Hk.2.2⟩
   have Ix:Only bl w (w11.setCell ⟨b0,k * 14+12,none⟩ (.int .i64 (kk+1+(cR (.slice 159 aU) x1:Nat)+(cR (.slice 243 bK) x2:Nat)+1+1+(cR (.slice 245 aJ) x5:Nat)+(cR (.slice 253 fD) x6:Nat)+(cR aA x7:Nat)+(cR aA x8:Nat)+(cR aA x9:Nat)+(cR aA x10:Nat)+(cR (.slice 253 fD) x11:Nat)))):=Only.setCell Iy Af _
   clear Jd Gj F5 Ds Gg Hk hl12
   obtain⟨b13,cap13,cu13,bu13,Ez,Kj,Dq,F4,Gf,Lw,Le,Jc,Gi⟩:=jP Fm hnd hkl [true,true,true,true,true,true,true,true,true,true,true,true,true]
   simp only[Value.slice.injEq,eW,Addr.mk.injEq,and_true] at Ez
   obtain⟨hvb,-,-⟩:=Ez
   subst hvb
   have Hj:Un .bool (w11.setCell ⟨b0,k * 14+12,none⟩ (.int .i64 (kk+1+(cR (.slice 159 aU) x1:Nat)+(cR (.slice 243 bK) x2:Nat)+1+1+(cR (.slice 245 aJ) x5:Nat)+(cR (.slice 253 fD) x6:Nat)+(cR aA x7:Nat)+(cR aA x8:Nat)+(cR aA x9:Nat)+(cR aA x10:Nat)+(cR (.slice 253 fD) x11:Nat)))) cu13 x13 bu13:=Gf
   have Ea:cu13.length=1:=by rw[Hj.1];rfl
   have e13:∃u,(w11.setCell ⟨b0,k * 14+12,none⟩ (.int .i64 (kk+1+(cR (.slice 159 aU) x1:Nat)+(cR (.slice 243 bK) x2:Nat)+1+1+(cR (.slice 245 aJ) x5:Nat)+(cR (.slice 253 fD) x6:Nat)+(cR aA x7:Nat)+(cR aA x8:Nat)+(cR aA x9:Nat)+(cR aA x10:Nat)+(cR (.slice 253 fD) x11:Nat)))).cell? ⟨b0,k * 14+13,none⟩=some u:=⟨_,F4 0 (by rw[Ea];exact Nat.zero_lt_one)⟩
   obtain⟨u13,e13⟩:=e13
   have g13:(w11.setCell ⟨b0,k * 14+12,none⟩ (.int .i64 (kk+1+(cR (.slice 159 aU) x1:Nat)+(cR (.slice 243 bK) x2:Nat)+1+1+(cR (.slice 245 aJ) x5:Nat)+(cR (.slice 253 fD) x6:Nat)+(cR aA x7:Nat)+(cR aA x8:Nat)+(cR aA x9:Nat)+(cR aA x10:Nat)+(cR (.slice 253 fD) x11:Nat)))).frozen? ⟨b0,k * 14+13,none⟩=false:=Dq _
   have Fl:Un (.slice 142 aB) ((w11.setCell ⟨b0,k * 14+12,none⟩ (.int .i64 (kk+1+(cR (.slice 159 aU) x1:Nat)+(cR (.slice 243 bK) x2:Nat)+1+1+(cR (.slice 245 aJ) x5:Nat)+(cR (.slice 253 fD) x6:Nat)+(cR aA x7:Nat)+(cR aA x8:Nat)+(cR aA x9:Nat)+(cR aA x10:Nat)+(cR (.slice 253 fD) x11:Nat)))).setCell ⟨b0,k * 14+13,none⟩ (.bool ((kk+1+(cR (.slice 159 aU) x1:Nat)+(cR (.slice 243 bK) x2:Nat)+1+1+(cR (.slice 245 aJ) x5:Nat)+(cR (.slice 253 fD) x6:Nat)+(cR aA x7:Nat)+(cR aA x8:Nat)+(cR aA x9:Nat)+(cR aA x10:Nat)+(cR (.slice 253 fD) x11:Nat)+1:Int) % 3==0))) [.slice (some ⟨b0,0,none⟩) l.length cap] (M.set k (aMM aB [true,true,true,true,true,true,true,true,true,true,true,true,true] _ (show Ty.D .bool from((kk+1+(cR (.slice 159 aU) x1:Nat)+(cR (.slice 243 bK) x2:Nat)+1+1+(cR (.slice 245 aJ) x5:Nat)+(cR (.slice 253 fD) x6:Nat)+(cR aA x7:Nat)+(cR aA x8:Nat)+(cR aA x9:Nat)+(cR aA x10:Nat)+(cR (.slice 253 fD) x11:Nat)+1:Int) % 3==0)))) bl:=Gi (.bool ((kk+1+(cR (.slice 159 aU) x1:Nat)+(cR (.slice 243 bK) x2:Nat)+1+1+(cR (.slice 245 aJ) x5:Nat)+(cR (.slice 253 fD) x6:Nat)+(cR aA x7:Nat)+(cR aA x8:Nat)+(cR aA x9:Nat)+(cR aA x10:Nat)+(cR (.slice 253 fD) x11:Nat)+1:Int) % 3==0)) _ Ea ⟨rfl,Hj.2⟩
   have Iw:Only bl w ((w11.setCell ⟨b0,k * 14+12,none⟩ (.int .i64 (kk+1+(cR (.slice 159 aU) x1:Nat)+(cR (.slice 243 bK) x2:Nat)+1+1+(cR (.slice 245 aJ) x5:Nat)+(cR (.slice 253 fD) x6:Nat)+(cR aA x7:Nat)+(cR aA x8:Nat)+(cR aA x9:Nat)+(cR aA x10:Nat)+(cR (.slice 253 fD) x11:Nat)))).setCell ⟨b0,k * 14+13,none⟩ (.bool ((kk+1+(cR (.slice 159 aU) x1:Nat)+(cR (.slice 243 bK) x2:Nat)+1+1+(cR (.slice 245 aJ) x5:Nat)+(cR (.slice 253 fD) x6:Nat)+(cR aA x7:Nat)+(cR aA x8:Nat)+(cR aA x9:Nat)+(cR aA x10:Nat)+(cR (.slice 253 fD) x11:Nat)+1:Int) % 3==0))):=Only.setCell Ix Af _
   clear Jc Gi F4 Dq Gf Hj Ea
   have HF:=Lib.hid Fl
   clear An hg0 hg1 hg2 hg3 hg4 Kb Ka J9 J8 J7 Fo Fn Fm Fl
   go_wp2
   go_roundw
   case rel =>
    refine⟨k+1,by omega,by go_num,⟨_,rfl,by show _=_;have:=HS1.out;have:=hkk.out;have Bp:cR aB (x0,(x1,(x2,(x3,(x4,(x5,(x6,(x7,(x8,(x9,(x10,(x11,(x12,x13)))))))))))))=1+cR (.slice 159 aU) x1+cR (.slice 243 bK) x2+1+1+cR (.slice 245 aJ) x5+cR (.slice 253 fD) x6+cR aA x7+cR aA x8+cR aA x9+cR aA x10+cR (.slice 253 fD) x11+1+1:=(by first|rfl|(simp only[cR];omega));omega,by omega,by omega⟩,Iw,?_⟩
    have h2:=HF.out
    rw[HSET.out _ (HMK.out.trans (by rfl))] at h2
    exact h2
   case measure=>simp[intOf];omega
  ·go_wp2
   go_ret
   obtain rfl:k=l.length:=by omega
   have hkk:=hkk.out
   rw[List.take_length] at hkk
   refine⟨aDQ (by rw[mP];exact hkk),?_,hb⟩
   have hf:=hf.out
   have e1:(mk (.slice 142 aB) l k0:List aB.D).take l.length++l.drop l.length=mk (.slice 142 aB) l k0:=by
    rw[List.drop_length,List.append_nil,List.take_of_length_le (by rw[HL.out];exact Nat.le_refl _)]
   rw[e1] at hf
   exact hf
set_option maxHeartbeats 4000000 in
set_option maxRecDepth 100000 in
theorem bSZ (cs:Array Value) (k0:Int) (d:aE.D) (bl:List Nat) (w:World) (h:Un aE w cs.toList d bl) (hnd:bl.Nodup) (h0:0<=k0) (h1:k0+(aVZ aE d:Nat)<=1000000000000) :
  Calls Tryz.prog 17 #[.agg cs,.int .i64 k0] w (cMG aE w cs.toList (mkt aE d k0) bl (k0+(aVZ aE d:Nat))):=by
 obtain⟨x0,⟨x1,⟨x2,x3⟩⟩⟩:=d
 have Ao:aVZ aE (x0,(x1,(x2,x3)))=cR (.slice 138 aL) x0+cR (.slice 142 aB) x1+cR (.slice 147 aD) x2+cR (.slice 147 aD) x3:=by first|rfl|(simp only[aVZ];omega)
 rw[Ao] at h1
 clear Ao
 obtain⟨sp0,sn0,sq0,sp1,sn1,sq1,sp2,sn2,sq2,sp3,sn3,sq3,shcs,ss0,ss1,ss2,ss3⟩:=cKK (cMF h)
 obtain rfl:cs = #[.slice sp0 sn0 sq0,.slice sp1 sn1 sq1,.slice sp2 sn2 sq2,.slice sp3 sn3 sq3]:=bW6 shcs
 clear shcs
 have hbl:=aF5 _ _ _ _ _ h
 have HH:=Lib.hid h
 go_enter Tryz.func17,Tryz.ntmps17
 obtain⟨bu0,Aq,hn0,hs0,Au⟩:=bNR HH.out hnd [false]
 have hq0:Un (.slice 138 aL) w [.slice sp0 sn0 sq0] x0 bu0:=Aq
 have HA0:=Lib.hid Au;have HQ0:=Lib.hid hq0;clear Au Aq hq0
 go_wp2_with fail
 refine(bMQ _ _ _ _ x0 _ _ (by exact(Un.keep _ _ _ _ (fun q hq=>Below.heap_alloc _ _ _ (hbl q (hs0 q hq))) HQ0.out)) hn0 (by omega) (by omega)).mono ?_
 rintro e w90 ⟨rfl,rp0,on0⟩
 have HU1:=Lib.hid (HA0.out w90 _ (fun q hq hz=>(on0.block q hq (by simp;omega)).trans (Below.heap_alloc _ _ _ hz)) rp0)
 have O1:Only bl w w90:=Only.trans (Only.alloc (Only.refl _ w) _) (on0.mono hs0)
 have HB1:=Lib.hid (fun(a:Addr) (ha:a.block=w.heap.size)=>on0.cell (a:=a) (fun hm=>by have:=hbl _ (hs0 _ hm);omega) (by rw[ha];simp))
 have zb1:w.heap.size<w90.heap.size:=by have:=on0.size;(try simp at this);omega
 clear HA0 HQ0 rp0
 obtain⟨bu1,Ap,Ah,hs1,A9⟩:=bNR HU1.out hnd [true,false]
 have hq1:Un (.slice 142 aB) w90 [.slice sp1 sn1 sq1] x1 bu1:=Ap
 have HA1:=Lib.hid A9;have HQ1:=Lib.hid hq1;clear A9 Ap hq1
 skip
 have q1_1:w90.cell? ⟨w.heap.size,1,none⟩=some (.slice sp1 sn1 sq1):=(HB1.out ⟨w.heap.size,1,none⟩ rfl).trans (by simp)
 go_wp2_with fail
 refine(bIB _ _ _ _ x1 _ _ (by exact HQ1.out) Ah (by omega) (by omega)).mono ?_
 rintro e w91 ⟨rfl,rp1,on1⟩
 have HU2:=Lib.hid (HA1.out w91 _ (fun q hq hz=>on1.block q hq hz) rp1)
 have O2:Only bl w w91:=Only.trans O1 (on1.mono hs1)
 have HB2:=Lib.hid (fun(a:Addr) (ha:a.block=w.heap.size)=>(on1.cell (a:=a) (fun hm=>by have:=hbl _ (hs1 _ hm);omega) (by rw[ha];exact zb1)).trans (HB1.out a ha))
 clear q1_1
 have zb2:w.heap.size<w91.heap.size:=by have:=on1.size;(try simp at this);omega
 clear HA1 HQ1 rp1
 obtain⟨bu2,Dg,A7,hs2,En⟩:=bNR HU2.out hnd [true,true,false]
 have hq2:Un (.slice 147 aD) w91 [.slice sp2 sn2 sq2] x2 bu2:=Dg
 have HA2:=Lib.hid En;have HQ2:=Lib.hid hq2;clear En Dg hq2
 skip
 have q2_2:w91.cell? ⟨w.heap.size,2,none⟩=some (.slice sp2 sn2 sq2):=(HB2.out ⟨w.heap.size,2,none⟩ rfl).trans (by simp)
 go_wp2_with fail
 refine(aRZ _ _ _ _ x2 _ _ (by exact HQ2.out) A7 (by omega) (by omega)).mono ?_
 rintro e w92 ⟨rfl,rp2,on2⟩
 have HU3:=Lib.hid (HA2.out w92 _ (fun q hq hz=>on2.block q hq hz) rp2)
 have O3:Only bl w w92:=Only.trans O2 (on2.mono hs2)
 have HB3:=Lib.hid (fun(a:Addr) (ha:a.block=w.heap.size)=>(on2.cell (a:=a) (fun hm=>by have:=hbl _ (hs2 _ hm);omega) (by rw[ha];exact zb2)).trans (HB2.out a ha))
 clear q2_2
 have zb3:w.heap.size<w92.heap.size:=by have:=on2.size;(try simp at this);omega
 clear HA2 HQ2 rp2
 obtain⟨bu3,Df,Ep,hs3,Em⟩:=bNR HU3.out hnd [true,true,true]
 have D7:Un (.slice 147 aD) w92 [.slice sp3 sn3 sq3] x3 bu3:=Df
 have HA3:=Lib.hid Em;have HQ3:=Lib.hid D7;clear Em Df D7
 skip
 have q3_3:w92.cell? ⟨w.heap.size,3,none⟩=some (.slice sp3 sn3 sq3):=(HB3.out ⟨w.heap.size,3,none⟩ rfl).trans (by simp)
 go_wp2_with fail
 refine(aRZ _ _ _ _ x3 _ _ (by exact HQ3.out) Ep (by omega) (by omega)).mono ?_
 rintro e w93 ⟨rfl,rp3,on3⟩
 have HU4:=Lib.hid (HA3.out w93 _ (fun q hq hz=>on3.block q hq hz) rp3)
 have O4:Only bl w w93:=Only.trans O3 (on3.mono hs3)
 have HB4:=Lib.hid (fun(a:Addr) (ha:a.block=w.heap.size)=>(on3.cell (a:=a) (fun hm=>by have:=hbl _ (hs3 _ hm);omega) (by rw[ha];exact zb3)).trans (HB3.out a ha))
 clear q3_3
 have zb4:w.heap.size<w93.heap.size:=by have:=on3.size;(try simp at this);omega
 clear HA3 HQ3 rp3
 go_wp2
 go_ret
 exact⟨aDQ (by have Ao:aVZ aE (x0,(x1,(x2,x3)))=cR (.slice 138 aL) x0+cR (.slice 142 aB) x1+cR (.slice 147 aD) x2+cR (.slice 147 aD) x3:=(by first|rfl|(simp only[aVZ];omega));rw[Ao];try omega),(by have hh:=HU4.out;first|exact hh|(have e9:mkt aE (x0,(x1,(x2,x3))) k0=((mk (.slice 138 aL) x0 (k0)),((mk (.slice 142 aB) x1 (k0+(cR (.slice 138 aL) x0:Nat))),((mk (.slice 147 aD) x2 (k0+(cR (.slice 138 aL) x0:Nat)+(cR (.slice 142 aB) x1:Nat))),(mk (.slice 147 aD) x3 (k0+(cR (.slice 138 aL) x0:Nat)+(cR (.slice 142 aB) x1:Nat)+(cR (.slice 147 aD) x2:Nat)))))):=(by simp only[mkt,aVZ,Int.natCast_add,Int.natCast_zero,Int.add_zero,Int.zero_add,<-Int.add_assoc]);rw[e9];exact hh)),O4⟩
end Go.Proofs.YtfmfeplebgbpmaaGreat
