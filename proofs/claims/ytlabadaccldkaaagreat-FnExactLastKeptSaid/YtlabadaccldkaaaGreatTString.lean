/- TString: lemmas. No conditions. -/
import Derived.Test.YtlabadaccldkaaaGreatMarkT
namespace Go.Proofs.YtlabadaccldkaaaGreat
open Go.ChangeShapes Go.WideShapes Go.ChangeAt Go.RowKit Go.Deep
set_option linter.unusedVariables false
set_option linter.unusedSimpArgs false
abbrev aFV:Ty:=.slice 9 .str
def zU (l:List ByteArray):Nat:=l.length+(l.map ByteArray.size).sum
theorem rI (l:List ByteArray):l.length≤zU l:=Nat.le_add_right _ _
theorem aJT {l:List ByteArray}:∀ s∈l,s.size≤zU l:=fun s h=>by
 have:s.size≤(l.map ByteArray.size).sum:=by
  induction l with
  | nil=>cases h
  | cons x l ih =>
   rw[List.map_cons,List.sum_cons]
   rcases List.mem_cons.1 h with rfl|h
   ·omega
   ·have:=ih h;omega
 unfold zU;omega
theorem aHO {w:World} {p:Option Addr} {len cap:Nat} {l:List ByteArray} (h:bY 1 (rd .str w) w p len cap l) (k:Nat) (hk:k<l.length) :
  ∃ b off,p=some ⟨b,off,none⟩∧b<w.heap.size∧w.cell? ⟨b,off+k,none⟩=some (.string l[k])∧l[k].size≤maxLen:=by
 obtain ⟨b,off,hp,hb,cs,hl,hc,rfl,hw⟩:=h.2.2.2.2 k hk
 exact ⟨b,off,hp,hb,by simpa using hc 0 (by simp),hw⟩
theorem mL (p:Option Addr) (len cap:Nat) (l:List ByteArray) (w:World) (h:bY 1 (rd .str w) w p len cap l) (hlen:l.length≤1048576) :
  Calls Tryz.prog 6 #[.slice p len cap] w (aWH 9 .str w l):=by
 obtain rfl:=h.lens
 have hmk:=aB8 Tryz.prog 22 9 (.string ⟨#[]⟩) 16 .str Tryz.underlying22 (by kernel_rfl) rfl l.length (by omega) (by omega)
 go_enter Tryz.func6,Tryz.ntmps6
 go_wp2
 go_loopw [4] (fun i wr=>∃ k:Nat,k≤l.length∧i = .int .i64 k∧Below w.heap.size w wr∧dQ aFV w.heap.size wr.heap.size wr [.slice (some ⟨w.heap.size,0,none⟩) l.length l.length] (l.take k++List.replicate (l.length - k) (⟨#[]⟩:ByteArray))) (fun i _=>l.length - (intOf i).toNat)
 case atStart=>exact ⟨0,by omega,rfl,(Below.refl _ _).alloc (Nat.le_refl _) _,(dQ.made w .str _ l.length (by simp[maxLen];omega)).mono (Nat.le_refl _) (by simp) (Nat.le_refl _)⟩
 case round =>
  obtain ⟨k,hk,rfl,hb,hf⟩:=hrel
  by_cases hlt:k<l.length
  ·obtain ⟨b,off,rfl,hlb,hc,hz⟩:=aHO h k hlt
   have c1:wr.cell? ⟨b,off+k,none⟩=some (.string l[k]):=(hb.cell hlb).trans hc
   obtain ⟨b',cap',hv,_,_,hfz,c,hcl,hcc,_⟩:=hf.at k (by simp;omega)
   simp only[Value.slice.injEq,bQ,Addr.mk.injEq,and_true] at hv
   obtain ⟨rfl,-,rfl⟩:=hv
   have c2:wr.cell? ⟨w.heap.size,k,none⟩=some (c[0]'(by rw[hcl];exact Nat.one_pos)):=by simpa [Ty.n] using hcc 0 (by rw[hcl];exact Nat.one_pos)
   have c3:=hfz k
   have HF:=Lib.hid hf
   clear h hc hcc hfz hf
   go_wp2
   go_roundw
   case rel =>
    refine ⟨k+1,by omega,by go_num,hb.setCell (Nat.le_refl _) _,?_⟩
    have h1:=HF.out.set k (by simp;omega) (hb.size) (Nat.le_refl _) (dQ.str hz (Nat.le_refl _))
    simp only[Ty.n,Nat.mul_one,setCells] at h1
    rw[aST l (⟨#[]⟩:ByteArray) k hlt] at h1
    simpa [World.setCell] using h1
   case measure=>simp[intOf];omega
  ·clear h
   go_wp2
   go_ret
   obtain rfl:k=l.length:=by omega
   exact ⟨_,_,rfl,by simpa using hf,hb⟩
theorem aEN (p q:Option Addr) (len cap len' cap':Nat) (l:List ByteArray) (w:World) (h:bY 1 (rd .str w) w p len cap l) (h':bY 1 (rd .str w) w q len' cap' l) :
  Calls Tryz.prog 9 #[.slice p len cap,.slice q len' cap'] w (jI (.bool true) w):=by
 obtain rfl:=h.lens
 obtain rfl:=h'.lens
 have hmx:l.length≤maxLen:=by have:=h.2.1;have:=h.2.2.1;omega
 unfold maxLen at hmx
 go_enter Tryz.func9,Tryz.ntmps9
 go_wp2
 go_loopw [5] (fun i wr=>∃ k:Nat,k≤l.length∧i = .int .i64 k∧Below w.heap.size w wr) (fun i _=>l.length - (intOf i).toNat)
 case atStart=>exact ⟨0,by omega,rfl,Below.refl _ _⟩
 case round =>
  obtain ⟨k,hk,rfl,hb⟩:=hrel
  by_cases hlt:k<l.length
  ·obtain ⟨b,off,rfl,hlb,hc,-⟩:=aHO h k hlt
   obtain ⟨b2,off2,rfl,hlb2,hc2,-⟩:=aHO h' k hlt
   have c1:wr.cell? ⟨b,off+k,none⟩=some (.string l[k]):=(hb.cell hlb).trans hc
   have c2:wr.cell? ⟨b2,off2+k,none⟩=some (.string l[k]):=(hb.cell hlb2).trans hc2
   clear h h' hc hc2
   go_wp2
   go_quiet (fail)
   go_wp2
   go_roundw
   case rel=>exact ⟨k+1,by omega,by go_num,below_drewN hb _⟩
   case measure=>simp[intOf];omega
  ·clear h h'
   go_wp2
   go_ret
   exact ⟨rfl,hb⟩
theorem vU (p:Option Addr) (len cap:Nat) (l:List ByteArray) (left:Int) (w:World) (h:bY 1 (rd .str w) w p len cap l) (h0:0≤left) (h2:left≤9223372036854775807) :
  Calls Tryz.prog 4 #[.slice p len cap,.int .i64 left] w (jI (.int .i64 (szR left (zU l))) w):=by
 have hm:len≤maxLen:=Nat.le_trans h.2.1 h.2.2.1
 obtain rfl:=h.lens
 unfold maxLen at hm
 have HS:Hid (zU l=l.length+(l.map ByteArray.size).sum):=rfl
 by_cases hc:(l.length:Int)≤left
 rotate_left
 ·have hc2:(left - l.length<0):=by omega
  clear h
  go_enter Tryz.func4,Tryz.ntmps4
  go_wp2
  go_ret
  exact ⟨dW (by rw[HS.out];unfold szR;rw[if_neg (by omega)]),Below.refl _ _⟩
 go_enter Tryz.func4,Tryz.ntmps4
 go_wp2
 go_loopw [1,5] (fun q i wr=>∃ k:Nat,k≤l.length∧i = .int .i64 k∧∃ m:Int,q = .int .i64 m∧m=left - l.length - (((l.take k).map ByteArray.size).sum:Nat)∧0≤m∧Below w.heap.size w wr) (fun _ i _=>l.length - (intOf i).toNat)
 case atStart=>exact ⟨0,by omega,rfl,_,rfl,by simp,by omega,Below.refl _ _⟩
 case round =>
  obtain ⟨k,hk,rfl,m,rfl,hm1,hm2,hb⟩:=hrel
  have hmb:m≤left:=by omega
  by_cases hlt:k<l.length
  ·obtain ⟨b,off,rfl,hlb,hc1,hz⟩:=aHO h k hlt
   have hsum:=cD ByteArray.size l k hlt
   have hsle:=cP ByteArray.size l (k+1)
   have c0:wr.cell? ⟨b,off+k,none⟩=some (.string l[k]):=(hb.cell hlb).trans hc1
   obtain ⟨s0,hs0⟩:∃ z,((l.take k).map ByteArray.size).sum=z:=⟨_,rfl⟩
   obtain ⟨s1,hs1⟩:∃ z,((l.take (k+1)).map ByteArray.size).sum=z:=⟨_,rfl⟩
   obtain ⟨s2,hs2⟩:∃ z,(l.map ByteArray.size).sum=z:=⟨_,rfl⟩
   rw[hs0] at hsum hm1
   rw[hs1] at hsum hsle
   rw[hs2] at hsle
   unfold maxLen at hz
   have H1:=Lib.hid hs1;have H2:=Lib.hid hs2;have HM:=Lib.hid hm1;have HU:=Lib.hid hsum
   clear h hc1 hs0 hs1 hs2 hm1 hsum
   by_cases hfit:(l[k].size:Int)≤m
   ·have hmz:¬ (m - (l[k].size:Int)<0):=by omega
    go_wp2
    go_roundw
    case rel=>exact ⟨k+1,by omega,by go_num,_,rfl,by rw[H1.out];have:=HM.out;have:=HU.out;omega,by omega,hb⟩
    case measure=>simp[intOf];omega
   ·have hmz:m - (l[k].size:Int)<0:=by omega
    go_wp2
    go_ret
    exact ⟨dW (by rw[HS.out,H2.out];unfold szR;rw[if_neg (by have:=HM.out;have:=HU.out;omega)]),hb⟩
  ·clear h
   have HM:=Lib.hid hm1;clear hm1
   go_wp2
   go_ret
   obtain rfl:k=l.length:=by omega
   have hm1:=HM.out
   rw[List.take_length] at hm1
   exact ⟨dW (by rw[HS.out];unfold szR;rw[if_pos (by omega)];try omega),hb⟩
theorem aH2 (p:Option Addr) (len cap:Nat) (l:List ByteArray) (left:Int) (w:World) (ha:bY 1 (rd .str w) w p len cap l) (h0:0≤left) (h2:left≤9223372036854775807) (h:((zU l:Nat):Int)≤left) :
  Calls Tryz.prog 4 #[.slice p len cap,.int .i64 left] w (jI (.int .i64 (left - (zU l:Nat))) w):=by
 have:=vU p len cap l left w ha h0 h2
 rwa [aUD h] at this
theorem aGD (p:Option Addr) (len cap:Nat) (l:List ByteArray) (left:Int) (w:World) (ha:bY 1 (rd .str w) w p len cap l) (h0:0≤left) (h2:left≤9223372036854775807) (h:¬ ((zU l:Nat):Int)≤left) :
  Calls Tryz.prog 4 #[.slice p len cap,.int .i64 left] w (jI (.int .i64 (-1)) w):=by
 have:=vU p len cap l left w ha h0 h2
 rwa [aTU h] at this
theorem aMV (x0:Int) (w:World) (h0:0≤x0) (h1:x0≤1000000000000) :
  Calls Tryz.prog 18 #[.int .i64 x0] w (fun e w'=>∃ s:ByteArray,e = .returned (.string s)∧s.size≤maxLen∧Below w.heap.size w w'):=by
 have r0:(Lit.int .i64 x0).wf=true:=nL ⟨by omega,by omega⟩
 have hA:hX w fE.ams [.int .i64 x0] (cI (fE.ams.map (·.mv.t)) (SV.as _ ⟨fE.argTy,x0⟩)):=by
  have e:SV.as (bR (fE.ams.map (·.mv.t))) ⟨fE.argTy,x0⟩=x0:=SV.as_self _ _
  rw[e]
  exact (hX.cons rfl rfl (show rd (.int .i64) w [.int .i64 x0] x0 from ⟨rfl,r0⟩) hX.nil)
 have hok:okD tI x0:=eC.okD (eC.of_rd (show rd (.int .i64) w [.int .i64 x0] x0 from ⟨rfl,r0⟩))
 have hz:=(aGI x0 hok ⟨h0,h1⟩).1
 have hg:=yT.givesL rfl (x:=x0) ⟨h0,h1⟩ hok hA
 have e:SV.as (bR (fE.rms.map (·.t))) ⟨fE.resTy,fE.fn x0⟩=kX x0:=SV.as_self _ _
 rw[e] at hg
 refine hg.mono fun e w' hh=>?_
 clear hg
 obtain ⟨rs,bl,he,ho,hn,hb,bel⟩:=hh
 obtain ⟨r0,rs0,b0,bb0,rfl,rfl,k0,ho⟩:=tP.inv ho
 obtain ⟨rfl,rfl⟩:=ho
 have e0:=k0.str
 exact ⟨_,he.trans (congrArg (fun l=>Ending.returned (aKQ l)) (congr (congrArg List.cons e0) rfl)),hz,bel⟩
theorem aD8 (p:Option Addr) (len cap:Nat) (k0:Int) (l:List ByteArray) (bl:List Nat) (w:World) (h:Un aFV w [.slice p len cap] l bl) (hnd:bl.Nodup) (h0:0≤k0) (h1:k0+l.length≤1000000000000) :
  Calls Tryz.prog 10 #[.slice p len cap,.int .i64 k0] w (fun e w'=>∃ M:List ByteArray,M.length=l.length∧e = .returned (.int .i64 (k0+l.length))∧Un aFV w' [.slice p len cap] M bl∧Only bl w w'):=by
 obtain ⟨rfl,hmx⟩:=qM h
 unfold maxLen at hmx
 have hlt0:=nP _ _ _ _ _ h
 go_enter Tryz.func10,Tryz.ntmps10
 go_wp2
 go_loopw [1,5] (fun q i wr=>∃ k:Nat,k≤l.length∧i = .int .i64 k∧q = .int .i64 (k0+k)∧Only bl w wr∧∃ M:List ByteArray,M.length=l.length∧Un aFV wr [.slice p l.length cap] M bl) (fun _ i _=>l.length - (intOf i).toNat)
 case atStart=>exact ⟨0,by omega,rfl,by simp,Only.refl _ _,l,rfl,h⟩
 case round =>
  obtain ⟨k,hk,rfl,rfl,hb,M,hM,hf⟩:=hrel
  clear h
  by_cases hlt:k<l.length
  ·have hbl:=nP _ _ _ _ _ hf
   go_wp2_with fail
   refine (aMV (k0+k) _ (by omega) (by omega)).mono ?_
   rintro e w3 ⟨t,rfl,ht,b3⟩
   have hf3:Un aFV w3 [.slice p l.length cap] M bl:=Un.keep _ _ _ _ (fun b hbb=>b3.block b (hbl b hbb)) hf
   have hO3:Only bl w w3:=hb.trans (Only.of_below b3 rfl)
   clear hf
   obtain ⟨b,cap',c,bk,hv,hbm,-,hfz,hcl,hc,hR,-,-,-,-,hU⟩:=aI4 hf3 hnd k (by omega)
   simp only[Value.slice.injEq] at hv
   obtain ⟨rfl,-,-⟩:=hv
   obtain ⟨rfl,_,rfl⟩:=hR
   have c1:w3.cell? ⟨b,k,none⟩=some (.string M[k]):=by
    have:=hc 0 (by simp)
    simpa [Ty.n] using this
   have c2:=hfz k
   have HU:=Lib.hid (hU 0 (.string t) t (by simp) ⟨rfl,ht,rfl⟩)
   clear hU hc hfz
   go_wp2
   go_roundw
   case rel =>
    refine ⟨k+1,by omega,by go_num,by go_num,hO3.setCell hbm _,M.set k t,by rw[List.length_set];exact hM,?_⟩
    have h2:=HU.out
    simpa [Ty.n] using h2
   case measure=>simp[intOf];omega
  ·go_wp2
   go_ret
   obtain rfl:k=l.length:=by omega
   exact ⟨M,hM,rfl,hf,hb⟩
end Go.Proofs.YtlabadaccldkaaaGreat
