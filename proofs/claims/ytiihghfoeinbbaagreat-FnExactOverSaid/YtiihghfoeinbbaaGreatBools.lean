/- Bools: lemmas. No conditions. -/
import Derived.Test.YtiihghfoeinbbaaGreatCe
namespace Go.Proofs.YtiihghfoeinbbaaGreat
open Go.ChangeShapes Go.WideShapes Go.ChangeAt Go.RowKit
set_option linter.unusedVariables false
set_option linter.unusedSimpArgs false
theorem aOM {w:World} {p:Option Addr} {len cap:Nat} {l:List Bool} (h:eN 1 (rd .bool w) w p len cap l) (k:Nat) (hk:k<l.length) :
  ∃ b off,p=some ⟨b,off,none⟩∧b<w.heap.size∧w.cell? ⟨b,off+k,none⟩=some (.bool l[k]):=by
 obtain ⟨b,off,hp,hb,cs,hl,hc,hr⟩:=h.2.2.2.2 k hk
 obtain rfl:cs=[.bool l[k]]:=hr
 exact ⟨b,off,hp,hb,by simpa using hc 0 (by simp)⟩
theorem aRX (p:Option Addr) (len cap:Nat) (l:List Bool) (w:World) (h:eN 1 (rd .bool w) w p len cap l) (hlen:l.length≤1048576) :
  Calls Tryz.prog 85 #[.slice p len cap] w (bAG 4 .bool w l):=by
 obtain rfl:=h.lens
 have hmk:=pA Tryz.prog 58 4 (.bool false) 1 .bool Tryz.underlying58 (by kernel_rfl) rfl l.length (by omega) (by omega)
 go_enter Tryz.func85,Tryz.ntmps85
 go_wp2
 go_loopw [4] (fun i wr=>∃ k:Nat,k≤l.length∧i = .int .i64 k∧Below w.heap.size w wr∧bT bX w.heap.size wr.heap.size wr [.slice (some ⟨w.heap.size,0,none⟩) l.length l.length] (l.take k++List.replicate (l.length - k) false)) (fun i _=>l.length - (intOf i).toNat)
 case atStart=>exact ⟨0,by omega,rfl,(Below.refl _ _).alloc (Nat.le_refl _) _,(bT.made w .bool _ l.length (by simp[maxLen];omega)).mono (Nat.le_refl _) (by simp) (Nat.le_refl _)⟩
 case round =>
  obtain ⟨k,hk,rfl,hb,hf⟩:=hrel
  by_cases hlt:k<l.length
  ·obtain ⟨b,off,rfl,hlb,hc⟩:=aOM h k hlt
   have c1:wr.cell? ⟨b,off+k,none⟩=some (.bool l[k]):=(hb.cell hlb).trans hc
   obtain ⟨b',cap',hv,_,_,hfz,c,hcl,hcc,_⟩:=hf.at k (by simp;omega)
   simp only[Value.slice.injEq,cN,Addr.mk.injEq,and_true] at hv
   obtain ⟨rfl,-,rfl⟩:=hv
   have c2:wr.cell? ⟨w.heap.size,k,none⟩=some (c[0]'(by rw[hcl];exact Nat.one_pos)):=by simpa [Ty.n] using hcc 0 (by rw[hcl];exact Nat.one_pos)
   have c3:=hfz k
   have HF:=Lib.hid hf
   clear h hc hcc hfz hf
   go_wp2
   go_roundw
   case rel =>
    refine ⟨k+1,by omega,by go_num,hb.setCell (Nat.le_refl _) _,?_⟩
    have h1:=HF.out.set k (by simp;omega) (hb.size) (Nat.le_refl _) (bT.bool (x:=l[k]) (Nat.le_refl _))
    simp only[Ty.n,Nat.mul_one,setCells] at h1
    rw[aEX l false k hlt] at h1
    simpa [World.setCell] using h1
   case measure=>simp[intOf];omega
  ·clear h
   go_wp2
   go_ret
   obtain rfl:k=l.length:=by omega
   exact ⟨_,_,rfl,by simpa using hf,hb⟩
theorem aU5 (p q:Option Addr) (len cap len' cap':Nat) (l:List Bool) (w:World) (h:eN 1 (rd .bool w) w p len cap l) (h':eN 1 (rd .bool w) w q len' cap' l) :
  Calls Tryz.prog 93 #[.slice p len cap,.slice q len' cap'] w (kZ (.bool true) w):=by
 obtain rfl:=h.lens
 obtain rfl:=h'.lens
 have hmx:l.length≤maxLen:=by have:=h.2.1;have:=h.2.2.1;omega
 unfold maxLen at hmx
 go_enter Tryz.func93,Tryz.ntmps93
 go_wp2
 go_loopw [5] (fun i wr=>∃ k:Nat,k≤l.length∧i = .int .i64 k∧Below w.heap.size w wr) (fun i _=>l.length - (intOf i).toNat)
 case atStart=>exact ⟨0,by omega,rfl,Below.refl _ _⟩
 case round =>
  obtain ⟨k,hk,rfl,hb⟩:=hrel
  by_cases hlt:k<l.length
  ·obtain ⟨b,off,rfl,hlb,hc⟩:=aOM h k hlt
   obtain ⟨b2,off2,rfl,hlb2,hc2⟩:=aOM h' k hlt
   have c1:wr.cell? ⟨b,off+k,none⟩=some (.bool l[k]):=(hb.cell hlb).trans hc
   have c2:wr.cell? ⟨b2,off2+k,none⟩=some (.bool l[k]):=(hb.cell hlb2).trans hc2
   clear h h' hc hc2
   go_wp2
   go_quiet (fail)
   go_wp2
   go_roundw
   case rel=>exact ⟨k+1,by omega,by go_num,below_drewN hb _⟩
   case measure=>simp[intOf];omega
  ·clear h h'
   go_wp2
   go_ret
   exact ⟨rfl,hb⟩
theorem aHI (p:Option Addr) (len cap:Nat) (left:Int) (w:World) (h1:len≤maxLen) (h0:0≤left) (h2:left≤9223372036854775807) :
  Calls Tryz.prog 79 #[.slice p len cap,.int .i64 left] w (kZ (.int .i64 (szR left len)) w):=by
 unfold maxLen at h1
 by_cases hc:(len:Int)≤left
 ·have hc2:¬ (left - len<0):=by omega
  go_enter Tryz.func79,Tryz.ntmps79
  go_wp2
  go_ret
  exact ⟨dC (by unfold szR;rw[if_pos (by omega)]),Below.refl _ _⟩
 ·have hc2:left - len<0:=by omega
  go_enter Tryz.func79,Tryz.ntmps79
  go_wp2
  go_ret
  exact ⟨dC (by unfold szR;rw[if_neg (by omega)]),Below.refl _ _⟩
theorem aDI (p:Option Addr) (len cap:Nat) (left:Int) (w:World) (h1:len≤maxLen) (h0:0≤left) (h2:left≤9223372036854775807) (h:(len:Int)≤left) :
  Calls Tryz.prog 79 #[.slice p len cap,.int .i64 left] w (kZ (.int .i64 (left - len)) w):=by
 have:=aHI p len cap left w h1 h0 h2
 rwa [uO h] at this
theorem aZ0 (p:Option Addr) (len cap:Nat) (left:Int) (w:World) (h1:len≤maxLen) (h0:0≤left) (h2:left≤9223372036854775807) (h:¬ (len:Int)≤left) :
  Calls Tryz.prog 79 #[.slice p len cap,.int .i64 left] w (kZ (.int .i64 (-1)) w):=by
 have:=aHI p len cap left w h1 h0 h2
 rwa [uN h] at this
theorem bDH (l:List Bool):bD bX l=l.length:=by
 rw[bZ,aLH (bD .bool) l (fun _=>rfl)];rfl
theorem aSK (l:List Bool):(l.map (iP .bool)).sum=l.length:=by
 induction l with
 | nil=>rfl
 | cons a m ih =>
  rw[List.map_cons,List.sum_cons,ih,List.length_cons]
  show 1+_=_
  omega
theorem bGC (l:List Bool) (k0:Int) (k:Nat) (hk:k<l.length):(mk bX l k0)[k]'(by show k<(qF _ _ _ _).length;rw[kF];exact hk)=decide ((k0+k) % 3=0):=by
 show (qF (mk .bool) (iP .bool) l k0)[k]'_=_
 rw[xV _ _ _ _ _ hk]
 show decide ((k0+_) % 3=0)=_
 rw[aSK,List.length_take,Nat.min_eq_left (by omega)]
theorem aHT (l:List Bool) (k0:Int):(mk bX l k0:List Bool).length=l.length:=kF _ _ _ _
theorem aNC (l:List Bool):iP bX l=l.length:=aSK l
end Go.Proofs.YtiihghfoeinbbaaGreat
