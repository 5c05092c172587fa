/- The laws' own helpers over Ins: copy, compare, count, mark, look at the marks. -/
import Derived.Test.YtmfpkkbhnmkfdaaGreatCe
namespace Go.Proofs.YtmfpkkbhnmkfdaaGreat
open Go.ChangeShapes Go.WideShapes Go.ChangeAt Go.RowKit
set_option linter.unusedVariables false
set_option linter.unusedSimpArgs false
theorem aGP {w:World} {cs:List Value} {x0:Ty.D cP} {x1:Ty.D cP} (h:rd aO w cs (x0,x1)) :
  cs = [.int .i64 x0,.int .i64 x1]∧(Lit.int .i64 x0).wf = true∧(Lit.int .i64 x1).wf = true:=by
 obtain ⟨_,_,hcs,⟨rfl,w0⟩,⟨rfl,w1⟩⟩:=h
 exact ⟨hcs,w0,w1⟩
set_option maxHeartbeats 1000000 in
set_option maxRecDepth 100000 in
theorem aVI (cs:Array Value) (d:aO.D) (w:World) (h:rd aO w cs.toList d) (hz:aW aO d≤1048576) :
  Calls Tryz.prog 280 #[.agg cs] w (yY aO w d):=by
 obtain ⟨x0,x1⟩:=d
 obtain ⟨hcs,w0,w1⟩:=aGP h
 obtain rfl:cs = #[.int .i64 x0,.int .i64 x1]:=cA hcs
 clear hz hcs
 go_enter Tryz.func280,Tryz.ntmps280
 go_wp2
 refine bodyPost_ret (v:=.agg #[.int .i64 x0,.int .i64 x1]) (by simp [results,Tryz.results280,go_sem]) rfl ⟨_,rfl,?_,?_⟩
 ·refine aR.pair (c1:=[_]) (c2:=[_]) (mid:=w.heap.size) ?_ ?_ aP aP
  ·exact aR.int w0 aP
  ·exact aR.int w1 aP
 ·exact bO
set_option maxHeartbeats 1000000 in
set_option maxRecDepth 100000 in
theorem aR3 (p:Option Addr) (len cap:Nat) (l:List aO.D) (w:World) (h:cM aO.n (rd aO w) w p len cap l) (hz:aW (.slice 95 aO) l≤1048576) :
  Calls Tryz.prog 200 #[.slice p len cap] w (aB8 95 aO w l):=by
 obtain rfl:=h.lens
 rw [bI] at hz
 have hlen:l.length≤1048576:=by omega
 have hmk:=fY Tryz.prog 115 95 (.agg #[.int .i64 0,.int .i64 0]) 16 aO Tryz.underlying115 (by kernel_rfl) rfl l.length (by omega) (by omega)
 go_enter Tryz.func200,Tryz.ntmps200
 go_wp2
 go_loopw [4] (fun i wr=>∃ k:Nat,k≤l.length∧i = .int .i64 k∧Below w.heap.size w wr∧aR (.slice 95 aO) w.heap.size wr.heap.size wr [.slice (some ⟨w.heap.size,0,none⟩) l.length l.length] (l.take k ++ List.replicate (l.length - k) (aS aO))) (fun i _=>l.length - (intOf i).toNat)
 case atStart=>exact ⟨0,by omega,rfl,(Below.refl _ _).alloc (Nat.le_refl _) _,(aR.made w aO _ l.length (by simp [maxLen];omega)).mono (Nat.le_refl _) (by simp) (Nat.le_refl _)⟩
 case round =>
  obtain ⟨k,hk,rfl,hb,hf⟩:=hrel
  by_cases hlt:k < l.length
  ·obtain ⟨b,off,rfl,hlb,cs,hcs,hc,hR⟩:=h.2.2.2.2 k hlt
   have hzk:=iV (aW aO) l k hlt
   obtain ⟨x,hx⟩:∃ x,l[k] = x:=⟨_,rfl⟩
   rw [hx] at hR hzk
   have hR0:rd aO wr cs x:=cO (fun q hq=>hb.block q hq) _ _ _ hR
   obtain ⟨x0,x1⟩:=x
   obtain ⟨rfl,w0,w1⟩:=aGP hR
   have c0:wr.cell? ⟨b,off + k * 2,none⟩ = some (.int .i64 x0):=(hb.cell hlb).trans (by have hh:=hc 0 (by simp);rw [show Ty.n aO = 2 from rfl] at hh;simpa using hh)
   have c1:wr.cell? ⟨b,off + k * 2 + 1,none⟩ = some (.int .i64 x1):=(hb.cell hlb).trans (by have hh:=hc 1 (by simp);rw [show Ty.n aO = 2 from rfl] at hh;simpa using hh)
   obtain ⟨b',cap',hv,_,hbl,hfz,c,hcl,hcc,_⟩:=hf.at k (by simp;omega)
   simp only [Value.slice.injEq,Option.some.injEq,Addr.mk.injEq,and_true] at hv
   obtain ⟨rfl,-,rfl⟩:=hv
   have HF:=Lib.hid hf;have HX:=Lib.hid hx
   have e0:wr.cell? ⟨w.heap.size,k * 2,none⟩ = some (c[0]'(by rw [hcl];decide)):=by simpa [Ty.n] using hcc 0 (by rw [hcl];decide)
   have g0:wr.frozen? ⟨w.heap.size,k * 2,none⟩ = false:=hfz _
   have e1:wr.cell? ⟨w.heap.size,k * 2 + 1,none⟩ = some (c[1]'(by rw [hcl];decide)):=by simpa [Ty.n] using hcc 1 (by rw [hcl];decide)
   have g1:wr.frozen? ⟨w.heap.size,k * 2 + 1,none⟩ = false:=hfz _
   clear h hc hcc hfz hf hx
   go_wp2_with fail
   refine (aVI _ (x0,x1) _ (by exact hR0) (by omega)).mono ?_
   rintro e w1 ⟨cs1,rfl,f1,b1⟩
   have rr:=f1.rd
   obtain ⟨rhcs,rw0,rw1⟩:=aGP rr
   obtain rfl:cs1 = #[.int .i64 x0,.int .i64 x1]:=cA rhcs
   have e0':w1.cell? ⟨w.heap.size,k * 2,none⟩ = some (c[0]'(by rw [hcl];decide)):=(b1.cell hbl).trans e0
   have g0':w1.frozen? ⟨w.heap.size,k * 2,none⟩ = false:=(b1.frozen hbl).trans g0
   have e1':w1.cell? ⟨w.heap.size,k * 2 + 1,none⟩ = some (c[1]'(by rw [hcl];decide)):=(b1.cell hbl).trans e1
   have g1':w1.frozen? ⟨w.heap.size,k * 2 + 1,none⟩ = false:=(b1.frozen hbl).trans g1
   clear e0 g0 c0 e1 g1 c1 rhcs
   go_wp2
   go_roundw
   case rel =>
    refine ⟨k + 1,by omega,by go_num,?_,?_⟩
    ·(repeat' first | refine Below.setCell ?_ aP _);exact hb.trans (b1.mono hb.size)
    ·have h1:=(HF.out.below b1 (Nat.le_refl _)).set k (by simp;omega) hb.size b1.size (x:=l[k]) (by rw [HX.out];exact f1)
     rw [lR l (aS aO) k hlt] at h1
     refine aR.mono (hi:=w1.heap.size) ?_ (Nat.le_refl _) aP (Nat.le_refl _)
     exact h1
   case measure=>simp [intOf];omega
  ·clear h
   go_wp2
   go_ret
   obtain rfl:k = l.length:=by omega
   exact ⟨_,_,rfl,by simpa using hf,hb⟩
set_option maxHeartbeats 1000000 in
set_option maxRecDepth 100000 in
theorem aRI (p:Option Addr) (len cap:Nat) (l:List aO.D) (left:Int) (w:World) (h:cM aO.n (rd aO w) w p len cap l) (h0:0≤left) (h2:left≤9223372036854775807) :
  Calls Tryz.prog 186 #[.slice p len cap,.int .i64 left] w (dO (.int .i64 (gM left (aW (.slice 95 aO) l))) w):=by
 have hm:len≤maxLen:=Nat.le_trans h.2.1 h.2.2.1
 obtain rfl:=h.lens
 unfold maxLen at hm
 have hz:aW (.slice 95 aO) l = l.length:=by rw [bI,aNQ _ _ (fun x=>by simp [aW])];omega
 rw [hz]
 clear h hz
 by_cases hc:(l.length:Int)≤left
 ·have hc2:¬ (left - l.length < 0):=by omega
  go_enter Tryz.func186,Tryz.ntmps186
  go_wp2
  go_ret
  exact ⟨bH (by unfold gM;rw [if_pos (by omega)]),Below.refl _ _⟩
 ·have hc2 :  (left - l.length < 0):=by omega
  go_enter Tryz.func186,Tryz.ntmps186
  go_wp2
  go_ret
  exact ⟨bH (by unfold gM;rw [if_neg (by omega)]),Below.refl _ _⟩
set_option maxHeartbeats 1000000 in
set_option maxRecDepth 100000 in
theorem aIF (ca cb:Array Value) (d:aO.D) (w:World) (ha:rd aO w ca.toList d) (hb:rd aO w cb.toList d) :
  Calls Tryz.prog 130 #[.agg ca,.agg cb] w (dO (.bool true) w):=by
 obtain ⟨x0,x1⟩:=d
 obtain ⟨ahcs,aw0,aw1⟩:=aGP ha
 obtain ⟨bhcs,bw0,bw1⟩:=aGP hb
 obtain rfl:ca = #[.int .i64 x0,.int .i64 x1]:=cA ahcs
 obtain rfl:cb = #[.int .i64 x0,.int .i64 x1]:=cA bhcs
 clear ahcs bhcs
 go_enter Tryz.func130,Tryz.ntmps130
 go_wp2
 go_ret
 exact ⟨rfl,bO⟩
set_option maxHeartbeats 1000000 in
set_option maxRecDepth 100000 in
theorem aSC (p q:Option Addr) (len cap len' cap':Nat) (l:List aO.D) (w:World) (h:cM aO.n (rd aO w) w p len cap l) (h':cM aO.n (rd aO w) w q len' cap' l) :
  Calls Tryz.prog 220 #[.slice p len cap,.slice q len' cap'] w (dO (.bool true) w):=by
 obtain rfl:=h.lens
 obtain rfl:=h'.lens
 have hmx:l.length≤maxLen:=by have:=h.2.1;have:=h.2.2.1;omega
 unfold maxLen at hmx
 go_enter Tryz.func220,Tryz.ntmps220
 go_wp2
 go_loopw [5] (fun i wr=>∃ k:Nat,k≤l.length∧i = .int .i64 k∧Below w.heap.size w wr) (fun i _=>l.length - (intOf i).toNat)
 case atStart=>exact ⟨0,by omega,rfl,Below.refl _ _⟩
 case round =>
  obtain ⟨k,hk,rfl,hb⟩:=hrel
  by_cases hlt:k < l.length
  ·obtain ⟨b,off,rfl,hlb,cs,hcs,hc,hR⟩:=h.2.2.2.2 k hlt
   obtain ⟨b2,off2,rfl,hlb2,cs2,hcs2,hc2,hR2⟩:=h'.2.2.2.2 k hlt
   obtain ⟨x,hx⟩:∃ x,l[k] = x:=⟨_,rfl⟩
   rw [hx] at hR hR2
   have hR0:rd aO wr.drew cs x:=cO (fun q hq=>hb.block q hq) _ _ _ hR
   have hR20:rd aO wr.drew cs2 x:=cO (fun q hq=>hb.block q hq) _ _ _ hR2
   obtain ⟨x0,x1⟩:=x
   obtain ⟨rfl,aw0,aw1⟩:=aGP hR
   obtain ⟨rfl,bw0,bw1⟩:=aGP hR2
   have c0:wr.cell? ⟨b,off + k * 2,none⟩ = some (.int .i64 x0):=(hb.cell hlb).trans (by have hh:=hc 0 (by simp);rw [show Ty.n aO = 2 from rfl] at hh;simpa using hh)
   have c1:wr.cell? ⟨b,off + k * 2 + 1,none⟩ = some (.int .i64 x1):=(hb.cell hlb).trans (by have hh:=hc 1 (by simp);rw [show Ty.n aO = 2 from rfl] at hh;simpa using hh)
   have d0:wr.cell? ⟨b2,off2 + k * 2,none⟩ = some (.int .i64 x0):=(hb.cell hlb2).trans (by have hh:=hc2 0 (by simp);rw [show Ty.n aO = 2 from rfl] at hh;simpa using hh)
   have d1:wr.cell? ⟨b2,off2 + k * 2 + 1,none⟩ = some (.int .i64 x1):=(hb.cell hlb2).trans (by have hh:=hc2 1 (by simp);rw [show Ty.n aO = 2 from rfl] at hh;simpa using hh)
   have HR:=Lib.hid hR0;have HR2:=Lib.hid hR20
   clear h h' hc hc2 hx hcs hcs2 hR0 hR20
   go_wp2
   go_still_tail 8,(by kernel_rfl)
   change wpList _ _ _ _ _ wr.drew
   have hb2:Below w.heap.size w wr.drew:=hb.drew
   generalize wr.drew = w2 at hb2 HR HR2 ⊢
   go_wp2_with fail
   refine (aIF _ _ (x0,x1) _ (by exact HR.out) (by exact HR2.out)).mono ?_
   rintro e w3 ⟨rfl,b3⟩
   go_wp2
   go_roundw
   case rel=>exact ⟨k + 1,by omega,by go_num,hb2.trans (b3.mono hb2.size)⟩
   case measure=>simp [intOf];omega
  ·clear h h'
   go_wp2
   go_ret
   exact ⟨rfl,hb⟩
end Go.Proofs.YtmfpkkbhnmkfdaaGreat
