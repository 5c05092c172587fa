/- The laws' own helpers over Act: copy, compare, count, mark, look at the marks. -/
import Derived.Test.YtmfpkkbhnmkfdaaGreatTIns
namespace Go.Proofs.YtmfpkkbhnmkfdaaGreat
open Go.ChangeShapes Go.WideShapes Go.ChangeAt Go.RowKit
set_option linter.unusedVariables false
set_option linter.unusedSimpArgs false
theorem aMD {w:World} {cs:List Value} {x0:Ty.D cP} {x1:Ty.D cP} {x2:Ty.D cP} {x3:Ty.D .bool} (h:rd cZ w cs (x0,((x1,x2),x3))) :
  cs = [.int .i64 x0,.int .i64 x1,.int .i64 x2,.bool x3]∧(Lit.int .i64 x0).wf = true∧(Lit.int .i64 x1).wf = true∧(Lit.int .i64 x2).wf = true:=by
 obtain ⟨_,_,hcs,⟨rfl,w0⟩,⟨_,_,rfl,⟨_,_,rfl,⟨rfl,w1⟩,⟨rfl,w2⟩⟩,rfl⟩⟩:=h
 exact ⟨hcs,w0,w1,w2⟩
set_option maxHeartbeats 1000000 in
set_option maxRecDepth 100000 in
theorem aVV (ca cb:Array Value) (d:cZ.D) (w:World) (ha:rd cZ w ca.toList d) (hb:rd cZ w cb.toList d) :
  Calls Tryz.prog 71 #[.agg ca,.agg cb] w (dO (.bool true) w):=by
 obtain ⟨x0,⟨⟨x1,x2⟩,x3⟩⟩:=d
 obtain ⟨ahcs,aw0,aw1,aw2⟩:=aMD ha
 obtain ⟨bhcs,bw0,bw1,bw2⟩:=aMD hb
 obtain rfl:ca = #[.int .i64 x0,.int .i64 x1,.int .i64 x2,.bool x3]:=cA ahcs
 obtain rfl:cb = #[.int .i64 x0,.int .i64 x1,.int .i64 x2,.bool x3]:=cA bhcs
 clear ahcs bhcs
 go_enter Tryz.func71,Tryz.ntmps71
 go_wp2_with fail
 refine (aIF _ _ (x1,x2) _ (by exact ⟨[_],[_],rfl,⟨rfl,aw1⟩,⟨rfl,aw2⟩⟩) (by exact ⟨[_],[_],rfl,⟨rfl,bw1⟩,⟨rfl,bw2⟩⟩)).mono ?_
 rintro e w91 ⟨rfl,b1⟩
 obtain ⟨u1,v1⟩:=bR b1
 have y1:=b1.size
 try simp only [World.size_alloc,World.size_setCell] at u1 v1 y1
 have yy10:w.heap.size < w91.heap.size:=aP
 have yy11:w.heap.size + 1 < w91.heap.size:=aP
 go_wp2
 go_ret
 exact ⟨rfl,bO⟩
set_option maxHeartbeats 1000000 in
set_option maxRecDepth 100000 in
theorem zH (p q:Option Addr) (len cap len' cap':Nat) (l:List cZ.D) (w:World) (h:cM cZ.n (rd cZ w) w p len cap l) (h':cM cZ.n (rd cZ w) w q len' cap' l) :
  Calls Tryz.prog 16 #[.slice p len cap,.slice q len' cap'] w (dO (.bool true) w):=by
 obtain rfl:=h.lens
 obtain rfl:=h'.lens
 have hmx:l.length≤maxLen:=by have:=h.2.1;have:=h.2.2.1;omega
 unfold maxLen at hmx
 go_enter Tryz.func16,Tryz.ntmps16
 go_wp2
 go_loopw [5] (fun i wr=>∃ k:Nat,k≤l.length∧i = .int .i64 k∧Below w.heap.size w wr) (fun i _=>l.length - (intOf i).toNat)
 case atStart=>exact ⟨0,by omega,rfl,Below.refl _ _⟩
 case round =>
  obtain ⟨k,hk,rfl,hb⟩:=hrel
  by_cases hlt:k < l.length
  ·obtain ⟨b,off,rfl,hlb,cs,hcs,hc,hR⟩:=h.2.2.2.2 k hlt
   obtain ⟨b2,off2,rfl,hlb2,cs2,hcs2,hc2,hR2⟩:=h'.2.2.2.2 k hlt
   obtain ⟨x,hx⟩:∃ x,l[k] = x:=⟨_,rfl⟩
   rw [hx] at hR hR2
   have hR0:rd cZ wr.drew cs x:=cO (fun q hq=>hb.block q hq) _ _ _ hR
   have hR20:rd cZ wr.drew cs2 x:=cO (fun q hq=>hb.block q hq) _ _ _ hR2
   obtain ⟨x0,⟨⟨x1,x2⟩,x3⟩⟩:=x
   obtain ⟨rfl,aw0,aw1,aw2⟩:=aMD hR
   obtain ⟨rfl,bw0,bw1,bw2⟩:=aMD hR2
   have c0:wr.cell? ⟨b,off + k * 4,none⟩ = some (.int .i64 x0):=(hb.cell hlb).trans (by have hh:=hc 0 (by simp);rw [show Ty.n cZ = 4 from rfl] at hh;simpa using hh)
   have c1:wr.cell? ⟨b,off + k * 4 + 1,none⟩ = some (.int .i64 x1):=(hb.cell hlb).trans (by have hh:=hc 1 (by simp);rw [show Ty.n cZ = 4 from rfl] at hh;simpa using hh)
   have c2:wr.cell? ⟨b,off + k * 4 + 2,none⟩ = some (.int .i64 x2):=(hb.cell hlb).trans (by have hh:=hc 2 (by simp);rw [show Ty.n cZ = 4 from rfl] at hh;simpa using hh)
   have c3:wr.cell? ⟨b,off + k * 4 + 3,none⟩ = some (.bool x3):=(hb.cell hlb).trans (by have hh:=hc 3 (by simp);rw [show Ty.n cZ = 4 from rfl] at hh;simpa using hh)
   have d0:wr.cell? ⟨b2,off2 + k * 4,none⟩ = some (.int .i64 x0):=(hb.cell hlb2).trans (by have hh:=hc2 0 (by simp);rw [show Ty.n cZ = 4 from rfl] at hh;simpa using hh)
   have d1:wr.cell? ⟨b2,off2 + k * 4 + 1,none⟩ = some (.int .i64 x1):=(hb.cell hlb2).trans (by have hh:=hc2 1 (by simp);rw [show Ty.n cZ = 4 from rfl] at hh;simpa using hh)
   have d2:wr.cell? ⟨b2,off2 + k * 4 + 2,none⟩ = some (.int .i64 x2):=(hb.cell hlb2).trans (by have hh:=hc2 2 (by simp);rw [show Ty.n cZ = 4 from rfl] at hh;simpa using hh)
   have d3:wr.cell? ⟨b2,off2 + k * 4 + 3,none⟩ = some (.bool x3):=(hb.cell hlb2).trans (by have hh:=hc2 3 (by simp);rw [show Ty.n cZ = 4 from rfl] at hh;simpa using hh)
   have HR:=Lib.hid hR0;have HR2:=Lib.hid hR20
   clear h h' hc hc2 hx hcs hcs2 hR0 hR20
   go_wp2
   go_still_tail 8,(by kernel_rfl)
   change wpList _ _ _ _ _ wr.drew
   have hb2:Below w.heap.size w wr.drew:=hb.drew
   generalize wr.drew = w2 at hb2 HR HR2 ⊢
   go_wp2_with fail
   refine (aVV _ _ (x0,((x1,x2),x3)) _ (by exact HR.out) (by exact HR2.out)).mono ?_
   rintro e w3 ⟨rfl,b3⟩
   go_wp2
   go_roundw
   case rel=>exact ⟨k + 1,by omega,by go_num,hb2.trans (b3.mono hb2.size)⟩
   case measure=>simp [intOf];omega
  ·clear h h'
   go_wp2
   go_ret
   exact ⟨rfl,hb⟩
end Go.Proofs.YtmfpkkbhnmkfdaaGreat
