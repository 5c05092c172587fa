/- TIns: lemmas. No conditions. -/
import Derived.Test.YtlabadaccldkaaaGreatCe
namespace Go.Proofs.YtlabadaccldkaaaGreat
set_option maxRecDepth 100000
open Go.ChangeShapes Go.WideShapes Go.ChangeAt Go.RowKit
set_option linter.unusedVariables false
set_option linter.unusedSimpArgs false
theorem aLM {w:World} {cs:List Value} {x0:Ty.D eI} {x1:Ty.D eI} (h:rd aJ w cs (x0,x1)) :
  cs=[.int .i64 x0,.int .i64 x1]∧(Lit.int .i64 x0).wf=true∧(Lit.int .i64 x1).wf=true:=by
 obtain ⟨_,_,hcs,⟨rfl,w0⟩,⟨rfl,w1⟩⟩:=h
 exact ⟨hcs,w0,w1⟩
set_option maxHeartbeats 1000000 in
theorem aQH (ca cb:Array Value) (d:aJ.D) (w:World) (ha:rd aJ w ca.toList d) (hb:rd aJ w cb.toList d) :
  Calls Tryz.prog 88 #[.agg ca,.agg cb] w (jI (.bool true) w):=by
 obtain ⟨x0,x1⟩:=d
 obtain ⟨ahcs,aw0,aw1⟩:=aLM ha
 obtain ⟨bhcs,bw0,bw1⟩:=aLM hb
 obtain rfl:ca = #[.int .i64 x0,.int .i64 x1]:=eZ ahcs
 obtain rfl:cb = #[.int .i64 x0,.int .i64 x1]:=eZ bhcs
 clear ahcs bhcs
 go_enter Tryz.func88,Tryz.ntmps88
 go_wp2
 go_ret
 exact ⟨rfl,dU⟩
set_option maxHeartbeats 1000000 in
theorem aNG (p q:Option Addr) (len cap len' cap':Nat) (l:List aJ.D) (w:World) (h:bY aJ.n (rd aJ w) w p len cap l) (h':bY aJ.n (rd aJ w) w q len' cap' l) :
  Calls Tryz.prog 67 #[.slice p len cap,.slice q len' cap'] w (jI (.bool true) w):=by
 obtain rfl:=h.lens
 obtain rfl:=h'.lens
 have hmx:l.length≤maxLen:=by have:=h.2.1;have:=h.2.2.1;omega
 unfold maxLen at hmx
 go_enter Tryz.func67,Tryz.ntmps67
 go_wp2
 go_loopw [5] (fun i wr=>∃ k:Nat,k≤l.length∧i = .int .i64 k∧Below w.heap.size w wr) (fun i _=>l.length - (intOf i).toNat)
 case atStart=>exact ⟨0,by omega,rfl,Below.refl _ _⟩
 case round =>
  obtain ⟨k,hk,rfl,hb⟩:=hrel
  by_cases hlt:k<l.length
  ·obtain ⟨b,off,rfl,hlb,cs,hcs,hc,hR⟩:=h.2.2.2.2 k hlt
   obtain ⟨b2,off2,rfl,hlb2,cs2,hcs2,hc2,hR2⟩:=h'.2.2.2.2 k hlt
   obtain ⟨x,hx⟩:∃ x,l[k]=x:=⟨_,rfl⟩
   rw[hx] at hR hR2
   have hR0:rd aJ wr.drew cs x:=fT (fun q hq=>hb.block q hq) _ _ _ hR
   have hR20:rd aJ wr.drew cs2 x:=fT (fun q hq=>hb.block q hq) _ _ _ hR2
   obtain ⟨x0,x1⟩:=x
   obtain ⟨rfl,aw0,aw1⟩:=aLM hR
   obtain ⟨rfl,bw0,bw1⟩:=aLM hR2
   have c0:wr.cell? ⟨b,off+k * 2,none⟩=some (.int .i64 x0):=(hb.cell hlb).trans (by have hh:=hc 0 (by simp);rw[show Ty.n aJ=2 from rfl] at hh;simpa using hh)
   have c1:wr.cell? ⟨b,off+k * 2+1,none⟩=some (.int .i64 x1):=(hb.cell hlb).trans (by have hh:=hc 1 (by simp);rw[show Ty.n aJ=2 from rfl] at hh;simpa using hh)
   have d0:wr.cell? ⟨b2,off2+k * 2,none⟩=some (.int .i64 x0):=(hb.cell hlb2).trans (by have hh:=hc2 0 (by simp);rw[show Ty.n aJ=2 from rfl] at hh;simpa using hh)
   have d1:wr.cell? ⟨b2,off2+k * 2+1,none⟩=some (.int .i64 x1):=(hb.cell hlb2).trans (by have hh:=hc2 1 (by simp);rw[show Ty.n aJ=2 from rfl] at hh;simpa using hh)
   have HR:=Lib.hid hR0;have HR2:=Lib.hid hR20
   clear h h' hc hc2 hx hcs hcs2 hR0 hR20
   go_wp2
   go_still_tail 8,(by kernel_rfl)
   change wpList _ _ _ _ _ wr.drew
   have hb2:Below w.heap.size w wr.drew:=hb.drew
   generalize wr.drew=w2 at hb2 HR HR2 ⊢
   go_wp2_with fail
   refine (aQH _ _ (x0,x1) _ (by exact HR.out) (by exact HR2.out)).mono ?_
   rintro e w3 ⟨rfl,b3⟩
   go_wp2
   go_roundw
   case rel=>exact ⟨k+1,by omega,by go_num,hb2.trans (b3.mono hb2.size)⟩
   case measure=>simp[intOf];omega
  ·clear h h'
   go_wp2
   go_ret
   exact ⟨rfl,hb⟩
end Go.Proofs.YtlabadaccldkaaaGreat
