/- TRow: lemmas. No conditions. -/
import Derived.Test.YtlabadaccldkaaaGreatCe
namespace Go.Proofs.YtlabadaccldkaaaGreat
set_option maxRecDepth 100000
open Go.ChangeShapes Go.WideShapes Go.ChangeAt Go.RowKit
set_option linter.unusedVariables false
set_option linter.unusedSimpArgs false
set_option maxHeartbeats 1000000 in
theorem aQL (ca cb:Array Value) (d:bC.D) (w:World) (ha:rd bC w ca.toList d) (hb:rd bC w cb.toList d) :
  Calls Tryz.prog 91 #[.agg ca,.agg cb] w (jI (.bool true) w):=by
 obtain ⟨x0,hx0⟩:∃ y,y=d:=⟨_,rfl⟩
 subst hx0
 obtain ⟨ap0,an0,aq0,ahcs,as0⟩:=ha
 obtain ⟨bp0,bn0,bq0,bhcs,bs0⟩:=hb
 obtain rfl:ca = #[.slice ap0 an0 aq0]:=eZ ahcs
 obtain rfl:cb = #[.slice bp0 bn0 bq0]:=eZ bhcs
 clear ahcs bhcs
 go_enter Tryz.func91,Tryz.ntmps91
 go_wp2_with fail
 refine (iB _ _ _ _ _ _ x0 _ (by exact as0.below dU) (by exact bs0.below dU)).mono ?_
 rintro e w90 ⟨rfl,b0⟩
 obtain ⟨u0,v0⟩:=iD b0
 have y0:=b0.size
 try simp only[szy] at u0 v0 y0
 have yy00:w.heap.size<w90.heap.size:=bM
 have yy01:w.heap.size+1<w90.heap.size:=bM
 go_wp2
 go_ret
 exact ⟨rfl,dU⟩
set_option maxHeartbeats 1000000 in
theorem wL (p q:Option Addr) (len cap len' cap':Nat) (l:List bC.D) (w:World) (h:bY bC.n (rd bC w) w p len cap l) (h':bY bC.n (rd bC w) w q len' cap' l) :
  Calls Tryz.prog 70 #[.slice p len cap,.slice q len' cap'] w (jI (.bool true) w):=by
 obtain rfl:=h.lens
 obtain rfl:=h'.lens
 have hmx:l.length≤maxLen:=by have:=h.2.1;have:=h.2.2.1;omega
 unfold maxLen at hmx
 go_enter Tryz.func70,Tryz.ntmps70
 go_wp2
 go_loopw [5] (fun i wr=>∃ k:Nat,k≤l.length∧i = .int .i64 k∧Below w.heap.size w wr) (fun i _=>l.length - (intOf i).toNat)
 case atStart=>exact ⟨0,by omega,rfl,Below.refl _ _⟩
 case round =>
  obtain ⟨k,hk,rfl,hb⟩:=hrel
  by_cases hlt:k<l.length
  ·obtain ⟨b,off,rfl,hlb,cs,hcs,hc,hR⟩:=h.2.2.2.2 k hlt
   obtain ⟨b2,off2,rfl,hlb2,cs2,hcs2,hc2,hR2⟩:=h'.2.2.2.2 k hlt
   obtain ⟨x,hx⟩:∃ x,l[k]=x:=⟨_,rfl⟩
   rw[hx] at hR hR2
   have hR0:rd bC wr.drew cs x:=fT (fun q hq=>hb.block q hq) _ _ _ hR
   have hR20:rd bC wr.drew cs2 x:=fT (fun q hq=>hb.block q hq) _ _ _ hR2
   obtain ⟨x0,hx0⟩:∃ y,y=x:=⟨_,rfl⟩
   subst hx0
   obtain ⟨ap0,an0,aq0,rfl,as0⟩:=hR
   obtain ⟨bp0,bn0,bq0,rfl,bs0⟩:=hR2
   have c0:wr.cell? ⟨b,off+k,none⟩=some (.slice ap0 an0 aq0):=(hb.cell hlb).trans (by have hh:=hc 0 (by simp);rw[show Ty.n bC=1 from rfl] at hh;simpa using hh)
   have d0:wr.cell? ⟨b2,off2+k,none⟩=some (.slice bp0 bn0 bq0):=(hb.cell hlb2).trans (by have hh:=hc2 0 (by simp);rw[show Ty.n bC=1 from rfl] at hh;simpa using hh)
   have HR:=Lib.hid hR0;have HR2:=Lib.hid hR20
   clear h h' hc hc2 hx hcs hcs2 hR0 hR20
   go_wp2
   go_still_tail 8,(by kernel_rfl)
   change wpList _ _ _ _ _ wr.drew
   have hb2:Below w.heap.size w wr.drew:=hb.drew
   generalize wr.drew=w2 at hb2 HR HR2 ⊢
   go_wp2_with fail
   refine (aQL _ _ x0 _ (by exact HR.out) (by exact HR2.out)).mono ?_
   rintro e w3 ⟨rfl,b3⟩
   go_wp2
   go_roundw
   case rel=>exact ⟨k+1,by omega,by go_num,hb2.trans (b3.mono hb2.size)⟩
   case measure=>simp[intOf];omega
  ·clear h h'
   go_wp2
   go_ret
   exact ⟨rfl,hb⟩
end Go.Proofs.YtlabadaccldkaaaGreat
