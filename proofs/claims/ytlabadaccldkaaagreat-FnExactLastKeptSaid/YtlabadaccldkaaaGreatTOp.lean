/- TOp: lemmas. No conditions. -/
import Derived.Test.YtlabadaccldkaaaGreatCe
namespace Go.Proofs.YtlabadaccldkaaaGreat
set_option maxRecDepth 100000
open Go.ChangeShapes Go.WideShapes Go.ChangeAt Go.RowKit
set_option linter.unusedVariables false
set_option linter.unusedSimpArgs false
theorem aR8 {w:World} {cs:List Value} {x0:Ty.D eI} {x1:Ty.D eI} {x2:Ty.D eI} {x3:Ty.D aA} (h:rd aZ w cs (x0,(x1,(x2,x3)))) :
  ∃ p3 n3 q3,cs=[.int .i64 x0,.int .i64 x1,.int .i64 x2,.slice p3 n3 q3]∧(Lit.int .i64 x0).wf=true∧(Lit.int .i64 x1).wf=true∧(Lit.int .i64 x2).wf=true∧bY (Ty.n eI) (rd eI w) w p3 n3 q3 x3:=by
 obtain ⟨_,_,hcs,⟨rfl,w0⟩,⟨_,_,rfl,⟨rfl,w1⟩,⟨_,_,rfl,⟨rfl,w2⟩,⟨p3,n3,q3,rfl,s3⟩⟩⟩⟩:=h
 exact ⟨_,_,_,hcs,w0,w1,w2,s3⟩
set_option maxHeartbeats 1000000 in
theorem aRT (ca cb:Array Value) (d:aZ.D) (w:World) (ha:rd aZ w ca.toList d) (hb:rd aZ w cb.toList d) :
  Calls Tryz.prog 89 #[.agg ca,.agg cb] w (jI (.bool true) w):=by
 obtain ⟨x0,⟨x1,⟨x2,x3⟩⟩⟩:=d
 obtain ⟨ap3,an3,aq3,ahcs,aw0,aw1,aw2,as3⟩:=aR8 ha
 obtain ⟨bp3,bn3,bq3,bhcs,bw0,bw1,bw2,bs3⟩:=aR8 hb
 obtain rfl:ca = #[.int .i64 x0,.int .i64 x1,.int .i64 x2,.slice ap3 an3 aq3]:=eZ ahcs
 obtain rfl:cb = #[.int .i64 x0,.int .i64 x1,.int .i64 x2,.slice bp3 bn3 bq3]:=eZ bhcs
 clear ahcs bhcs
 go_enter Tryz.func89,Tryz.ntmps89
 go_wp2_with fail
 refine (iB _ _ _ _ _ _ x3 _ (by exact as3.below dU) (by exact bs3.below dU)).mono ?_
 rintro e w93 ⟨rfl,b3⟩
 obtain ⟨u3,v3⟩:=iD b3
 have y3:=b3.size
 try simp only[szy] at u3 v3 y3
 have yy30:w.heap.size<w93.heap.size:=bM
 have yy31:w.heap.size+1<w93.heap.size:=bM
 go_wp2
 go_ret
 exact ⟨rfl,dU⟩
set_option maxHeartbeats 1000000 in
theorem aQD (p q:Option Addr) (len cap len' cap':Nat) (l:List aZ.D) (w:World) (h:bY aZ.n (rd aZ w) w p len cap l) (h':bY aZ.n (rd aZ w) w q len' cap' l) :
  Calls Tryz.prog 68 #[.slice p len cap,.slice q len' cap'] w (jI (.bool true) w):=by
 obtain rfl:=h.lens
 obtain rfl:=h'.lens
 have hmx:l.length≤maxLen:=by have:=h.2.1;have:=h.2.2.1;omega
 unfold maxLen at hmx
 go_enter Tryz.func68,Tryz.ntmps68
 go_wp2
 go_loopw [5] (fun i wr=>∃ k:Nat,k≤l.length∧i = .int .i64 k∧Below w.heap.size w wr) (fun i _=>l.length - (intOf i).toNat)
 case atStart=>exact ⟨0,by omega,rfl,Below.refl _ _⟩
 case round =>
  obtain ⟨k,hk,rfl,hb⟩:=hrel
  by_cases hlt:k<l.length
  ·obtain ⟨b,off,rfl,hlb,cs,hcs,hc,hR⟩:=h.2.2.2.2 k hlt
   obtain ⟨b2,off2,rfl,hlb2,cs2,hcs2,hc2,hR2⟩:=h'.2.2.2.2 k hlt
   obtain ⟨x,hx⟩:∃ x,l[k]=x:=⟨_,rfl⟩
   rw[hx] at hR hR2
   have hR0:rd aZ wr.drew cs x:=fT (fun q hq=>hb.block q hq) _ _ _ hR
   have hR20:rd aZ wr.drew cs2 x:=fT (fun q hq=>hb.block q hq) _ _ _ hR2
   obtain ⟨x0,⟨x1,⟨x2,x3⟩⟩⟩:=x
   obtain ⟨ap3,an3,aq3,rfl,aw0,aw1,aw2,as3⟩:=aR8 hR
   obtain ⟨bp3,bn3,bq3,rfl,bw0,bw1,bw2,bs3⟩:=aR8 hR2
   have c0:wr.cell? ⟨b,off+k * 4,none⟩=some (.int .i64 x0):=(hb.cell hlb).trans (by have hh:=hc 0 (by simp);rw[show Ty.n aZ=4 from rfl] at hh;simpa using hh)
   have c1:wr.cell? ⟨b,off+k * 4+1,none⟩=some (.int .i64 x1):=(hb.cell hlb).trans (by have hh:=hc 1 (by simp);rw[show Ty.n aZ=4 from rfl] at hh;simpa using hh)
   have c2:wr.cell? ⟨b,off+k * 4+2,none⟩=some (.int .i64 x2):=(hb.cell hlb).trans (by have hh:=hc 2 (by simp);rw[show Ty.n aZ=4 from rfl] at hh;simpa using hh)
   have c3:wr.cell? ⟨b,off+k * 4+3,none⟩=some (.slice ap3 an3 aq3):=(hb.cell hlb).trans (by have hh:=hc 3 (by simp);rw[show Ty.n aZ=4 from rfl] at hh;simpa using hh)
   have d0:wr.cell? ⟨b2,off2+k * 4,none⟩=some (.int .i64 x0):=(hb.cell hlb2).trans (by have hh:=hc2 0 (by simp);rw[show Ty.n aZ=4 from rfl] at hh;simpa using hh)
   have d1:wr.cell? ⟨b2,off2+k * 4+1,none⟩=some (.int .i64 x1):=(hb.cell hlb2).trans (by have hh:=hc2 1 (by simp);rw[show Ty.n aZ=4 from rfl] at hh;simpa using hh)
   have d2:wr.cell? ⟨b2,off2+k * 4+2,none⟩=some (.int .i64 x2):=(hb.cell hlb2).trans (by have hh:=hc2 2 (by simp);rw[show Ty.n aZ=4 from rfl] at hh;simpa using hh)
   have d3:wr.cell? ⟨b2,off2+k * 4+3,none⟩=some (.slice bp3 bn3 bq3):=(hb.cell hlb2).trans (by have hh:=hc2 3 (by simp);rw[show Ty.n aZ=4 from rfl] at hh;simpa using hh)
   have HR:=Lib.hid hR0;have HR2:=Lib.hid hR20
   clear h h' hc hc2 hx hcs hcs2 hR0 hR20
   go_wp2
   go_still_tail 8,(by kernel_rfl)
   change wpList _ _ _ _ _ wr.drew
   have hb2:Below w.heap.size w wr.drew:=hb.drew
   generalize wr.drew=w2 at hb2 HR HR2 ⊢
   go_wp2_with fail
   refine (aRT _ _ (x0,(x1,(x2,x3))) _ (by exact HR.out) (by exact HR2.out)).mono ?_
   rintro e w3 ⟨rfl,b3⟩
   go_wp2
   go_roundw
   case rel=>exact ⟨k+1,by omega,by go_num,hb2.trans (b3.mono hb2.size)⟩
   case measure=>simp[intOf];omega
  ·clear h h'
   go_wp2
   go_ret
   exact ⟨rfl,hb⟩
end Go.Proofs.YtlabadaccldkaaaGreat
