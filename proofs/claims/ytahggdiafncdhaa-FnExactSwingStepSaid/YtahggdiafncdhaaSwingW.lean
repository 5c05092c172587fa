/- Swing: the walk of impl.SwingStep. -/
import Derived.Test.YtahggdiafncdhaaSwingC
import Derived.Test.YtahggdiafncdhaaLearnW
import Derived.Deep.RegionHeld3
import Derived.Deep.DeepCutAuto
namespace Go.Proofs.Ytahggdiafncdhaa
open Go.ChangeShapes Go.WideShapes Go.ChangeAt Go.RowKit Go.Deep
set_option linter.unusedVariables false
set_option linter.unusedSimpArgs false
/-- The first k rows turned. -/
def swgM (kp:Int) (s g:RowsD) (k:Nat):RowsD:=mp s.length fun i=>if i<k then swgV kp (s.getD i []) (g.getD i []) (s.getD i []).length else s.getD i []
theorem swgM_zero (kp:Int) (s g:RowsD):swgM kp s g 0=s:=by
 unfold swgM
 refine (mp_cong fun i _=>?_).trans (mp_self s [])
 rw[if_neg (by omega)]
theorem swgM_len (kp:Int) (s g:RowsD) (k:Nat):(swgM kp s g k).length=s.length:=mp_len _ _
theorem swgM_get (kp:Int) (s g:RowsD) {k:Nat} (h:k<s.length):(swgM kp s g k).getD k []=s.getD k []:=by
 unfold swgM;rw[mp_getD _ _ _ h,if_neg (by omega)]
theorem swgM_all (kp:Int) (s g:RowsD):swgM kp s g s.length=swgR kp s g s.length:=mp_cong fun i hi=>if_pos hi
theorem swgM_succ (kp:Int) (s g:RowsD) {k:Nat} (h:k<s.length) (o:List Int) (ho:o=swgV kp (s.getD k []) (g.getD k []) (s.getD k []).length):(swgM kp s g k).set k o=swgM kp s g (k+1):=by
 subst ho
 refine List.ext_getElem (by rw[List.length_set,swgM_len,swgM_len]) fun i h1 h2=>?_
 have hi:i<s.length:=by rw[swgM_len] at h2;exact h2
 have e:(swgM kp s g (k+1))[i]=if i<k+1 then swgV kp (s.getD i []) (g.getD i []) (s.getD i []).length else s.getD i []:=by
  rw[← getD_at h2 (d:=[])];exact mp_getD _ _ _ hi
 have e0:∀ h0:i<(swgM kp s g k).length,(swgM kp s g k)[i]=if i<k then swgV kp (s.getD i []) (g.getD i []) (s.getD i []).length else s.getD i []:=fun h0=>by
  rw[← getD_at h0 (d:=[])];exact mp_getD _ _ _ hi
 rw[e,List.getElem_set]
 by_cases hk:k=i
 ·subst hk;rw[if_pos rfl,if_pos (by omega)]
 ·rw[if_neg hk,e0]
  by_cases hl:i<k
  ·rw[if_pos hl,if_pos (by omega)]
  ·rw[if_neg hl,if_neg (by omega)]

/-- The walk's own variables,in a later world. -/
def SB (w:World) (a b1 b2 g1:Value) (wk:World):Prop :=
 w.heap.size+1+1+1+1<wk.heap.size∧wk.cell? ⟨w.heap.size,0,none⟩=some a∧wk.cell? ⟨w.heap.size+1,0,none⟩=some b1∧wk.cell? ⟨w.heap.size+1,1,none⟩=some b2∧wk.cell? ⟨w.heap.size+1+1,0,none⟩=some g1 ∧
 (∃ u,wk.cell? ⟨w.heap.size+1+1+1,0,none⟩=some u)∧(∃ u,wk.cell? ⟨w.heap.size+1+1+1+1,0,none⟩=some u)∧(∃ u,wk.cell? ⟨w.heap.size+1+1+1+1,1,none⟩=some u) ∧
 wk.frozen? ⟨w.heap.size+1+1+1,0,none⟩=false∧wk.frozen? ⟨w.heap.size+1+1+1+1,0,none⟩=false∧wk.frozen? ⟨w.heap.size+1+1+1+1,1,none⟩=false
section
variable {w wk w':World} {a b1 b2 g1:Value}
theorem SB.keep (h:SB w a b1 b2 g1 wk) (hk:∀ q,w.heap.size≤q→q≤w.heap.size+1+1+1+1→w'.heap[q]?=wk.heap[q]?) (hs:wk.heap.size≤w'.heap.size):SB w a b1 b2 g1 w':=by
 obtain ⟨h0,h1,h2,h3,h4,⟨u5,h5⟩,⟨u6,h6⟩,⟨u7,h7⟩,h8,h9,h10⟩:=h
 have c:∀ q o v,w.heap.size≤q→q≤w.heap.size+1+1+1+1→wk.cell? ⟨q,o,none⟩=some v→w'.cell? ⟨q,o,none⟩=some v:=fun q o v h1 h2 h=>(World.cell?_of_block (hk q h1 h2)).trans h
 have f:∀ q o,w.heap.size≤q→q≤w.heap.size+1+1+1+1→wk.frozen? ⟨q,o,none⟩=false→w'.frozen? ⟨q,o,none⟩=false:=fun q o h1 h2 h=>(World.frozen?_of_block (hk q h1 h2)).trans h
 exact ⟨by omega,c _ _ _ (by omega) (by omega) h1,c _ _ _ (by omega) (by omega) h2,c _ _ _ (by omega) (by omega) h3,c _ _ _ (by omega) (by omega) h4,⟨u5,c _ _ _ (by omega) (by omega) h5⟩,⟨u6,c _ _ _ (by omega) (by omega) h6⟩,⟨u7,c _ _ _ (by omega) (by omega) h7⟩,f _ _ (by omega) (by omega) h8,f _ _ (by omega) (by omega) h9,f _ _ (by omega) (by omega) h10⟩
theorem SB.below {B:Nat} (h:SB w a b1 b2 g1 wk) (hb:Below B wk w') (hB:w.heap.size+1+1+1+1<B):SB w a b1 b2 g1 w':=h.keep (fun q _ hq=>hb.block q (by omega)) hb.size
theorem SB.only {bl:List Nat} (h:SB w a b1 b2 g1 wk) (hb:Only bl wk w') (hn:∀ q∈bl,w.heap.size+1+1+1+1<q):SB w a b1 b2 g1 w' :=
 h.keep (fun q h1 h2=>hb.block q (fun hm=>by have:=hn q hm;omega) (by have:=h.1;omega)) hb.size
theorem SB.drew (h:SB w a b1 b2 g1 wk):SB w a b1 b2 g1 wk.drew:=h
theorem SB.start (w:World) (a b1 b2 g1 g2 g3 z1 z2 z3:Value) (T1 T2 T3:TypeId) :
  SB w a b1 b2 g1 (((((w.alloc (.cells #[a] T1)).alloc (.cells #[b1,b2] T2)).alloc (.cells #[g1,g2,g3] T3)).alloc (.cells #[z1] T1)).alloc (.cells #[z2,z3] T2)):=by
 refine ⟨by simp,?_,?_,?_,?_,⟨z1,?_⟩,⟨z2,?_⟩,⟨z3,?_⟩,?_,?_,?_⟩
 ·exact (alloc_cell (by first|(simp;done)|(simp;omega))).trans ((alloc_cell (by first|(simp;done)|(simp;omega))).trans ((alloc_cell (by first|(simp;done)|(simp;omega))).trans ((alloc_cell (by first|(simp;done)|(simp;omega))).trans (cell_new rfl rfl))))
 ·exact (alloc_cell (by first|(simp;done)|(simp;omega))).trans ((alloc_cell (by first|(simp;done)|(simp;omega))).trans ((alloc_cell (by first|(simp;done)|(simp;omega))).trans (cell_new (by first|(simp;done)|(simp;omega)) rfl)))
 ·exact (alloc_cell (by first|(simp;done)|(simp;omega))).trans ((alloc_cell (by first|(simp;done)|(simp;omega))).trans ((alloc_cell (by first|(simp;done)|(simp;omega))).trans (cell_new (by first|(simp;done)|(simp;omega)) rfl)))
 ·exact (alloc_cell (by first|(simp;done)|(simp;omega))).trans ((alloc_cell (by first|(simp;done)|(simp;omega))).trans (cell_new (by first|(simp;done)|(simp;omega)) rfl))
 ·exact (alloc_cell (by first|(simp;done)|(simp;omega))).trans (cell_new (by first|(simp;done)|(simp;omega)) rfl)
 ·exact cell_new (by first|(simp;done)|(simp;omega)) rfl
 ·exact cell_new (by first|(simp;done)|(simp;omega)) rfl
 ·exact (frozen_alloc (by first|(simp;done)|(simp;omega))).trans (frozen_new (by first|(simp;done)|(simp;omega)))
 ·exact frozen_new (by first|(simp;done)|(simp;omega))
 ·exact frozen_new (by first|(simp;done)|(simp;omega))
end
/-- The new speed's own two cells. -/
def NB (n:Nat) (c1 c2:Value) (wk:World):Prop:=n<wk.heap.size∧wk.cell? ⟨n,0,none⟩=some c1∧wk.cell? ⟨n,1,none⟩=some c2∧wk.frozen? ⟨n,0,none⟩=false∧wk.frozen? ⟨n,1,none⟩=false
section
variable {wk w':World} {n:Nat} {c1 c2:Value}
theorem NB.keep (h:NB n c1 c2 wk) (hk:w'.heap[n]?=wk.heap[n]?) (hs:wk.heap.size≤w'.heap.size):NB n c1 c2 w' :=
 ⟨Nat.lt_of_lt_of_le h.1 hs,(World.cell?_of_block hk).trans h.2.1,(World.cell?_of_block hk).trans h.2.2.1,(World.frozen?_of_block hk).trans h.2.2.2.1,(World.frozen?_of_block hk).trans h.2.2.2.2⟩
theorem NB.below {B:Nat} (h:NB n c1 c2 wk) (hb:Below B wk w') (hB:n<B):NB n c1 c2 w':=h.keep (hb.block n hB) hb.size
theorem NB.only {bl:List Nat} (h:NB n c1 c2 wk) (hb:Only bl wk w') (hn:n ∉ bl):NB n c1 c2 w':=h.keep (hb.block n hn h.1) hb.size
theorem NB.new (w:World) (c1 c2:Value) (T:TypeId):NB w.heap.size c1 c2 (w.alloc (.cells #[c1,c2] T)):=⟨by simp,cell_new rfl rfl,cell_new rfl rfl,frozen_new rfl,frozen_new rfl⟩
theorem NB.set1 {d2:Value} (h:NB n c1 d2 wk):NB n c1 c2 (wk.setCell ⟨n,1,none⟩ c2):=by
 have fz:∀ (w:World) (p q:Addr) (v:Value),(w.setCell p v).frozen? q=w.frozen? q:=fun w p q v=>by simp
 exact ⟨by simpa [World.setCell] using h.1,(World.cell?_setCell_other _ _ _ _ (by simp)).trans h.2.1,World.cell?_setCell_same _ _ _ h.2.2.1,by rw[fz];exact h.2.2.2.1,by rw[fz];exact h.2.2.2.2⟩
theorem NB.set {d1 d2:Value} (h:NB n d1 d2 wk):NB n c1 c2 ((wk.setCell ⟨n,0,none⟩ c1).setCell ⟨n,1,none⟩ c2):=by
 have fz:∀ (w:World) (p q:Addr) (v:Value),(w.setCell p v).frozen? q=w.frozen? q:=fun w p q v=>by simp
 exact ⟨by simpa [World.setCell] using h.1,(World.cell?_setCell_other _ _ _ _ (by simp)).trans (World.cell?_setCell_same _ _ _ h.2.1),World.cell?_setCell_same _ _ _ ((World.cell?_setCell_other _ _ _ _ (by simp)).trans h.2.2.1),by rw[fz,fz];exact h.2.2.2.1,by rw[fz,fz];exact h.2.2.2.2⟩
end
theorem wf_i64' {x:Int} (h1:-9223372036854775808≤x) (h2:x≤9223372036854775807):(Lit.int .i64 x).wf=true:=wf_i64 ⟨h1,h2⟩
/-- What SwingStep hands back. -/
def RetSw (w:World) (R:List OpD × (SwingD × Bool)) (e:Ending) (w':World):Prop:=∃ (a b:Array Value) (b0 b1:List Nat),e = .returned (.tuple #[.agg a,.agg b,.bool R.2.2])∧Un tModel w' a.toList R.1 b0∧Un tSwing w' b.toList R.2.1 b1∧(b0++b1).Nodup∧(∀ q∈b0++b1,w.heap.size≤q∧q<w'.heap.size)∧Below w.heap.size w w'
theorem swing_fin {w wk:World} {v u:Value} {lo1 hi1 lo2 hi2:Nat} {R R':List OpD × (SwingD × Bool)} (hB:Below w.heap.size w wk) (hF:FrA tModel lo1 hi1 wk [v] R'.1) (hG:FrA (.slice 92 tRow) lo2 hi2 wk [u] R'.2.1.1) (h1:hi2≤lo1) (h2:w.heap.size+1+1+1+1<lo2) (h3:w.heap.size+1+1+1+1<lo1) (hw:(Lit.int .i64 R'.2.1.2).wf=true) (hR:R=R') :
  RetSw w R (.returned (.tuple #[.agg #[v],.agg #[u,.int .i64 R'.2.1.2],.bool R'.2.2])) (((wk.setCell ⟨w.heap.size+1+1+1,0,none⟩ v).setCell ⟨w.heap.size+1+1+1+1,0,none⟩ u).setCell ⟨w.heap.size+1+1+1+1,1,none⟩ (.int .i64 R'.2.1.2)):=by
 subst hR
 have hF':=((hF.set1 (a:=⟨w.heap.size+1+1+1,0,none⟩) (.inl (by show w.heap.size+1+1+1<lo1;omega)) v).set1 (a:=⟨w.heap.size+1+1+1+1,0,none⟩) (.inl (by show w.heap.size+1+1+1+1<lo1;omega)) u).set1 (a:=⟨w.heap.size+1+1+1+1,1,none⟩) (.inl (by show w.heap.size+1+1+1+1<lo1;omega)) (.int .i64 R.2.1.2)
 have hG':=((hG.set1 (a:=⟨w.heap.size+1+1+1,0,none⟩) (.inl (by show w.heap.size+1+1+1<lo2;omega)) v).set1 (a:=⟨w.heap.size+1+1+1+1,0,none⟩) (.inl (by show w.heap.size+1+1+1+1<lo2;omega)) u).set1 (a:=⟨w.heap.size+1+1+1+1,1,none⟩) (.inl (by show w.heap.size+1+1+1+1<lo2;omega)) (.int .i64 R.2.1.2)
 obtain ⟨b0,f1,f2,f3,f4⟩:=hF'
 obtain ⟨b1,g1,g2,g3,g4⟩:=hG'
 refine ⟨#[v],#[u,.int .i64 R.2.1.2],b0,b1,rfl,f1,⟨[u],[_],b1,[],rfl,by simp,g1,⟨rfl,hw,rfl⟩⟩,?_,?_,?_⟩
 ·rw[List.nodup_append]
  exact ⟨f2,g2,fun x hx y hy e=>by have:=f3 x hx;have:=g3 y hy;omega⟩
 ·intro q hq
  rcases List.mem_append.1 hq with h|h
  ·have:=f3 q h;omega
  ·have:=g3 q h;omega
 ·exact ((hB.setCell (by show w.heap.size≤w.heap.size+1+1+1;omega) _).setCell (by show w.heap.size≤w.heap.size+1+1+1+1;omega) _).setCell (by show w.heap.size≤w.heap.size+1+1+1+1;omega) _
theorem wf_ok (x:Int) (h1:0≤x) (h2:x<1000000):(Lit.int .i64 (x+1)).wf=true:=wf_i64 ⟨by omega,by omega⟩
theorem wrap_ok (x:Int) (h1:0≤x) (h2:x<1000000):wrap64 (x+1)=x+1:=by
 unfold wrap64
 omega
theorem fin_cells {wk:World} {b c:Nat} {v u x u5 u6 u7:Value} (hbc:b≠c) (h5:wk.cell? ⟨b,0,none⟩=some u5) (h6:wk.cell? ⟨c,0,none⟩=some u6) (h7:wk.cell? ⟨c,1,none⟩=some u7) :
    (((wk.setCell ⟨b,0,none⟩ v).setCell ⟨c,0,none⟩ u).setCell ⟨c,1,none⟩ x).cell? ⟨b,0,none⟩=some v∧(((wk.setCell ⟨b,0,none⟩ v).setCell ⟨c,0,none⟩ u).setCell ⟨c,1,none⟩ x).cell? ⟨c,0,none⟩=some u∧(((wk.setCell ⟨b,0,none⟩ v).setCell ⟨c,0,none⟩ u).setCell ⟨c,1,none⟩ x).cell? ⟨c,1,none⟩=some x :=
  ⟨(World.cell?_setCell_far _ _ _ _ (Ne.symm hbc)).trans ((World.cell?_setCell_far _ _ _ _ (Ne.symm hbc)).trans (World.cell?_setCell_same _ _ _ h5)),
   (World.cell?_setCell_other _ _ _ _ (by simp)).trans (World.cell?_setCell_same _ _ _ ((World.cell?_setCell_far _ _ _ _ hbc).trans h6)),
   World.cell?_setCell_same _ _ _ ((World.cell?_setCell_other _ _ _ _ (by simp)).trans ((World.cell?_setCell_far _ _ _ _ hbc).trans h7))⟩
set_option maxRecDepth 100000 in
set_option maxHeartbeats 16000000 in
theorem swing_walk (cs ss gs:Array Value) (m:tModel.D) (s:tSwing.D) (g:tGrads.D) (rate kp:Int) (w:World) (h0:rd tModel w cs.toList m) (h1:rd tSwing w ss.toList s) (h2:rd tGrads w gs.toList g) (hr:(Lit.int .i64 rate).wf=true) (hk:(Lit.int .i64 kp).wf=true) (hP1:szT tModel m≤1000000000) (hP2:szT tSwing s≤1000000000) (hP3:szT tGrads g≤1000000000) :
  Calls Try.prog 36 #[.agg cs,.agg ss,.agg gs,.int .i64 rate,.int .i64 kp] w (RetSw w (swgF m s g rate kp)):=by
 obtain ⟨p0,c0,rfl,s0⟩:=Model_rd h0
 obtain ⟨ps,cS,rfl,ss0,ws⟩:=Swing_rd h1
 obtain ⟨pg,cg,rfl,sg,wg⟩:=Grads_rd h2
 obtain ⟨r1,r2⟩:=i64_of hr
 obtain ⟨k1,k2⟩:=i64_of hk
 have hB:=lenB9 (t:=tModel) hP1
 have hS:=(lenB9 (t:=tSwing) hP2).1
 have hmP:ModelP m:=⟨hB.1,fun y hy=>(hB.2 y hy).2.2.2.1⟩
 have hsP:RowsP s.1:=⟨hS.1,fun y hy=>(hS.2 y hy).1⟩
 have H0:=Lib.hid h0;have H1:=Lib.hid h1;have HG:=Lib.hid h2;have HS:=Lib.hid sg;have HSS:=Lib.hid ss0;have HR:=Lib.hid hr;have HK:=Lib.hid hk;have HWS:=Lib.hid ws
 clear h0 h1 h2 s0 sg hr hk ss0 hB hS ws wg
 have L0:=Lib.hid (SB.start w (.slice p0 (List.length m) c0) (.slice ps (List.length s.1) cS) (.int .i64 s.2) (.slice pg (List.length g.1) cg) (.int .i64 g.2.1) (.bool g.2.2) (.slice none 0 0) (.slice none 0 0) (.int .i64 0) 53 74 37)
 go_enter Try.func36,Try.ntmps36
 go_wp2_with fail
 obtain ⟨wa,hwa⟩:∃ wa,wa=(((((w.alloc (.cells #[.slice p0 (List.length m) c0] 53)).alloc (.cells #[.slice ps (List.length s.1) cS,.int .i64 s.2] 74)).alloc (.cells #[.slice pg (List.length g.1) cg,.int .i64 g.2.1,.bool g.2.2] 37)).alloc (.cells #[.slice none 0 0] 53)).alloc (.cells #[.slice none 0 0,.int .i64 0] 74)):=⟨_,rfl⟩
 have hza:w.heap.size+5≤wa.heap.size:=by rw[hwa];simp
 have BA:Below w.heap.size w wa:=by rw[hwa];exact belx
 rw[← hwa] at L0 ⊢
 clear hwa
 go_cut [13] (fun s13 wx=>∃ (n:Nat) (p1:Option Addr) (c1:Nat) (lo hi:Nat),s13 = .pointer (some ⟨n,0,none⟩)∧Below wa.heap.size wa wx∧NB n (.slice p1 (List.length s.1) c1) (.int .i64 s.2) wx∧wa.heap.size≤n∧wa.heap.size≤lo∧(n<lo∨hi≤n)∧FrA (.slice 92 tRow) lo hi wx [.slice p1 (List.length s.1) c1] s.1)
 case first =>
  obtain ⟨l0,l1,l2,l3,l4,-⟩:=L0.out
  go_region_held3 (fun w'=>w'.cell? ⟨w.heap.size+1,0,none⟩=some (.slice ps (List.length s.1) cS)∧w'.cell? ⟨w.heap.size+1,1,none⟩=some (.int .i64 s.2)) (exact ⟨(Below.cell (w:=wa) (B:=wa.heap.size) belx fcx).trans l2,(Below.cell (w:=wa) (B:=wa.heap.size) belx fcx).trans l3⟩)
   ((first|(go_at_call 90;refine (copyRows_c _ _ s.1 _ (by exact HSS.out.below (Below.trans BA (Below.mono (B:=wa.heap.size) belx fcx))) hsP).mono ?_;rintro e w1 ⟨q1,qc1,rfl,f1,b1⟩;have C1:Below wa.heap.size wa w1:=Below.trans belx (b1.mono fcx);have z1:wa.heap.size≤w1.heap.size:=C1.size;(try have kN:NB wa.heap.size (.slice none 0 0) (.int .i64 0) w1:=NB.below (wk:=(wa.alloc (.cells #[.slice none 0 0,.int .i64 0] 74)).drew) (NB.new wa _ _ 74) b1 fcx);(try (obtain ⟨kn0,kn1,kn2,kn3,kn4⟩:=id kN)))|fail))
  all_goals (go_wp2_with fail;go_meet;first|exact ⟨_,q1,qc1,_,_,rfl,belx,NB.new _ _ _ _,fcx,fcx,Or.inr (Nat.le_refl _),f1.alloc _⟩|exact ⟨_,q1,qc1,_,_,rfl,belx,NB.set kN,fcx,fcx,Or.inl fcx,(f1.set1 (Or.inl fcx) _).set1 (Or.inl fcx) _⟩)
 obtain ⟨n,p1,c1,lo,hi,rfl,b1,N1,hn1,hlo,hap,F1⟩:=hcut
 obtain ⟨w1,rfl⟩:∃ z,z=wc:=⟨_,rfl⟩
 have L1:=Lib.hid (SB.below L0.out b1 (by omega))
 have HN1:=Lib.hid N1
 have B1:Below w.heap.size w w1:=Below.trans BA (b1.mono (by omega))
 have hz1:=b1.size
 have hn2:=N1.1
 clear L0 N1
 go_upto_region 2 with fail
 go_cut [55] (fun s55 wx=>s55 = .bool (!(swingB m s&&(fixB rate&&(fixB kp&&(decide (s.2<1000000)&&fitB m g.1)))))∧Below w1.heap.size w1 wx)
 case first =>
  obtain ⟨l0,l1,l2,l3,l4,-⟩:=L1.out
  go_wp2_with fail
  refine (swingOk_c _ m _ s _ (by exact rd_below H0.out B1) (by exact rd_below H1.out B1) ⟨hmP,hsP⟩).mono ?_
  rintro e w2 ⟨rfl,b2⟩
  cases hc1:swingB m s
  ·go_wp2;go_meet;exact ⟨by simp[hc1],b2⟩
  go_wp2_with fail
  refine (fixOk_c rate _ HR.out True.intro).mono ?_
  rintro e w3 ⟨rfl,b3⟩
  have C3:Below w1.heap.size w1 w3:=Below.trans b2 (b3.mono b2.size)
  cases hc2:fixB rate
  ·go_wp2;go_meet;exact ⟨by simp[hc2],C3⟩
  go_wp2_with fail
  refine (fixOk_c kp _ HK.out True.intro).mono ?_
  rintro e w4 ⟨rfl,b4⟩
  have C4:Below w1.heap.size w1 w4:=Below.trans C3 (b4.mono C3.size)
  have z4:=C4.size
  have D4:Below w.heap.size w w4:=Below.trans B1 (C4.mono B1.size)
  obtain ⟨e0,e1,e2,e3,e4,-⟩:=L1.out.below C4 l0
  clear l1 l2 l3 l4
  cases hc3:fixB kp
  ·go_wp2;go_meet;exact ⟨by simp[hc3],C4⟩
  by_cases hc4:1000000≤s.2
  ·go_wp2;go_meet;exact ⟨by simp[hc4],C4⟩
  have hc4':s.2<1000000:=Int.not_le.1 hc4
  go_wp2_with fail
  refine (fits_c _ m _ _ g.1 _ (by exact rd_below H0.out D4) (by exact HS.out.below D4) True.intro).mono ?_
  rintro e w5 ⟨rfl,b5⟩
  cases hc5:fitB m g.1
  ·go_wp2;go_meet;exact ⟨by simp[hc5],Below.trans C4 (b5.mono C4.size)⟩
  ·go_wp2;go_meet;exact ⟨by simp[hc1,hc2,hc3,hc4,hc5],Below.trans C4 (b5.mono C4.size)⟩
 obtain ⟨rfl,b2⟩:=hcut
 obtain ⟨w2,rfl⟩:∃ z,z=wc:=⟨_,rfl⟩
 have L2:=Lib.hid (L1.out.below b2 L1.out.1)
 have HN2:=Lib.hid (HN1.out.below b2 hn2)
 have B2:Below w.heap.size w w2:=Below.trans B1 (b2.mono B1.size)
 have hz2:=b2.size
 have F2:=Lib.hid (F1.below b2 F1.hi_le)
 have hhi:=F1.hi_le
 clear L1 HN1 F1
 cases hX:(swingB m s&&(fixB rate&&(fixB kp&&(decide (s.2<1000000)&&fitB m g.1))))
 ·have hno:swgF m s g rate kp=(m,(s,false)):=(swg_no fun hh=>by simp[hh.1,hh.2.1,hh.2.2.1,hh.2.2.2.1,hh.2.2.2.2] at hX).symm
  obtain ⟨l0,l1,l2,l3,l4,-⟩:=L2.out
  obtain ⟨n0,n1,n2,-⟩:=HN2.out
  go_wp2_with fail
  go_region_held3 (fun w'=>w'.cell? ⟨w.heap.size,0,none⟩=some (.slice p0 (List.length m) c0)∧w'.cell? ⟨n,0,none⟩=some (.slice p1 (List.length s.1) c1)∧w'.cell? ⟨n,1,none⟩=some (.int .i64 s.2)) (refine ⟨?_,?_,?_⟩ <;> (repeat' first|assumption|exact l1|exact n1|exact n2|(refine (World.cell?_setCell_far _ _ _ _ (by simp;omega)).trans ?_)))
   ((first|(go_at_call 72;refine (copyModel_c _ m _ (by exact rd_below H0.out (Below.drew B2)) hP1).mono ?_;rintro e w3 ⟨cs3,rfl,f3,b3⟩;obtain ⟨p3,c3,rfl,-⟩:=Model_rd f3.rd;have B3:Below w.heap.size w w3:=Below.trans (Below.drew B2) (b3.mono fcx);have L3:=Lib.hid (SB.below (SB.drew L2.out) b3 fcx);have hN3:NB n (.slice p1 (List.length s.1) c1) (.int .i64 s.2) w3:=NB.below (wk:=w2.drew) HN2.out b3 fcx;obtain ⟨e0,e1,e2,e3,e4,⟨u5,e5⟩,⟨u6,e6⟩,⟨u7,e7⟩,e8,e9,e10⟩:=L3.out;obtain ⟨m0,m1,m2,-⟩:=id hN3)|fail))
  go_wp2
  obtain ⟨d1,d2,d3⟩:=fin_cells (v:=.slice p3 (List.length m) c3) (u:=.slice p1 (List.length s.1) c1) (x:=.int .i64 s.2) (show w.heap.size+1+1+1≠w.heap.size+1+1+1+1 by omega) e5 e6 e7
  refine bodyPost_ret (v:=.tuple #[.agg #[.slice p3 (List.length m) c3],.agg #[.slice p1 (List.length s.1) c1,.int .i64 s.2],.bool false]) (by simp[results,Try.results36,go_sem,d1,d2,d3]) rfl ?_
  exact swing_fin (R':=(m,(s,false))) B3 f3 (FrA.below (w:=w2.drew) F2.out b3 fcx) fcx fcx fcx HWS.out hno
 rw[Bool.not_true]
 simp only[Bool.and_eq_true,decide_eq_true_eq] at hX
 obtain ⟨x1,x2,x3,x4,x5⟩:=hX
 have HE:=Lib.hid (swg_yes (m:=m) (s:=s) (g:=g) (r:=rate) (kp:=kp) x1 x2 x3 x4 x5)
 obtain ⟨-,hst,hfs,-⟩:=(swingB_iff _ _).1 x1
 have HFS:=Lib.hid ((fitB_iff m s.1).1 hfs);have HFG:=Lib.hid ((fitB_iff m g.1).1 x5)
 have hls1:=Nat.le_of_eq HFS.out.1;have hls2:=Nat.le_of_eq HFS.out.1.symm
 have hlg1:=Nat.le_of_eq HFG.out.1;have hlg2:=Nat.le_of_eq HFG.out.1.symm
 obtain ⟨bl,un,nd,rng⟩:=F2.out.un
 have hml:=(un_len un).2
 unfold maxLen at hml
 have HU:=Lib.hid un
 have HN:Hid (∀ q∈bl,w.heap.size+1+1+1+1<q∧q≠n):=fun q hq=>by have:=rng q hq;omega
 clear un x1 x2 x3 x5 hfs F2
 obtain ⟨l0,l1,l2,l3,l4,⟨l5u,l5⟩,⟨l6u,l6⟩,⟨l7u,l7⟩,l8,l9,l10⟩:=L2.out
 obtain ⟨n0,n1,n2,n3,n4⟩:=HN2.out
 go_wp2_with fail
 go_loopw [14,62] (fun o i wr=>∃ k:Nat,k≤List.length s.1∧i = .int .i64 k∧o = .bool (swgA kp s.1 g.1 k)∧Only bl w2 wr∧Hid (Un tRows wr [.slice p1 (List.length s.1) c1] (swgM kp s.1 g.1 k) bl)) (fun _ i _=>List.length s.1 - (intOf i).toNat)
 case atStart=>exact ⟨0,by omega,rfl,rfl,Only.refl _ _,by show Un _ _ _ _ _;rw[swgM_zero];exact HU.out⟩
 case round =>
  obtain ⟨k,hk,rfl,rfl,ho,hf⟩:=hrel
  have HLk:=Lib.hid (L2.out.only ho fun q hq=>(HN.out q hq).1)
  have HNk:=Lib.hid (HN2.out.only ho fun hm=>(HN.out n hm).2 rfl)
  have Bk:Below w.heap.size w wr:=Below.trans B2 (ho.below (fun q hq=>by have:=HN.out q hq;omega) fcx)
  clear l0 l1 l2 l3 l4 l5 l5u l6 l6u l7 l7u l8 l9 l10 n0 n1 n2 n3 n4
  obtain ⟨l0,l1,l2,l3,l4,⟨l5u,l5⟩,⟨l6u,l6⟩,⟨l7u,l7⟩,l8,l9,l10⟩:=HLk.out
  obtain ⟨n0,n1,n2,n3,n4⟩:=HNk.out
  by_cases hlt:k<List.length s.1
  ·obtain ⟨S,hSD⟩:∃ S:List Int,S=s.1.getD k []:=⟨_,rfl⟩
   have hkl:k<(swgM kp s.1 g.1 k).length:=by rw[swgM_len];exact hlt
   have hMk:(swgM kp s.1 g.1 k)[k]=S:=by rw[hSD,← getD_at hkl (d:=[])];exact swgM_get kp s.1 g.1 hlt
   have hf0:Un (.slice 92 tRow) wr [.slice p1 (List.length s.1) c1] ((swgM kp s.1 g.1 k).set k S) bl:=by rw[← hMk,List.set_getElem_self];exact hf.out
   obtain ⟨b3,cap3,cu3,bu3,hv3,hbm3,hfz3,hc3,hR3,hn3,hs3,hA3,-⟩:=un_leaf hf0 nd hkl []
   simp only[Value.slice.injEq] at hv3
   obtain ⟨rfl,-,-⟩:=hv3
   obtain ⟨p3,n3',q3,rfl⟩:=un_form hR3
   have hR4:Un tInts wr [.slice p3 n3' q3] S bu3:=hR3
   obtain ⟨rfl,hpm⟩:=un_len hR4
   unfold maxLen at hpm
   have e3:wr.cell? ⟨b3,k,none⟩=some (.slice p3 S.length q3):=by
    have:=hc3 0 Nat.zero_lt_one
    simpa [Ty.n,offP] using this
   obtain ⟨G,hGd⟩:∃ G:List Int,G=g.1.getD k []:=⟨_,rfl⟩
   have hkg:k<g.1.length:=by omega
   have hGk:g.1[k]=G:=by rw[hGd,getD_at hkg]
   obtain ⟨b4,off4,p4,c4,hpg,hz4,e4w,sl4⟩:=Row_at HS.out k hkg G hGk
   subst hpg
   have hSk:s.1[k]=S:=by rw[hSD,getD_at hlt]
   have hGS0:G.length=S.length:=by
    have h1:=(fitAt_iff m g.1 (by omega) hkg).1 (HFG.out.2 k (by omega))
    have h2:=(fitAt_iff m s.1 (by omega) hlt).1 (HFS.out.2 k (by omega))
    rw[← hGk,← hSk,h1,h2]
   have hGS1:=Nat.le_of_eq hGS0;have hGS2:=Nat.le_of_eq hGS0.symm;clear hGS0
   have HA:=Lib.hid hA3;have HR3:=Lib.hid hR4;have HSL:=Lib.hid sl4
   have HSD:=Lib.hid hSD;have HGd:=Lib.hid hGd
   have HM:=Lib.hid (swgM_succ kp s.1 g.1 hlt (swgV kp S G S.length) (by rw[hSD,hGd]))
   have HNa:=Lib.hid (an_succ k (fun i=>swgB kp (s.1.getD i []) (g.1.getD i []) (s.1.getD i []).length))
   have HBU:Hid (∀ q∈bu3,q∈bl):=hs3
   have HE3:=Lib.hid e3
   clear hA3 hR4 hR3 sl4 hSD hGd hf0 hMk hf hc3 hfz3 hs3 hSk
   have HGk:=Lib.hid hGk;clear hGk
   go_wp2_with fail
   obtain ⟨wo,hwo⟩:∃ wo,wo=wr:=⟨_,rfl⟩
   have HO:=Lib.hid hwo
   rw[← hwo] at HLk HNk Bk HA ho
   have HR':=HR3
   clear l0 l1 l2 l3 l4 l5 l5u l6 l6u l7 l7u l8 l9 l10 n0 n1 n2 n3 n4 e3 hwo HR3 HE3
   go_loopw [14,73] (fun o i wj=>∃ j:Nat,j≤S.length∧i = .int .i64 j∧o = .bool (swgA kp s.1 g.1 k || swgB kp S G j)∧Only bu3 wo wj∧Hid (Un tInts wj [.slice p3 S.length q3] ((swgV kp S G S.length).take j++S.drop j) bu3)) (fun _ i _=>S.length - (intOf i).toNat)
   case atStart=>exact ⟨0,by omega,rfl,by rw[show swgB kp S G 0=false from rfl,Bool.or_false],by rw[HO.out];exact Only.refl _ _,by show Un _ _ _ _ _;simpa using HR'.out⟩
   case round =>
    obtain ⟨j,hj,rfl,rfl,ho2,hg⟩:=hrel
    clear HR' HO
    have HLj:=Lib.hid (HLk.out.only ho2 (fun q hq=>(HN.out q (HBU.out q hq)).1))
    have Bj:Below w.heap.size w wr:=Below.trans Bk (ho2.below (fun q hq=>by have:=HN.out q (HBU.out q hq);omega) (by have:=Bk.size;omega))
    by_cases hjl:j<S.length
    ·have HC:Hid ((swgV kp S G S.length).length=S.length):=mp_len _ _
     have hjj:j<((swgV kp S G S.length).take j++S.drop j).length:=by simp only[List.length_append,List.length_take,List.length_drop,HC.out];omega
     obtain ⟨b5,cap5,c5,bk5,hv5,hbm5,-,hfz5,hcl5,hc5,hR5,-,-,-,-,-⟩:=un_lens hg.out hn3 j hjj
     simp only[Value.slice.injEq] at hv5
     obtain ⟨rfl,-,-⟩:=hv5
     obtain ⟨rfl,hwf,rfl⟩:=hR5
     rw[get_mix _ _ _ hjl HC.out] at hwf
     have e5:wr.cell? ⟨b5,j,none⟩=some (.int .i64 S[j]):=by
      have:=hc5 0 (by simp)
      simp only[Ty.n,Nat.mul_one,Nat.add_zero,List.getElem_cons_zero] at this
      rw[this,get_mix _ _ _ hjl HC.out]
     have hjG:j<G.length:=by omega
     obtain ⟨b6,off6,rfl,hz6,e7w,y1,y2⟩:=int_at HSL.out j hjG
     obtain ⟨x,hx⟩:∃ x,x=S[j]:=⟨_,rfl⟩
     obtain ⟨y,hy⟩:∃ y,y=G[j]:=⟨_,rfl⟩
     have HAj:Hid ((swgV kp S G S.length)[j]'(by rw[HC.out];exact hjl)=(fixAdd (fixMul kp x).1 y).1):=by
      show _=_
      rw[← getD_at (l:=swgV kp S G S.length) (d:=0)]
      unfold swgV
      rw[mp_getD _ _ _ hjl,getD_at hjl,getD_at hjG,hx,hy]
     have HBj:Hid (swgB kp S G (j+1)=(swgB kp S G j || ((fixMul kp x).2 || (fixAdd (fixMul kp x).1 y).2))):=by
      show _=_
      rw[hx,hy,← getD_at hjl (d:=0),← getD_at hjG (d:=0)]
      exact an_succ j _
     rw[← hx] at e5 hwf
     rw[← hy] at e7w y1 y2
     have HWX:=Lib.hid hwf;have HWY:Hid ((Lit.int .i64 y).wf=true):=wf_i64 ⟨y1,y2⟩
     have HE7:=Lib.hid e7w;have HE4:=Lib.hid e4w
     clear hx hy hc5 hfz5 hwf e7w e4w
     go_wp2_with fail
     refine (fixMul_c kp x _ HK.out HWX.out True.intro).mono ?_
     rintro e w5 ⟨rfl,b5'⟩
     have e5_5:w5.cell? ⟨b5,j,none⟩=some (.int .i64 x):=(b5'.cell (p:=⟨b5,j,none⟩) (un_lt _ _ _ _ _ hg.out b5 hbm5)).trans e5
     have HL5:=Lib.hid (HLj.out.below b5' HLj.out.1)
     have HWM:=Lib.hid (wf_i64 (satI_b _):(Lit.int .i64 (fixMul kp x).1).wf=true)
     have B5:Below w.heap.size w w5:=Below.trans Bj (b5'.mono Bj.size)
     have e7:w5.cell? ⟨b6,off6+j,none⟩=some (.int .i64 y):=(B5.cell (p:=⟨b6,off6+j,none⟩) hz6).trans HE7.out
     have e4:w5.cell? ⟨b4,off4+k,none⟩=some (.slice (some ⟨b6,off6,none⟩) G.length c4):=(B5.cell (p:=⟨b4,off4+k,none⟩) hz4).trans HE4.out
     obtain ⟨l0,l1,l2,l3,l4,-⟩:=HL5.out
     clear e5
     go_wp2_with fail
     refine (fixAdd_c (fixMul kp x).1 y _ HWM.out HWY.out True.intro).mono ?_
     rintro e w6 ⟨rfl,b6'⟩
     clear l0 l1 l2 l3 l4 e7 e4
     have Bx:Below wr.heap.size wr w6:=Below.trans b5' (b6'.mono b5'.size)
     have hg6:Un tInts w6 [.slice (some ⟨b5,0,none⟩) S.length q3] ((swgV kp S G S.length).take j++S.drop j) bu3:=Un.keep _ _ _ _ (fun q hq=>Bx.block q (un_lt _ _ _ _ _ hg.out q hq)) hg.out
     obtain ⟨b9,cap9,c9,bk9,hv9,hbm9,-,hfz9,hcl9,hc9,hR9,-,-,-,-,hU9⟩:=un_lens hg6 hn3 j hjj
     simp only[Value.slice.injEq,Option.some.injEq,Addr.mk.injEq,and_true] at hv9
     obtain ⟨hb9,-,-⟩:=hv9
     subst hb9
     obtain ⟨rfl,-,rfl⟩:=hR9
     have e9:w6.cell? ⟨b5,j,none⟩=some (.int .i64 x):=(b6'.cell (p:=⟨b5,j,none⟩) (Nat.lt_of_lt_of_le (un_lt _ _ _ _ _ hg.out b5 hbm5) b5'.size)).trans e5_5
     have g9:=hfz9 j
     have HV9:=Lib.hid (hU9 0 (.int .i64 (fixAdd (fixMul kp x).1 y).1) (fixAdd (fixMul kp x).1 y).1 (by simp) ⟨rfl,wf_i64 (satI_b _),rfl⟩)
     have HS9:=Lib.hid (set_mix (swgV kp S G S.length) S j hjl HC.out _ HAj.out)
     have HO9:=Lib.hid (Only.setCell (p:=⟨b5,j,none⟩) (ho2.bel Bx ho2.size) hbm5 (.int .i64 (fixAdd (fixMul kp x).1 y).1))
     clear e5_5 hU9 hc9 hfz9 hg6
     cases hO:(swgA kp s.1 g.1 k || swgB kp S G j)
     all_goals cases hF2:(fixMul kp x).2
     all_goals
      go_wp2
      go_roundw
      case rel =>
       refine ⟨j+1,by omega,by go_num,by rw[HBj.out,← Bool.or_assoc,hO];simp[hF2],HO9.out,?_⟩
       show Un _ _ _ _ _
       have h2:=HV9.out
       rw[HS9.out] at h2
       simpa [Ty.n] using h2
      case measure=>simp[intOf];omega
    ·go_wp2
     go_roundw
     case rel =>
      obtain rfl:j=S.length:=by omega
      have hg':=hg.out
      rw[List.drop_length,List.append_nil,List.take_of_length_le (Nat.le_of_eq (show (swgV kp S G S.length).length=S.length from mp_len _ _))] at hg'
      refine ⟨k+1,by omega,by go_num,?_,ho.trans (ho2.mono HBU.out),?_⟩
      ·have h1:swgA kp s.1 g.1 (k+1)=(swgA kp s.1 g.1 k || swgB kp (s.1.getD k []) (g.1.getD k []) (s.1.getD k []).length):=HNa.out
       rw[h1,← HSD.out,← HGd.out]
      ·show Un _ _ _ _ _
       have h2:=HA.out wr _ (fun q hq hz=>ho2.block q hq hz) hg'
       have h3:(swgM kp s.1 g.1 k).set k (putP tRow [] S (swgV kp S G S.length))=swgM kp s.1 g.1 (k+1):=HM.out
       rw[h3] at h2
       exact h2
     case measure=>simp[intOf];omega
  ·obtain ⟨fl,hfl⟩:∃ fl,fl=swgA kp s.1 g.1 k:=⟨_,rfl⟩
   rw[← hfl]
   obtain rfl:k=List.length s.1:=by omega
   have HA':Hid (swgA kp s.1 g.1 (List.length s.1)=fl):=hfl.symm
   have HWN:=Lib.hid (wf_ok s.2 hst x4)
   clear hfl
   go_wp2_with fail
   have hwr:wrap64 (s.2+1)=s.2+1:=wrap_ok _ hst x4
   rw[hwr]
   have hzr:=ho.size
   have FR0:=FrA.of_un hf.out nd rng (by omega)
   have FR1:=FR0.set1 (a:=⟨n,1,none⟩) hap (.int .i64 (s.2+1))
   have hsz:szT tRows (swgM kp s.1 g.1 (List.length s.1))≤1000000000:=by
    rw[swgM_all,swgR_sz]
    have h:szT tRows s.1+0≤1000000000:=hP2
    omega
   have hNW:=NB.set1 (c2:=.int .i64 (s.2+1)) HNk.out
   have hSW:SB w (.slice p0 (List.length m) c0) (.slice ps (List.length s.1) cS) (.int .i64 s.2) (.slice pg (List.length g.1) cg) (wr.setCell ⟨n,1,none⟩ (.int .i64 (s.2+1))):=HLk.out.keep (fun q _ hq=>Below.heap_setCell _ _ _ _ (by show q≠n;omega)) (by simp[World.setCell])
   have BW:Below w.heap.size w (wr.setCell ⟨n,1,none⟩ (.int .i64 (s.2+1))):=Bk.setCell (by show w.heap.size≤n;omega) _
   refine (learn_c _ m _ ((swgM kp s.1 g.1 (List.length s.1),0,false):GradsD) rate _ (by exact rd_below H0.out BW) (by exact ⟨[_],[_,_],rfl,FR1.rd,⟨[_],[_],rfl,⟨rfl,rfl⟩,rfl⟩⟩) HR.out ⟨hP1,by show szT tRows _+(0+0)≤_;omega⟩).mono ?_
   rintro e w8 ⟨cs8,rfl,f8,b8⟩
   obtain ⟨p8,n8,c8,rfl⟩:∃ p8 n8 c8,cs8 = #[.slice p8 n8 c8]:=by
    obtain ⟨p8,c8,h,-⟩:=Model_rd f8.rd
    exact ⟨_,_,_,h⟩
   have hRows:swgM kp s.1 g.1 (List.length s.1)=swgR kp s.1 g.1 m.length:=by rw[swgM_all,HFS.out.1]
   have hFlag:swgA kp s.1 g.1 (List.length s.1)=swgA kp s.1 g.1 m.length:=by rw[HFS.out.1]
   have L8:=Lib.hid (hSW.below b8 hSW.1)
   have N8:=Lib.hid (hNW.below b8 hNW.1)
   have FR8:=Lib.hid (FR1.below b8 FR1.hi_le)
   have B8:Below w.heap.size w w8:=Below.trans BW (b8.mono BW.size)
   have z8:=b8.size
   have hhw:=FR1.hi_le
   have HF8:=Lib.hid f8
   have hsum:swgF m s g rate kp=((learnF m (swgM kp s.1 g.1 (List.length s.1),0,false) rate).1,((swgM kp s.1 g.1 (List.length s.1),s.2+1),swgA kp s.1 g.1 (List.length s.1) || (learnF m (swgM kp s.1 g.1 (List.length s.1),0,false) rate).2)):=by rw[hRows,hFlag];exact HE.out.symm
   have HSUM:=Lib.hid hsum
   clear l0 l1 l2 l3 l4 l5 l5u l6 l6u l7 l7u l8 l9 l10 n0 n1 n2 n3 n4 hf FR0 FR1 hNW hSW b8 f8 hsum hRows hFlag
   obtain ⟨l0,l1,l2,l3,l4,⟨l5u,l5⟩,⟨l6u,l6⟩,⟨l7u,l7⟩,l8,l9,l10⟩:=L8.out
   obtain ⟨n0,n1,n2,n3,n4⟩:=N8.out
   clear l0 l1 l2 l3 l4 l5 l5u l6 l6u l7 l7u l8 l9 l10 n0 n1 n2 n3 n4
   cases fl
   all_goals
    go_wp2_with fail
    obtain ⟨w9,hw9⟩:∃ w9,w9=w8.alloc (.cells #[.slice p8 n8 c8] 53):=⟨_,rfl⟩
    rw[← hw9]
    have L9:SB w (.slice p0 (List.length m) c0) (.slice ps (List.length s.1) cS) (.int .i64 s.2) (.slice pg (List.length g.1) cg) w9:=by rw[hw9];exact L8.out.keep (fun q _ hq=>Below.heap_alloc _ _ _ (by have:=L8.out.1;omega)) (by simp)
    have N9:NB n (.slice p1 (List.length s.1) c1) (.int .i64 (s.2+1)) w9:=by rw[hw9];exact N8.out.keep (Below.heap_alloc _ _ _ N8.out.1) (by simp)
    have e0:w9.cell? ⟨w8.heap.size,0,none⟩=some (.slice p8 n8 c8):=by rw[hw9];exact cell_new rfl rfl
    have B9:Below w.heap.size w w9:=by rw[hw9];exact B8.alloc B8.size _
    have F9:=Lib.hid (HF8.out.alloc (.cells #[.slice p8 n8 c8] 53));have G9:=Lib.hid (FR8.out.alloc (.cells #[.slice p8 n8 c8] 53))
    rw[← hw9] at F9 G9
    have hn8:=N8.out.1
    have hs8:=L8.out.1
    clear hw9
    obtain ⟨l0,l1,l2,l3,l4,⟨l5u,l5⟩,⟨l6u,l6⟩,⟨l7u,l7⟩,l8,l9,l10⟩:=L9
    obtain ⟨n0,n1,n2,n3,n4⟩:=N9
    skip
   ·go_region_held3 (fun w'=>w'.cell? ⟨w8.heap.size,0,none⟩=some (.slice p8 n8 c8)∧w'.cell? ⟨n,0,none⟩=some (.slice p1 (List.length s.1) c1)∧w'.cell? ⟨n,1,none⟩=some (.int .i64 (s.2+1))) (refine ⟨?_,?_,?_⟩ <;> (repeat' first|assumption|exact e0|exact n1|exact n2|(refine (World.cell?_setCell_far _ _ _ _ (by simp;omega)).trans ?_))) (fail)
    go_wp2
    obtain ⟨d1,d2,d3⟩:=fin_cells (v:=.slice p8 n8 c8) (u:=.slice p1 (List.length s.1) c1) (x:=.int .i64 (s.2+1)) (show w.heap.size+1+1+1≠w.heap.size+1+1+1+1 by omega) l5 l6 l7
    refine bodyPost_ret (v:=.tuple #[.agg #[.slice p8 n8 c8],.agg #[.slice p1 (List.length s.1) c1,.int .i64 (s.2+1)],.bool (learnF m (swgM kp s.1 g.1 (List.length s.1),0,false) rate).2]) (by simp[results,Try.results36,go_sem,d1,d2,d3]) rfl ?_
    exact swing_fin (R':=((learnF m (swgM kp s.1 g.1 (List.length s.1),0,false) rate).1,((swgM kp s.1 g.1 (List.length s.1),s.2+1),(learnF m (swgM kp s.1 g.1 (List.length s.1),0,false) rate).2))) B9.drew F9.out G9.out hhw fcx fcx HWN.out (by rw[HSUM.out,HA'.out,Bool.false_or])
   ·go_region
    all_goals go_wp2
    all_goals obtain ⟨d1,d2,d3⟩:=fin_cells (v:=.slice p8 n8 c8) (u:=.slice p1 (List.length s.1) c1) (x:=.int .i64 (s.2+1)) (show w.heap.size+1+1+1≠w.heap.size+1+1+1+1 by omega) l5 l6 l7
    all_goals refine bodyPost_ret (v:=.tuple #[.agg #[.slice p8 n8 c8],.agg #[.slice p1 (List.length s.1) c1,.int .i64 (s.2+1)],.bool true]) (by simp[results,Try.results36,go_sem,d1,d2,d3]) rfl ?_
    all_goals exact swing_fin (R':=((learnF m (swgM kp s.1 g.1 (List.length s.1),0,false) rate).1,((swgM kp s.1 g.1 (List.length s.1),s.2+1),true))) B9.drew F9.out G9.out hhw fcx fcx HWN.out (by rw[HSUM.out,HA'.out,Bool.true_or])
end Go.Proofs.Ytahggdiafncdhaa
