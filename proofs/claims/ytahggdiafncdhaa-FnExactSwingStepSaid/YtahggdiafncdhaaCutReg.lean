/- A region with boxes beside calls, walked by hand: all its orders at once. No program in sight. -/
import Derived.Test.YtahggdiafncdhaaCutBox
import Derived.Test.YtahggdiafncdhaaCe
namespace Go.Proofs.Ytahggdiafncdhaa
open Go.ChangeShapes Go.WideShapes Go.ChangeAt Go.RowKit Go.Deep
set_option linter.unusedVariables false
set_option linter.unusedSimpArgs false

/-- The slots that stay as they were. -/
def Kept (D:List Nat) (a a':Act):Prop:=a'.tmps.size=a.tmps.size∧∀ t,t ∉ D→a'.tmps.getD t undef=a.tmps.getD t undef
theorem Kept.put {D:List Nat} {a a':Act} (h:Kept D a a') (dst:Option Nat) (hd:∀ t,dst=some t→t∈D) (v:Value):Kept D a (a'.put dst v):=by
 cases dst with
 | none=>exact h
 | some d =>
  refine ⟨by simpa [Act.put] using h.1,fun t ht=>?_⟩
  have hne:d≠t:=fun e=>ht (e ▸ hd d rfl)
  simp only[Act.put]
  rw[← h.2 t ht,Array.getD_eq_getD_getElem?,Array.getD_eq_getD_getElem?,Array.getElem?_setIfInBounds_ne hne]
theorem Kept.defer {D:List Nat} {a a':Act} (h:Kept D a a') (d:Deferred):Kept D a { a' with defers:=d :: a'.defers }:=h
def KQ (D:List Nat) (a0:Act) (Q:Exit→Act→World→Prop):Exit→Act→World→Prop:=fun ex a w=>Q ex a w∧(ex = .normal→Kept D a0 a)
theorem KQ.lets {D:List Nat} {a0:Act} {Q:Exit→Act→World→Prop} (h:LetsOut Q):LetsOut (KQ D a0 Q):=by
 obtain ⟨a,w,h⟩:=h
 exact ⟨a,w,h,fun e=>by cases e⟩

section
variable {P:Program} {ops:Array Oper} {Q:Exit→Act→World→Prop} {D:List Nat} {a0:Act}
theorem op_kept {o:Oper} {a:Act} {w:World} {K K':Act→World→Prop} (ho:∀ t,o.dst=some t→t∈D) (ha:Kept D a0 a) (h:∀ a w,Kept D a0 a→K a w→K' a w) (hh:o.wp P a w K Q):o.wp P a w K' (KQ D a0 Q):=by
 unfold Oper.wp at *
 generalize (execOp a.eval o).run P w=r at *
 cases r with
 | ok n w' =>
  cases n <;> simp only[Oper.upon] at hh ⊢ <;>
   first
    | exact h _ _ (ha.put _ ho _) hh
    | exact h _ _ ((ha.defer _).put _ ho _) hh
    | exact Calls.mono hh (fun e w'' he=>by cases e <;> first|exact h _ _ (ha.put _ ho _) he|exact KQ.lets he|exact ⟨he,fun e=>by cases e⟩)
    | exact Rows.mono hh (fun _ _ he=>h _ _ (ha.put _ ho _) he)
 | halt x w'=>cases x <;> simp only[Oper.upon] at hh ⊢ <;> first|exact hh|exact ⟨hh,fun e=>by cases e⟩
theorem any_kept (hD:∀ o∈ops.toList,∀ t,o.dst=some t→t∈D):(n:Nat)→{l:Array Bool}→{a:Act}→{w:World}→Kept D a0 a→wpAny P .any ops Q n l a w→wpAny P .any ops (KQ D a0 Q) n l a w
 | 0,l,a,w,ha,h=>⟨h.1,h.2,fun _=>ha⟩
 | n+1,l,a,w,ha,h=>⟨fun hr=>⟨h.1 hr,fun _=>ha⟩,fun i hi=>by
  have h1:=h.2 i hi
  unfold wpOp at h1 ⊢
  cases ho:ops[i]? with
  | none=>rw[ho] at h1;exact any_kept hD n ha h1
  | some o =>
   rw[ho] at h1
   have hm:∀ t,o.dst=some t→t∈D:=hD o (by
    obtain ⟨_,h2⟩:=Array.getElem?_eq_some_iff.1 ho
    rw[← h2];simp)
   simp only at h1 ⊢
   split
   ·rename_i hw
    rw[if_pos hw] at h1
    rcases h1 with h1|h1
    ·exact .inl (op_kept hm ha (fun a w hk hx=>any_kept hD n hk hx) h1)
    ·exact .inr ⟨h1.1,KQ.lets h1.2⟩
   ·rename_i hw
    rw[if_neg hw] at h1
    exact any_kept hD n (ha.put _ hm _) h1⟩
end

section
variable {P:Program} {Cs:List Con} {X:Cx} {g0 γ γ':Gh} {β β':Bt} {e env:List SV} {ops:Array Oper} {clo:Array Nat} {wrt:List (Nat × Nat)} {N:Nat} {tm0:Tm} {es0:Es} {n0:Nat} {pre rs x y:List Rc} {r:Rc} {S:Nat→Bool} {a:Act} {w w':World} {σ:St} {wr:Bool} {D:List Nat} {C:Con}

/-- A region that is drawn: all orders. -/
theorem drawn_any (hC:∀ (c:Nat) (C:Con),Cs[c]?=some C→Con.Holds P C) {σF:St} {rt:RT} (hk:drawOK ops (Region.before ops) (ordOf ops true)=true)
  {fx:Es} (hfs:∀ p∈fx,p∈σ.es) (h:exOps P Cs wr D ops (ordOf ops true) σ (drOf ops true fx) = .ok rt) (hp:RTPath Cs rt env σF e) (hn:env.length=σ.nx) (hst:StOK X g0 γ β e w σ a):wpAny P .any ops (RegPost X g0 e σF) ops.size (Array.replicate ops.size false) a { w with drawn:=w.drawn+1 }:=by
 simp only[drawOK,Bool.and_eq_true,decide_eq_true_eq,List.all_eq_true,beq_iff_eq,List.mem_range,List.contains_iff_mem] at hk
 obtain ⟨⟨⟨⟨⟨k1,k2⟩,k3⟩,k4⟩,k5⟩,k6⟩:=hk
 have hmem:∀ p∈ordOf ops true,ops[p.1]?=some p.2:=fun p hp=>by
  simp only[ordOf,if_true] at hp
  obtain ⟨_,h2⟩:=enum_mem (sort_sub _ _ _ p hp)
  simpa using h2
 have hrel:RelD (Region.before ops) (ops.toList.zipIdx.filterMap fun p=>p.1.dst.map fun t=>(t,p.2)) σ.n σ.tm σ.es fx σ.nr [] σ (drOf ops true fx):=⟨rfl,rfl,rfl,rfl,rfl,fun r hr=>(by simp at hr),rfl,rfl,rfl,rfl,rfl,fun _=>hfs⟩
 obtain ⟨rs,q1,q2,q0,q3,q4,q5,q6⟩:=trace_ok (X:=X) hC (ordOf ops true) h hp hn hrel hst.facts hmem
 simp only[List.nil_append] at q3 q4 q5
 have hi:rs.map (·.i)=(ordOf ops true).map (·.1):=by rw[← q1];simp
 have hlen:rs.length=ops.size:=by rw[← k2,← q1];simp
 have hop:∀ r∈rs,ops[r.i]?=some r.o:=fun r hr=>hmem (r.i,r.o) (by rw[← q1];exact List.mem_map.2 ⟨r,hr,rfl⟩)
 have hnd:(rs.map (·.i)).Nodup:=by rw[hi];exact k3
 have hcov:∀ i,i<ops.size→∃ r∈rs,r.i=i:=fun i hlt=>by
  have:=k4 i hlt
  rw[← hi,List.mem_map] at this
  exact this
 have hord:OrdOK P X e ops (Region.before ops) (ops.toList.zipIdx.filterMap fun p=>p.1.dst.map fun t=>(t,p.2)) σ.n σ.tm σ.es fx σ.nr rs:=by
  refine ⟨q2,hnd,fun x r y hs j hj=>?_,fun r hr r' hr' t h1 h2=>?_,hfs,fun r hr=>by rw[before_size];exact (Array.getElem?_eq_some_iff.1 (hop r hr)).1,fun t hf r hr=>?_,fun t p hf=>?_⟩
  ·rcases lin_ok (ordOf ops true) k5 (x:=x.map fun r=>(r.i,r.o)) (y:=y.map fun r=>(r.i,r.o)) (p:=(r.i,r.o)) (by rw[← q1,hs];simp) j hj with h1|⟨q,h1,h2⟩
   ·simp at h1
   ·rw[List.mem_map] at h1
    obtain ⟨q',h3,rfl⟩:=h1
    exact ⟨q',h3,h2⟩
  ·have:=once_ix ops.toList (by simpa [dstsOnce] using k1) (by simpa using hop r hr) (by simpa using hop r' hr') h1 h2
   exact nodup_inj hnd hr hr' this
  ·exact wrt_find.1 hf r.i r.o (by simpa using hop r hr)
  ·obtain ⟨o,h1,h2⟩:=wrt_find.2 p hf
   have hlt:p.2<ops.size:=by
    have:=(List.getElem?_eq_some_iff.1 h1).1
    simpa using this
   obtain ⟨r,hr,he⟩:=hcov p.2 hlt
   refine ⟨r,hr,he,?_⟩
   have h3:=hop r hr
   rw[he] at h3
   have h4:ops[p.2]?=some o:=by simpa using h1
   rw[h3] at h4
   simp only[Option.some.injEq] at h4
   rw[h4];exact h2
 have hah:∀ i o,ops[i]?=some o→(Region.before ops).getD i 0=aheadOf (Region.before ops) o:=fun i o ho=>by
  have:(i,o)∈enum 0 ops.toList:=by
   have key:∀ (l:List Oper) (n j:Nat) (o:Oper),l[j]?=some o→(n+j,o)∈enum n l:=by
    intro l
    induction l with
    | nil=>intro n j o h;simp at h
    | cons z l ih =>
     intro n j o h
     cases j with
     | zero=>simp at h;subst h;simp[enum]
     | succ j =>
      have:=ih (n+1) j o (by simpa using h)
      rw[show n+(j+1)=n+1+j by omega]
      exact List.mem_cons_of_mem _ this
   have:=key ops.toList 0 i o (by simpa using ho)
   simpa using this
  exact k6 (i,o) this
 have hnone:∀ j,(Array.replicate ops.size false).getD j false=false:=fun j=>by
  rw[Array.getD_eq_getD_getElem?,Array.getElem?_replicate]
  split <;> rfl
 have hnr:σ.nr≤nrOf σ.nr rs∧∀ r∈rs,σ.nr≤r.nr:=by
  obtain ⟨n1,n2⟩:=GoodFrom.nums rs q2
  simp only[List.nil_append] at n1 n2
  have e1:nrOf σ.nr []=σ.nr:=rfl
  rw[e1] at n1 n2
  exact ⟨n1,fun r hr=>(n2 r hr).1⟩
 refine any_ok (g0:=g0) hord hcov hah (fun S γ' β' a' w' hall hd=>⟨rfl,?_⟩) ops.size _ γ β a _ (by simp) (by
  rw[List.filter_eq_self.2 (fun r _=>by rw[hnone];rfl)]
  omega) ?_
 ·have hfl:rs.filter (fun r=>(Array.replicate ops.size false).getD r.i false)=[]:=List.filter_eq_nil_iff.2 fun r _=>by rw[hnone];simp
  have ht:tabS σ.es (fun j=>(Array.replicate ops.size false).getD j false) rs=σ.es:=by unfold tabS;rw[hfl];rfl
  have htm:tmS σ.n σ.tm (fun j=>(Array.replicate ops.size false).getD j false) rs=σ.tm:=by unfold tmS;rw[hfl];rfl
  have hlat:Later X γ (Os γ σ.es) e w γ (Os γ σ.es) e { w with drawn:=w.drawn+1 }:=⟨fun _ _ h=>h,⟨[],by simp⟩,Nat.le_refl _,fun b _ h _=>⟨rfl,h⟩⟩
  refine ⟨fun r hr h=>(by rw[hnone] at h;cases h),?_,by rw[ht];exact hst.keys,⟨hst.frame.os,hst.frame.tape,hst.frame.output,hst.frame.size,hst.frame.block⟩,hst.gh,hst.len,fun t=>?_,fun r hr _ q h1 h2=>hst.fresh q (by have:=hnr.2 r hr;omega),fun q hq=>hst.fresh q (by have:=hnr.1;omega),hst.nodef,hst.base⟩
  ·rw[ht]
   exact ⟨hst.mem.nd,hst.mem.at',fun b hb=>(hlat.gd (hst.mem.good b hb)).1,fun p hp=>entOK.later hlat rfl (fun _ _=>rfl) (fun _ _=>rfl) (hst.mem.ent p hp)⟩
  ·rw[ht,htm]
   exact valOK.later hlat (hst.vals t)
 ·have hfl:rs.filter (fun r=>S r.i)=rs:=List.filter_eq_self.2 fun r hr=>hall r hr
  have ht:tabS σ.es S rs=esOf σ.es rs:=by unfold tabS;rw[hfl]
  have htm:tmS σ.n σ.tm S rs=σF.tm:=by unfold tmS;rw[hfl,q3]
  have hs1:StOK X g0 γ' β' e w' { σF with es:=esOf σ.es rs } a':=by
   refine ⟨by rw[← ht];exact hd.mem,by rw[← ht];exact hd.keys,hd.frame,hd.gh,?_,fun t=>?_,q6,fun r hr=>hd.top r (by rw[← q5];exact hr),hd.nodef,hd.base⟩
   ·show σF.n=_
    rw[q0];exact hd.len
   ·have:=hd.vals t
    rw[htm,ht] at this
    exact this
  obtain ⟨β2,hs2⟩:=hs1.sealed
  refine ⟨γ',β2,?_⟩
  have e1:({ σF with es:=esOf σ.es rs }:St).upd (sealAll ({ σF with es:=esOf σ.es rs }:St).es) σF.nx σF.nr σF.cr=σF:=by
   cases σF
   simp only at q4
   rw[q4]
   rfl
  have hs2:StOK X g0 γ' β2 e w' (({ σF with es:=esOf σ.es rs }:St).upd (sealAll ({ σF with es:=esOf σ.es rs }:St).es) σF.nx σF.nr σF.cr) a':=hs2
  rw[e1] at hs2
  exact hs2


/-- ALL ORDERS OF A REGION AT ONCE,in a walk by hand: what is known behind it. -/
theorem region_cut (hm:P.follows .mixedOrders=true) (hC:∀ (c:Nat) (C:Con),Cs[c]?=some C→Con.Holds P C) {σF:St} {rt:RT} {id:Nat} (hk:drawOK ops (Region.before ops) (ordOf ops true)=true)
  (h:exOps P Cs wr D ops (ordOf ops true) σ (drOf ops true []) = .ok rt) (hp:RTPath Cs rt env σF e) (hn:env.length=σ.nx) (hst:StOK X g0 γ β e w σ a) :
  (Code.region id ops true).wp P (fun ex a' w'=>ex = .normal∧(∃ γ β,StOK X g0 γ β e w' σF a')∧Kept (ops.toList.filterMap (·.dst)) a a') a w:=by
 refine wp_mono (wp_region_any hm (any_kept (D:=ops.toList.filterMap (·.dst)) (a0:=a) (fun o ho t ht=>List.mem_filterMap.2 ⟨o,ho,ht⟩) _ ⟨rfl,fun _ _=>rfl⟩ (drawn_any hC hk (fun p hp=>by simp at hp) h hp hn hst))) ?_
 rintro ex a' w' ⟨⟨rfl,h1⟩,h2⟩
 exact ⟨rfl,h1,h2 rfl⟩

theorem lookT_ok {O:List Nat} {f:Nat→Value}:(tm:Tm)→(∀ p∈tm,valOK X γ O e w p.2 (f p.1))→∀ t,valOK X γ O e w (lookT tm t) (f t)
 | [],h,t=>trivial
 | (d,s) :: tm,h,t=>by
  by_cases hd:d=t
  ·subst hd;rw[lookT_same];exact h (d,s) (by simp)
  ·rw[lookT_other hd];exact lookT_ok tm (fun p hp=>h p (by simp[hp])) t

/-- Where a walk by hand stands: nothing is its own. -/
def cx0 (w:World) (ht:tabP.p w):Cx:=⟨fun _=>False,[],[],w,fun _ h=>h.elim,⟨ht,by simp⟩⟩
theorem stOK_start {tm:Tm} {n nx:Nat} (ht:tabP.p w) (hn:n=a.tmps.size) (hd:a.defers=[]) (hv:∀ p∈tm,valOK (cx0 w ht) (fun _=>none) [] e w p.2 (a.tmps.getD p.1 undef)) :
  StOK (cx0 w ht) (fun _=>none) (fun _=>none) (fun _=>[]) e w { tm,n,es:=[],facts:=[],nx,nr:=1,cr:=[] } a :=
 ⟨⟨by simp[Os,Us],fun b hb=>by simp[Os] at hb,fun b hb=>by simp[Us] at hb,fun p hp=>by simp at hp⟩,by simp[KeysOK],⟨rfl,rfl,rfl,Nat.le_refl _,fun _ _ _=>rfl⟩,fun r u h=>by simp at h,hn,fun t=>lookT_ok (f:=fun t=>a.tmps.getD t undef) tm hv t,fun p hp=>by simp at hp,fun _ _=>rfl,hd,fun r v h=>by simp at h⟩
theorem gd0 {ht:tabP.p w} {b:Nat} (h:b<w.heap.size):Gd (cx0 w ht) [] w false b:=⟨h,by simp,fun h=>h,fun h=>by cases h⟩
/-- A variable of the walk's. -/
theorem pro_start {ht:tabP.p w} {t:Ty} {d:t.D} {k:Ar} {b:Nat} {cs:List Value} (hb:b<w.heap.size) (hc:∀ j x,cs[j]?=some x→w.cell? ⟨b,j,none⟩=some x) (hr:rd t w cs d) (hk:k.bd e.length=true) (hd:(k.val e).as t=d) :
  valOK (cx0 w ht) γ [] e w (.pro (explode t k false)) (.pointer (some ⟨b,0,none⟩)) :=
 ⟨b,0,cs,rfl,explode_ok t hk (by rw[hd];exact (RdG.of_rd hr).mono (fun b h=>gd0 h) (fun _ _=>rfl)),fun j hj=>by rw[Nat.zero_add];exact hc j _ (List.getElem?_eq_getElem hj),gd0 hb⟩
theorem num_start {ht:tabP.p w} {t:Ty} {d:t.D} {k:Ar} {v:Value} (hr:rd t w [v] d) (hk:k.bd e.length=true) (hd:(k.val e).as t=d) :
  valOK (cx0 w ht) γ [] e w (.one (.d k t false 0)) v :=
 ⟨hk,by rw[hd];exact (RdG.of_rd hr).mono (fun b h=>gd0 h) (fun _ _=>rfl),fun h=>absurd rfl h⟩
theorem StOK.below {ht:tabP.p w} (h:StOK (cx0 w ht) g0 γ β e w' σ a):Below w.heap.size w w':=⟨h.frame.os,h.frame.tape,h.frame.output,h.frame.size,fun b hb=>h.frame.block b hb (by simp[cx0])⟩
/-- A new box behind a region. -/
theorem StOK.box {ht:tabP.p w} (h:StOK (cx0 w ht) g0 γ β e w' σ a) {t r:Nat} {T:TypeId} {ls:List Leaf} (h1:σ.at' t = .pbox r 0) (h2:look σ.es r=some (.box T ls)) :
  ∃ b c,a.tmps.getD t undef = .pointer (some ⟨b,0,none⟩)∧w.heap.size≤b∧b<w'.heap.size∧w'.heap[b]?=some (.cells c T (0,0))∧leavesOK (cx0 w ht) γ (Os γ σ.es) e w' ls c.toList:=by
 have hm:=look_mem h2
 obtain ⟨b,c,g1,g2,g3,g4⟩:=h.mem.ent _ hm
 obtain ⟨b',g5,g6⟩:=(show valOK1 (cx0 w ht) γ (Os γ σ.es) e w' (.pbox r 0) (a.tmps.getD t undef) from by have:=h.vals t;rw[h1] at this;exact this)
 rw[g1] at g5
 simp only[Option.some.injEq,Value.pointer.injEq,Addr.mk.injEq,and_true,true_and] at g5
 subst g5
 have hO:b∈Os γ σ.es:=mem_Os.2 ⟨_,hm,by simp[blkE,g1,blkV]⟩
 obtain ⟨k1,k2,_⟩:=h.mem.at' b hO
 refine ⟨b,c,g6,?_,k1,g2,g3⟩
 simpa [cx0,Cx.B] using k2
theorem StOK.one {ht:tabP.p w} (h:StOK (cx0 w ht) g0 γ β e w' σ a) {t:Nat} {l:Leaf} (h1:σ.at' t = .one l):leafOK (cx0 w ht) γ (Os γ σ.es) e w' l (a.tmps.getD t undef):=by
 have:=h.vals t;rw[h1] at this;exact this
theorem leaf_fr {ht:tabP.p w} {O:List Nat} {k:Ar} {t:Ty} {n:Nat} {v:Value} (h:leafOK (cx0 w ht) γ O e w' (.d k t true n) v):FrR t w.heap.size w'.heap.size w' [v] ((k.val e).as t) :=
 ⟨h.2.1.mono (fun b hb=>⟨by have:=hb.2.2.2 rfl;simpa [cx0,Cx.B,Cx.F0] using this,hb.1⟩) (fun _ _=>rfl),Nat.le_refl _⟩
end

def hasN:List Nat→Nat→Bool
 | [],_=>false
 | d :: D,i=>Nat.beq d i || hasN D i
theorem hasN_iff:{D:List Nat}→{i:Nat}→(hasN D i=true↔i∈D)
 | [],i=>by simp[hasN]
 | d :: D,i=>by
  rw[hasN,Bool.or_eq_true,hasN_iff,List.mem_cons,show Nat.beq d i=true↔i=d from ⟨fun h=>(Nat.eq_of_beq_eq_true h).symm,fun h=>by rw[h];exact Nat.beq_refl d⟩]
/-- A frame,but what was written is what it is. -/
def fillL (D:List Nat) (a':Act):Nat→List Value→List Value
 | _,[]=>[]
 | i,x :: l=>(match hasN D i with|true=>a'.tmps.getD i undef|false=>x) :: fillL D a' (i+1) l
theorem fillL_get {D:List Nat} {a':Act}:(l:List Value)→(i j:Nat)→(fillL D a' i l)[j]?=(l[j]?).map fun x=>match hasN D (i+j) with|true=>a'.tmps.getD (i+j) undef|false=>x
 | [],i,j=>by simp[fillL]
 | x :: l,i,0=>by simp[fillL]
 | x :: l,i,j+1=>by
  rw[fillL,List.getElem?_cons_succ,List.getElem?_cons_succ,fillL_get l (i+1) j,show i+1+j=i+(j+1) by omega]
theorem kept_mk {D:List Nat} {l:List Value} {df:List Deferred} {a':Act} (h:Kept D ⟨l.toArray,df⟩ a') (hd:a'.defers=df):a'=⟨(fillL D a' 0 l).toArray,df⟩:=by
 obtain ⟨tm,df'⟩:=a'
 obtain rfl:df'=df:=hd
 congr 1
 apply Array.ext'
 apply List.ext_getElem?
 intro j
 have hs:tm.size=l.length:=by simpa using h.1
 rw[show (fillL D ⟨tm,df'⟩ 0 l).toArray.toList=fillL D ⟨tm,df'⟩ 0 l from rfl,fillL_get,Nat.zero_add]
 rcases Nat.lt_or_ge j l.length with hj|hj
 ·rw[List.getElem?_eq_getElem hj,Option.map_some,List.getElem?_eq_getElem (by simpa using (by omega:j<tm.size))]
  have e1:tm.getD j undef=tm[j]:=by rw[Array.getD_eq_getD_getElem?,Array.getElem?_eq_getElem (by omega)];rfl
  congr 1
  cases hb:hasN D j with
  | true=>exact (by simpa using e1.symm)
  | false =>
   have h2:=h.2 j (fun hm=>by rw[hasN_iff.2 hm] at hb;cases hb)
   have e2:l.toArray.getD j undef=l[j]:=by rw[Array.getD_eq_getD_getElem?,List.getElem?_toArray,List.getElem?_eq_getElem hj];rfl
   have h3:tm.getD j undef=l.toArray.getD j undef:=h2
   rw[e1,e2] at h3
   simpa using h3
 ·rw[List.getElem?_eq_none hj,List.getElem?_eq_none (by simpa using (by omega:tm.size≤j))];rfl
theorem cells1 {w : World} {b : Nat} {v0 : Value} (h0 : w.cell? ⟨b, 0, none⟩ = some v0) : ∀ (j : Nat) (x : Value), ([v0] : List Value)[j]? = some x → w.cell? ⟨b, j, none⟩ = some x
  | 0, x, h => by obtain rfl : v0 = x := by simpa using h
                  exact h0
  | j + 1, x, h => by simp at h
theorem cells2 {w : World} {b : Nat} {v0 v1 : Value} (h0 : w.cell? ⟨b, 0, none⟩ = some v0) (h1 : w.cell? ⟨b, 1, none⟩ = some v1) : ∀ (j : Nat) (x : Value), ([v0, v1] : List Value)[j]? = some x → w.cell? ⟨b, j, none⟩ = some x
  | 0, x, h => by obtain rfl : v0 = x := by simpa using h
                  exact h0
  | 1, x, h => by obtain rfl : v1 = x := by simpa using h
                  exact h1
  | j + 2, x, h => by simp at h
theorem cells3 {w : World} {b : Nat} {v0 v1 v2 : Value} (h0 : w.cell? ⟨b, 0, none⟩ = some v0) (h1 : w.cell? ⟨b, 1, none⟩ = some v1) (h2 : w.cell? ⟨b, 2, none⟩ = some v2) : ∀ (j : Nat) (x : Value), ([v0, v1, v2] : List Value)[j]? = some x → w.cell? ⟨b, j, none⟩ = some x
  | 0, x, h => by obtain rfl : v0 = x := by simpa using h
                  exact h0
  | 1, x, h => by obtain rfl : v1 = x := by simpa using h
                  exact h1
  | 2, x, h => by obtain rfl : v2 = x := by simpa using h
                  exact h2
  | j + 3, x, h => by simp at h
end Go.Proofs.Ytahggdiafncdhaa
