/- Ce: lemmas. No conditions. -/
import Derived.Test.YtlabadaccldkaaaGreatCd
import Derived.Orders
import Derived.Test.YtlabadaccldkaaaGreatProg
import Derived.Test.YtlabadaccldkaaaGreatCa
import Derived.Outline
import Derived.Deep.RegionHeld3
namespace Go.Proofs.YtlabadaccldkaaaGreat
open Go.ChangeShapes Go.WideShapes Go.ChangeAt Go.RowKit Go.Deep
set_option linter.unusedVariables false
set_option linter.unusedSimpArgs false
section
variable {P:Program} {Cs:List Con} {X:Cx} {g0 γ γ':Gh} {β β':Bt} {e env:List SV} {ops:Array Oper} {clo:Array Nat} {wrt:List (Nat × Nat)} {N:Nat} {tm0:Tm} {es0 fx:Es} {n0:Nat} {pre rs x y:List Rc} {r:Rc} {S:Nat→Bool} {a:Act} {w w':World} {σ:St} {wr:Bool} {D:List Nat}
theorem aB0.op {i:Nat} {o:Oper} (hi:ops[i]?=some o) {K:Act→World→Prop} {Q:Exit→Act→World→Prop} (h:aB0 P ops o a w fun v w'=>K (a.put o.dst v) w'):wpOp P ops Q i K a w:=by
 unfold wpOp
 simp only[hi]
 rcases h with ⟨h1,h2⟩|⟨h1,h2⟩
 ·rw[h1];exact h2
 ·rw[h1]
  simp only[if_true]
  exact .inl (h2.upon fun v w' h=>h)
theorem aFA:(l:List Rc)→(∃ r∈l,S r.i=false)→∃ x r y,l=x++r :: y∧S r.i=false∧∀ q∈x,S q.i=true
 | [],⟨r,h,_⟩=>by simp at h
 | q :: l,⟨r,h1,h2⟩=>by
  cases hq:S q.i
  ·exact ⟨[],q,l,rfl,hq,fun _ h=>by simp at h⟩
  ·have:∃ r∈l,S r.i=false:=by
    rw[List.mem_cons] at h1
    rcases h1 with rfl|h1
    ·rw[hq] at h2;cases h2
    ·exact ⟨r,h1,h2⟩
   obtain ⟨x,r',y,e1,e2,e3⟩:=aFA l this
   refine ⟨q :: x,r',y,by rw[e1];rfl,e2,fun z hz=>?_⟩
   rw[List.mem_cons] at hz
   rcases hz with rfl|hz
   ·exact hq
   ·exact e3 z hz
theorem wS {clo:Array Nat}:(l:List Edge)→(s:Nat)→∀ j,((l.foldl (fun s e=>if Region.binds .any e then s ||| (2 ^ e.on ||| clo.getD e.on 0) else s) s).testBit j=true↔s.testBit j=true∨∃ e∈l,Region.binds .any e=true∧(j=e.on∨(clo.getD e.on 0).testBit j=true))
 | [],s,j=>by simp
 | e :: l,s,j=>by
  rw[List.foldl_cons,wS l]
  cases hb:Region.binds .any e
  ·simp only[Bool.false_eq_true,if_false,List.mem_cons,exists_eq_or_imp,hb,false_and,false_or]
  ·simp only[if_true,List.mem_cons,exists_eq_or_imp,hb,true_and,Nat.testBit_or,Bool.or_eq_true,Nat.testBit_two_pow,decide_eq_true_eq]
   constructor
   ·rintro ((h|h|h)|h)
    ·exact .inl h
    ·exact .inr (.inl (.inl h.symm))
    ·exact .inr (.inl (.inr h))
    ·exact .inr (.inr h)
   ·rintro (h|(h|h)|h)
    ·exact .inl (.inl h)
    ·exact .inl (.inr (.inl h.symm))
    ·exact .inl (.inr (.inr h))
    ·exact .inr h
theorem aW5 (h:OrdOK P X e ops clo wrt N tm0 es0 fx n0 rs) (hcov:∀ i,i<ops.size→∃ r∈rs,r.i=i) (hah:∀ i o,ops[i]?=some o→clo.getD i 0=aH6 clo o) {Q:Exit→Act→World→Prop}
  (hQ:∀ (S:Nat→Bool) γ β a w,(∀ r∈rs,S r.i=true)→Dyn X g0 e clo N tm0 es0 fx n0 rs S γ β a w→Q .normal a w) :
  ∀ (fuel:Nat) (listed:Array Bool) (γ:Gh) (β:Bt) (a:Act) (w:World),listed.size=ops.size→(rs.filter fun r=>!listed.getD r.i false).length≤fuel→Dyn X g0 e clo N tm0 es0 fx n0 rs (fun j=>listed.getD j false) γ β a w→wpAny P .any ops Q fuel listed a w:=by
 have lt:∀ r∈rs,r.i<ops.size:=fun r hr=>by
  obtain ⟨x,y,he⟩:=List.append_of_mem hr
  exact (Array.getElem?_eq_some_iff.1 (h.at' he).1).1
 have all:∀ (listed:Array Bool),listed.size=ops.size→Region.ready .any ops listed=[]→∀ r∈rs,listed.getD r.i false=true:=fun listed hsz hr=>by
  refine Classical.byContradiction fun hno=>?_
  have:∃ r∈rs,(fun j=>listed.getD j false) r.i=false:=by
   refine Classical.byContradiction fun h1=>hno fun r hr=>?_
   cases hb:listed.getD r.i false
   ·exact absurd ⟨r,hr,hb⟩ h1
   ·rfl
  obtain ⟨x,r,y,e1,e2,e3⟩:=aFA (S:=fun j=>listed.getD j false) rs this
  have hr0:r∈rs:=by rw[e1];simp
  have hi:=(h.at' e1).1
  have:r.i∈Region.ready .any ops listed:=by
   rw[mem_ready]
   have hl:=lt r hr0
   refine ⟨?_,r.o,hi,fun ed he hb=>?_⟩
   ·simp only[Array.getD_eq_getD_getElem?] at e2 ⊢
    rw[Array.getElem?_eq_getElem (by omega)] at e2 ⊢
    simpa using e2
   ·have hbit:(clo.getD r.i 0).testBit ed.on=true:=by
     rw[hah r.i r.o hi]
     exact (wS r.o.after.toList 0 ed.on).2 (.inr ⟨ed,by simpa using he,hb,.inl rfl⟩)
    obtain ⟨q,q1,q2⟩:=h.lin x r y e1 ed.on hbit
    rw[← q2]
    exact e3 q q1
  rw[hr] at this
  cases this
 intro fuel
 induction fuel with
 | zero =>
  intro listed γ β a w hsz hf hd
  have hall:∀ r∈rs,listed.getD r.i false=true:=fun r hr=>by
   have h0:(rs.filter fun r=>!listed.getD r.i false)=[]:=List.eq_nil_of_length_eq_zero (by omega)
   rw[List.filter_eq_nil_iff] at h0
   have:=h0 r hr
   simpa using this
  refine ⟨?_,hQ _ _ _ _ _ hall hd⟩
  rw[List.eq_nil_iff_forall_not_mem]
  intro i hi
  rw[mem_ready] at hi
  obtain ⟨h1,o,h2,_⟩:=hi
  have hl:=(Array.getElem?_eq_some_iff.1 h2).1
  obtain ⟨r,hr,rfl⟩:=hcov i hl
  have:=hall r hr
  simp only[Array.getD_eq_getD_getElem?] at h1 this
  rw[Array.getElem?_eq_getElem (by omega)] at h1 this
  simp only[Option.getD_some] at h1 this
  rw[h1] at this;cases this
 | succ fuel ih =>
  intro listed γ β a w hsz hf hd
  refine ⟨fun hr=>hQ _ _ _ _ _ (all listed hsz hr) hd,fun i hi=>?_⟩
  obtain ⟨h1,o,h2,h3⟩:=mem_ready.1 hi
  have hl:=(Array.getElem?_eq_some_iff.1 h2).1
  obtain ⟨r,hr,rfl⟩:=hcov i hl
  obtain ⟨x,y,hs⟩:=List.append_of_mem hr
  have ho:=(h.at' hs).1
  rw[h2] at ho
  simp only[bQ] at ho
  subst ho
  have hS:(fun j=>listed.getD j false) r.i=false:=by
   simp only[Array.getD_eq_getD_getElem?] at h1 ⊢
   rw[Array.getElem?_eq_getElem (by omega)] at h1 ⊢
   simpa using h1
  refine aB0.op h2 ((hd.step h hs hS fun j hj=>?_).mono fun v w' ⟨γ',β',hd'⟩=>?_)
  ·rw[hah r.i r.o h2] at hj
   rcases (wS r.o.after.toList 0 j).1 hj with h4|⟨ed,e1,e2,e3⟩
   ·simp at h4
   ·have hon:=h3 ed (by simpa using e1) e2
    rcases e3 with rfl|e3
    ·exact hon
    ·have hlt:ed.on<ops.size:=by
      rcases Nat.lt_or_ge ed.on listed.size with h'|h'
      ·omega
      ·simp[Array.getElem?_eq_none h'] at hon
     obtain ⟨q,hq,hqe⟩:=hcov ed.on hlt
     exact hd.closed q hq (by rw[hqe];exact hon) j (by rw[hqe];exact e3)
  ·have hset:(fun j=>(listed.setIfInBounds r.i true).getD j false)=kJ (fun j=>listed.getD j false) r.i:=by
    funext j
    simp only[kJ,Array.getD_eq_getD_getElem?]
    by_cases hj:j=r.i
    ·subst hj
     rw[Array.getElem?_setIfInBounds_self]
     simp[hsz,hl]
    ·rw[Array.getElem?_setIfInBounds_ne (fun h=>hj h.symm)]
     simp[hj]
   refine ih _ γ' β' _ _ (by simpa using hsz) ?_ (by rw[hset];exact hd')
   have hcnt:(rs.filter fun q=>!(listed.setIfInBounds r.i true).getD q.i false).length<(rs.filter fun q=>!listed.getD q.i false).length:=by
    have e0:∀ q:Rc,(listed.setIfInBounds r.i true).getD q.i false=kJ (fun j=>listed.getD j false) r.i q.i:=fun q=>congrFun hset q.i
    simp only[e0]
    rw[hs]
    simp only[List.filter_append,List.filter_cons,List.length_append]
    have hr1:(!kJ (fun j=>listed.getD j false) r.i r.i)=false:=by simp[kJ]
    have hr2:(!listed.getD r.i false)=true:=by simpa using hS
    rw[hr1,hr2]
    simp only[Bool.false_eq_true,if_false,if_true,List.length_cons]
    have mono:∀ l:List Rc,(l.filter fun q=>!kJ (fun j=>listed.getD j false) r.i q.i).length≤(l.filter fun q=>!listed.getD q.i false).length:=fun l=>by
     rw[← List.countP_eq_length_filter,← List.countP_eq_length_filter]
     refine List.countP_mono_left fun q _ hq=>?_
     simp only[kJ,Bool.not_or,Bool.and_eq_true] at hq
     exact hq.1
    have m1:=mono x
    have m2:=mono y
    omega
   omega
theorem aJ2 {clo:Array Nat}:(n:Nat)→(done:Nat)→(l:List (Nat × Oper))→∀ p∈aBZ clo n done l,p∈l
 | 0,done,l,p,hp=>hp
 | n+1,done,l,p,hp=>by
  have pick:∀ (c:Nat) (l:List (Nat × Oper)) (q:Nat × Oper),sF done clo c l=some q→q∈l:=by
   intro c l
   induction l with
   | nil=>intro q h;simp[sF] at h
   | cons z l ih =>
    intro q h
    simp only[sF] at h
    split at h
    ·simp only[bQ] at h;subst h;simp
    ·exact List.mem_cons_of_mem _ (ih q h)
  simp only[aBZ] at hp
  split at hp
  ·rename_i q hq
   rw[List.mem_cons] at hp
   rcases hp with rfl|hp
   ·simp only[Option.or_eq_some_iff] at hq
    rcases hq with h|⟨_,h|⟨_,h|⟨_,h|⟨_,h⟩⟩⟩⟩ <;> exact pick _ _ _ h
   ·exact (List.mem_filter.1 (aJ2 n _ _ p hp)).1
  ·exact hp
theorem aOG:(l:List Oper)→(l.filterMap (·.dst)).Nodup→∀ {i j:Nat} {o o':Oper} {t:Nat},l[i]?=some o→l[j]?=some o'→o.dst=some t→o'.dst=some t→i=j
 | [],_,i,j,o,o',t,h1,_,_,_=>by simp at h1
 | z :: l,hn,i,j,o,o',t,h1,h2,h3,h4=>by
  have mem:∀ {k:Nat} {u:Oper},l[k]?=some u→u.dst=some t→t∈l.filterMap (·.dst):=fun {k u} hk hu=>by
   rw[List.mem_filterMap]
   exact ⟨u,List.mem_of_getElem? hk,hu⟩
  have hl:(l.filterMap (·.dst)).Nodup:=by
   cases hz:z.dst with
   | none=>simpa [List.filterMap_cons,hz] using hn
   | some t=>rw[List.filterMap_cons,hz] at hn;exact (List.nodup_cons.1 hn).2
  have hzt:z.dst=some t→t ∉ l.filterMap (·.dst):=fun hz=>by
   rw[List.filterMap_cons,hz] at hn;exact (List.nodup_cons.1 hn).1
  cases i with
  | zero =>
   simp only[List.getElem?_cons_zero,bQ] at h1
   subst h1
   cases j with
   | zero=>rfl
   | succ j=>exact absurd (mem (by simpa using h2) h4) (hzt h3)
  | succ i =>
   cases j with
   | zero =>
    simp only[List.getElem?_cons_zero,bQ] at h2
    subst h2
    exact absurd (mem (by simpa using h1) h3) (hzt h4)
   | succ j=>exact congrArg Nat.succ (aOG l hl (i:=i) (j:=j) (by simpa using h1) (by simpa using h2) h3 h4)
end
section
variable {P:Program} {Cs:List Con} {X:Cx} {g0 γ γ':Gh} {β β':Bt} {e env:List SV} {ops:Array Oper} {clo:Array Nat} {wrt:List (Nat × Nat)} {N:Nat} {tm0:Tm} {es0:Es} {n0:Nat} {pre rs x y:List Rc} {r:Rc} {S:Nat→Bool} {a:Act} {w w':World} {σ:St} {wr:Bool} {D:List Nat} {C:Con}
theorem aKU {l:List Oper} {t:Nat}:(((l.zipIdx.filterMap fun p=>p.1.dst.map fun t=>(t,p.2)).find? fun p=>p.1==t)=none→∀ (j:Nat) (o:Oper),l[j]?=some o→o.dst≠some t) ∧
  ∀ p,((l.zipIdx.filterMap fun p=>p.1.dst.map fun t=>(t,p.2)).find? fun p=>p.1==t)=some p→∃ o,l[p.2]?=some o∧o.dst=some t:=by
 refine ⟨fun h j o hj hd=>?_,fun p h=>?_⟩
 ·rw[List.find?_eq_none] at h
  have:(t,j)∈l.zipIdx.filterMap fun p=>p.1.dst.map fun t=>(t,p.2):=by
   rw[List.mem_filterMap]
   exact ⟨(o,j),List.mem_zipIdx_iff_getElem?.2 hj,by simp[hd]⟩
  exact h _ this (by simp)
 ·have h1:=List.mem_of_find?_eq_some h
  have h2:=List.find?_some h
  simp only[beq_iff_eq] at h2
  rw[List.mem_filterMap] at h1
  obtain ⟨⟨o,j⟩,h3,h4⟩:=h1
  simp only[Option.map_eq_some_iff] at h4
  obtain ⟨t',h5,rfl⟩:=h4
  simp only at h2
  subst h2
  exact ⟨o,List.mem_zipIdx_iff_getElem?.1 h3,h5⟩
theorem aL4 (ops:Array Oper):(Region.before ops).size=ops.size:=by
 have key:∀ (f:Array Nat→Oper→Nat) (l:List Oper) (acc:Array Nat),(l.foldl (fun a o=>a.push (f a o)) acc).size=acc.size+l.length:=by
  intro f l
  induction l with
  | nil=>intro acc;rfl
  | cons o l ih=>intro acc;rw[List.foldl_cons,ih,Array.size_push,List.length_cons];omega
 unfold Region.before
 rw[← Array.foldl_toList,key]
 simp
theorem aSD (hm:P.follows .mixedOrders=true) (hC:∀ (c:Nat) (C:Con),Cs[c]?=some C→Con.Holds P C) {σF:St} {rt:RT} {id:Nat} (hk:aHQ ops (Region.before ops) (qB ops true)=true)
  {fx:Es} (hfs:∀ p∈fx,p∈σ.es) (h:fV P Cs wr D ops (qB ops true) σ (aM9 ops true fx) = .ok rt) (hp:RTPath Cs rt env σF e) (hn:env.length=σ.nx) (hst:StOK X g0 γ β e w σ a):(Code.region id ops true).wp P (aBX X g0 e σF) a w:=by
 simp only[aHQ,Bool.and_eq_true,decide_eq_true_eq,List.all_eq_true,beq_iff_eq,List.mem_range,List.contains_iff_mem] at hk
 obtain ⟨⟨⟨⟨⟨k1,k2⟩,k3⟩,k4⟩,k5⟩,k6⟩:=hk
 have hmem:∀ p∈qB ops true,ops[p.1]?=some p.2:=fun p hp=>by
  simp only[qB,if_true] at hp
  obtain ⟨_,h2⟩:=aCY (aJ2 _ _ _ p hp)
  simpa using h2
 have hrel:RelD (Region.before ops) (ops.toList.zipIdx.filterMap fun p=>p.1.dst.map fun t=>(t,p.2)) σ.n σ.tm σ.es fx σ.nr [] σ (aM9 ops true fx):=⟨rfl,rfl,rfl,rfl,rfl,fun r hr=>(by simp at hr),rfl,rfl,rfl,rfl,rfl,fun _=>hfs⟩
 obtain ⟨rs,q1,q2,q0,q3,q4,q5,q6⟩:=xR (X:=X) hC (qB ops true) h hp hn hrel hst.facts hmem
 simp only[List.nil_append] at q3 q4 q5
 have hi:rs.map (·.i)=(qB ops true).map (·.1):=by rw[← q1];simp
 have hlen:rs.length=ops.size:=by rw[← k2,← q1];simp
 have hop:∀ r∈rs,ops[r.i]?=some r.o:=fun r hr=>hmem (r.i,r.o) (by rw[← q1];exact List.mem_map.2 ⟨r,hr,rfl⟩)
 have hnd:(rs.map (·.i)).Nodup:=by rw[hi];exact k3
 have hcov:∀ i,i<ops.size→∃ r∈rs,r.i=i:=fun i hlt=>by
  have:=k4 i hlt
  rw[← hi,List.mem_map] at this
  exact this
 have hord:OrdOK P X e ops (Region.before ops) (ops.toList.zipIdx.filterMap fun p=>p.1.dst.map fun t=>(t,p.2)) σ.n σ.tm σ.es fx σ.nr rs:=by
  refine ⟨q2,hnd,fun x r y hs j hj=>?_,fun r hr r' hr' t h1 h2=>?_,hfs,fun r hr=>by rw[aL4];exact (Array.getElem?_eq_some_iff.1 (hop r hr)).1,fun t hf r hr=>?_,fun t p hf=>?_⟩
  ·rcases aSX (qB ops true) k5 (x:=x.map fun r=>(r.i,r.o)) (y:=y.map fun r=>(r.i,r.o)) (p:=(r.i,r.o)) (by rw[← q1,hs];simp) j hj with h1|⟨q,h1,h2⟩
   ·simp at h1
   ·rw[List.mem_map] at h1
    obtain ⟨q',h3,rfl⟩:=h1
    exact ⟨q',h3,h2⟩
  ·have:=aOG ops.toList (by simpa [aJP] using k1) (by simpa using hop r hr) (by simpa using hop r' hr') h1 h2
   exact vK hnd hr hr' this
  ·exact aKU.1 hf r.i r.o (by simpa using hop r hr)
  ·obtain ⟨o,h1,h2⟩:=aKU.2 p hf
   have hlt:p.2<ops.size:=by
    have:=(List.getElem?_eq_some_iff.1 h1).1
    simpa using this
   obtain ⟨r,hr,he⟩:=hcov p.2 hlt
   refine ⟨r,hr,he,?_⟩
   have h3:=hop r hr
   rw[he] at h3
   have h4:ops[p.2]?=some o:=by simpa using h1
   rw[h3] at h4
   simp only[bQ] at h4
   rw[h4];exact h2
 have hah:∀ i o,ops[i]?=some o→(Region.before ops).getD i 0=aH6 (Region.before ops) o:=fun i o ho=>by
  have:(i,o)∈mU 0 ops.toList:=by
   have key:∀ (l:List Oper) (n j:Nat) (o:Oper),l[j]?=some o→(n+j,o)∈mU n l:=by
    intro l
    induction l with
    | nil=>intro n j o h;simp at h
    | cons z l ih =>
     intro n j o h
     cases j with
     | zero=>simp at h;subst h;simp[mU]
     | succ j =>
      have:=ih (n+1) j o (by simpa using h)
      rw[show n+(j+1)=n+1+j by omega]
      exact List.mem_cons_of_mem _ this
   have:=key ops.toList 0 i o (by simpa using ho)
   simpa using this
  exact k6 (i,o) this
 have hnone:∀ j,(Array.replicate ops.size false).getD j false=false:=fun j=>by
  rw[Array.getD_eq_getD_getElem?,Array.getElem?_replicate]
  split <;> rfl
 have hnr:σ.nr≤oP σ.nr rs∧∀ r∈rs,σ.nr≤r.nr:=by
  obtain ⟨n1,n2⟩:=bW.nums rs q2
  simp only[List.nil_append] at n1 n2
  have e1:oP σ.nr []=σ.nr:=rfl
  rw[e1] at n1 n2
  exact ⟨n1,fun r hr=>(n2 r hr).1⟩
 refine wp_region_any hm (aW5 (g0:=g0) hord hcov hah (fun S γ' β' a' w' hall hd=>⟨rfl,?_⟩) ops.size _ γ β a _ (by simp) (by
  rw[List.filter_eq_self.2 (fun r _=>by rw[hnone];rfl)]
  omega) ?_)
 ·have hfl:rs.filter (fun r=>(Array.replicate ops.size false).getD r.i false)=[]:=List.filter_eq_nil_iff.2 fun r _=>by rw[hnone];simp
  have ht:mB σ.es (fun j=>(Array.replicate ops.size false).getD j false) rs=σ.es:=by unfold mB;rw[hfl];rfl
  have htm:tmS σ.n σ.tm (fun j=>(Array.replicate ops.size false).getD j false) rs=σ.tm:=by unfold tmS;rw[hfl];rfl
  have hlat:Later X γ (Os γ σ.es) e w γ (Os γ σ.es) e { w with drawn:=w.drawn+1 }:=⟨fun _ _ h=>h,⟨[],by simp⟩,Nat.le_refl _,fun b _ h _=>⟨rfl,h⟩⟩
  refine ⟨fun r hr h=>(by rw[hnone] at h;cases h),?_,by rw[ht];exact hst.keys,⟨hst.frame.os,hst.frame.tape,hst.frame.output,hst.frame.size,hst.frame.block⟩,hst.gh,hst.len,fun t=>?_,fun r hr _ q h1 h2=>hst.fresh q (by have:=hnr.2 r hr;omega),fun q hq=>hst.fresh q (by have:=hnr.1;omega),hst.nodef,hst.base⟩
  ·rw[ht]
   exact ⟨hst.mem.nd,hst.mem.at',fun b hb=>(hlat.gd (hst.mem.good b hb)).1,fun p hp=>cY.later hlat rfl (fun _ _=>rfl) (fun _ _=>rfl) (hst.mem.ent p hp)⟩
  ·rw[ht,htm]
   exact aT.later hlat (hst.vals t)
 ·have hfl:rs.filter (fun r=>S r.i)=rs:=List.filter_eq_self.2 fun r hr=>hall r hr
  have ht:mB σ.es S rs=eS σ.es rs:=by unfold mB;rw[hfl]
  have htm:tmS σ.n σ.tm S rs=σF.tm:=by unfold tmS;rw[hfl,q3]
  have hs1:StOK X g0 γ' β' e w' { σF with es:=eS σ.es rs } a':=by
   refine ⟨by rw[← ht];exact hd.mem,by rw[← ht];exact hd.keys,hd.frame,hd.gh,?_,fun t=>?_,q6,fun r hr=>hd.top r (by rw[← q5];exact hr),hd.nodef,hd.base⟩
   ·show σF.n=_
    rw[q0];exact hd.len
   ·have:=hd.vals t
    rw[htm,ht] at this
    exact this
  obtain ⟨β2,hs2⟩:=hs1.sealed
  refine ⟨γ',β2,?_⟩
  have e1:({ σF with es:=eS σ.es rs }:St).upd (jE ({ σF with es:=eS σ.es rs }:St).es) σF.nx σF.nr σF.cr=σF:=by
   cases σF
   simp only at q4
   rw[q4]
   rfl
  have hs2:StOK X g0 γ' β2 e w' (({ σF with es:=eS σ.es rs }:St).upd (jE ({ σF with es:=eS σ.es rs }:St).es) σF.nx σF.nr σF.cr) a':=hs2
  rw[e1] at hs2
  exact hs2
theorem qQ {draw:Bool} {x:RT}:(n:Nat)→{D:List Nat}→{σ:St}→{γ:Gh}→{β:Bt}→oJ P Cs wr ops draw n D σ = .ok x→StOK X g0 γ β e w σ a →
  ∃ D' σ' β' fx,(draw=true→aHQ ops (Region.before ops) (qB ops draw)=true)∧fV P Cs wr D' ops (qB ops draw) σ' (aM9 ops draw fx) = .ok x∧StOK X g0 γ β' e w σ' a∧σ'.nx=σ.nx∧(draw=false→fx=[])∧∀ p∈fx,p∈σ'.es
 | 0,D,σ,γ,β,h,hst=>by simp[oJ] at h
 | n+1,D,σ,γ,β,h,hst=>by
  simp only[oJ] at h
  split at h
  ·cases h
  ·rename_i hk
   split at h
   ·rename_i x' hx
    simp only[Except.ok.injEq] at h
    subst h
    refine ⟨D,σ,β,[],fun hd=>?_,hx,hst,rfl,fun _=>rfl,fun p hp=>(by simp at hp)⟩
    subst hd
    simpa using hk
   ·split at h
    ·rename_i x' hx
     split at hx
     ·rename_i hdr
      simp only[Except.ok.injEq] at h
      subst h
      rcases aR5 hx with hx2|hx2
      ·refine ⟨D,σ,β,aLR ops σ,fun hd=>?_,hx2,hst,rfl,fun hd=>(by rw[hdr] at hd;cases hd),fun p hp=>(List.mem_filter.1 hp).1⟩
       subst hd
       simpa using hk
      ·refine ⟨D,σ,β,aRD ops σ,fun hd=>?_,hx2,hst,rfl,fun hd=>(by rw[hdr] at hd;cases hd),fun p hp=>(List.mem_append.1 hp).elim (fun h=>(List.mem_filter.1 h).1) fun h=>(List.mem_filter.1 h).1⟩
       subst hd
       simpa using hk
     ·cases hx
    ·rename_i err2 hx
     split at h
     ·split at h
      ·split at h
       ·rename_i σ' hz
        obtain ⟨β1,f1,f2,f3⟩:=hst.frz hz
        obtain ⟨D',σ2,β2,fx,g1,g2,g3,g4,g5⟩:=qQ n h f1
        exact ⟨D',σ2,β2,fx,g1,g2,g3,g4.trans f2,g5⟩
       ·cases h
      ·split at h
       ·cases h
       ·exact qQ n h hst
     ·cases h
theorem aW0 (hm:P.follows .mixedOrders=true) (hC:∀ (c:Nat) (C:Con),Cs[c]?=some C→Con.Holds P C) (X:Cx) (g0:Gh):aOV P Cs wr X g0:=by
 intro id ops draw D σ rt env e σF γ β w a h hp hn hst
 obtain ⟨D',σ',β',fx,h1,h2,h3,h4,h5,h6⟩:=qQ 12 h hst
 cases draw with
 | true=>exact aSD hm hC (h1 rfl) h6 h2 hp (by rw[h4];exact hn) h3
 | false=>exact aPG hC (by rw[h5 rfl] at h2;simpa [qB] using h2) hp (by rw[h4];exact hn) h3
theorem aX (hm:P.follows .mixedOrders=true) {fuel:Nat} {orc:Orc} {T':T} (hC:∀ (c:Nat) (C:Con),Cs[c]?=some C→Con.Holds P C) (h:cW P Cs C wr fuel orc = .ok T')
 (hw:∀ x:C.argTy.D,okD C.argTy x→C.pre x→T'.wp Cs [⟨C.argTy,x⟩] [] fun v=>v.as C.resTy=C.fn x):Con.Holds P C:=aTT hC (fun X g0=>aW0 hm hC X g0) h hw
end
#print axioms aX
theorem bI:Tryz.prog.follows .mixedOrders=true:=by kernel_rfl
theorem aY {P:Program}:∀ (c:Nat) (C:Con),([]:List Con)[c]?=some C→Con.Holds P C:=fun c C h=>by simp at h
theorem aR {P:Program} {C0:Con} {Cs:List Con} (h0:Con.Holds P C0) (h:∀ (c:Nat) (C:Con),Cs[c]?=some C→Con.Holds P C):∀ (c:Nat) (C:Con),(C0 :: Cs)[c]?=some C→Con.Holds P C:=fun c C hc=>by
 cases c with
 | zero=>simp only[List.getElem?_cons_zero,bQ] at hc;subst hc;exact h0
 | succ c=>exact h c C (by simpa using hc)
theorem aWD (k:IntKind) (x y:Int):@LE.le (Ty.D (.int k)) Int.instLEInt x y = @LE.le Int Int.instLEInt x y:=rfl
theorem aW8 (k:IntKind) (x y:Int):@LT.lt (Ty.D (.int k)) Int.instLTInt x y = @LT.lt Int Int.instLTInt x y:=rfl
theorem aW9 (k:IntKind) (x y:Int):@Ne (Ty.D (.int k)) x y = @Ne Int x y:=rfl
theorem aW6 (k:IntKind) (x y:Int):@Eq (Ty.D (.int k)) x y = @Eq Int x y:=rfl
theorem aUM (k:IntKind):(@OfNat.ofNat (Ty.D (.int k)) 0 (@instOfNat 0))=(0:Int):=rfl
theorem aSK (b:Bool):okD .bool b=True:=rfl
theorem bG {α:Type} {l:List α} {k:Nat} (h:k<l.length) {d:α}:l.getD k d=l[k]:=by simp[h]
def aDK (x:Int):Int:=min (max x (-2147483647)) 2147483647
theorem wA (k:Nat):((k:Int) - 1).toNat=k - 1:=by omega
theorem aDS (k:Nat):((k:Int)+1).toNat=k+1:=by omega
theorem aKT:Int.toNat 0=0:=rfl
theorem aKO:Int.toNat 1=1:=rfl
theorem jN {t:T} {Cs:List Con} {env:List SV} {L:List (SV→Prop)} {Q:SV→Prop} {P:Prop} (p:P) (h:t.wp Cs env L Q↔P:=by dsimp only [T.wp,aO,aG,aQ,sV,uA,Ar.val,aB1,Prim.cond,Prim.fn,Prim.ity,Prim.oty,List.getElem?_cons_succ,List.getElem?_cons_zero,Option.getD_some,List.cons_append,List.nil_append,inK,arI,aUB,maxI,minI,negI];(try simp only[SV.as_self,true_and,forall_const,aSK,aWD,aW8,aW9,aW6,aUM]);exact Iff.rfl):t.wp Cs env L Q:=h.mpr p
theorem gJ {P Q:Prop} (q:Q) (h:P↔Q:=by (try simp only[Int.toNat_natCast,Bool.not_eq_true',Bool.not_eq_false',Bool.and_eq_true,Bool.and_eq_false_iff,decide_eq_true_eq,decide_eq_false_iff_not,Int.not_lt,Int.not_le,ge_iff_le,gt_iff_lt,List.length_cons,List.length_nil,List.length_append,Nat.zero_add,List.nil_append,beq_iff_eq,beq_eq_false_iff_ne,bne_iff_ne,bne_eq_false_iff_eq,ne_eq,wA,aDS,aKT,aKO]);exact Iff.rfl):P:=h.mpr q
section
variable {t:Ty} {e:TypeId} {w:World} {v:Value} {l:List t.D} {bl:List Nat}
end
structure Only (bl:List Nat) (w w':World):Prop where
 os:w'.os=w.os
 tape:w'.tape=w.tape
 output:w'.output=w.output
 size:w.heap.size≤w'.heap.size
 block:∀ q,q ∉ bl→q<w.heap.size→w'.heap[q]?=w.heap[q]?
section
variable {bl bl':List Nat} {w w' w'':World}
theorem Only.refl (bl:List Nat) (w:World):Only bl w w:=⟨rfl,rfl,rfl,Nat.le_refl _,fun _ _ _=>rfl⟩
theorem Only.trans (h:Only bl w w') (k:Only bl w' w''):Only bl w w'' :=
 ⟨k.os.trans h.os,k.tape.trans h.tape,k.output.trans h.output,Nat.le_trans h.size k.size,fun q hq hz=>(k.block q hq (Nat.lt_of_lt_of_le hz h.size)).trans (h.block q hq hz)⟩
theorem Only.mono (h:Only bl w w') (hb:∀ q∈bl,q∈bl'):Only bl' w w':=⟨h.os,h.tape,h.output,h.size,fun q hq hz=>h.block q (fun hm=>hq (hb q hm)) hz⟩
theorem Only.setCell (h:Only bl w w') {p:Addr} (hp:p.block∈bl) (u:Value):Only bl w (w'.setCell p u) :=
 h.trans ⟨rfl,rfl,rfl,by simp[World.setCell],fun q hq _=>Below.heap_setCell _ _ _ _ (fun e=>hq (e ▸ hp))⟩
theorem Only.alloc (h:Only bl w w') (o:Obj):Only bl w (w'.alloc o) :=
 h.trans ⟨rfl,rfl,rfl,by simp,fun q hq hz=>Below.heap_alloc _ _ _ hz⟩
theorem Only.drew (h:Only bl w w'):Only bl w w'.drew:=⟨h.os,h.tape,h.output,h.size,h.block⟩
theorem Only.of_below {B:Nat} (h:Below B w w') (hB:B=w.heap.size):Only bl w w':=⟨h.os,h.tape,h.output,h.size,fun q _ hz=>h.block q (by omega)⟩
theorem Only.below {B:Nat} (h:Only bl w w') (hb:∀ q∈bl,B≤q) (hB:B≤w.heap.size):Below B w w' :=
 ⟨h.os,h.tape,h.output,h.size,fun k hk=>h.block k (fun hm=>by have:=hb k hm;omega) (by omega)⟩
end
theorem nV {α:Type} (A l:List α) (k:Nat) (hk:k<l.length) (hA:A.length=l.length) (x:α) (hx:A[k]'(by omega)=x):(A.take k++l.drop k).set k x=A.take (k+1)++l.drop (k+1):=by
 have h1:(A.take k).length=k:=by simp;omega
 rw[List.set_append_right _ _ (by omega),h1,Nat.sub_self,List.drop_eq_getElem_cons hk,List.set_cons_zero,List.take_succ_eq_append_getElem (by omega),hx]
 simp
theorem aST {α:Type} (l:List α) (z:α) (k:Nat) (hk:k<l.length):(l.take k++List.replicate (l.length - k) z).set k l[k]=l.take (k+1)++List.replicate (l.length - (k+1)) z:=by
 have h1:(l.take k).length=k:=by simp;omega
 rw[List.set_append_right _ _ (by omega),h1,Nat.sub_self,show l.length - k=l.length - (k+1)+1 by omega,List.replicate_succ,List.set_cons_zero,List.take_succ_eq_append_getElem hk,List.append_assoc,List.singleton_append]
theorem nZ {α:Type} (A l:List α) (k:Nat) (hk:k<l.length) (hA:A.length=l.length):(A.take k++l.drop k)[k]'(by simp;omega)=l[k]:=by
 have h1:(A.take k).length=k:=by simp;omega
 rw[List.getElem_append_right (by omega)]
 simp[h1]
def szR (left:Int) (n:Nat):Int:=if (n:Int)≤left then left - n else -1
theorem aUD {left:Int} {n:Nat} (h:(n:Int)≤left):szR left n=left - n:=if_pos h
theorem aTU {left:Int} {n:Nat} (h:¬ (n:Int)≤left):szR left n = -1:=if_neg h
theorem cD {α:Type} (f:α→Nat) (l:List α) (k:Nat) (h:k<l.length):((l.take (k+1)).map f).sum=((l.take k).map f).sum+f l[k]:=by
 rw[List.take_succ_eq_append_getElem h,List.map_append,List.sum_append];simp only[List.map_cons,List.map_nil,List.sum_cons,List.sum_nil,Nat.add_zero]
theorem cP {α:Type} (f:α→Nat) (l:List α) (k:Nat):((l.take k).map f).sum≤(l.map f).sum:=by
 conv=>rhs;rw[← List.take_append_drop k l,List.map_append,List.sum_append]
 omega
def aL:(t:Ty)→t.D→Nat
 | .int _,_=>1
 | .bool,_=>1
 | .str,_=>1
 | .slice _ t,l=>(l.map (aL t)).sum
 | .aWS a b,x=>aL a x.1+aL b x.2
def qH {α:Type} (f:α→Int→α) (c:α→Nat):List α→Int→List α
 | [],_=>[]
 | x :: l,k=>f x k :: qH f c l (k+(c x:Int))
def mk:(t:Ty)→t.D→Int→t.D
 | .int _,_,k=>k
 | .bool,_,k=>decide (k % 3=0)
 | .str,s,_=>s
 | .slice _ t,l,k=>qH (mk t) (aL t) l k
 | .aWS a b,x,k=>(mk a x.1 k,mk b x.2 (k+(aL a x.1:Int)))
theorem mK {α:Type} (f:α→Int→α) (c:α→Nat):(l:List α)→(k:Int)→(qH f c l k).length=l.length
 | [],k=>rfl
 | x :: l,k=>by simp[qH,mK f c l]
theorem wM {α:Type} (f:α→Int→α) (c:α→Nat):(l:List α)→(k:Int)→(i:Nat)→(h:i<l.length)→(h':i<(qH f c l k).length)→(qH f c l k)[i]=f l[i] (k+(((l.take i).map c).sum:Int))
 | [],k,i,h,_=>by simp at h
 | x :: l,k,0,h,_=>by simp[qH]
 | x :: l,k,i+1,h,h'=>by
  simp only[qH,List.getElem_cons_succ,List.take_succ_cons,List.map_cons,List.sum_cons]
  rw[wM f c l _ i (by simpa using h)]
  congr 1
  omega
theorem aSP {a0:Int} (w0:(Lit.int .i64 a0).wf=true):-9223372036854775808≤a0∧a0≤9223372036854775807:=by
 simpa [Lit.wf,IntKind.min,IntKind.max,IntKind.signed,IntKind.bits] using w0
theorem nL {a0:Int} (h:-9223372036854775808≤a0∧a0≤9223372036854775807):(Lit.int .i64 a0).wf=true:=by
 simpa [Lit.wf,IntKind.min,IntKind.max,IntKind.signed,IntKind.bits] using h
def jI (v:Value) (w:World) (r:Ending) (w':World):Prop:=r = .returned v∧Below w.heap.size w w'
def aWH (e:TypeId) (t:Ty) (w:World) (l:List t.D) (r:Ending) (w':World):Prop :=
 ∃ p cap,r = .returned (.slice p l.length cap)∧dQ (.slice e t) w.heap.size w'.heap.size w' [.slice p l.length cap] l∧Below w.heap.size w w'
theorem dW {k:IntKind} {a b:Int} (h:a=b):Ending.returned (.int k a) = .returned (.int k b):=by rw[h]
theorem iD {W w1:World} (hb:Below W.heap.size W w1):(∀ b o,b<W.heap.size→w1.cell? ⟨b,o,none⟩=W.cell? ⟨b,o,none⟩)∧(∀ b o,b<W.heap.size→w1.frozen? ⟨b,o,none⟩=W.frozen? ⟨b,o,none⟩) :=
 ⟨fun b o h=>hb.cell (p:=⟨b,o,none⟩) h,fun b o h=>hb.frozen (p:=⟨b,o,none⟩) h⟩
theorem eZ {cs:Array Value} {l:List Value} (h:cs.toList=l):cs=l.toArray:=by rw[← h]
theorem bY.below {t:Ty} {w w':World} {p:Option Addr} {len cap:Nat} {l:List t.D} (h:bY t.n (rd t w) w p len cap l) (hb:Below w.heap.size w w'):bY t.n (rd t w') w' p len cap l :=
 h.mono (Below.keeps hb) (fun cs x hx=>fT (Below.keeps hb) t cs x hx)
theorem aWE {e:TypeId} {t:Ty} {lo hi:Nat} {w:World} {p:Option Addr} {len cap:Nat} {l:List t.D} (h:dQ (.slice e t) lo hi w [.slice p len cap] l):bY t.n (rd t w) w p len cap l:=by
 obtain ⟨p',len',cap',hv,hs⟩:=h.rd
 simp only[List.cons.injEq,Value.slice.injEq,and_true] at hv
 obtain ⟨rfl,rfl,rfl⟩:=hv
 exact hs
theorem dQ.set1 {t:Ty} {lo hi:Nat} {w:World} {cs:List Value} {d:t.D} (h:dQ t lo hi w cs d) {a:Addr} (ha:a.block<lo∨hi≤a.block) (v:Value):dQ t lo hi (w.setCell a v) cs d :=
 h.keep (fun b h1 h2=>Below.heap_setCell _ _ _ _ (by omega)) (by simp[World.setCell])
theorem dQ.alloc {t:Ty} {lo hi:Nat} {w:World} {cs:List Value} {d:t.D} (h:dQ t lo hi w cs d) (o:Obj):dQ t lo hi (w.alloc o) cs d :=
 h.keep (fun b h1 h2=>Below.heap_alloc _ _ _ (by have:=h.hi_le;omega)) (by simp)
theorem bY.lens {α:Type} {n:Nat} {R:List Value→α→Prop} {w:World} {p:Option Addr} {len cap:Nat} {l:List α} (h:bY n R w p len cap l):len=l.length:=h.1
theorem aML {w:World} {p:Option Addr} {len cap:Nat} {l:List Int} (h:bY 1 (rd eI w) w p len cap l) (k:Nat) (hk:k<l.length) :
  ∃ b off,p=some ⟨b,off,none⟩∧b<w.heap.size∧w.cell? ⟨b,off+k,none⟩=some (.int .i64 l[k])∧-9223372036854775808≤l[k]∧l[k]≤9223372036854775807:=by
 obtain ⟨b,off,hp,hb,cs,hl,hc,rfl,hw⟩:=h.2.2.2.2 k hk
 exact ⟨b,off,hp,hb,by simpa using hc 0 (by simp),(aSP hw).1,(aSP hw).2⟩
theorem iB (p q:Option Addr) (len cap len' cap':Nat) (l:List Int) (w:World) (h:bY 1 (rd eI w) w p len cap l) (h':bY 1 (rd eI w) w q len' cap' l) :
  Calls Tryz.prog 66 #[.slice p len cap,.slice q len' cap'] w (jI (.bool true) w):=by
 obtain rfl:=h.lens
 obtain rfl:=h'.lens
 have hmx:l.length≤maxLen:=by have:=h.2.1;have:=h.2.2.1;omega
 unfold maxLen at hmx
 go_enter Tryz.func66,Tryz.ntmps66
 go_wp2
 go_loopw [5] (fun i wr=>∃ k:Nat,k≤l.length∧i = .int .i64 k∧Below w.heap.size w wr) (fun i _=>l.length - (intOf i).toNat)
 case atStart=>exact ⟨0,by omega,rfl,Below.refl _ _⟩
 case round =>
  obtain ⟨k,hk,rfl,hb⟩:=hrel
  by_cases hlt:k<l.length
  ·obtain ⟨b,off,rfl,hlb,hc,hw1,hw2⟩:=aML h k hlt
   obtain ⟨b2,off2,rfl,hlb2,hc2,-,-⟩:=aML h' k hlt
   have c1:wr.cell? ⟨b,off+k,none⟩=some (.int .i64 l[k]):=(hb.cell hlb).trans hc
   have c2:wr.cell? ⟨b2,off2+k,none⟩=some (.int .i64 l[k]):=(hb.cell hlb2).trans hc2
   clear h h' hc hc2
   go_wp2
   go_quiet (fail)
   go_wp2
   go_roundw
   case rel=>exact ⟨k+1,by omega,by go_num,below_drewN hb _⟩
   case measure=>simp[intOf];omega
  ·clear h h'
   go_wp2
   go_ret
   exact ⟨rfl,hb⟩
theorem aOQ (l:List Int):(l.map (aL eI)).sum=l.length:=by
 induction l with
 | nil=>rfl
 | cons a m ih =>
  rw[List.map_cons,List.sum_cons,ih,List.length_cons]
  show 1+_=_
  omega
theorem aOI (l:List Int) (k0:Int) (k:Nat) (hk:k<l.length):(mk aA l k0)[k]'(by show k<(qH _ _ _ _).length;rw[mK];exact hk)=k0+k:=by
 show (qH (mk eI) (aL eI) l k0)[k]'_=_
 rw[wM _ _ _ _ _ hk]
 show k0+_=_
 rw[aOQ,List.length_take,Nat.min_eq_left (by omega)]
theorem tF (l:List Int) (k0:Int):(mk aA l k0:List Int).length=l.length:=mK _ _ _ _
theorem cG (l:List Int):aL aA l=l.length:=aOQ l
theorem fD (p:Option Addr) (len cap:Nat) (k0:Int) (l:List Int) (w:World) (h:bY 1 (rd eI w) w p len cap (mk aA l k0)) (h0:0≤k0) (h1:k0+l.length≤1000000000000) :
  Calls Tryz.prog 44 #[.slice p len cap,.int .i64 k0] w (jI (.int .i64 (k0+(aL aA l:Int))) w):=by
 have HL:=tF l k0
 obtain rfl:len=l.length:=by rw[h.lens];exact HL
 go_enter Tryz.func44,Tryz.ntmps44
 go_wp2
 go_loopw [1,5] (fun q i wr=>∃ k:Nat,k≤l.length∧i = .int .i64 k∧q = .int .i64 (k0+k)∧Below w.heap.size w wr) (fun _ i _=>l.length - (intOf i).toNat)
 case atStart=>exact ⟨0,by omega,rfl,by simp,Below.refl _ _⟩
 case round =>
  obtain ⟨k,hk,rfl,rfl,hb⟩:=hrel
  by_cases hlt:k<l.length
  ·obtain ⟨b,off,rfl,hlb,hc,hw1,hw2⟩:=aML h k (by rw[HL];exact hlt)
   have c1:wr.cell? ⟨b,off+k,none⟩=some (.int .i64 (k0+k)):=(hb.cell hlb).trans (by rw[hc,aOI l k0 k hlt])
   clear h hc HL hw1 hw2
   go_wp2
   go_roundw
   case rel=>exact ⟨k+1,by omega,by go_num,by go_num,hb⟩
   case measure=>simp[intOf];omega
  ·clear h HL
   go_wp2
   go_ret
   obtain rfl:k=l.length:=by omega
   exact ⟨dW (by rw[cG]),hb⟩
section
variable {t:Ty} {e:TypeId} {w:World} {v:Value} {l:List t.D} {bl:List Nat}
end
theorem Only.setCells {bl:List Nat} {w w':World}:{vs:List Value}→{b off:Nat}→Only bl w w'→b∈bl→Only bl w (setCells w' b off vs)
 | [],b,off,h,hb=>h
 | v :: vs,b,off,h,hb=>Only.setCells (vs:=vs) (h.setCell (p:=⟨b,off,none⟩) hb v) hb
theorem dX {t:Ty} {e:TypeId} (l:List t.D) (k0:Int):List.length (mk (.slice e t) l k0)=l.length:=mK _ _ _ _
theorem jK {t:Ty} {e:TypeId} (l:List t.D) (k0:Int) (k:Nat) (hk:k<l.length) (h':k<List.length (mk (.slice e t) l k0)) :
 (mk (.slice e t) l k0:List t.D)[k]=mk t l[k] (k0+(((l.take k).map (aL t)).sum:Nat)):=wM _ _ _ _ _ hk h'
theorem bF {t:Ty} {e:TypeId} (l:List t.D):aL (.slice e t) l=(l.map (aL t)).sum:=rfl
theorem dQ.only {t:Ty} {lo hi:Nat} {w w':World} {cs:List Value} {d:t.D} {bl:List Nat} (h:dQ t lo hi w cs d) (hw:Only bl w w') (hb:∀ b∈bl,b<lo∨hi≤b):dQ t lo hi w' cs d :=
 h.keep (fun b h1 h2=>hw.block b (fun hm=>by have:=hb b hm;omega) (by have:=h.hi_le;omega)) hw.size
theorem dQ.of_rep {t:Ty} {lo hi:Nat} {w:World} {cs:List Value} {d:t.D} {bl:List Nat} (h:rep t w cs d bl) (hn:bl.Nodup) (hb:∀ b∈bl,lo≤b∧b<hi) (hz:hi≤w.heap.size):dQ t lo hi w cs d :=
 ⟨bl,h,hn,hb,hz⟩
theorem eY {w:World} {o:Obj} {a:Addr} (h:a.block<w.heap.size):(w.alloc o).cell? a=w.cell? a :=
 World.cell?_of_block (Below.heap_alloc _ _ _ h)
def nI:(t:Ty)→t.D→Nat
 | .slice e t,l=>aL (.slice e t) l
 | .aWS a b,x=>nI a x.1+nI b x.2
 | .int _,_=>0
 | .bool,_=>0
 | .str,_=>0
def mkt:(t:Ty)→t.D→Int→t.D
 | .slice e t,l,k=>mk (.slice e t) l k
 | .aWS a b,x,k=>(mkt a x.1 k,mkt b x.2 (k+(nI a x.1:Int)))
 | .int _,x,_=>x
 | .bool,x,_=>x
 | .str,x,_=>x
theorem Only.cell {bl:List Nat} {w w':World} (h:Only bl w w') {a:Addr} (ha:a.block ∉ bl) (hz:a.block<w.heap.size):w'.cell? a=w.cell? a :=
 World.cell?_of_block (h.block a.block ha hz)
theorem nP:(t:Ty)→(w:World)→(cs:List Value)→(d:t.D)→(bl:List Nat)→Un t w cs d bl→∀ b∈bl,b<w.heap.size:=by
 intro t
 induction t with
 | int k=>intro w cs d bl h;simp[h.2.2]
 | bool=>intro w cs d bl h;simp[h.2]
 | str=>intro w cs d bl h;simp[h.2.2]
 | slice e t ih =>
  intro w cs d bl h
  rcases h with ⟨p,_,_,rfl⟩|⟨b,off,cap,cur,xs,bl',_,hv,hh,h1,_,h3,h4,hr,rfl⟩
  ·simp
  ·intro q hq
   rw[List.mem_cons] at hq
   rcases hq with rfl|hq
   ·exact (Array.getElem?_eq_some_iff.1 hh).1
   ·clear hh h1 h3 h4 hv
    induction d generalizing xs bl' with
    | nil=>have h2:=hr.2;rw[h2] at hq;simp at hq
    | cons x l ihl =>
     obtain ⟨c,xs',b1,b2,hc,rfl,rfl,h1,hr⟩:=hr
     rw[List.mem_append] at hq
     rcases hq with hq|hq
     ·exact ih w _ _ _ h1 q hq
     ·exact ihl _ _ hr hq
 | aWS a b iha ihb =>
  intro w cs d bl h
  obtain ⟨c1,c2,b1,b2,_,rfl,h1,h2⟩:=h
  intro q hq
  rw[List.mem_append] at hq
  rcases hq with hq|hq
  ·exact iha w c1 d.1 b1 h1 q hq
  ·exact ihb w c2 d.2 b2 h2 q hq
section
variable {t:Ty} {e:TypeId} {w:World} {v:Value} {l:List t.D} {bl:List Nat}
theorem aI4 (h:Un (.slice e t) w [v] l bl) (hnd:bl.Nodup) (k:Nat) (hk:k<l.length) :
  ∃ b cap c bk,v = .slice (some ⟨b,0,none⟩) l.length cap∧b∈bl∧b<w.heap.size∧(∀ j,w.frozen? ⟨b,j,none⟩=false)∧c.length=t.n∧(∀ j (hj:j<c.length),w.cell? ⟨b,k * t.n+j,none⟩=some c[j]) ∧
   Un t w c l[k] bk∧(∀ q∈bk,q∈bl)∧bk.Nodup∧b ∉ bk ∧
   (∀ (w':World) (x':t.D),(∀ q,q ∉ bk→q<w.heap.size→w'.heap[q]?=w.heap[q]?)→Un t w' c x' bk→Un (.slice e t) w' [v] (l.set k x') bl) ∧
   (∀ (j:Nat) (u:Value) (x':t.D),j<c.length→Un t w (c.set j u) x' bk→Un (.slice e t) (w.setCell ⟨b,k * t.n+j,none⟩ u) [v] (l.set k x') bl):=by
 have hlt:=nP (.slice e t) w [v] l _ h
 rcases h with ⟨p,hv,hn,_⟩|⟨g,off,cap,cur,xs,bl',rfl,hv,hh,hc,hm,hcs,hx,hr,rfl⟩
 ·rw[hn] at hk;simp at hk
 ·simp only[List.cons.injEq,and_true] at hv
  subst hv
  rw[List.drop_zero] at hx
  obtain ⟨xs1,c,xs2,b1,bk,b2,he,hl,hcl,rfl,hr1,hR,hr2⟩:=hr.split k hk
  have hnd':=hnd
  simp only[List.nodup_cons,List.mem_append,not_or,List.nodup_append] at hnd'
  obtain ⟨⟨nb1,nbk,nb2⟩,n1,⟨nk,n2,d2⟩,d1⟩:=hnd'
  refine ⟨g,cap,c,bk,rfl,by simp,(Array.getElem?_eq_some_iff.1 hh).1,fun j=>by simp[World.frozen?,hh],hcl,fun j hj=>?_,hR,fun q hq=>by simp[hq],nk,nbk,?_,?_⟩
  ·have h2:xs[k * t.n+j]?=some c[j]:=by
    rw[he,List.getElem?_append_right (by omega),List.getElem?_append_left (by omega),hl,Nat.add_sub_cancel_left,List.getElem?_eq_getElem hj]
   have h3:cur[k * t.n+j]?=some c[j]:=by
    rw[hx,List.getElem?_take] at h2
    split at h2
    ·simpa using h2
    ·cases h2
   simp[World.cell?,hh,h3]
  ·intro w' x' hw' hx'
   have hsub:∀ q,q∈b1∨q∈b2→w'.heap[q]?=w.heap[q]?:=fun q hq=>by
    refine hw' q (fun hqb=>?_) ?_
    ·rcases hq with hq|hq
     ·exact d1 q hq q (.inl hqb) rfl
     ·exact d2 q hqb q hq rfl
    ·refine hlt q ?_
     rcases hq with hq|hq <;> simp[hq]
   refine .inr ⟨g,0,cap,cur,xs1++(c++xs2),b1++(bk++b2),rfl,by rw[List.length_set],(hw' g nbk (hlt g (by simp))).trans hh,by simpa using hc,hm,by simpa using hcs,by rw[List.length_set,List.drop_zero,← hx,he],?_,rfl⟩
   refine eR.join hk hcl (hr1.mono (fun c y bb hq hy=>Un.keep _ _ _ _ (fun q hqb=>hsub q (.inl (hq q hqb))) hy)) hx' (hr2.mono (fun c y bb hq hy=>Un.keep _ _ _ _ (fun q hqb=>hsub q (.inr (hq q hqb))) hy))
  ·intro j u x' hj hx'
   have hsub:∀ q,q∈b1∨q∈bk∨q∈b2→(w.setCell ⟨g,k * t.n+j,none⟩ u).heap[q]?=w.heap[q]?:=fun q hq=>by
    refine Below.heap_setCell _ _ _ _ (fun e=>?_)
    obtain rfl:q=g:=e
    rcases hq with hq|hq|hq
    ·exact nb1 hq
    ·exact nbk hq
    ·exact nb2 hq
   have hle:k * t.n+t.n≤l.length * t.n:=by
    have:(k+1) * t.n≤l.length * t.n:=Nat.mul_le_mul_right _ (by omega)
    rw[Nat.add_mul] at this;omega
   refine .inr ⟨g,0,cap,cur.setIfInBounds (k * t.n+j) u,xs1++(c.set j u++xs2),b1++(bk++b2),rfl,by rw[List.length_set],vR u hh,by simpa using hc,hm,by simpa using hcs,?_,?_,rfl⟩
   ·rw[List.length_set,List.drop_zero,Array.toList_setIfInBounds,List.take_set,← hx,he]
    rw[List.set_append_right _ _ (by omega),List.set_append_left _ _ (by omega)]
    congr 3
    omega
   ·refine eR.join hk (by simpa using hcl) (hr1.mono (fun c y bb hq hy=>Un.keep _ _ _ _ (fun q hqb=>hsub q (.inl (hq q hqb))) hy)) (Un.keep _ _ _ _ (fun q hqb=>hsub q (.inr (.inl hqb))) hx') (hr2.mono (fun c y bb hq hy=>Un.keep _ _ _ _ (fun q hqb=>hsub q (.inr (.inr (hq q hqb)))) hy))
end
theorem gB {t:Ty} {e:TypeId} {w:World} {cs:List Value} {l:List t.D} {bl:List Nat} (h:Un (.slice e t) w cs l bl):∃ p n q,cs=[.slice p n q]:=by
 rcases h with ⟨p,rfl,_⟩|⟨b,off,cap,cur,xs,bl',_,rfl,_⟩
 ·exact ⟨_,_,_,rfl⟩
 ·exact ⟨_,_,_,rfl⟩
theorem qM {t:Ty} {e:TypeId} {w:World} {p:Option Addr} {len cap:Nat} {l:List t.D} {bl:List Nat} (h:Un (.slice e t) w [.slice p len cap] l bl):len=l.length∧len≤maxLen:=by
 rcases h with ⟨p,hv,rfl,_⟩|⟨b,off,cap,cur,xs,bl',_,hv,_,hc,hm,_⟩
 ·simp only[List.cons.injEq,Value.slice.injEq,and_true] at hv
  exact ⟨hv.2.1,by rw[hv.2.1];exact Nat.zero_le _⟩
 ·simp only[List.cons.injEq,Value.slice.injEq,and_true] at hv
  exact ⟨hv.2.1,by rw[hv.2.1];exact Nat.le_trans hc hm⟩
def yE (t:Ty) (w:World) (cs:List Value) (d:t.D) (bl:List Nat) (n:Int) (r:Ending) (w':World):Prop :=
 r = .returned (.int .i64 n)∧Un t w' cs d bl∧Only bl w w'
def aWG (t:Ty) (w:World) (cs:List Value) (d:t.D) (bl:List Nat) (n:Int) (r:Ending) (w':World):Prop :=
 r = .returned (.int .i64 n)∧Un t w' cs d bl∧Only bl w w'
theorem fW (p:Option Addr) (len cap:Nat) (k0:Int) (l:List Int) (bl:List Nat) (w:World) (h:Un aA w [.slice p len cap] l bl) (hnd:bl.Nodup) (h0:0≤k0) (h1:k0+l.length≤1000000000000) :
  Calls Tryz.prog 38 #[.slice p len cap,.int .i64 k0] w (yE aA w [.slice p len cap] (mk aA l k0) bl (k0+(aL aA l:Int))):=by
 obtain ⟨rfl,hmx⟩:=qM h
 have HL:=Lib.hid (tF l k0)
 unfold maxLen at hmx
 go_enter Tryz.func38,Tryz.ntmps38
 go_wp2
 go_loopw [1,5] (fun q i wr=>∃ k:Nat,k≤l.length∧i = .int .i64 k∧q = .int .i64 (k0+k)∧Only bl w wr∧Un aA wr [.slice p l.length cap] ((mk aA l k0:List Int).take k++l.drop k) bl) (fun _ i _=>l.length - (intOf i).toNat)
 case atStart=>exact ⟨0,by omega,rfl,by simp,Only.refl _ _,by simpa using h⟩
 case round =>
  obtain ⟨k,hk,rfl,rfl,hb,hf⟩:=hrel
  clear h
  by_cases hlt:k<l.length
  ·have hkk:k<((mk aA l k0:List Int).take k++l.drop k).length:=by simp only[List.length_append,List.length_take,List.length_drop,HL.out];omega
   obtain ⟨b,cap',c,bk,hv,hbm,-,hfz,hcl,hc,hR,-,-,-,-,hU⟩:=aI4 hf hnd k hkk
   simp only[Value.slice.injEq] at hv
   obtain ⟨rfl,-,-⟩:=hv
   obtain ⟨rfl,_,rfl⟩:=hR
   have c1:wr.cell? ⟨b,k,none⟩=some (.int .i64 l[k]):=by
    have:=hc 0 (by simp)
    simp only[Ty.n,Nat.mul_one,Nat.add_zero,List.getElem_cons_zero] at this
    rw[this,nZ _ _ _ hlt HL.out]
   have c2:=hfz k
   have HU:=Lib.hid (hU 0 (.int .i64 (k0+k)) (k0+k) (by simp) ⟨rfl,nL (by omega),rfl⟩)
   have HM:=Lib.hid (aOI l k0 k hlt)
   clear hU hc hfz hf
   go_wp2
   go_roundw
   case rel =>
    refine ⟨k+1,by omega,by go_num,by go_num,hb.setCell hbm _,?_⟩
    have h2:=HU.out
    rw[nV _ _ _ hlt HL.out _ HM.out] at h2
    simpa [Ty.n] using h2
   case measure=>simp[intOf];omega
  ·go_wp2
   go_ret
   obtain rfl:k=l.length:=by omega
   refine ⟨dW (by rw[cG]),?_,hb⟩
   have e1:(mk aA l k0:List Int).take l.length++l.drop l.length=mk aA l k0:=by
    rw[List.drop_length,List.append_nil,List.take_of_length_le (by rw[HL.out];exact Nat.le_refl _)]
   rw[e1] at hf
   exact hf
theorem dQ.own {e:TypeId} {t:Ty} {lo mid:Nat} {w:World} {v:Value} {l:List t.D} (h:dQ (.slice e t) lo mid w [v] l):∀ g,v.ownBlock=some g→lo≤g∧g<mid:=by
 obtain ⟨bl,⟨v0,xs,bl',hv,_,_,rfl⟩,_,hin,_⟩:=h
 obtain rfl:v=v0:=by simpa using hv
 exact fun g hg=>hin g (by simp[hg])
theorem dQ.slen {e:TypeId} {t:Ty} {lo mid:Nat} {w:World} {p:Option Addr} {len cap:Nat} {l:List t.D} (h:dQ (.slice e t) lo mid w [.slice p len cap] l):len=l.length:=(aWE h).lens
section
variable {P:Program}
end
section
variable {P:Program} (w:World)
end
section
variable {P:Program}
end
def Kp (lo hi:Nat) (w w':World):Prop:=(∀ b,lo≤b→b<hi→w'.heap[b]?=w.heap[b]?)∧w.heap.size≤w'.heap.size
theorem Kp.refl (lo hi:Nat) (w:World):Kp lo hi w w:=⟨fun _ _ _=>rfl,Nat.le_refl _⟩
theorem Kp.trans {lo hi:Nat} {a b c:World} (h:Kp lo hi a b) (k:Kp lo hi b c):Kp lo hi a c:=⟨fun q h1 h2=>(k.1 q h1 h2).trans (h.1 q h1 h2),Nat.le_trans h.2 k.2⟩
theorem Kp.drew {lo hi:Nat} {a w:World} (h:Kp lo hi a w):Kp lo hi a w.drew:=h
theorem Kp.alloc {lo hi:Nat} {a w:World} (h:Kp lo hi a w) (hs:hi≤w.heap.size) (o:Obj):Kp lo hi a (w.alloc o) :=
 h.trans ⟨fun b h1 h2=>Below.heap_alloc _ _ _ (by omega),by simp⟩
theorem Kp.setCell {lo hi:Nat} {a w:World} (h:Kp lo hi a w) {p:Addr} (hp:p.block<lo∨hi≤p.block) (v:Value):Kp lo hi a (w.setCell p v) :=
 h.trans ⟨fun b h1 h2=>Below.heap_setCell _ _ _ _ (by omega),by simp[World.setCell]⟩
theorem Kp.below {lo hi B:Nat} {a w w':World} (h:Kp lo hi a w) (hb:Below B w w') (hB:hi≤B):Kp lo hi a w' :=
 h.trans ⟨fun b h1 h2=>hb.block b (by omega),hb.size⟩
theorem Kp.only {lo hi:Nat} {bl:List Nat} {a w w':World} (h:Kp lo hi a w) (hb:Only bl w w') (hB:∀ b∈bl,b<lo∨hi≤b) (hs:hi≤w.heap.size):Kp lo hi a w' :=
 h.trans ⟨fun b h1 h2=>hb.block b (fun hm=>by have:=hB b hm;omega) (by omega),hb.size⟩
theorem dQ.kp {t:Ty} {lo hi:Nat} {w w':World} {cs:List Value} {d:t.D} (h:dQ t lo hi w cs d) (k:Kp lo hi w w'):dQ t lo hi w' cs d:=h.keep k.1 k.2
theorem Only.bel {bl:List Nat} {B:Nat} {w w' w'':World} (h:Only bl w w') (k:Below B w' w'') (hB:w.heap.size≤B):Only bl w w'' :=
 ⟨k.os.trans h.os,k.tape.trans h.tape,k.output.trans h.output,Nat.le_trans h.size k.size,fun q hq hz=>(k.block q (by omega)).trans (h.block q hq hz)⟩
def sN (t:Ty) (lo hi:Nat) (w:World) (cs:List Value) (d:t.D):Prop :=
 ∃ bl,Un t w cs d bl∧bl.Nodup∧(∀ b∈bl,lo≤b∧b<hi)∧hi≤w.heap.size
def vN (t:Ty) (lo hi:Nat) (w:World) (cs:List Value) (d:t.D):Prop :=
 eC (fun b=>lo≤b∧b<hi) t w cs d∧hi≤w.heap.size
theorem aSF {e:TypeId} {t:Ty} {w:World} {p:Option Addr} {len cap:Nat} {l:List t.D} (h:rd (.slice e t) w [.slice p len cap] l):bY t.n (rd t w) w p len cap l:=by
 obtain ⟨p',len',cap',hv,hs⟩:=h
 simp only[List.cons.injEq,Value.slice.injEq,and_true] at hv
 obtain ⟨rfl,rfl,rfl⟩:=hv
 exact hs
section
variable {t:Ty} {lo hi lo' hi':Nat} {w w':World} {cs:List Value} {d:t.D} {bl:List Nat}
theorem sN.rd (h:sN t lo hi w cs d):rd t w cs d:=by
 obtain ⟨bl,h,_⟩:=h
 exact eC.rd (fun b hb=>nP _ _ _ _ _ h b hb) (Un.rdg _ _ _ _ h)
theorem sN.mono (h:sN t lo hi w cs d) (h1:lo'≤lo) (h2:hi≤hi') (h3:hi'≤w.heap.size):sN t lo' hi' w cs d:=by
 obtain ⟨bl,h,hn,hb,hs⟩:=h
 exact ⟨bl,h,hn,fun b hb'=>by have:=hb b hb';omega,h3⟩
theorem sN.keep (h:sN t lo hi w cs d) (hw:∀ b,lo≤b→b<hi→w'.heap[b]?=w.heap[b]?) (hs:w.heap.size≤w'.heap.size):sN t lo hi w' cs d:=by
 obtain ⟨bl,h,hn,hb,hz⟩:=h
 exact ⟨bl,Un.keep _ _ _ _ (fun b hb'=>hw b (hb b hb').1 (hb b hb').2) h,hn,hb,by omega⟩
theorem sN.hi_le (h:sN t lo hi w cs d):hi≤w.heap.size:=h.choose_spec.2.2.2
theorem sN.below {B:Nat} (h:sN t lo hi w cs d) (hw:Below B w w') (hB:hi≤B):sN t lo hi w' cs d:=h.keep (fun b _ h2=>hw.block b (by omega)) hw.size
theorem sN.set1 (h:sN t lo hi w cs d) {a:Addr} (ha:a.block<lo∨hi≤a.block) (v:Value):sN t lo hi (w.setCell a v) cs d:=h.keep (fun b h1 h2=>Below.heap_setCell _ _ _ _ (by omega)) (by simp[World.setCell])
theorem sN.alloc (h:sN t lo hi w cs d) (o:Obj):sN t lo hi (w.alloc o) cs d:=h.keep (fun b h1 h2=>Below.heap_alloc _ _ _ (by have:=h.hi_le;omega)) (by simp)
theorem sN.only (h:sN t lo hi w cs d) (hw:Only bl w w') (hb:∀ b∈bl,b<lo∨hi≤b):sN t lo hi w' cs d :=
 h.keep (fun b h1 h2=>hw.block b (fun hm=>by have:=hb b hm;omega) (by have:=h.hi_le;omega)) hw.size
theorem sN.kp (h:sN t lo hi w cs d) (k:Kp lo hi w w'):sN t lo hi w' cs d:=h.keep k.1 k.2
theorem sN.un (h:sN t lo hi w cs d):∃ bl,Un t w cs d bl∧bl.Nodup∧(∀ b∈bl,lo≤b∧b<hi):=by
 obtain ⟨bl,h1,h2,h3,_⟩:=h
 exact ⟨bl,h1,h2,h3⟩
theorem sN.of_un (h:Un t w cs d bl) (hn:bl.Nodup) (hb:∀ b∈bl,lo≤b∧b<hi) (hz:hi≤w.heap.size):sN t lo hi w cs d:=⟨bl,h,hn,hb,hz⟩
theorem dQ.toA (h:dQ t lo hi w cs d):sN t lo hi w cs d:=by
 obtain ⟨bl,h,hn,hb,hs⟩:=h
 exact ⟨bl,Un.of_rep _ _ _ _ h,hn,hb,hs⟩
theorem dQ.un (h:dQ t lo hi w cs d):∃ bl,Un t w cs d bl∧bl.Nodup∧(∀ b∈bl,lo≤b∧b<hi):=h.toA.un
theorem vN.rd (h:vN t lo hi w cs d):rd t w cs d:=eC.rd (fun b hb=>by have:=h.2;omega) h.1
theorem vN.mono (h:vN t lo hi w cs d) (h1:lo'≤lo) (h2:hi≤hi') (h3:hi'≤w.heap.size):vN t lo' hi' w cs d:=⟨h.1.mono (fun b hb=>by omega) (fun _ _=>rfl),h3⟩
theorem vN.keep (h:vN t lo hi w cs d) (hw:∀ b,lo≤b→b<hi→w'.heap[b]?=w.heap[b]?) (hs:w.heap.size≤w'.heap.size):vN t lo hi w' cs d :=
 ⟨h.1.mono (fun b hb=>hb) (fun b hb=>hw b hb.1 hb.2),Nat.le_trans h.2 hs⟩
theorem vN.hi_le (h:vN t lo hi w cs d):hi≤w.heap.size:=h.2
theorem vN.below {B:Nat} (h:vN t lo hi w cs d) (hw:Below B w w') (hB:hi≤B):vN t lo hi w' cs d:=h.keep (fun b _ h2=>hw.block b (by omega)) hw.size
theorem vN.set1 (h:vN t lo hi w cs d) {a:Addr} (ha:a.block<lo∨hi≤a.block) (v:Value):vN t lo hi (w.setCell a v) cs d:=h.keep (fun b h1 h2=>Below.heap_setCell _ _ _ _ (by omega)) (by simp[World.setCell])
theorem vN.alloc (h:vN t lo hi w cs d) (o:Obj):vN t lo hi (w.alloc o) cs d:=h.keep (fun b h1 h2=>Below.heap_alloc _ _ _ (by have:=h.hi_le;omega)) (by simp)
theorem vN.only (h:vN t lo hi w cs d) (hw:Only bl w w') (hb:∀ b∈bl,b<lo∨hi≤b):vN t lo hi w' cs d :=
 h.keep (fun b h1 h2=>hw.block b (fun hm=>by have:=hb b hm;omega) (by have:=h.hi_le;omega)) hw.size
theorem vN.kp (h:vN t lo hi w cs d) (k:Kp lo hi w w'):vN t lo hi w' cs d:=h.keep k.1 k.2
end
section
variable {e:TypeId} {t:Ty} {lo hi:Nat} {w:World} {p:Option Addr} {len cap:Nat} {l:List t.D}
theorem dQ.sl (h:dQ (.slice e t) lo hi w [.slice p len cap] l):bY t.n (Go.Proofs.YtlabadaccldkaaaGreat.rd t w) w p len cap l:=aSF h.rd
theorem sN.sl (h:sN (.slice e t) lo hi w [.slice p len cap] l):bY t.n (Go.Proofs.YtlabadaccldkaaaGreat.rd t w) w p len cap l:=aSF h.rd
theorem vN.sl (h:vN (.slice e t) lo hi w [.slice p len cap] l):bY t.n (Go.Proofs.YtlabadaccldkaaaGreat.rd t w) w p len cap l:=aSF h.rd
end
def yK:Ty→List Nat→Bool
 | .slice _ _,2 :: _=>true
 | .slice _ _,1 :: _=>true
 | .slice _ _,_=>false
 | .aWS a b,fl=>yK a fl&&yK b (nJ a fl)
 | _,_=>true
section
variable {G G':Nat→Prop} {w w':World}
theorem yO.rdg (hG:∀ b,G b→G' b):{t:Ty}→{fl:List Nat}→{cs:List Value}→{d:t.D}→{ob ub:List Nat}→yO G w t fl cs d ob ub→(∀ b∈ob,G' b)→eC G' t w cs d:=by
 intro t
 induction t with
 | aWS x y ihx ihy =>
  intro fl cs d ob ub h hb
  obtain ⟨c1,c2,o1,o2,u1,u2,rfl,rfl,rfl,h1,h2⟩:=h
  exact ⟨c1,c2,rfl,ihx h1 fun b h=>hb b (by simp[h]),ihy h2 fun b h=>hb b (by simp[h])⟩
 | slice e t ih =>
  intro fl cs d ob ub h hb
  rcases fl with _|⟨_|_|_|f,fl⟩
  ·exact h.2.2.mono hG (fun _ _=>rfl)
  ·exact h.2.2.mono hG (fun _ _=>rfl)
  ·exact h.2.2.mono hG (fun _ _=>rfl)
  ·obtain ⟨v,rfl,_,h1,h2,rfl⟩:=h
   refine h1.rd hG fun b n c h0 hv=>hb b ?_
   subst hv
   simp only[dP]
   rw[if_neg (by omega)]
   simp
  ·exact h.2.2.mono hG (fun _ _=>rfl)
 | int k=>intro fl cs d ob ub h hb;cases fl <;> exact h.2.2.mono hG (fun _ _=>rfl)
 | bool=>intro fl cs d ob ub h hb;cases fl <;> exact h.2.2.mono hG (fun _ _=>rfl)
 | str=>intro fl cs d ob ub h hb;cases fl <;> exact h.2.2.mono hG (fun _ _=>rfl)
theorem yO.un : {t : Ty} → {fl : List Nat} → {cs : List Value} → {d : t.D} → {ob ub : List Nat} → yK t fl = true → yO G w t fl cs d ob ub → ∃ bl, Un t w cs d bl ∧ bl.Perm (ob ++ ub) := by
  intro t
  induction t with
  | aWS x y ihx ihy =>
    intro fl cs d ob ub hf h
    simp only [yK, Bool.and_eq_true] at hf
    obtain ⟨c1, c2, o1, o2, u1, u2, rfl, rfl, rfl, h1, h2⟩ := h
    obtain ⟨b1, p1, q1⟩ := ihx hf.1 h1
    obtain ⟨b2, p2, q2⟩ := ihy hf.2 h2
    refine ⟨b1 ++ b2, ⟨c1, c2, b1, b2, rfl, rfl, p1, p2⟩, (q1.append q2).trans ?_⟩
    rw [List.append_assoc, List.append_assoc]
    refine List.Perm.append_left o1 ?_
    rw [← List.append_assoc, ← List.append_assoc]
    exact List.perm_append_comm.append_right u2
  | slice e t ih =>
    intro fl cs d ob ub hf h
    rcases fl with _ | ⟨_ | _ | _ | f, fl⟩
    · cases hf
    · cases hf
    · obtain ⟨rfl, h1, _⟩ := h
      exact ⟨ub, h1, by simp⟩
    · obtain ⟨v, rfl, _, h1, h2, rfl⟩ := h
      rcases h1 with ⟨p, rfl, rfl⟩ | ⟨b, cap, cur, rfl, h0, hh, k1, k2, k3, k4⟩
      · rcases h2 with ⟨p', _, rfl⟩ | ⟨b, n, cap, cur, hv, h0, _⟩
        · exact ⟨[], .inl ⟨p, rfl, rfl, rfl⟩, by cases p <;> simp [dP]⟩
        · simp only [Value.slice.injEq] at hv; omega
      · rcases h2 with ⟨p', hv, rfl⟩ | ⟨b', n, cap', cur', hv, _, hh', hr⟩
        · simp only [Value.slice.injEq] at hv; omega
        · simp only [Value.slice.injEq, bQ, Addr.mk.injEq, and_true] at hv
          obtain ⟨rfl, rfl, rfl⟩ := hv
          rw [hh] at hh'
          simp only [bQ, Obj.cells.injEq, true_and, and_true] at hh'
          subst hh'
          refine ⟨b :: ub, .inr ⟨b, 0, cap, cur, _, ub, rfl, rfl, hh, k1, k2, ?_, by rw [List.drop_zero], hr, rfl⟩, ?_⟩
          · rw [Nat.zero_add, k3]; exact Nat.mul_le_mul_right _ k1
          · simp only [dP]
            rw [if_neg (by omega)]
            exact .refl _
    · cases hf
  | int k => intro fl cs d ob ub hf h; obtain ⟨rfl, rfl, h'⟩ : ob = [] ∧ ub = [] ∧ eC G (.int k) w cs d := by cases fl <;> exact h
             exact ⟨[], ⟨h'.1, h'.2, rfl⟩, .refl _⟩
  | bool => intro fl cs d ob ub hf h; obtain ⟨rfl, rfl, h'⟩ : ob = [] ∧ ub = [] ∧ eC G .bool w cs d := by cases fl <;> exact h
            exact ⟨[], ⟨h', rfl⟩, .refl _⟩
  | str => intro fl cs d ob ub hf h; obtain ⟨rfl, rfl, h'⟩ : ob = [] ∧ ub = [] ∧ eC G .str w cs d := by cases fl <;> exact h
           exact ⟨[], ⟨h'.1, h'.2, rfl⟩, .refl _⟩
end
def hX (w:World):List AM→List Value→List SV→Prop
 | [],vs,ds=>vs=[]∧ds=[]
 | .val m :: ms,vs,ds=>∃ v vs' d ds',vs=v :: vs'∧ds=d :: ds'∧(m.fl.any (· != 0))=false∧v=sS m.ag v.cells.toList∧rd m.t w v.cells.toList (d.as m.t)∧hX w ms vs' ds'
 | .box _ _ :: _,_,_=>False
theorem hX.ams {w:World} {G:Nat→Prop} (hG:∀ b,b<w.heap.size→G b):{ms:List AM}→{vs:List Value}→{ds:List SV}→hX w ms vs ds→rC G w ms vs ds [] []∧jY ms vs=[]∧lN ms=[]
 | [],_,_,⟨h1,h2⟩=>⟨⟨h1,rfl,rfl⟩,rfl,rfl⟩
 | .val m :: ms,_,_,⟨v,vs',d,ds',rfl,rfl,hf,hv,hr,h⟩=>by
  obtain ⟨i1,i2,i3⟩:=hX.ams hG h
  exact ⟨⟨v,vs',d,ds',[],[],[],[],rfl,rfl,rfl,rfl,hv,aLZ hf ((eC.of_rd hr).mono hG (fun _ _=>rfl)),i1⟩,i2,i3⟩
 | .box _ _ :: _,_,_,h=>h.elim
def aP4 (m:MV) (w:World) (R:m.t.D) (e:Ending) (w':World):Prop :=
 ∃ r:Value,e = .returned r∧r=sS m.ag r.cells.toList∧vN m.t w.heap.size w'.heap.size w' r.cells.toList R∧(yK m.t m.fl=true→sN m.t w.heap.size w'.heap.size w' r.cells.toList R)∧Below w.heap.size w w'
def aVM (t:Ty) (w:World) (d:t.D) (r:Ending) (w':World):Prop:=∃ cs:Array Value,r = .returned (.agg cs)∧sN t w.heap.size w'.heap.size w' cs.toList d∧Below w.heap.size w w'
def aVZ (t:Ty) (w:World) (d:t.D) (r:Ending) (w':World):Prop:=∃ cs:Array Value,r = .returned (.agg cs)∧vN t w.heap.size w'.heap.size w' cs.toList d∧Below w.heap.size w w'
theorem aP4.agA {m:MV} (hm:m.ag=true) (hf:yK m.t m.fl=true) {w w':World} {R:m.t.D} {e:Ending} (h:aP4 m w R e w'):aVM m.t w R e w':=by
 obtain ⟨r,h1,h2,h3,h4,h5⟩:=h
 rw[hm] at h2
 exact ⟨r.cells,by rw[h1];exact congrArg _ (h2.trans (by simp[sS])),h4 hf,h5⟩
theorem aP4.agR {m:MV} (hm:m.ag=true) {w w':World} {R:m.t.D} {e:Ending} (h:aP4 m w R e w'):aVZ m.t w R e w':=by
 obtain ⟨r,h1,h2,h3,h4,h5⟩:=h
 rw[hm] at h2
 exact ⟨r.cells,by rw[h1];exact congrArg _ (h2.trans (by simp[sS])),h3,h5⟩
def aBO (w w':World) (m:MV) (r:Value) (R:m.t.D) (bl:List Nat):Prop :=
 r=sS m.ag r.cells.toList∧vN m.t w.heap.size w'.heap.size w' r.cells.toList R∧(yK m.t m.fl=true→Un m.t w' r.cells.toList R bl)
def tP (w w':World):List MV→List Value→List SV→List Nat→Prop
 | [],rs,_,bl=>rs=[]∧bl=[]
 | m :: ms,rs,d :: ds,bl=>∃ r rs' b1 b2,rs=r :: rs'∧bl=b1++b2∧aBO w w' m r (d.as m.t) b1∧tP w w' ms rs' ds b2
 | _ :: _,_,[],_=>False
def aVO (ms:List MV) (w:World) (ds:List SV) (e:Ending) (w':World):Prop :=
 ∃ rs bl,e = .returned (aKQ rs)∧tP w w' ms rs ds bl∧bl.Nodup∧(∀ b∈bl,w.heap.size≤b∧b<w'.heap.size)∧Below w.heap.size w w'
theorem aFO:(ts:List Ty)→(d:(bR ts).D)→(cI ts d).length=ts.length
 | [],_=>rfl
 | [_],_=>rfl
 | _ :: u :: ts,d=>congrArg (· + 1) (aFO (u :: ts) d.2)
theorem rC.outs {G:Nat→Prop} {w w':World} (hG:∀ b,G b→w.heap.size≤b∧b<w'.heap.size):{ms:List MV}→{rs:List Value}→{ds:List SV}→{ob ub:List Nat}→rC G w' (ms.map .val) rs ds ob ub →
  (∀ b∈ob,w.heap.size≤b∧b<w'.heap.size)→∃ bl,tP w w' ms rs ds bl∧bl.Perm (ob++ub)
 | [],rs,ds,ob,ub,h,hb=>by
  obtain ⟨rfl,rfl,rfl⟩:=h
  exact ⟨[],⟨rfl,rfl⟩,.refl _⟩
 | m :: ms,rs,ds,ob,ub,h,hb=>by
  obtain ⟨v,vs',d,ds',o1,o2,u1,u2,rfl,rfl,rfl,rfl,h1,h2,h3⟩:=h
  obtain ⟨b2,q1,q2⟩:=rC.outs hG h3 (fun b hb'=>hb b (List.mem_append.2 (.inr hb')))
  have hr:vN m.t w.heap.size w'.heap.size w' v.cells.toList (d.as m.t):=⟨h2.rdg hG (fun b hb'=>hb b (List.mem_append.2 (.inl hb'))),Nat.le_refl _⟩
  have hp:∀ {b1:List Nat},b1.Perm (o1++u1)→(b1++b2).Perm (o1++o2++(u1++u2)):=fun h=>by
   refine (h.append q2).trans ?_
   rw[List.append_assoc,List.append_assoc]
   refine List.Perm.append_left o1 ?_
   rw[← List.append_assoc,← List.append_assoc]
   exact List.perm_append_comm.append_right u2
  cases hf:yK m.t m.fl with
  | false=>exact ⟨_,⟨v,vs',o1++u1,b2,rfl,rfl,⟨h1,hr,fun h=>by rw[hf] at h;cases h⟩,q1⟩,hp (.refl _)⟩
  | true =>
   obtain ⟨b1,p1,p2⟩:=h2.un hf
   exact ⟨_,⟨v,vs',b1,b2,rfl,rfl,⟨h1,hr,fun _=>p1⟩,q1⟩,hp p2⟩
theorem Con.Holds.givesL {P:Program} {C:Con} (h:Con.Holds P C) (hal:C.alias=false) {x:C.argTy.D} (hp:C.pre x) (hx:okD C.argTy x) {w:World} {vs:List Value} (ha:hX w C.ams vs (cI (C.ams.map (·.mv.t)) (SV.as _ ⟨C.argTy,x⟩))) (hbx:C.bx=none:=by rfl) (ht:aIS.p w:=by exact aT8 _) :
  Calls P C.f vs.toArray w (aVO C.rms w (cI (C.rms.map (·.t)) (SV.as _ ⟨C.resTy,C.fn x⟩))):=by
 let X:Cx:=⟨fun _=>False,[],[],w,fun _ h=>h.elim,⟨ht,by simp⟩⟩
 obtain ⟨a1,a2,a3⟩:=ha.ams (G:=Gd X [] w false) fun b hb=>⟨hb,by simp,fun h=>h,fun h=>by cases h⟩
 refine Calls.mono' (h.run X vs x [] [] hp hx rfl rfl (by simp) (fun b hb=>by simp at hb) a1) fun e w' ⟨v,he,hg⟩=>?_
 obtain ⟨rs,o1,u1,o2,u2,hv,hf,g1,g2,g3,g4,g5⟩:=hg
 rw[a2] at g2
 rw[Con.ras_none hbx] at g1
 obtain ⟨rfl,rfl⟩:=g2
 have hq:∀ bs:List MV,bs=[]→List.take C.rms.length (cI (List.map (fun x=>x.t) (C.rms++bs)) (SV.as (bR (List.map (fun x=>x.t) (C.rms++bs))) ⟨C.resTy,C.fn x⟩))=cI (C.rms.map (·.t)) (SV.as _ ⟨C.resTy,C.fn x⟩):=fun bs h=>by
  subst h
  rw[List.append_nil]
  exact List.take_of_length_le (by rw[aFO];simp)
 rw[hq _ a3] at g1
 simp only[List.append_nil] at g1 g3 g4 g5
 rw[hal] at g1
 have hB:∀ b,Gd X o1 w' (!false) b→w.heap.size≤b∧b<w'.heap.size:=fun b hb=>by
  have:=hb.2.2.2 rfl
  simp only[Cx.F0,X,List.append_nil,List.not_mem_nil,or_false] at this
  exact ⟨this,hb.1⟩
 have hO:∀ b∈o1,w.heap.size≤b∧b<w'.heap.size:=fun b hb=>by
  obtain ⟨h1,h2,h3⟩:=g4 b hb
  simp only[X,List.not_mem_nil,or_false] at h2
  exact ⟨h2,h1⟩
 obtain ⟨bl,q1,q2⟩:=g1.outs hB hO
 refine ⟨rs,bl,by rw[he,hv],q1,q2.nodup_iff.2 g3,fun b hb=>?_,⟨hf.os,hf.tape,hf.output,hf.size,fun k hk=>hf.block k hk (by simp[X])⟩⟩
 have:=q2.mem_iff.1 hb
 rw[List.mem_append] at this
 rcases this with h1|h1
 ·exact hO b h1
 ·have hg:=g5 b h1
  have h2:=hg.2.2.2 rfl
  simp only[Cx.F0,X,List.append_nil,List.not_mem_nil,or_false] at h2
  exact ⟨h2,hg.1⟩
section
variable {w w':World} {r:Value} {bl:List Nat} {fl:List Nat}
theorem aBO.int {k:IntKind} {R:Int} (h:aBO w w' ⟨false,.int k,fl⟩ r R bl):r = .int k R:=by
 have h1:=h.1
 rw[h.2.1.1.1] at h1
 exact h1
theorem aBO.bool {R:Bool} (h:aBO w w' ⟨false,.bool,fl⟩ r R bl):r = .bool R:=by
 have h1:=h.1
 rw[show r.cells.toList=[.bool R] from h.2.1.1] at h1
 exact h1
theorem aBO.str {R:ByteArray} (h:aBO w w' ⟨false,.str,fl⟩ r R bl):r = .string R:=by
 have h1:=h.1
 rw[h.2.1.1.1] at h1
 exact h1
theorem aBO.agR {t:Ty} {R:t.D} (h:aBO w w' ⟨true,t,fl⟩ r R bl):r = .agg r.cells∧vN t w.heap.size w'.heap.size w' r.cells.toList R:=⟨h.1.trans (by simp[sS]),h.2.1⟩
theorem aBO.agA {t:Ty} {R:t.D} (h:aBO w w' ⟨true,t,fl⟩ r R bl) (hf:yK t fl=true) (hn:bl.Nodup) (hb:∀ b∈bl,w.heap.size≤b∧b<w'.heap.size):r = .agg r.cells∧sN t w.heap.size w'.heap.size w' r.cells.toList R :=
 ⟨h.1.trans (by simp[sS]),bl,h.2.2 hf,hn,hb,Nat.le_refl _⟩
end
theorem hX.cons {w:World} {m:MV} {ms:List AM} {vs:List Value} {ds:List SV} {v:Value} {y:m.t.D} (hf:(m.fl.any (· != 0))=false) (hv:v=sS m.ag v.cells.toList) (hr:rd m.t w v.cells.toList y) (hn:hX w ms vs ds) :
 hX w (.val m :: ms) (v :: vs) (⟨m.t,y⟩ :: ds):=⟨v,vs,⟨m.t,y⟩,ds,rfl,rfl,hf,hv,by rw[SV.as_self];exact hr,hn⟩
theorem hX.nil {w:World}:hX w [] [] []:=⟨rfl,rfl⟩
theorem tP.inv {w w':World} {m:MV} {ms:List MV} {rs:List Value} {y:m.t.D} {ds:List SV} {bl:List Nat} (h:tP w w' (m :: ms) rs (⟨m.t,y⟩ :: ds) bl) :
  ∃ r rs' b1 b2,rs=r :: rs'∧bl=b1++b2∧aBO w w' m r y b1∧tP w w' ms rs' ds b2:=by
 obtain ⟨r,rs',b1,b2,h1,h2,h3,h4⟩:=h
 rw[SV.as_self] at h3
 exact ⟨r,rs',b1,b2,h1,h2,h3,h4⟩
theorem bY.toRd {e:TypeId} {t:Ty} {w:World} {p:Option Addr} {len cap:Nat} {l:List t.D} (h:bY t.n (rd t w) w p len cap l):rd (.slice e t) w [.slice p len cap] l:=⟨p,len,cap,rfl,h⟩
section
variable {G:Nat→Prop} {w:World}
end
inductive Out where
 | ret (v:SV)
 | ag (d:Nat) (v:SV)
def Out.pop:Out→Option Out
 | .ret v=>some (.ret v)
 | .ag (d+1) v=>some (.ag d v)
 | .ag 0 _=>none
def aB6 {α:Type} (as':SV→α) (R:α→Out→Prop):Nat→α→Out→Prop
 | 0,x,o=>∃ o',R x o'∧o'.pop=some o
 | n+1,x,o=>∃ v,R x (.ag 0 v)∧aB6 as' R n (as' v) o
def T.out (Cs:List Con):T→List SV→Out→Prop
 | .aWT p a k,env,o=>k.out Cs (env++[⟨p.oty,p.fn ((a.val env).as p.ity)⟩]) o
 | .call c a k,env,o=>match Cs[c]? with
  | some C=>k.out Cs (env++[⟨C.resTy,C.fn ((a.val env).as C.argTy)⟩]) o
  | none=>False
 | .ite a x y,env,o=>((a.val env).as .bool=true∧x.out Cs env o)∨((a.val env).as .bool=false∧y.out Cs env o)
 | .loop t a b,env,o=>∃ n,aB6 (fun v:SV=>v.as t) (fun x o=>b.out Cs (env++[⟨t,x⟩]) o) n ((a.val env).as t) o
 | .aWV d a,env,o=>o = .ag d (a.val env)
 | .ret a,env,o=>o = .ret (a.val env)
theorem aFY {α:Type} {as':SV→α} {R:α→Out→Prop} (hR:∀ x o1 o2,R x o1→R x o2→o1=o2):(n m:Nat)→{x:α}→{o1 o2:Out}→aB6 as' R n x o1→aB6 as' R m x o2→o1=o2
 | 0,0,x,o1,o2,⟨p,h1,h2⟩,⟨q,k1,k2⟩=>by
  have:=hR _ _ _ h1 k1
  subst this
  rw[h2] at k2
  exact Option.some.inj k2
 | 0,m+1,x,o1,o2,⟨p,h1,h2⟩,⟨v,k1,k2⟩=>by
  have:=hR _ _ _ h1 k1
  subst this
  cases h2
 | n+1,0,x,o1,o2,⟨v,k1,k2⟩,⟨p,h1,h2⟩=>by
  have:=hR _ _ _ h1 k1
  subst this
  cases h2
 | n+1,m+1,x,o1,o2,⟨v,h1,h2⟩,⟨u,k1,k2⟩=>by
  have:=hR _ _ _ h1 k1
  simp only[Out.ag.injEq,true_and] at this
  subst this
  exact aFY hR n m h2 k2
theorem T.out_det (Cs:List Con):(t:T)→{env:List SV}→{o1 o2:Out}→t.out Cs env o1→t.out Cs env o2→o1=o2
 | .aWT p a k,env,o1,o2,h1,h2=>T.out_det Cs k h1 h2
 | .call c a k,env,o1,o2,h1,h2=>by
  simp only[T.out] at h1 h2
  split at h1
  ·exact T.out_det Cs k h1 (by rename_i C hc;rw[hc] at h2;exact h2)
  ·exact h1.elim
 | .ite a x y,env,o1,o2,h1,h2=>by
  rcases h1 with ⟨a1,h1⟩|⟨a1,h1⟩ <;> rcases h2 with ⟨a2,h2⟩|⟨a2,h2⟩
  ·exact T.out_det Cs x h1 h2
  ·rw[a1] at a2;cases a2
  ·rw[a1] at a2;cases a2
  ·exact T.out_det Cs y h1 h2
 | .loop t a b,env,o1,o2,⟨n,h1⟩,⟨m,h2⟩=>aFY (as':=fun v:SV=>v.as t) (R:=fun x o=>b.out Cs (env++[⟨t,x⟩]) o) (fun x o1 o2 k1 k2=>T.out_det Cs b k1 k2) n m h1 h2
 | .aWV d a,env,o1,o2,h1,h2=>h1.trans h2.symm
 | .ret a,env,o1,o2,h1,h2=>h1.trans h2.symm
def Out.sat (L:List (SV→Prop)) (Q:SV→Prop):Out→Prop
 | .ret v=>Q v
 | .ag d v=>∃ I,L[d]?=some I∧I v
theorem T.out_of (Cs:List Con) (hC:∀ (c:Nat) (C:Con),Cs[c]?=some C→∀ x:C.argTy.D,C.pre x→okD C.argTy x→okD C.resTy (C.fn x)):(t:T)→t.okB=true→∀ {env:List SV} {L:List (SV→Prop)} {Q:SV→Prop},(∀ v∈env,v.okv)→t.wp Cs env L Q →
  ∃ o,t.out Cs env o∧o.sat L Q∧(∀ v,o = .ret v→v.okv)∧(∀ d v,o = .ag d v→v.okv)
 | .aWT p a k,hb,env,L,Q,he,h=>by
  simp only[T.okB,Bool.and_eq_true] at hb
  have ho:=aE5 p hb.1.2 _ (iQ (Ar.okv he a hb.1.1)) h.1
  refine T.out_of Cs hC k hb.2 (fun v hv=>?_) (h.2 ho)
  rw[List.mem_append,List.mem_singleton] at hv
  rcases hv with hv|rfl
  ·exact he v hv
  ·exact ho
 | .call c a k,hb,env,L,Q,he,h=>by
  simp only[T.okB,Bool.and_eq_true] at hb
  simp only[T.wp] at h
  simp only[T.out]
  split at h
  ·rename_i C hc
   have ho:=hC c C hc _ h.1 (iQ (Ar.okv he a hb.1))
   obtain ⟨o,h1,h2⟩:=T.out_of Cs hC k hb.2 (fun v hv=>by
    rw[List.mem_append,List.mem_singleton] at hv
    rcases hv with hv|rfl
    ·exact he v hv
    ·exact ho) (h.2 ho)
   exact ⟨o,by rw[hc];exact h1,h2⟩
  ·exact h.elim
 | .ite a x y,hb,env,L,Q,he,h=>by
  simp only[T.okB,Bool.and_eq_true] at hb
  cases hv:(a.val env).as .bool with
  | true =>
   obtain ⟨o,h1,h2⟩:=T.out_of Cs hC x hb.1 he (h.1 hv)
   exact ⟨o,.inl ⟨hv,h1⟩,h2⟩
  | false =>
   obtain ⟨o,h1,h2⟩:=T.out_of Cs hC y hb.2 he (h.2 hv)
   exact ⟨o,.inr ⟨hv,h1⟩,h2⟩
 | .loop t a b,hb,env,L,Q,he,h=>by
  simp only[T.okB,Bool.and_eq_true] at hb
  obtain ⟨I,μ,hI,hbody⟩:=h
  have key:∀ (m:Nat) (x:t.D),μ x=m→okD t x→I x→∃ o,(∃ n,aB6 (fun v:SV=>v.as t) (fun x o=>b.out Cs (env++[⟨t,x⟩]) o) n x o)∧o.sat L Q∧(∀ v,o = .ret v→v.okv)∧(∀ d v,o = .ag d v→v.okv):=by
   intro m
   induction m using Nat.strongRecOn with
   | _ m ih =>
    intro x hm hx hIx
    obtain ⟨o,h1,h2,h3,h4⟩:=T.out_of Cs hC b hb.2 (env:=env++[⟨t,x⟩]) (fun v hv=>by
     rw[List.mem_append,List.mem_singleton] at hv
     rcases hv with hv|rfl
     ·exact he v hv
     ·exact hx) (hbody x hx hIx)
    cases o with
    | ret v=>exact ⟨.ret v,⟨0,_,h1,rfl⟩,h2,h3,fun d u hu=>(by cases hu)⟩
    | ag d v =>
     cases d with
     | zero =>
      obtain ⟨J,e,hJ⟩:=h2
      simp only[List.getElem?_cons_zero,bQ] at e
      subst e
      obtain ⟨o,⟨n,k1⟩,k2⟩:=ih _ (by rw[← hm];exact hJ.2) _ rfl (iQ (h4 _ _ rfl)) hJ.1
      exact ⟨o,⟨n+1,v,h1,k1⟩,k2⟩
     | succ d =>
      obtain ⟨J,e,hJ⟩:=h2
      refine ⟨.ag d v,⟨0,_,h1,rfl⟩,⟨J,by simpa using e,hJ⟩,fun u hu=>(by cases hu),fun d' u hu=>?_⟩
      cases hu
      exact h4 _ _ rfl
  exact key _ _ rfl (iQ (Ar.okv he a hb.1)) hI
 | .aWV d a,hb,env,L,Q,he,h=>by
  simp only[T.wp] at h
  split at h
  ·rename_i I hI
   refine ⟨.ag d (a.val env),rfl,⟨I,hI,h⟩,fun v hv=>(by cases hv),fun d' v hv=>?_⟩
   cases hv
   exact Ar.okv he a hb
  ·exact h.elim
 | .ret a,hb,env,L,Q,he,h=>⟨.ret (a.val env),rfl,h,fun v hv=>(by cases hv;exact Ar.okv he a hb),fun d v hv=>(by cases hv)⟩
theorem T.wp_out (Cs:List Con) (hC:∀ (c:Nat) (C:Con),Cs[c]?=some C→∀ x:C.argTy.D,C.pre x→okD C.argTy x→okD C.resTy (C.fn x)):(t:T)→t.okB=true→∀ {env:List SV} {L L':List (SV→Prop)} {Q Q':SV→Prop} {o:Out},(∀ v∈env,v.okv)→t.wp Cs env L Q→t.out Cs env o→o.sat L' Q'→t.wp Cs env L' Q'
 | .aWT p a k,hb,env,L,L',Q,Q',o,he,h,ho,hs=>by
  simp only[T.okB,Bool.and_eq_true] at hb
  refine ⟨h.1,fun hk=>T.wp_out Cs hC k hb.2 (fun v hv=>?_) (h.2 hk) ho hs⟩
  rw[List.mem_append,List.mem_singleton] at hv
  rcases hv with hv|rfl
  ·exact he v hv
  ·exact hk
 | .call c a k,hb,env,L,L',Q,Q',o,he,h,ho,hs=>by
  simp only[T.okB,Bool.and_eq_true] at hb
  simp only[T.wp,T.out] at h ho ⊢
  split at h
  ·rename_i C hc
   try rw[hc] at ho
   try rw[hc]
   refine ⟨h.1,fun hk=>T.wp_out Cs hC k hb.2 (fun v hv=>?_) (h.2 hk) ho hs⟩
   rw[List.mem_append,List.mem_singleton] at hv
   rcases hv with hv|rfl
   ·exact he v hv
   ·exact hk
  ·exact h.elim
 | .ite a x y,hb,env,L,L',Q,Q',o,he,h,ho,hs=>by
  simp only[T.okB,Bool.and_eq_true] at hb
  rcases ho with ⟨a1,ho⟩|⟨a1,ho⟩
  ·exact ⟨fun hv=>T.wp_out Cs hC x hb.1 he (h.1 hv) ho hs,fun hv=>(by rw[a1] at hv;cases hv)⟩
  ·exact ⟨fun hv=>(by rw[a1] at hv;cases hv),fun hv=>T.wp_out Cs hC y hb.2 he (h.2 hv) ho hs⟩
 | .loop t a b,hb,env,L,L',Q,Q',o,he,h,⟨n,ho⟩,hs=>by
  simp only[T.okB,Bool.and_eq_true] at hb
  obtain ⟨I,μ,hI,hbody⟩:=h
  refine ⟨fun x=>I x∧∃ n,aB6 (fun v:SV=>v.as t) (fun x o=>b.out Cs (env++[⟨t,x⟩]) o) n x o,μ,⟨hI,n,ho⟩,fun x hx ⟨hIx,n,hch⟩=>?_⟩
  have hex:∀ v∈env++[⟨t,x⟩],v.okv:=fun v hv=>by
   rw[List.mem_append,List.mem_singleton] at hv
   rcases hv with hv|rfl
   ·exact he v hv
   ·exact hx
  cases n with
  | zero =>
   obtain ⟨o',h1,h2⟩:=hch
   refine T.wp_out Cs hC b hb.2 hex (hbody x hx hIx) h1 ?_
   cases o' with
   | ret v=>simp only[Out.pop,bQ] at h2;subst h2;exact hs
   | ag d v =>
    cases d with
    | zero=>cases h2
    | succ d =>
     simp only[Out.pop,bQ] at h2
     subst h2
     obtain ⟨J,e,hJ⟩:=hs
     exact ⟨J,by simpa using e,hJ⟩
  | succ n =>
   obtain ⟨v,h1,h2⟩:=hch
   refine T.wp_out Cs hC b hb.2 hex (hbody x hx hIx) h1 ?_
   obtain ⟨o',k1,k2,_⟩:=T.out_of Cs hC b hb.2 hex (hbody x hx hIx)
   have:=T.out_det Cs b h1 k1
   subst this
   obtain ⟨J,e,hJ⟩:=k2
   simp only[List.getElem?_cons_zero,bQ] at e
   subst e
   exact ⟨_,rfl,⟨hJ.1,n,h2⟩,hJ.2⟩
 | .aWV d a,hb,env,L,L',Q,Q',o,he,h,ho,hs=>by
  subst ho
  obtain ⟨J,e,hJ⟩:=hs
  simp only[T.wp,e]
  exact hJ
 | .ret a,hb,env,L,L',Q,Q',o,he,h,ho,hs=>by
  subst ho
  exact hs
section
variable {P:Program} {Cs:List Con} {wr:Bool}
theorem aT9 {C:Con} {fuel:Nat} {orc:Orc} {T':T} (h:cW P Cs C wr fuel orc = .ok T'):T'.okB=true:=by
 unfold cW at h
 simp only at h
 split at h
 ·split at h
  ·split at h
   ·split at h
    ·split at h
     ·rename_i hok
      simp only[Except.ok.injEq] at h
      subst h
      exact hok
     ·cases h
    ·cases h
   ·cases h
  ·cases h
 ·cases h
theorem aVV (hm:P.follows .mixedOrders=true) {C:Con} {fuel:Nat} {orc:Orc} {T':T} (hC:∀ (c:Nat) (C:Con),Cs[c]?=some C→Con.Holds P C) (h:∀ f:C.argTy.D→C.resTy.D,cW P Cs { C with fn:=f } wr fuel orc = .ok T') (post:C.argTy.D→C.resTy.D→Prop)
  (hw:∀ x:C.argTy.D,okD C.argTy x→C.pre x→T'.wp Cs [⟨C.argTy,x⟩] [] fun v=>post x (v.as C.resTy)) :
  ∃ f:C.argTy.D→C.resTy.D,(∀ x,okD C.argTy x→C.pre x→post x (f x))∧Con.Holds P { C with fn:=f }:=by
 have hok:=aT9 (h C.fn)
 have hC2:∀ (c:Nat) (C:Con),Cs[c]?=some C→∀ x:C.argTy.D,C.pre x→okD C.argTy x→okD C.resTy (C.fn x):=fun c C hc=>(hC c C hc).ok
 have hex:∀ x:C.argTy.D,∃ y:C.resTy.D,okD C.argTy x→C.pre x→post x y∧T'.wp Cs [⟨C.argTy,x⟩] [] fun v=>v.as C.resTy=y:=fun x=>by
  by_cases hx:okD C.argTy x∧C.pre x
  ·have hev:∀ v∈([⟨C.argTy,x⟩]:List SV),v.okv:=fun v hv=>by
    rw[List.mem_singleton] at hv
    subst hv;exact hx.1
   obtain ⟨o,h1,h2,_⟩:=T.out_of Cs hC2 T' hok hev (hw x hx.1 hx.2)
   cases o with
   | ret v=>exact ⟨v.as C.resTy,fun _ _=>⟨h2,T.wp_out Cs hC2 T' hok hev (hw x hx.1 hx.2) h1 rfl⟩⟩
   | ag d v=>obtain ⟨J,e,_⟩:=h2;simp at e
  ·exact ⟨aV _,fun h1 h2=>absurd ⟨h1,h2⟩ hx⟩
 refine ⟨fun x=>(hex x).choose,fun x h1 h2=>((hex x).choose_spec h1 h2).1,?_⟩
 refine aX (C:={ C with fn:=fun x=>(hex x).choose }) hm hC (h _) fun x h1 h2=>((hex x).choose_spec h1 h2).2
end
theorem dzx:(∀ (n:Nat),((n:Nat):Int).toNat=n)∧(∀ (b:Bool),((!b)=true)=(b=false))∧(∀ (b:Bool),((!b)=false)=(b=true))∧(∀ (a b:Bool),((a&&b)=true)=(a=true∧b=true))∧(∀ {x y:Bool},(x&&y)=false↔x=false∨y=false)∧(∀ {p:Prop} [inst:Decidable p],(decide p=true)=p)∧(∀ {p:Prop} {x:Decidable p},decide p=false↔¬ p)∧(∀ {a b:Int},¬ a<b↔b≤a)∧(∀ {a b:Int},¬ a≤b↔b<a)∧(∀ {α:Type} [LE α] {x y:α},x ≥ y↔y≤x)∧(∀ {α:Type} [LT α] {x y:α},x>y↔y<x)∧(∀ {α:Type} {a:α} {l:List α},(a :: l).length=l.length+1)∧(∀ {α:Type},([]:List α).length=0)∧(∀ {α:Type} {l m:List α},(l++m).length=l.length+m.length)∧(∀ (n:Nat),0+n=n)∧(∀ {α:Type} (l:List α),[]++l=l)∧(∀ {α:Type} [BEq α] [LawfulBEq α] {a b:α},(a==b)=true↔a=b)∧(∀ {α:Type} [BEq α] [LawfulBEq α] {a b:α},(a==b)=false↔a≠b)∧(∀ {α:Type} [BEq α] [LawfulBEq α] {a b:α},(a != b)=true↔a≠b)∧(∀ {α:Type} [BEq α] [LawfulBEq α] {a b:α},(a != b)=false↔a=b)∧(∀ {α:Type} (a b:α),(a≠b)=¬ (a=b))∧(∀ k:Nat,((k:Int) - 1).toNat=k - 1)∧(∀ k:Nat,((k:Int)+1).toNat=k+1)∧(0:Int).toNat=0∧(1:Int).toNat=1 :=
 ⟨@Int.toNat_natCast,@Bool.not_eq_true',@Bool.not_eq_false',@Bool.and_eq_true,@Bool.and_eq_false_iff,@decide_eq_true_eq,@decide_eq_false_iff_not,@Int.not_lt,@Int.not_le,@ge_iff_le,@gt_iff_lt,@List.length_cons,@List.length_nil,@List.length_append,@Nat.zero_add,@List.nil_append,@beq_iff_eq,@beq_eq_false_iff_ne,@bne_iff_ne,@bne_eq_false_iff_eq,@ne_eq,@wA,@aDS,@aKT,@aKO⟩
theorem sQ:(∀ (w:World) (o:Obj),(w.alloc o).heap.size=w.heap.size+1)∧(∀ w:World,w.drew.heap.size=w.heap.size):=⟨World.size_alloc,World.size_drew⟩
theorem szy:(∀ (w:World) (o:Obj),(w.alloc o).heap.size=w.heap.size+1)∧(∀ (w:World) (a:Addr) (v:Value),(w.setCell a v).heap.size=w.heap.size):=⟨World.size_alloc,World.size_setCell⟩
end Go.Proofs.YtlabadaccldkaaaGreat
