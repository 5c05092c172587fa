/- Ce: lemmas. No conditions. -/
import Derived.Test.YtlhaoiaieiladaaGreatCd
import Derived.Orders
import Derived.OrdersHeld
import Derived.Outline
import Derived.Deep.RegionHeld3
namespace Go.Proofs.YtlhaoiaieiladaaGreat
open Go.ChangeShapes Go.WideShapes Go.ChangeAt Go.RowKit Go.Deep
set_option linter.unusedVariables false
set_option linter.unusedSimpArgs false
section
variable {P:Program} {Cs:List Con} {X:Cx} {g0 γ γ':Gh} {β β':Bt} {e env:List SV} {ops:Array Oper} {clo:Array Nat} {wrt:List (Nat × Nat)} {N:Nat} {tm0:Tm} {es0 fx:Es} {n0:Nat} {pre rs x y:List Rc} {r:Rc} {S:Nat->Bool} {a:Act} {w w':World} {σ:St} {wr:Bool} {D:List Nat}
theorem aV4.op {i:Nat} {o:Oper} (hi:ops[i]?=some o) {K:Act->World->Prop} {Q:Exit->Act->World->Prop} (h:aV4 P ops o a w fun v w'=>K (a.put o.dst v) w'):wpOp P ops Q i K a w:=by
 unfold wpOp
 simp only[hi]
 rcases h with ⟨h1,h2⟩|⟨h1,h2⟩
 ·rw[h1];exact h2
 ·rw[h1]
  simp only[if_true]
  exact .inl (h2.upon fun v w' h=>h)
theorem bCX:(l:List Rc)->(∃ r∈l,S r.i=false)->∃ x r y,l=x++r :: y/\S r.i=false/\∀ q∈x,S q.i=true
 | [],⟨r,h,_⟩=>by simp at h
 | q :: l,⟨r,h1,h2⟩=>by
  cases hq:S q.i
  ·exact ⟨[],q,l,rfl,hq,fun _ h=>by simp at h⟩
  ·have:∃ r∈l,S r.i=false:=by
    rw[List.mem_cons] at h1
    rcases h1 with rfl|h1
    ·rw[hq] at h2;cases h2
    ·exact ⟨r,h1,h2⟩
   obtain ⟨x,r',y,e1,e2,e3⟩:=bCX l this
   refine ⟨q :: x,r',y,by rw[e1];rfl,e2,fun z hz=>?_⟩
   rw[List.mem_cons] at hz
   rcases hz with rfl|hz
   ·exact hq
   ·exact e3 z hz
theorem aPF {clo:Array Nat}:(l:List Edge)->(s:Nat)->∀ j,((l.foldl (fun s e=>if Region.binds .any e then s ||| (2 ^ e.on ||| clo.getD e.on 0) else s) s).testBit j=true↔s.testBit j=true\/∃ e∈l,Region.binds .any e=true/\(j=e.on\/(clo.getD e.on 0).testBit j=true))
 | [],s,j=>by simp
 | e :: l,s,j=>by
  rw[List.foldl_cons,aPF l]
  cases hb:Region.binds .any e
  ·simp only[Bool.false_eq_true,if_false,List.mem_cons,exists_eq_or_imp,hb,false_and,false_or]
  ·simp only[if_true,List.mem_cons,exists_eq_or_imp,hb,true_and,Nat.testBit_or,Bool.or_eq_true,Nat.testBit_two_pow,decide_eq_true_eq]
   constructor
   ·rintro ((h|h|h)|h)
    ·exact .inl h
    ·exact .inr (.inl (.inl h.symm))
    ·exact .inr (.inl (.inr h))
    ·exact .inr (.inr h)
   ·rintro (h|(h|h)|h)
    ·exact .inl (.inl h)
    ·exact .inl (.inr (.inl h.symm))
    ·exact .inl (.inr (.inr h))
    ·exact .inr h
theorem cAO (h:OrdOK P X e ops clo wrt N tm0 es0 fx n0 rs) (hcov:∀ i,i<ops.size->∃ r∈rs,r.i=i) (hah:∀ i o,ops[i]?=some o->clo.getD i 0=bGY clo o) {Q:Exit->Act->World->Prop}
  (hQ:∀ (S:Nat->Bool) γ β a w,(∀ r∈rs,S r.i=true)->Dyn X g0 e clo N tm0 es0 fx n0 rs S γ β a w->Q .normal a w) :
  ∀ (fuel:Nat) (listed:Array Bool) (γ:Gh) (β:Bt) (a:Act) (w:World),listed.size=ops.size->(rs.filter fun r=>!listed.getD r.i false).length<=fuel->Dyn X g0 e clo N tm0 es0 fx n0 rs (fun j=>listed.getD j false) γ β a w->wpAny P .any ops Q fuel listed a w:=by
 have lt:∀ r∈rs,r.i<ops.size:=fun r hr=>by
  obtain ⟨x,y,he⟩:=List.append_of_mem hr
  exact (Array.getElem?_eq_some_iff.1 (h.at' he).1).1
 have all:∀ (listed:Array Bool),listed.size=ops.size->Region.ready .any ops listed=[]->∀ r∈rs,listed.getD r.i false=true:=fun listed hsz hr=>by
  refine Classical.byContradiction fun hno=>?_
  have:∃ r∈rs,(fun j=>listed.getD j false) r.i=false:=by
   refine Classical.byContradiction fun h1=>hno fun r hr=>?_
   cases hb:listed.getD r.i false
   ·exact absurd ⟨r,hr,hb⟩ h1
   ·rfl
  obtain ⟨x,r,y,e1,e2,e3⟩:=bCX (S:=fun j=>listed.getD j false) rs this
  have hr0:r∈rs:=by rw[e1];simp
  have hi:=(h.at' e1).1
  have:r.i∈Region.ready .any ops listed:=by
   rw[mem_ready]
   have hl:=lt r hr0
   refine ⟨?_,r.o,hi,fun ed he hb=>?_⟩
   ·simp only[Array.getD_eq_getD_getElem?] at e2 ⊢
    rw[Array.getElem?_eq_getElem (by omega)] at e2 ⊢
    simpa using e2
   ·have hbit:(clo.getD r.i 0).testBit ed.on=true:=by
     rw[hah r.i r.o hi]
     exact (aPF r.o.after.toList 0 ed.on).2 (.inr ⟨ed,by simpa using he,hb,.inl rfl⟩)
    obtain ⟨q,q1,q2⟩:=h.lin x r y e1 ed.on hbit
    rw[<- q2]
    exact e3 q q1
  rw[hr] at this
  cases this
 intro fuel
 induction fuel with
 | zero =>
  intro listed γ β a w hsz hf hd
  have hall:∀ r∈rs,listed.getD r.i false=true:=fun r hr=>by
   have h0:(rs.filter fun r=>!listed.getD r.i false)=[]:=List.eq_nil_of_length_eq_zero (by omega)
   rw[List.filter_eq_nil_iff] at h0
   have:=h0 r hr
   simpa using this
  refine ⟨?_,hQ _ _ _ _ _ hall hd⟩
  rw[List.eq_nil_iff_forall_not_mem]
  intro i hi
  rw[mem_ready] at hi
  obtain ⟨h1,o,h2,_⟩:=hi
  have hl:=(Array.getElem?_eq_some_iff.1 h2).1
  obtain ⟨r,hr,rfl⟩:=hcov i hl
  have:=hall r hr
  simp only[Array.getD_eq_getD_getElem?] at h1 this
  rw[Array.getElem?_eq_getElem (by omega)] at h1 this
  simp only[Option.getD_some] at h1 this
  rw[h1] at this;cases this
 | succ fuel ih =>
  intro listed γ β a w hsz hf hd
  refine ⟨fun hr=>hQ _ _ _ _ _ (all listed hsz hr) hd,fun i hi=>?_⟩
  obtain ⟨h1,o,h2,h3⟩:=mem_ready.1 hi
  have hl:=(Array.getElem?_eq_some_iff.1 h2).1
  obtain ⟨r,hr,rfl⟩:=hcov i hl
  obtain ⟨x,y,hs⟩:=List.append_of_mem hr
  have ho:=(h.at' hs).1
  rw[h2] at ho
  simp only[fL] at ho
  subst ho
  have hS:(fun j=>listed.getD j false) r.i=false:=by
   simp only[Array.getD_eq_getD_getElem?] at h1 ⊢
   rw[Array.getElem?_eq_getElem (by omega)] at h1 ⊢
   simpa using h1
  refine aV4.op h2 ((hd.step h hs hS fun j hj=>?_).mono fun v w' ⟨γ',β',hd'⟩=>?_)
  ·rw[hah r.i r.o h2] at hj
   rcases (aPF r.o.after.toList 0 j).1 hj with h4|⟨ed,e1,e2,e3⟩
   ·simp at h4
   ·have hon:=h3 ed (by simpa using e1) e2
    rcases e3 with rfl|e3
    ·exact hon
    ·have hlt:ed.on<ops.size:=by
      rcases Nat.lt_or_ge ed.on listed.size with h'|h'
      ·omega
      ·simp[Array.getElem?_eq_none h'] at hon
     obtain ⟨q,hq,hqe⟩:=hcov ed.on hlt
     exact hd.closed q hq (by rw[hqe];exact hon) j (by rw[hqe];exact e3)
  ·have hset:(fun j=>(listed.setIfInBounds r.i true).getD j false)=yH (fun j=>listed.getD j false) r.i:=by
    funext j
    simp only[yH,Array.getD_eq_getD_getElem?]
    by_cases hj:j=r.i
    ·subst hj
     rw[Array.getElem?_setIfInBounds_self]
     simp[hsz,hl]
    ·rw[Array.getElem?_setIfInBounds_ne (fun h=>hj h.symm)]
     simp[hj]
   refine ih _ γ' β' _ _ (by simpa using hsz) ?_ (by rw[hset];exact hd')
   have hcnt:(rs.filter fun q=>!(listed.setIfInBounds r.i true).getD q.i false).length<(rs.filter fun q=>!listed.getD q.i false).length:=by
    have e0:∀ q:Rc,(listed.setIfInBounds r.i true).getD q.i false=yH (fun j=>listed.getD j false) r.i q.i:=fun q=>congrFun hset q.i
    simp only[e0]
    rw[hs]
    simp only[List.filter_append,List.filter_cons,List.length_append]
    have hr1:(!yH (fun j=>listed.getD j false) r.i r.i)=false:=by simp[yH]
    have hr2:(!listed.getD r.i false)=true:=by simpa using hS
    rw[hr1,hr2]
    simp only[Bool.false_eq_true,if_false,if_true,List.length_cons]
    have mono:∀ l:List Rc,(l.filter fun q=>!yH (fun j=>listed.getD j false) r.i q.i).length<=(l.filter fun q=>!listed.getD q.i false).length:=fun l=>by
     rw[<- List.countP_eq_length_filter,<- List.countP_eq_length_filter]
     refine List.countP_mono_left fun q _ hq=>?_
     simp only[yH,Bool.not_or,Bool.and_eq_true] at hq
     exact hq.1
    have m1:=mono x
    have m2:=mono y
    omega
   omega
theorem bJ0 {clo:Array Nat}:(n:Nat)->(done:Nat)->(l:List (Nat × Oper))->∀ p∈aVT clo n done l,p∈l
 | 0,done,l,p,hp=>hp
 | n+1,done,l,p,hp=>by
  have pick:∀ (c:Nat) (l:List (Nat × Oper)) (q:Nat × Oper),aHL done clo c l=some q->q∈l:=by
   intro c l
   induction l with
   | nil=>intro q h;simp[aHL] at h
   | cons z l ih =>
    intro q h
    simp only[aHL] at h
    split at h
    ·simp only[fL] at h;subst h;simp
    ·exact List.mem_cons_of_mem _ (ih q h)
  simp only[aVT] at hp
  split at hp
  ·rename_i q hq
   rw[List.mem_cons] at hp
   rcases hp with rfl|hp
   ·simp only[Option.or_eq_some_iff] at hq
    rcases hq with h|⟨_,h|⟨_,h|⟨_,h|⟨_,h⟩⟩⟩⟩ <;> exact pick _ _ _ h
   ·exact (List.mem_filter.1 (bJ0 n _ _ p hp)).1
  ·exact hp
theorem bP4:(l:List Oper)->(l.filterMap (·.dst)).Nodup->∀ {i j:Nat} {o o':Oper} {t:Nat},l[i]?=some o->l[j]?=some o'->o.dst=some t->o'.dst=some t->i=j
 | [],_,i,j,o,o',t,h1,_,_,_=>by simp at h1
 | z :: l,hn,i,j,o,o',t,h1,h2,h3,h4=>by
  have mem:∀ {k:Nat} {u:Oper},l[k]?=some u->u.dst=some t->t∈l.filterMap (·.dst):=fun {k u} hk hu=>by
   rw[List.mem_filterMap]
   exact ⟨u,List.mem_of_getElem? hk,hu⟩
  have hl:(l.filterMap (·.dst)).Nodup:=by
   cases hz:z.dst with
   | none=>simpa [List.filterMap_cons,hz] using hn
   | some t=>rw[List.filterMap_cons,hz] at hn;exact (List.nodup_cons.1 hn).2
  have hzt:z.dst=some t->t ∉ l.filterMap (·.dst):=fun hz=>by
   rw[List.filterMap_cons,hz] at hn;exact (List.nodup_cons.1 hn).1
  cases i with
  | zero =>
   simp only[List.getElem?_cons_zero,fL] at h1
   subst h1
   cases j with
   | zero=>rfl
   | succ j=>exact absurd (mem (by simpa using h2) h4) (hzt h3)
  | succ i =>
   cases j with
   | zero =>
    simp only[List.getElem?_cons_zero,fL] at h2
    subst h2
    exact absurd (mem (by simpa using h1) h3) (hzt h4)
   | succ j=>exact congrArg Nat.succ (bP4 l hl (i:=i) (j:=j) (by simpa using h1) (by simpa using h2) h3 h4)
end
section
variable {P:Program} {Cs:List Con} {X:Cx} {g0 γ γ':Gh} {β β':Bt} {e env:List SV} {ops:Array Oper} {a:Act} {w w':World} {σ σF:St} {wr:Bool} {D:List Nat} {R:RT} {N0:Nat}
theorem bQ2 (hst:StOK X g0 γ β e w σ a) (hp:RTPath Cs R env σF e) (hn:env.length=σ.nx) (h:bF0 N0 σ R=true) (h0:∀ r v,g0 r=some v->r<N0):∃ γ' β',StOK X g0 γ' β' e w σF a:=by
 unfold bF0 at h
 split at h
 ·simp only[Bool.and_eq_true,List.all_eq_true,List.mem_range,beq_iff_eq] at h
  obtain ⟨⟨⟨⟨h1,h2⟩,h3⟩,h4⟩,h5⟩:=h
  cases hp with
  | cD1 p a k env σ e q1 q2 q3 q4 =>
   cases q4
   obtain ⟨β1,hs⟩:=hst.sealed
   have hlen:(env++[(⟨Prim.not.oty,Prim.not.fn (((Ar.cb true).val env).as Prim.not.ity)⟩:SV)]).length=env.length+1:=by simp
   have hH:=StOK.head (n:=env.length) (t0:=.bool) (q:=.Z env.length) (σh:=σF) (l:=aH6 σF.tm σ.tm σF.es (qU σ.es)) hs (by simp) (by rw[hn];exact h1) (by rw[beq_iff_eq];exact h2) (by rw[hn];exact h3)
    (fun r v hr=>h4 r (h0 r v hr)) (fun p hp=>by
     have h6:=h5 p hp
     rw[List.any_eq_true] at h6
     obtain ⟨g1,z,z1,z2⟩:=h6
     rw[Bool.and_eq_true,beq_iff_eq] at z2
     have e1:=Ar.beq_eq z2.1
     have hz:=(hst.facts z z1).2
     rw[<- hn] at g1
     refine ⟨g1,?_⟩
     rw[List.take_left]
     rw[e1,z2.2] at hz
     rw[<- hz,Ar.val_ext _ g1])
   obtain ⟨γ',β',hF⟩:=hH
   refine ⟨γ',β',?_⟩
   have e1:(env++[(⟨Prim.not.oty,Prim.not.fn (((Ar.cb true).val env).as Prim.not.ity)⟩:SV)]).take env.length=env:=List.take_left
   have e2:((Ar.Z env.length).val (env++[(⟨Prim.not.oty,Prim.not.fn (((Ar.cb true).val env).as Prim.not.ity)⟩:SV)]))=⟨Prim.not.oty,Prim.not.fn (((Ar.cb true).val env).as Prim.not.ity)⟩:=by
    show aOA _ _=_
    unfold aOA
    rw[List.getElem?_append_right (Nat.le_refl _)];simp
   rw[e1,e2] at hF
   generalize (Prim.not.fn (((Ar.cb true).val env).as Prim.not.ity))=z at hF ⊢
   change Bool at z
   have hF':StOK X g0 γ' β' (env++[⟨Ty.bool,SV.as Ty.bool ⟨Ty.bool,z⟩⟩]) w σF a:=hF
   rw[SV.as_self] at hF'
   exact hF'
 ·cases h
theorem bT3 {done i j:Nat}:(done ||| 2 ^ i).testBit j=(done.testBit j || decide (i=j)):=by
 rw[Nat.testBit_or,Nat.testBit_two_pow]
theorem bGI:(l:List Oper)->(n j:Nat)->(o:Oper)->l[j]?=some o->(n+j,o)∈uF n l
 | [],n,j,o,h=>by simp at h
 | z :: l,n,j,o,h=>by
  cases j with
  | zero=>simp at h;subst h;simp[uF]
  | succ j =>
   have:=bGI l (n+1) j o (by simpa using h)
   rw[show n+(j+1)=n+1+j by omega]
   exact List.mem_cons_of_mem _ this
theorem bKI {done:Nat} {listed:Array Bool} (hsz:listed.size=ops.size) (hl:∀ j,j<ops.size->listed.getD j false=done.testBit j) (hdn:∀ j,done.testBit j=true->j<ops.size) {p:Nat × Oper} (hp:p∈(uF 0 ops.toList).filter (aCJ done)) :
  ops[p.1]?=some p.2/\p.1∈Region.ready .any ops listed:=by
 obtain ⟨hp1,hp2⟩:=List.mem_filter.1 hp
 obtain ⟨_,hp3⟩:=aRI hp1
 have hpo:ops[p.1]?=some p.2:=by simpa using hp3
 have hlt:=(Array.getElem?_eq_some_iff.1 hpo).1
 unfold aCJ at hp2
 simp only[Bool.and_eq_true,Bool.not_eq_true',List.all_eq_true,Bool.or_eq_true] at hp2
 refine ⟨hpo,?_⟩
 rw[mem_ready]
 refine ⟨?_,p.2,hpo,fun ed he hb=>?_⟩
 ·have h5:=hl p.1 hlt
  rw[hp2.1] at h5
  simp only[Array.getD_eq_getD_getElem?] at h5 ⊢
  rw[Array.getElem?_eq_getElem (by omega)] at h5 ⊢
  simpa using h5
 ·rcases hp2.2 ed (by simpa using he) with h6|h6
  ·rw[hb] at h6;cases h6
  ·rw[hl _ (hdn _ h6)];exact h6
theorem bQJ {Q:Exit->Act->World->Prop}:(n:Nat)->(listed:Array Bool)->(a:Act)->(w:World)->wpAny P .any ops Q n listed a w->wpAnyH P .any ops Q (fun _=>True) n listed a w
 | 0,_,_,_,h=>h
 | n+1,_,_,_,h=>⟨h.1,fun i hi=>wpOp_mono (fun a' w' h'=>⟨trivial,bQJ n _ a' w' h'⟩) (h.2 i hi)⟩
theorem cCK (hC:∀ (c:Nat) (C:Con),Cs[c]?=some C->Con.Holds P C) (hgd:∀ (i:Nat) (o:Oper),ops[i]?=some o->o.guard=none) (hsel:Region.noSelect ops=true) (h0:∀ r v,g0 r=some v->r<N0) :
  ∀ (n:Nat) (done:Nat) (listed:Array Bool) (σ:St) (R:RT) (env:List SV) (γ:Gh) (β:Bt) (a:Act) (w:World),listed.size=ops.size->(∀ j,j<ops.size->listed.getD j false=done.testBit j)->(∀ j,done.testBit j=true->j<ops.size) ->
   bSE P Cs wr D ops N0 n done σ R=true->RTPath Cs R env σF e->env.length=σ.nx->StOK X g0 γ β e w σ a->wpAny P .any ops (aMM X g0 e σF) n listed a w:=by
 have rdy:∀ (done:Nat) (listed:Array Bool),listed.size=ops.size->(∀ j,j<ops.size->listed.getD j false=done.testBit j)->∀ i,i∈Region.ready .any ops listed->∃ o,ops[i]?=some o/\(i,o)∈(uF 0 ops.toList).filter (aCJ done):=fun done listed hsz hl i hi=>by
  obtain ⟨h1,o,h2,h3⟩:=mem_ready.1 hi
  have hlt:=(Array.getElem?_eq_some_iff.1 h2).1
  refine ⟨o,h2,List.mem_filter.2 ⟨?_,?_⟩⟩
  ·have:=bGI ops.toList 0 i o (by simpa using h2)
   simpa using this
  ·unfold aCJ
   simp only[Bool.and_eq_true,Bool.not_eq_true',List.all_eq_true,Bool.or_eq_true]
   refine ⟨?_,fun ed he=>?_⟩
   ·rw[<- hl i hlt]
    simp only[Array.getD_eq_getD_getElem?] at h1 ⊢
    rw[Array.getElem?_eq_getElem (by omega)] at h1 ⊢
    simpa using h1
   ·cases hb:Region.binds .any ed
    ·exact .inl rfl
    ·right
     have h4:=h3 ed (by simpa using he) hb
     have hlt2:ed.on<ops.size:=by
      rcases Nat.lt_or_ge ed.on listed.size with h'|h'
      ·omega
      ·simp[Array.getElem?_eq_none h'] at h4
     rw[<- hl _ hlt2];exact h4
 intro n
 induction n with
 | zero =>
  intro done listed σ R env γ β a w hsz hl hdn h hp hn hst
  simp only[bSE,Bool.and_eq_true,List.isEmpty_iff] at h
  obtain ⟨γ',β',hF⟩:=bQ2 hst hp hn h.2 h0
  refine ⟨?_,rfl,γ',β',hF⟩
  rw[List.eq_nil_iff_forall_not_mem]
  intro i hi
  obtain ⟨o,_,hm⟩:=rdy done listed hsz hl i hi
  rw[h.1] at hm;cases hm
 | succ n ih =>
  intro done listed σ R env γ β a w hsz hl hdn h hp hn hst
  have nxt:∀ (i:Nat) (o:Oper),ops[i]?=some o->(∀ j,j<ops.size->(listed.setIfInBounds i true).getD j false=(done ||| 2 ^ i).testBit j)/\∀ j,(done ||| 2 ^ i).testBit j=true->j<ops.size:=fun i o ho=>by
   have hi:=(Array.getElem?_eq_some_iff.1 ho).1
   refine ⟨fun j hj=>?_,fun j hj=>?_⟩
   ·rw[bT3,<- hl j hj]
    simp only[Array.getD_eq_getD_getElem?]
    by_cases hij:i=j
    ·subst hij
     rw[Array.getElem?_setIfInBounds_self]
     simp[hsz,hj]
    ·rw[Array.getElem?_setIfInBounds_ne hij]
     simp[hij]
   ·rw[bT3,Bool.or_eq_true] at hj
    rcases hj with hj|hj
    ·exact hdn j hj
    ·have:=of_decide_eq_true hj
     subst this
     exact hi
  simp only[bSE] at h
  split at h
  ·rename_i p hf
   have hpm:=List.mem_of_find?_eq_some hf
   have hpb:=List.find?_some hf
   obtain ⟨hpo,hrd⟩:=bKI hsz hl hdn hpm
   unfold bSW at hpb
   rw[Bool.and_eq_true] at hpb
   obtain ⟨hm1,hm2⟩:=hpb
   rw[List.all_eq_true] at hm2
   split at h
   ·rename_i ls σ' d' hx
    split at h
    ·rename_i R' hR
     have e1:=aPQ ls hR
     subst e1
     obtain ⟨q1,env',q2,q3,_⟩:=aAO ls hp
     rw[hn] at q1
     obtain ⟨g1,g2⟩:=aTO hC hst ⟨rfl,rfl⟩ hx q1
     split at hm1
     case h_2=>cases hm1
     rename_i x hop
     have hrun:∀ w,(execOp a.eval p.2).run P w = .ok (.value (a.eval x)) w:=fun w=>by simp[execOp,hop]
     have hst':∃ γ' β',StOK X g0 γ' β' e w σ' (a.put p.2.dst (a.eval x)):=by
      rcases g2 with ⟨v,w1,e1,e2⟩|⟨w1,e1,_⟩|⟨f,args,e1,_⟩
      ·rw[hrun] at e1
       cases e1
       exact e2
      ·rw[hrun] at e1;cases e1
      ·rw[hrun] at e1;cases e1
     obtain ⟨γ',β',h'⟩:=hst'
     obtain ⟨n1,n2⟩:=nxt p.1 p.2 hpo
     have hih:=ih _ _ σ' _ env' γ' β' _ w (by simpa using hsz) n1 n2 h q2 (by rw[q3,aMS hx,hn]) h'
     refine wpAny_of_held (n+1) listed a w (wpAnyH_first (S:=fun _=>True) hpo (Region.noSelect_spec hsel) (fun c a w hq=>by cases hq.1) n listed a w (fun j oj hj hji _ hno=>?_) hrd
      (.inl ⟨by simp[Region.wanted,hgd _ _ hpo],fun w _=>hrun w⟩) trivial (bQJ n _ _ w hih))
     have hmem:(j,oj)∈uF 0 ops.toList:=by
      have:=bGI ops.toList 0 j oj (by simpa using hj)
      simpa using this
     have h7:=hm2 _ hmem
     rw[Bool.or_eq_true,Bool.or_eq_true] at h7
     rcases h7 with (h7|h7)|h7
     ·exact absurd (by simpa using h7) hji
     ·rw[List.any_eq_true] at h7
      obtain ⟨ed,k1,k2⟩:=h7
      rw[Bool.and_eq_true,beq_iff_eq] at k2
      exact absurd k2.2 (hno ed (by simpa using k1) k2.1)
     ·exact h7
    ·cases h
   ·cases h
  ·simp only[Bool.and_eq_true,Bool.or_eq_true,List.all_eq_true] at h
   obtain ⟨h1,h2⟩:=h
   refine ⟨fun hr=>?_,fun i hi=>?_⟩
   ·have hemp:(!((uF 0 ops.toList).filter (aCJ done)).isEmpty)=true->False:=fun hne=>by
     rw[Bool.not_eq_true',List.isEmpty_eq_false_iff] at hne
     obtain ⟨p,hp⟩:=List.exists_mem_of_ne_nil _ hne
     have:=(bKI hsz hl hdn hp).2
     rw[hr] at this;cases this
    obtain ⟨γ',β',hF⟩:=bQ2 hst hp hn (h1.resolve_left hemp) h0
    exact ⟨rfl,γ',β',hF⟩
   ·obtain ⟨o,ho,hm⟩:=rdy done listed hsz hl i hi
    have hs:=h2 (i,o) hm
    split at hs
    ·rename_i ls σ' d' hx
     split at hs
     ·rename_i R' hR
      have e1:=aPQ ls hR
      subst e1
      obtain ⟨q1,env',q2,q3,_⟩:=aAO ls hp
      rw[hn] at q1
      obtain ⟨g1,g2⟩:=aTO hC hst ⟨rfl,rfl⟩ hx q1
      unfold wpOp
      simp only[ho]
      rw[if_pos (by simp[Region.wanted,hgd i o ho])]
      obtain ⟨n1,n2⟩:=nxt i o ho
      refine .inl (g2.upon fun v w' ⟨γ',β',h'⟩=>?_)
      exact ih _ _ _ _ env' γ' β' _ _ (by simpa using hsz) n1 n2 hs q2 (by rw[q3,aMS hx,hn]) h'
     ·cases hs
    ·cases hs
theorem bTA (hm:P.follows .mixedOrders=true) (hC:∀ (c:Nat) (C:Con),Cs[c]?=some C->Con.Holds P C) {id:Nat} (h:aQ1 P Cs wr D ops σ = .ok R) (hp:RTPath Cs R env σF e) (hn:env.length=σ.nx) (hst:StOK X g0 γ β e w σ a):(Code.region id ops true).wp P (aMM X g0 e σF) a w:=by
 unfold aQ1 at h
 split at h
 ·rename_i hg
  rw[Bool.and_eq_true] at hg
  obtain ⟨hg,hsel⟩:=hg
  split at h
  ·split at h
   ·rename_i rt hrt hb
    simp only[Except.ok.injEq] at h
    subst h
    have hgd:∀ (i:Nat) (o:Oper),ops[i]?=some o->o.guard=none:=fun i o ho=>by
     rw[List.all_eq_true] at hg
     have:=hg o (by simpa using Array.mem_of_getElem? ho)
     simpa using this
    have h0:∀ r v,g0 r=some v->r<σ.nr:=fun r v hr=>by
     rcases Nat.lt_or_ge r σ.nr with h'|h'
     ·exact h'
     ·have h1:=hst.base r v hr
      rw[hst.fresh r h'] at h1;cases h1
    have hlat:Later X γ (Os γ σ.es) e w γ (Os γ σ.es) e { w with drawn:=w.drawn+1 }:=⟨fun _ _ h=>h,⟨[],by simp⟩,Nat.le_refl _,fun b _ h _=>⟨rfl,h⟩⟩
    have hst':StOK X g0 γ β e { w with drawn:=w.drawn+1 } σ a :=
     ⟨⟨hst.mem.nd,hst.mem.at',fun b hb=>(hlat.gd (hst.mem.good b hb)).1,fun p hp=>jU.later hlat rfl (fun _ _=>rfl) (fun _ _=>rfl) (hst.mem.ent p hp)⟩,hst.keys,
      ⟨hst.frame.os,hst.frame.tape,hst.frame.output,hst.frame.size,hst.frame.block⟩,hst.gh,hst.len,fun t=>bV.later hlat (hst.vals t),hst.facts,hst.fresh,hst.nodef,hst.base⟩
    refine wp_region_any hm (cCK hC hgd hsel h0 ops.size 0 _ σ _ env γ β a _ (by simp) (fun j hj=>?_) (fun j hj=>?_) hb hp hn hst')
    ·rw[Array.getD_eq_getD_getElem?,Array.getElem?_replicate,if_pos hj];simp
    ·simp at hj
   ·cases h
  ·cases h
 ·cases h
theorem bMT {er:Err} {x:RT} (h:bUB P Cs wr D ops σ er = .ok x):aQ1 P Cs wr D ops σ = .ok x:=by
 unfold bUB at h
 split at h
 ·exact h
 ·cases h
end
section
variable {P:Program} {Cs:List Con} {X:Cx} {g0 γ γ':Gh} {β β':Bt} {e env:List SV} {ops:Array Oper} {clo:Array Nat} {wrt:List (Nat × Nat)} {N:Nat} {tm0:Tm} {es0:Es} {n0:Nat} {pre rs x y:List Rc} {r:Rc} {S:Nat->Bool} {a:Act} {w w':World} {σ:St} {wr:Bool} {D:List Nat} {C:Con}
theorem bKD {l:List Oper} {t:Nat}:(((l.zipIdx.filterMap fun p=>p.1.dst.map fun t=>(t,p.2)).find? fun p=>p.1==t)=none->∀ (j:Nat) (o:Oper),l[j]?=some o->o.dst≠some t) /\
  ∀ p,((l.zipIdx.filterMap fun p=>p.1.dst.map fun t=>(t,p.2)).find? fun p=>p.1==t)=some p->∃ o,l[p.2]?=some o/\o.dst=some t:=by
 refine ⟨fun h j o hj hd=>?_,fun p h=>?_⟩
 ·rw[List.find?_eq_none] at h
  have:(t,j)∈l.zipIdx.filterMap fun p=>p.1.dst.map fun t=>(t,p.2):=by
   rw[List.mem_filterMap]
   exact ⟨(o,j),List.mem_zipIdx_iff_getElem?.2 hj,by simp[hd]⟩
  exact h _ this (by simp)
 ·have h1:=List.mem_of_find?_eq_some h
  have h2:=List.find?_some h
  simp only[beq_iff_eq] at h2
  rw[List.mem_filterMap] at h1
  obtain ⟨⟨o,j⟩,h3,h4⟩:=h1
  simp only[Option.map_eq_some_iff] at h4
  obtain ⟨t',h5,rfl⟩:=h4
  simp only at h2
  subst h2
  exact ⟨o,List.mem_zipIdx_iff_getElem?.1 h3,h5⟩
theorem bKK (ops:Array Oper):(Region.before ops).size=ops.size:=by
 have key:∀ (f:Array Nat->Oper->Nat) (l:List Oper) (acc:Array Nat),(l.foldl (fun a o=>a.push (f a o)) acc).size=acc.size+l.length:=by
  intro f l
  induction l with
  | nil=>intro acc;rfl
  | cons o l ih=>intro acc;rw[List.foldl_cons,ih,Array.size_push,List.length_cons];omega
 unfold Region.before
 rw[<- Array.foldl_toList,key]
 simp
theorem bT6 (hm:P.follows .mixedOrders=true) (hC:∀ (c:Nat) (C:Con),Cs[c]?=some C->Con.Holds P C) {σF:St} {rt:RT} {id:Nat} (hk:bGS ops (Region.before ops) (aEA ops true)=true)
  {fx:Es} (hfs:∀ p∈fx,p∈σ.es) (h:qX P Cs wr D ops (aEA ops true) σ (bBG ops true fx) = .ok rt) (hp:RTPath Cs rt env σF e) (hn:env.length=σ.nx) (hst:StOK X g0 γ β e w σ a):(Code.region id ops true).wp P (aMM X g0 e σF) a w:=by
 simp only[bGS,Bool.and_eq_true,decide_eq_true_eq,List.all_eq_true,beq_iff_eq,List.mem_range,List.contains_iff_mem] at hk
 obtain ⟨⟨⟨⟨⟨k1,k2⟩,k3⟩,k4⟩,k5⟩,k6⟩:=hk
 have hmem:∀ p∈aEA ops true,ops[p.1]?=some p.2:=fun p hp=>by
  simp only[aEA,if_true] at hp
  obtain ⟨_,h2⟩:=aRI (bJ0 _ _ _ p hp)
  simpa using h2
 have hrel:RelD (Region.before ops) (ops.toList.zipIdx.filterMap fun p=>p.1.dst.map fun t=>(t,p.2)) σ.n σ.tm σ.es fx σ.nr [] σ (bBG ops true fx):=⟨rfl,rfl,rfl,rfl,rfl,fun r hr=>(by simp at hr),rfl,rfl,rfl,rfl,rfl,fun _=>hfs⟩
 obtain ⟨rs,q1,q2,q0,q3,q4,q5,q6⟩:=aR3 (X:=X) hC (aEA ops true) h hp hn hrel hst.facts hmem
 simp only[List.nil_append] at q3 q4 q5
 have hi:rs.map (·.i)=(aEA ops true).map (·.1):=by rw[<- q1];simp
 have hlen:rs.length=ops.size:=by rw[<- k2,<- q1];simp
 have hop:∀ r∈rs,ops[r.i]?=some r.o:=fun r hr=>hmem (r.i,r.o) (by rw[<- q1];exact List.mem_map.2 ⟨r,hr,rfl⟩)
 have hnd:(rs.map (·.i)).Nodup:=by rw[hi];exact k3
 have hcov:∀ i,i<ops.size->∃ r∈rs,r.i=i:=fun i hlt=>by
  have:=k4 i hlt
  rw[<- hi,List.mem_map] at this
  exact this
 have hord:OrdOK P X e ops (Region.before ops) (ops.toList.zipIdx.filterMap fun p=>p.1.dst.map fun t=>(t,p.2)) σ.n σ.tm σ.es fx σ.nr rs:=by
  refine ⟨q2,hnd,fun x r y hs j hj=>?_,fun r hr r' hr' t h1 h2=>?_,hfs,fun r hr=>by rw[bKK];exact (Array.getElem?_eq_some_iff.1 (hop r hr)).1,fun t hf r hr=>?_,fun t p hf=>?_⟩
  ·rcases bTT (aEA ops true) k5 (x:=x.map fun r=>(r.i,r.o)) (y:=y.map fun r=>(r.i,r.o)) (p:=(r.i,r.o)) (by rw[<- q1,hs];simp) j hj with h1|⟨q,h1,h2⟩
   ·simp at h1
   ·rw[List.mem_map] at h1
    obtain ⟨q',h3,rfl⟩:=h1
    exact ⟨q',h3,h2⟩
  ·have:=bP4 ops.toList (by simpa [bKU] using k1) (by simpa using hop r hr) (by simpa using hop r' hr') h1 h2
   exact aMV hnd hr hr' this
  ·exact bKD.1 hf r.i r.o (by simpa using hop r hr)
  ·obtain ⟨o,h1,h2⟩:=bKD.2 p hf
   have hlt:p.2<ops.size:=by
    have:=(List.getElem?_eq_some_iff.1 h1).1
    simpa using this
   obtain ⟨r,hr,he⟩:=hcov p.2 hlt
   refine ⟨r,hr,he,?_⟩
   have h3:=hop r hr
   rw[he] at h3
   have h4:ops[p.2]?=some o:=by simpa using h1
   rw[h3] at h4
   simp only[fL] at h4
   rw[h4];exact h2
 have hah:∀ i o,ops[i]?=some o->(Region.before ops).getD i 0=bGY (Region.before ops) o:=fun i o ho=>by
  have:(i,o)∈uF 0 ops.toList:=by
   have key:∀ (l:List Oper) (n j:Nat) (o:Oper),l[j]?=some o->(n+j,o)∈uF n l:=by
    intro l
    induction l with
    | nil=>intro n j o h;simp at h
    | cons z l ih =>
     intro n j o h
     cases j with
     | zero=>simp at h;subst h;simp[uF]
     | succ j =>
      have:=ih (n+1) j o (by simpa using h)
      rw[show n+(j+1)=n+1+j by omega]
      exact List.mem_cons_of_mem _ this
   have:=key ops.toList 0 i o (by simpa using ho)
   simpa using this
  exact k6 (i,o) this
 have hnone:∀ j,(Array.replicate ops.size false).getD j false=false:=fun j=>by
  rw[Array.getD_eq_getD_getElem?,Array.getElem?_replicate]
  split <;> rfl
 have hnr:σ.nr<=aEF σ.nr rs/\∀ r∈rs,σ.nr<=r.nr:=by
  obtain ⟨n1,n2⟩:=fX.nums rs q2
  simp only[List.nil_append] at n1 n2
  have e1:aEF σ.nr []=σ.nr:=rfl
  rw[e1] at n1 n2
  exact ⟨n1,fun r hr=>(n2 r hr).1⟩
 refine wp_region_any hm (cAO (g0:=g0) hord hcov hah (fun S γ' β' a' w' hall hd=>⟨rfl,?_⟩) ops.size _ γ β a _ (by simp) (by
  rw[List.filter_eq_self.2 (fun r _=>by rw[hnone];rfl)]
  omega) ?_)
 ·have hfl:rs.filter (fun r=>(Array.replicate ops.size false).getD r.i false)=[]:=List.filter_eq_nil_iff.2 fun r _=>by rw[hnone];simp
  have ht:aAG σ.es (fun j=>(Array.replicate ops.size false).getD j false) rs=σ.es:=by unfold aAG;rw[hfl];rfl
  have htm:tmS σ.n σ.tm (fun j=>(Array.replicate ops.size false).getD j false) rs=σ.tm:=by unfold tmS;rw[hfl];rfl
  have hlat:Later X γ (Os γ σ.es) e w γ (Os γ σ.es) e { w with drawn:=w.drawn+1 }:=⟨fun _ _ h=>h,⟨[],by simp⟩,Nat.le_refl _,fun b _ h _=>⟨rfl,h⟩⟩
  refine ⟨fun r hr h=>(by rw[hnone] at h;cases h),?_,by rw[ht];exact hst.keys,⟨hst.frame.os,hst.frame.tape,hst.frame.output,hst.frame.size,hst.frame.block⟩,hst.gh,hst.len,fun t=>?_,fun r hr _ q h1 h2=>hst.fresh q (by have:=hnr.2 r hr;omega),fun q hq=>hst.fresh q (by have:=hnr.1;omega),hst.nodef,hst.base⟩
  ·rw[ht]
   exact ⟨hst.mem.nd,hst.mem.at',fun b hb=>(hlat.gd (hst.mem.good b hb)).1,fun p hp=>jU.later hlat rfl (fun _ _=>rfl) (fun _ _=>rfl) (hst.mem.ent p hp)⟩
  ·rw[ht,htm]
   exact bV.later hlat (hst.vals t)
 ·have hfl:rs.filter (fun r=>S r.i)=rs:=List.filter_eq_self.2 fun r hr=>hall r hr
  have ht:aAG σ.es S rs=oH σ.es rs:=by unfold aAG;rw[hfl]
  have htm:tmS σ.n σ.tm S rs=σF.tm:=by unfold tmS;rw[hfl,q3]
  have hs1:StOK X g0 γ' β' e w' { σF with es:=oH σ.es rs } a':=by
   refine ⟨by rw[<- ht];exact hd.mem,by rw[<- ht];exact hd.keys,hd.frame,hd.gh,?_,fun t=>?_,q6,fun r hr=>hd.top r (by rw[<- q5];exact hr),hd.nodef,hd.base⟩
   ·show σF.n=_
    rw[q0];exact hd.len
   ·have:=hd.vals t
    rw[htm,ht] at this
    exact this
  obtain ⟨β2,hs2⟩:=hs1.sealed
  refine ⟨γ',β2,?_⟩
  have e1:({ σF with es:=oH σ.es rs }:St).upd (qU ({ σF with es:=oH σ.es rs }:St).es) σF.nx σF.nr σF.cr=σF:=by
   cases σF
   simp only at q4
   rw[q4]
   rfl
  have hs2:StOK X g0 γ' β2 e w' (({ σF with es:=oH σ.es rs }:St).upd (qU ({ σF with es:=oH σ.es rs }:St).es) σF.nx σF.nr σF.cr) a':=hs2
  rw[e1] at hs2
  exact hs2
theorem aGG {draw:Bool} {x:RT}:(n:Nat)->{D:List Nat}->{σ:St}->{γ:Gh}->{β:Bt}->aEB P Cs wr ops draw n D σ = .ok x->StOK X g0 γ β e w σ a ->
  (∃ D' σ' β' fx,(draw=true->bGS ops (Region.before ops) (aEA ops draw)=true)/\qX P Cs wr D' ops (aEA ops draw) σ' (bBG ops draw fx) = .ok x/\StOK X g0 γ β' e w σ' a/\σ'.nx=σ.nx/\(draw=false->fx=[])/\∀ p∈fx,p∈σ'.es) \/
   (draw=true/\∃ D' σ' β',aQ1 P Cs wr D' ops σ' = .ok x/\StOK X g0 γ β' e w σ' a/\σ'.nx=σ.nx)
 | 0,D,σ,γ,β,h,hst=>by simp[aEB] at h
 | n+1,D,σ,γ,β,h,hst=>by
  simp only[aEB] at h
  split at h
  ·cases h
  ·rename_i hk
   split at h
   ·rename_i x' hx
    simp only[Except.ok.injEq] at h
    subst h
    refine .inl ⟨D,σ,β,[],fun hd=>?_,hx,hst,rfl,fun _=>rfl,fun p hp=>(by simp at hp)⟩
    subst hd
    simpa using hk
   ·split at h
    ·rename_i x' hx
     split at hx
     ·rename_i hdr
      simp only[Except.ok.injEq] at h
      subst h
      rcases bTQ hx with hx2|hx2
      ·refine .inl ⟨D,σ,β,bN0 ops σ,fun hd=>?_,hx2,hst,rfl,fun hd=>(by rw[hdr] at hd;cases hd),fun p hp=>(List.mem_filter.1 hp).1⟩
       subst hd
       simpa using hk
      ·refine .inl ⟨D,σ,β,bSU ops σ,fun hd=>?_,hx2,hst,rfl,fun hd=>(by rw[hdr] at hd;cases hd),fun p hp=>(List.mem_append.1 hp).elim (fun h=>(List.mem_filter.1 h).1) fun h=>(List.mem_filter.1 h).1⟩
       subst hd
       simpa using hk
     ·cases hx
    ·rename_i err2 hx
     split at h
     ·rename_i x' hx2
      split at hx2
      ·rename_i hdr
       simp only[Except.ok.injEq] at h
       subst h
       exact .inr ⟨hdr,D,σ,β,bMT hx2,hst,rfl⟩
      ·cases hx2
     ·split at h
      ·split at h
       ·split at h
        ·rename_i σ' hz
         obtain ⟨β1,f1,f2,f3⟩:=hst.frz hz
         rcases aGG n h f1 with ⟨D',σ2,β2,fx,g1,g2,g3,g4,g5⟩|⟨g1,D',σ2,β2,g2,g3,g4⟩
         ·exact .inl ⟨D',σ2,β2,fx,g1,g2,g3,g4.trans f2,g5⟩
         ·exact .inr ⟨g1,D',σ2,β2,g2,g3,g4.trans f2⟩
        ·cases h
       ·split at h
        ·cases h
        ·exact aGG n h hst
      ·cases h
theorem cB1 (hm:P.follows .mixedOrders=true) (hC:∀ (c:Nat) (C:Con),Cs[c]?=some C->Con.Holds P C) (X:Cx) (g0:Gh):bOI P Cs wr X g0:=by
 intro id ops draw D σ rt env e σF γ β w a h hp hn hst
 rcases aGG 12 h hst with ⟨D',σ',β',fx,h1,h2,h3,h4,h5,h6⟩|⟨hd,D',σ',β',h2,h3,h4⟩
 rotate_left
 ·subst hd
  exact bTA hm hC h2 hp (by rw[h4];exact hn) h3
 cases draw with
 | true=>exact bT6 hm hC (h1 rfl) h6 h2 hp (by rw[h4];exact hn) h3
 | false=>exact bRY hC (by rw[h5 rfl] at h2;simpa [aEA] using h2) hp (by rw[h4];exact hn) h3
theorem bF3 (hm:P.follows .mixedOrders=true) {fuel:Nat} {orc:Orc} {T':T} (hC:∀ (c:Nat) (C:Con),Cs[c]?=some C->Con.Holds P C) (h:aGU P Cs C wr fuel orc = .ok T')
 (hw:∀ x:C.argTy.D,okD C.argTy x->C.pre x->T'.wp Cs [⟨C.argTy,x⟩] [] fun v=>v.as C.resTy=C.fn x):Con.Holds P C:=bZ0 hC (fun X g0=>cB1 hm hC X g0) h hw
end
#print axioms bF3
theorem yL:Tryz.prog.follows .mixedOrders=true:=by kernel_rfl
theorem aL {P:Program}:∀ (c:Nat) (C:Con),([]:List Con)[c]?=some C->Con.Holds P C:=fun c C h=>by simp at h
theorem aD {P:Program} {C0:Con} {Cs:List Con} (h0:Con.Holds P C0) (h:∀ (c:Nat) (C:Con),Cs[c]?=some C->Con.Holds P C):∀ (c:Nat) (C:Con),(C0 :: Cs)[c]?=some C->Con.Holds P C:=fun c C hc=>by
 cases c with
 | zero=>simp only[List.getElem?_cons_zero,fL] at hc;subst hc;exact h0
 | succ c=>exact h c C (by simpa using hc)
theorem tk {C:Con} {Cs:List Con} (o:Orc) (t:T) (hC:∀ (c:Nat) (C:Con),Cs[c]?=some C->Con.Holds Tryz.prog C) (hw:∀ x:C.argTy.D,okD C.argTy x->C.pre x->t.wp Cs [⟨C.argTy,x⟩] [] fun v=>v.as C.resTy=C.fn x) (h:aGU Tryz.prog Cs C false 3000 o = .ok t:=by kernel_rfl):Con.Holds Tryz.prog C:=bF3 yL hC h hw
theorem cC6 (k:IntKind) (x y:Int):@LE.le (Ty.D (.int k)) Int.instLEInt x y = @LE.le Int Int.instLEInt x y:=rfl
theorem cCP (k:IntKind) (x y:Int):@LT.lt (Ty.D (.int k)) Int.instLTInt x y = @LT.lt Int Int.instLTInt x y:=rfl
theorem cCH (k:IntKind) (x y:Int):@Ne (Ty.D (.int k)) x y = @Ne Int x y:=rfl
theorem cC8 (k:IntKind) (x y:Int):@Eq (Ty.D (.int k)) x y = @Eq Int x y:=rfl
theorem bZJ (k:IntKind):(@OfNat.ofNat (Ty.D (.int k)) 0 (@instOfNat 0))=(0:Int):=rfl
theorem bTG (b:Bool):okD .bool b=True:=rfl
theorem aO {α:Type} {l:List α} {k:Nat} (h:k<l.length) {d:α}:l.getD k d=l[k]:=by simp[h]
theorem mE {α:Type} {l:List α} {k:Nat} (h:k<l.length):l.take k++[l[k]]=l.take (k+1):=by rw[List.take_succ_eq_append_getElem h]
def lD (x:Int):Int:=min (max x (-2147483647)) 2147483647
def aTL (x:Int):Int × Bool:=(lD x,decide (x≠lD x))
def gI (a b:Int):Int × Bool:=aTL (lD a+lD b)
theorem aHU (k:Nat):((k:Int) - 1).toNat=k - 1:=by omega
theorem aZI (k:Nat):((k:Int)+1).toNat=k+1:=by omega
theorem bHD:Int.toNat 0=0:=rfl
theorem bKY:Int.toNat 1=1:=rfl
theorem avA (env:List SV) (a b:Ty) (p:Ar):Ar.val env (pjA (.cD0 a b) 0 p)=⟨a,((p.val env).as (.cD0 a b)).1⟩:=rfl
theorem avB (env:List SV) (a b:Ty) (n:Nat) (p:Ar):Ar.val env (pjA (.cD0 a b) (n+1) p)=Ar.val env (pjA b n (.p2 a b p)):=rfl
theorem avC (env:List SV) (k:IntKind) (n:Nat) (p:Ar):Ar.val env (pjA (.int k) n p)=Ar.val env p:=rfl
theorem avD (env:List SV) (n:Nat) (p:Ar):Ar.val env (pjA .bool n p)=Ar.val env p:=rfl
theorem avE (env:List SV) (n:Nat) (p:Ar):Ar.val env (pjA .str n p)=Ar.val env p:=rfl
theorem avF (env:List SV) (e:TypeId) (t:Ty) (n:Nat) (p:Ar):Ar.val env (pjA (.slice e t) n p)=Ar.val env p:=rfl
theorem avG (env:List SV) (a b:Ty) (n:Nat) (p:Ar):Ar.val env (prA (.cD0 a b) (n+1) p)=Ar.val env (prA b n (.p2 a b p)):=rfl
theorem avH (env:List SV) (a b:Ty) (p:Ar):Ar.val env (prA (.cD0 a b) 0 p)=Ar.val env p:=rfl
theorem avI (env:List SV) (k:IntKind) (n:Nat) (p:Ar):Ar.val env (prA (.int k) n p)=Ar.val env p:=rfl
theorem avJ (env:List SV) (n:Nat) (p:Ar):Ar.val env (prA .bool n p)=Ar.val env p:=rfl
theorem avK (env:List SV) (n:Nat) (p:Ar):Ar.val env (prA .str n p)=Ar.val env p:=rfl
theorem avL (env:List SV) (e:TypeId) (t:Ty) (n:Nat) (p:Ar):Ar.val env (prA (.slice e t) n p)=Ar.val env p:=rfl
theorem avM (env:List SV) (a b:Ty) (x y:Ar) (l:List Ar):Ar.val env (mkA (.cD0 a b) (x :: y :: l))=⟨.cD0 a b,((x.val env).as a,((mkA b (y :: l)).val env).as b)⟩:=rfl
theorem avN (env:List SV) (k:IntKind) (x:Ar) (l:List Ar):Ar.val env (mkA (.int k) (x :: l))=Ar.val env x:=rfl
theorem avO (env:List SV) (x:Ar) (l:List Ar):Ar.val env (mkA .bool (x :: l))=Ar.val env x:=rfl
theorem avP (env:List SV) (x:Ar) (l:List Ar):Ar.val env (mkA .str (x :: l))=Ar.val env x:=rfl
theorem avQ (env:List SV) (e:TypeId) (t:Ty) (x:Ar) (l:List Ar):Ar.val env (mkA (.slice e t) (x :: l))=Ar.val env x:=rfl
theorem avR (env:List SV) (a b:Ty) (x:Ar):Ar.val env (mkA (.cD0 a b) [x])=Ar.val env x:=rfl
theorem gH {t:T} {Cs:List Con} {env:List SV} {L:List (SV->Prop)} {Q:SV->Prop} {P:Prop} (p:P) (h:t.wp Cs env L Q↔P:=by dsimp only [avA,avB,avC,avD,avE,avF,avG,avH,avI,avJ,avK,avL,avM,avN,avO,avP,avQ,avR,T.wp,pjA,prA,mkA,aJH,aLA,Ar.val,aOA,Prim.cond,Prim.fn,Prim.ity,Prim.oty,List.getElem?_cons_succ,List.getElem?_cons_zero,Option.getD_some,List.cons_append,List.nil_append,inK,arI,bYG,maxI,minI,negI];(try simp only[SV.as_self,true_and,forall_const,bTG,cC6,cCP,cCH,cC8,bZJ]);exact Iff.rfl):t.wp Cs env L Q:=h.mpr p
theorem iC {P Q:Prop} (q:Q) (h:P↔Q:=by (try simp only[Int.toNat_natCast,Bool.not_eq_true',Bool.not_eq_false',Bool.and_eq_true,Bool.and_eq_false_iff,decide_eq_true_eq,decide_eq_false_iff_not,Int.not_lt,Int.not_le,ge_iff_le,gt_iff_lt,List.length_cons,List.length_nil,List.length_append,Nat.zero_add,List.nil_append,beq_iff_eq,beq_eq_false_iff_ne,bne_iff_ne,bne_eq_false_iff_eq,ne_eq,aHU,aZI,bHD,bKY]);exact Iff.rfl):P:=h.mpr q
section
variable {t:Ty} {e:TypeId} {w:World} {v:Value} {l:List t.D} {bl:List Nat}
end
structure Only (bl:List Nat) (w w':World):Prop where
 os:w'.os=w.os
 tape:w'.tape=w.tape
 output:w'.output=w.output
 size:w.heap.size<=w'.heap.size
 block:∀ q,q ∉ bl->q<w.heap.size->w'.heap[q]?=w.heap[q]?
section
variable {bl bl':List Nat} {w w' w'':World}
theorem Only.refl (bl:List Nat) (w:World):Only bl w w:=⟨rfl,rfl,rfl,Nat.le_refl _,fun _ _ _=>rfl⟩
theorem Only.trans (h:Only bl w w') (k:Only bl w' w''):Only bl w w'' :=
 ⟨k.os.trans h.os,k.tape.trans h.tape,k.output.trans h.output,Nat.le_trans h.size k.size,fun q hq hz=>(k.block q hq (Nat.lt_of_lt_of_le hz h.size)).trans (h.block q hq hz)⟩
theorem Only.mono (h:Only bl w w') (hb:∀ q∈bl,q∈bl'):Only bl' w w':=⟨h.os,h.tape,h.output,h.size,fun q hq hz=>h.block q (fun hm=>hq (hb q hm)) hz⟩
theorem Only.setCell (h:Only bl w w') {p:Addr} (hp:p.block∈bl) (u:Value):Only bl w (w'.setCell p u) :=
 h.trans ⟨rfl,rfl,rfl,by simp[World.setCell],fun q hq _=>Below.heap_setCell _ _ _ _ (fun e=>hq (e ▸ hp))⟩
theorem Only.alloc (h:Only bl w w') (o:Obj):Only bl w (w'.alloc o) :=
 h.trans ⟨rfl,rfl,rfl,by simp,fun q hq hz=>Below.heap_alloc _ _ _ hz⟩
theorem Only.drew (h:Only bl w w'):Only bl w w'.drew:=⟨h.os,h.tape,h.output,h.size,h.block⟩
theorem Only.below {B:Nat} (h:Only bl w w') (hb:∀ q∈bl,B<=q) (hB:B<=w.heap.size):Below B w w' :=
 ⟨h.os,h.tape,h.output,h.size,fun k hk=>h.block k (fun hm=>by have:=hb k hm;omega) (by omega)⟩
end
theorem aJ0 {α:Type} (A l:List α) (k:Nat) (hk:k<l.length) (hA:A.length=l.length) (x:α) (hx:A[k]'(by omega)=x):(A.take k++l.drop k).set k x=A.take (k+1)++l.drop (k+1):=by
 have h1:(A.take k).length=k:=by simp;omega
 rw[List.set_append_right _ _ (by omega),h1,Nat.sub_self,List.drop_eq_getElem_cons hk,List.set_cons_zero,List.take_succ_eq_append_getElem (by omega),hx]
 simp
theorem aR2 {α:Type} (l:List α) (z:α) (k:Nat) (hk:k<l.length):(l.take k++List.replicate (l.length - k) z).set k l[k]=l.take (k+1)++List.replicate (l.length - (k+1)) z:=by
 have h1:(l.take k).length=k:=by simp;omega
 rw[List.set_append_right _ _ (by omega),h1,Nat.sub_self,show l.length - k=l.length - (k+1)+1 by omega,List.replicate_succ,List.set_cons_zero,List.take_succ_eq_append_getElem hk,List.append_assoc,List.singleton_append]
theorem aEW {α:Type} (A l:List α) (k:Nat) (hk:k<l.length) (hA:A.length=l.length):(A.take k++l.drop k)[k]'(by simp;omega)=l[k]:=by
 have h1:(A.take k).length=k:=by simp;omega
 rw[List.getElem_append_right (by omega)]
 simp[h1]
def bC:(t:Ty)->t.D->Nat
 | .int _,_=>0
 | .bool,_=>0
 | .str,_=>0
 | .slice _ t,l=>List.length l+(l.map (bC t)).sum
 | .cD0 a b,x=>bC a x.1+bC b x.2
theorem dL (e:TypeId) (t:Ty) (l:List t.D):bC (.slice e t) l=l.length+(l.map (bC t)).sum:=rfl
def szR (left:Int) (n:Nat):Int:=if (n:Int)<=left then left - n else -1
theorem aFK {left:Int} {n:Nat} (h:(n:Int)<=left):szR left n=left - n:=if_pos h
theorem aFP {left:Int} {n:Nat} (h:¬ (n:Int)<=left):szR left n = -1:=if_neg h
theorem aQX {α:Type} (f:α->Nat) (l:List α) (h:∀ x,f x=0):(l.map f).sum=0:=by
 induction l with
 | nil=>rfl
 | cons a m ih=>rw[List.map_cons,List.sum_cons,ih,h]
theorem gC {α:Type} (f:α->Nat) (l:List α) (k:Nat) (h:k<l.length):((l.take (k+1)).map f).sum=((l.take k).map f).sum+f l[k]:=by
 rw[List.take_succ_eq_append_getElem h,List.map_append,List.sum_append];simp only[List.map_cons,List.map_nil,List.sum_cons,List.sum_nil,Nat.add_zero]
theorem rL {α:Type} (f:α->Nat) (l:List α) (k:Nat):((l.take k).map f).sum<=(l.map f).sum:=by
 conv=>rhs;rw[<- List.take_append_drop k l,List.map_append,List.sum_append]
 omega
theorem aOX {α:Type} (f:α->Nat) (l:List α) (k:Nat) (h:k<l.length):f l[k]<=(l.map f).sum:=by
 have h1:=gC f l k h
 have h2:=rL f l (k+1)
 omega
def jI:(t:Ty)->t.D->Nat
 | .int _,_=>1
 | .bool,_=>1
 | .str,_=>1
 | .slice _ t,l=>(l.map (jI t)).sum
 | .cD0 a b,x=>jI a x.1+jI b x.2
def aBU {α:Type} (f:α->Int->α) (c:α->Nat):List α->Int->List α
 | [],_=>[]
 | x :: l,k=>f x k :: aBU f c l (k+(c x:Int))
def mk:(t:Ty)->t.D->Int->t.D
 | .int _,_,k=>k
 | .bool,_,k=>decide (k % 3=0)
 | .str,s,_=>s
 | .slice _ t,l,k=>aBU (mk t) (jI t) l k
 | .cD0 a b,x,k=>(mk a x.1 k,mk b x.2 (k+(jI a x.1:Int)))
theorem tV {α:Type} (f:α->Int->α) (c:α->Nat):(l:List α)->(k:Int)->(aBU f c l k).length=l.length
 | [],k=>rfl
 | x :: l,k=>by simp[aBU,tV f c l]
theorem aJ7 {α:Type} (f:α->Int->α) (c:α->Nat):(l:List α)->(k:Int)->(i:Nat)->(h:i<l.length)->(h':i<(aBU f c l k).length)->(aBU f c l k)[i]=f l[i] (k+(((l.take i).map c).sum:Int))
 | [],k,i,h,_=>by simp at h
 | x :: l,k,0,h,_=>by simp[aBU]
 | x :: l,k,i+1,h,h'=>by
  simp only[aBU,List.getElem_cons_succ,List.take_succ_cons,List.map_cons,List.sum_cons]
  rw[aJ7 f c l _ i (by simpa using h)]
  congr 1
  omega
theorem bNW {a0:Int} (w0:(Lit.int .i64 a0).wf=true):-9223372036854775808<=a0/\a0<=9223372036854775807:=by
 simpa [Lit.wf,IntKind.min,IntKind.max,IntKind.signed,IntKind.bits] using w0
theorem aJA {a0:Int} (h:-9223372036854775808<=a0/\a0<=9223372036854775807):(Lit.int .i64 a0).wf=true:=by
 simpa [Lit.wf,IntKind.min,IntKind.max,IntKind.signed,IntKind.bits] using h
def tF (v:Value) (w:World) (r:Ending) (w':World):Prop:=r = .returned v/\Below w.heap.size w w'
def bOU (e:TypeId) (t:Ty) (w:World) (l:List t.D) (r:Ending) (w':World):Prop :=
 ∃ p cap,r = .returned (.slice p l.length cap)/\cU (.slice e t) w.heap.size w'.heap.size w' [.slice p l.length cap] l/\Below w.heap.size w w'
def bPD (t:Ty) (w:World) (d:t.D) (r:Ending) (w':World):Prop :=
 ∃ cs:Array Value,r = .returned (.agg cs)/\cU t w.heap.size w'.heap.size w' cs.toList d/\Below w.heap.size w w'
theorem iF {k:IntKind} {a b:Int} (h:a=b):Ending.returned (.int k a) = .returned (.int k b):=by rw[h]
theorem jS {W w1:World} (hb:Below W.heap.size W w1):(∀ b o,b<W.heap.size->w1.cell? ⟨b,o,none⟩=W.cell? ⟨b,o,none⟩)/\(∀ b o,b<W.heap.size->w1.frozen? ⟨b,o,none⟩=W.frozen? ⟨b,o,none⟩) :=
 ⟨fun b o h=>hb.cell (p:=⟨b,o,none⟩) h,fun b o h=>hb.frozen (p:=⟨b,o,none⟩) h⟩
theorem mF {cs:Array Value} {l:List Value} (h:cs.toList=l):cs=l.toArray:=by rw[<- h]
theorem jT.below {t:Ty} {w w':World} {p:Option Addr} {len cap:Nat} {l:List t.D} (h:jT t.n (rd t w) w p len cap l) (hb:Below w.heap.size w w'):jT t.n (rd t w') w' p len cap l :=
 h.mono (Below.keeps hb) (fun cs x hx=>uS (Below.keeps hb) t cs x hx)
theorem xU {t:Ty} {w w':World} {cs:List Value} {d:t.D} (h:rd t w cs d) (hb:Below w.heap.size w w'):rd t w' cs d:=uS (Below.keeps hb) t cs d h
theorem cC7 {e:TypeId} {t:Ty} {lo hi:Nat} {w:World} {p:Option Addr} {len cap:Nat} {l:List t.D} (h:cU (.slice e t) lo hi w [.slice p len cap] l):jT t.n (rd t w) w p len cap l:=by
 obtain ⟨p',len',cap',hv,hs⟩:=h.rd
 simp only[List.cons.injEq,Value.slice.injEq,and_true] at hv
 obtain ⟨rfl,rfl,rfl⟩:=hv
 exact hs
theorem cU.set1 {t:Ty} {lo hi:Nat} {w:World} {cs:List Value} {d:t.D} (h:cU t lo hi w cs d) {a:Addr} (ha:a.block<lo\/hi<=a.block) (v:Value):cU t lo hi (w.setCell a v) cs d :=
 h.keep (fun b h1 h2=>Below.heap_setCell _ _ _ _ (by omega)) (by simp[World.setCell])
theorem cU.alloc {t:Ty} {lo hi:Nat} {w:World} {cs:List Value} {d:t.D} (h:cU t lo hi w cs d) (o:Obj):cU t lo hi (w.alloc o) cs d :=
 h.keep (fun b h1 h2=>Below.heap_alloc _ _ _ (by have:=h.hi_le;omega)) (by simp)
theorem jT.lens {α:Type} {n:Nat} {R:List Value->α->Prop} {w:World} {p:Option Addr} {len cap:Nat} {l:List α} (h:jT n R w p len cap l):len=l.length:=h.1
theorem bA5 {w:World} {p:Option Addr} {len cap:Nat} {l:List Int} (h:jT 1 (rd pZ w) w p len cap l) (k:Nat) (hk:k<l.length) :
  ∃ b off,p=some ⟨b,off,none⟩/\b<w.heap.size/\w.cell? ⟨b,off+k,none⟩=some (.int .i64 l[k])/\-9223372036854775808<=l[k]/\l[k]<=9223372036854775807:=by
 obtain ⟨b,off,hp,hb,cs,hl,hc,rfl,hw⟩:=h.2.2.2.2 k hk
 exact ⟨b,off,hp,hb,by simpa using hc 0 (by simp),(bNW hw).1,(bNW hw).2⟩
theorem aAI (p:Option Addr) (len cap:Nat) (l:List Int) (w:World) (h:jT 1 (rd pZ w) w p len cap l) (hlen:l.length<=1048576) :
  Calls Tryz.prog 32 #[.slice p len cap] w (bOU 3 pZ w l):=by
 obtain rfl:=h.lens
 have hmk:=aBR Tryz.prog 25 3 (.int .i64 0) 8 pZ Tryz.underlying25 (by kernel_rfl) rfl l.length (by omega) (by omega)
 go_enter Tryz.func32,Tryz.ntmps32
 go_wp2
 go_loopw [4] (fun i wr=>∃ k:Nat,k<=l.length/\i = .int .i64 k/\Below w.heap.size w wr/\cU aA w.heap.size wr.heap.size wr [.slice (some ⟨w.heap.size,0,none⟩) l.length l.length] (l.take k++List.replicate (l.length - k) (0:Int))) (fun i _=>l.length - (intOf i).toNat)
 case atStart=>exact ⟨0,by omega,rfl,(Below.refl _ _).alloc (Nat.le_refl _) _,(cU.made w pZ _ l.length (by simp[maxLen];omega)).mono (Nat.le_refl _) (by simp) (Nat.le_refl _)⟩
 case round =>
  obtain ⟨k,hk,rfl,hb,hf⟩:=hrel
  by_cases hlt:k<l.length
  ·obtain ⟨b,off,rfl,hlb,hc,hw1,hw2⟩:=bA5 h k hlt
   have c1:wr.cell? ⟨b,off+k,none⟩=some (.int .i64 l[k]):=(hb.cell hlb).trans hc
   obtain ⟨b',cap',hv,_,_,hfz,c,hcl,hcc,_⟩:=hf.at k (by simp;omega)
   simp only[Value.slice.injEq,fL,Addr.mk.injEq,and_true] at hv
   obtain ⟨rfl,-,rfl⟩:=hv
   have c2:wr.cell? ⟨w.heap.size,k,none⟩=some (c[0]'(by rw[hcl];exact Nat.one_pos)):=by simpa [Ty.n] using hcc 0 (by rw[hcl];exact Nat.one_pos)
   have c3:=hfz k
   have HF:=Lib.hid hf
   clear h hc hcc hfz hf
   go_wp2
   go_roundw
   case rel =>
    refine ⟨k+1,by omega,by go_num,hb.setCell (Nat.le_refl _) _,?_⟩
    have h1:=HF.out.set k (by simp;omega) (hb.size) (Nat.le_refl _) (cU.int (aJA ⟨hw1,hw2⟩) (Nat.le_refl _))
    simp only[Ty.n,Nat.mul_one,setCells] at h1
    rw[aR2 l (0:Int) k hlt] at h1
    simpa [World.setCell] using h1
   case measure=>simp[intOf];omega
  ·clear h
   go_wp2
   go_ret
   obtain rfl:k=l.length:=by omega
   exact ⟨_,_,rfl,by simpa using hf,hb⟩
theorem yF (p q:Option Addr) (len cap len' cap':Nat) (l:List Int) (w:World) (h:jT 1 (rd pZ w) w p len cap l) (h':jT 1 (rd pZ w) w q len' cap' l) :
  Calls Tryz.prog 39 #[.slice p len cap,.slice q len' cap'] w (tF (.bool true) w):=by
 obtain rfl:=h.lens
 obtain rfl:=h'.lens
 have hmx:l.length<=maxLen:=by have:=h.2.1;have:=h.2.2.1;omega
 unfold maxLen at hmx
 go_enter Tryz.func39,Tryz.ntmps39
 go_wp2
 go_loopw [5] (fun i wr=>∃ k:Nat,k<=l.length/\i = .int .i64 k/\Below w.heap.size w wr) (fun i _=>l.length - (intOf i).toNat)
 case atStart=>exact ⟨0,by omega,rfl,Below.refl _ _⟩
 case round =>
  obtain ⟨k,hk,rfl,hb⟩:=hrel
  by_cases hlt:k<l.length
  ·obtain ⟨b,off,rfl,hlb,hc,hw1,hw2⟩:=bA5 h k hlt
   obtain ⟨b2,off2,rfl,hlb2,hc2,-,-⟩:=bA5 h' k hlt
   have c1:wr.cell? ⟨b,off+k,none⟩=some (.int .i64 l[k]):=(hb.cell hlb).trans hc
   have c2:wr.cell? ⟨b2,off2+k,none⟩=some (.int .i64 l[k]):=(hb.cell hlb2).trans hc2
   clear h h' hc hc2
   go_wp2
   go_quiet (fail)
   go_wp2
   go_roundw
   case rel=>exact ⟨k+1,by omega,by go_num,below_drewN hb _⟩
   case measure=>simp[intOf];omega
  ·clear h h'
   go_wp2
   go_ret
   exact ⟨rfl,hb⟩
theorem aYB (p:Option Addr) (len cap:Nat) (left:Int) (w:World) (h1:len<=maxLen) (h0:0<=left) (h2:left<=9223372036854775807) :
  Calls Tryz.prog 26 #[.slice p len cap,.int .i64 left] w (tF (.int .i64 (szR left len)) w):=by
 unfold maxLen at h1
 by_cases hc:(len:Int)<=left
 ·have hc2:¬ (left - len<0):=by omega
  go_enter Tryz.func26,Tryz.ntmps26
  go_wp2
  go_ret
  exact ⟨iF (by unfold szR;rw[if_pos (by omega)]),Below.refl _ _⟩
 ·have hc2:left - len<0:=by omega
  go_enter Tryz.func26,Tryz.ntmps26
  go_wp2
  go_ret
  exact ⟨iF (by unfold szR;rw[if_neg (by omega)]),Below.refl _ _⟩
theorem sN (p:Option Addr) (len cap:Nat) (left:Int) (w:World) (h1:len<=maxLen) (h0:0<=left) (h2:left<=9223372036854775807) (h:(len:Int)<=left) :
  Calls Tryz.prog 26 #[.slice p len cap,.int .i64 left] w (tF (.int .i64 (left - len)) w):=by
 have:=aYB p len cap left w h1 h0 h2
 rwa [aFK h] at this
theorem aCZ (p:Option Addr) (len cap:Nat) (left:Int) (w:World) (h1:len<=maxLen) (h0:0<=left) (h2:left<=9223372036854775807) (h:¬ (len:Int)<=left) :
  Calls Tryz.prog 26 #[.slice p len cap,.int .i64 left] w (tF (.int .i64 (-1)) w):=by
 have:=aYB p len cap left w h1 h0 h2
 rwa [aFP h] at this
theorem gY (l:List Int):bC aA l=l.length:=by
 rw[dL,aQX (bC pZ) l (fun _=>rfl)];rfl
theorem bPZ (l:List Int):(l.map (jI pZ)).sum=l.length:=by
 induction l with
 | nil=>rfl
 | cons a m ih =>
  rw[List.map_cons,List.sum_cons,ih,List.length_cons]
  show 1+_=_
  omega
theorem bOR (l:List Int) (k0:Int) (k:Nat) (hk:k<l.length):(mk aA l k0)[k]'(by show k<(aBU _ _ _ _).length;rw[tV];exact hk)=k0+k:=by
 show (aBU (mk pZ) (jI pZ) l k0)[k]'_=_
 rw[aJ7 _ _ _ _ _ hk]
 show k0+_=_
 rw[bPZ,List.length_take,Nat.min_eq_left (by omega)]
theorem aKJ (l:List Int) (k0:Int):(mk aA l k0:List Int).length=l.length:=tV _ _ _ _
theorem uW (l:List Int):jI aA l=l.length:=bPZ l
theorem bFE (p:Option Addr) (len cap:Nat) (k0:Int) (l:List Int) (w:World) (h:jT 1 (rd pZ w) w p len cap (mk aA l k0)) (h0:0<=k0) (h1:k0+l.length<=1000000000000) :
  Calls Tryz.prog 78 #[.slice p len cap,.int .i64 k0] w (tF (.int .i64 (k0+(jI aA l:Int))) w):=by
 have HL:=aKJ l k0
 obtain rfl:len=l.length:=by rw[h.lens];exact HL
 go_enter Tryz.func78,Tryz.ntmps78
 go_wp2
 go_loopw [1,5] (fun q i wr=>∃ k:Nat,k<=l.length/\i = .int .i64 k/\q = .int .i64 (k0+k)/\Below w.heap.size w wr) (fun _ i _=>l.length - (intOf i).toNat)
 case atStart=>exact ⟨0,by omega,rfl,by simp,Below.refl _ _⟩
 case round =>
  obtain ⟨k,hk,rfl,rfl,hb⟩:=hrel
  by_cases hlt:k<l.length
  ·obtain ⟨b,off,rfl,hlb,hc,hw1,hw2⟩:=bA5 h k (by rw[HL];exact hlt)
   have c1:wr.cell? ⟨b,off+k,none⟩=some (.int .i64 (k0+k)):=(hb.cell hlb).trans (by rw[hc,bOR l k0 k hlt])
   clear h hc HL hw1 hw2
   go_wp2
   go_roundw
   case rel=>exact ⟨k+1,by omega,by go_num,by go_num,hb⟩
   case measure=>simp[intOf];omega
  ·clear h HL
   go_wp2
   go_ret
   obtain rfl:k=l.length:=by omega
   exact ⟨iF (by rw[uW]),hb⟩
section
variable {t:Ty} {e:TypeId} {w:World} {v:Value} {l:List t.D} {bl:List Nat}
end
theorem Only.setCells {bl:List Nat} {w w':World}:{vs:List Value}->{b off:Nat}->Only bl w w'->b∈bl->Only bl w (setCells w' b off vs)
 | [],b,off,h,hb=>h
 | v :: vs,b,off,h,hb=>Only.setCells (vs:=vs) (h.setCell (p:=⟨b,off,none⟩) hb v) hb
theorem aCU {t:Ty} {e:TypeId} (l:List t.D) (k0:Int):List.length (mk (.slice e t) l k0)=l.length:=tV _ _ _ _
theorem aSH {t:Ty} {e:TypeId} (l:List t.D) (k0:Int) (k:Nat) (hk:k<l.length) (h':k<List.length (mk (.slice e t) l k0)) :
 (mk (.slice e t) l k0:List t.D)[k]=mk t l[k] (k0+(((l.take k).map (jI t)).sum:Nat)):=aJ7 _ _ _ _ _ hk h'
theorem qF {t:Ty} {e:TypeId} (l:List t.D):jI (.slice e t) l=(l.map (jI t)).sum:=rfl
theorem cU.only {t:Ty} {lo hi:Nat} {w w':World} {cs:List Value} {d:t.D} {bl:List Nat} (h:cU t lo hi w cs d) (hw:Only bl w w') (hb:∀ b∈bl,b<lo\/hi<=b):cU t lo hi w' cs d :=
 h.keep (fun b h1 h2=>hw.block b (fun hm=>by have:=hb b hm;omega) (by have:=h.hi_le;omega)) hw.size
theorem cU.of_rep {t:Ty} {lo hi:Nat} {w:World} {cs:List Value} {d:t.D} {bl:List Nat} (h:rep t w cs d bl) (hn:bl.Nodup) (hb:∀ b∈bl,lo<=b/\b<hi) (hz:hi<=w.heap.size):cU t lo hi w cs d :=
 ⟨bl,h,hn,hb,hz⟩
def Ty.scal:Ty->Nat
 | .slice _ _=>0
 | .cD0 a b=>a.scal+b.scal
 | _=>1
def Ty.per:Ty->Nat
 | .slice _ t=>max t.scal t.per
 | .cD0 a b=>max a.per b.per
 | _=>0
theorem aZR:(t:Ty)->(d:t.D)->jI t d<=t.scal+t.per * bC t d:=by
 intro t
 induction t with
 | int k=>intro d;exact Nat.le_add_right _ _
 | bool=>intro d;exact Nat.le_add_right _ _
 | str=>intro d;exact Nat.le_add_right _ _
 | slice e t ih =>
  intro l
  rw[qF,dL]
  simp only[Ty.scal,Ty.per,Nat.zero_add]
  have h:∀ m:List t.D,(m.map (jI t)).sum<=max t.scal t.per * (m.length+(m.map (bC t)).sum):=by
   intro m
   induction m with
   | nil=>simp
   | cons a m ihm =>
    rw[List.map_cons,List.sum_cons,List.map_cons,List.sum_cons,List.length_cons]
    have h1:=ih a
    have h2:t.scal<=max t.scal t.per:=Nat.le_max_left _ _
    have h3:t.per * bC t a<=max t.scal t.per * bC t a:=Nat.mul_le_mul_right _ (Nat.le_max_right _ _)
    have e1:max t.scal t.per * (m.length+1+(bC t a+(m.map (bC t)).sum))=max t.scal t.per+max t.scal t.per * bC t a+max t.scal t.per * (m.length+(m.map (bC t)).sum):=by
     rw[show m.length+1+(bC t a+(m.map (bC t)).sum)=1+bC t a+(m.length+(m.map (bC t)).sum) by omega,Nat.mul_add,Nat.mul_add,Nat.mul_one]
    omega
  exact h l
 | cD0 a b iha ihb =>
  intro x
  have h1:=iha x.1
  have h2:=ihb x.2
  have h3:a.per * bC a x.1<=max a.per b.per * bC a x.1:=Nat.mul_le_mul_right _ (Nat.le_max_left _ _)
  have h4:b.per * bC b x.2<=max a.per b.per * bC b x.2:=Nat.mul_le_mul_right _ (Nat.le_max_right _ _)
  show jI a x.1+jI b x.2<=a.scal+b.scal+max a.per b.per * (bC a x.1+bC b x.2)
  rw[Nat.mul_add]
  omega
theorem cAM (e:TypeId) (t:Ty) (l:List t.D) (h:(Ty.slice e t).per<=20):jI (.slice e t) l<=20 * bC (.slice e t) l:=by
 have h1:=aZR (.slice e t) l
 have h2:(Ty.slice e t).per * bC (.slice e t) l<=20 * bC (.slice e t) l:=Nat.mul_le_mul_right _ h
 have h3:(Ty.slice e t).scal=0:=rfl
 omega
theorem pA {w:World} {o:Obj} {a:Addr} (h:a.block<w.heap.size):(w.alloc o).cell? a=w.cell? a :=
 World.cell?_of_block (Below.heap_alloc _ _ _ h)
def aCN:(t:Ty)->t.D->Nat
 | .slice e t,l=>jI (.slice e t) l
 | .cD0 a b,x=>aCN a x.1+aCN b x.2
 | .int _,_=>0
 | .bool,_=>0
 | .str,_=>0
def mkt:(t:Ty)->t.D->Int->t.D
 | .slice e t,l,k=>mk (.slice e t) l k
 | .cD0 a b,x,k=>(mkt a x.1 k,mkt b x.2 (k+(aCN a x.1:Int)))
 | .int _,x,_=>x
 | .bool,x,_=>x
 | .str,x,_=>x
theorem bIG:(t:Ty)->(d:t.D)->aCN t d<=t.per * bC t d:=by
 intro t
 induction t with
 | int k=>intro d;exact Nat.zero_le _
 | bool=>intro d;exact Nat.zero_le _
 | str=>intro d;exact Nat.zero_le _
 | slice e t ih =>
  intro l
  have h1:=aZR (.slice e t) l
  have h3:(Ty.slice e t).scal=0:=rfl
  show jI (.slice e t) l<=_
  omega
 | cD0 a b iha ihb =>
  intro x
  have h1:=iha x.1
  have h2:=ihb x.2
  have h3:a.per * bC a x.1<=max a.per b.per * bC a x.1:=Nat.mul_le_mul_right _ (Nat.le_max_left _ _)
  have h4:b.per * bC b x.2<=max a.per b.per * bC b x.2:=Nat.mul_le_mul_right _ (Nat.le_max_right _ _)
  show aCN a x.1+aCN b x.2<=max a.per b.per * (bC a x.1+bC b x.2)
  rw[Nat.mul_add]
  omega
theorem bZM (t:Ty) (d:t.D) (h:t.per<=20):aCN t d<=20 * bC t d :=
 Nat.le_trans (bIG t d) (Nat.mul_le_mul_right _ h)
theorem Only.cell {bl:List Nat} {w w':World} (h:Only bl w w') {a:Addr} (ha:a.block ∉ bl) (hz:a.block<w.heap.size):w'.cell? a=w.cell? a :=
 World.cell?_of_block (h.block a.block ha hz)
theorem Only.frozen {bl:List Nat} {w w':World} (h:Only bl w w') {a:Addr} (ha:a.block ∉ bl) (hz:a.block<w.heap.size):w'.frozen? a=w.frozen? a :=
 World.frozen?_of_block (h.block a.block ha hz)
theorem aF2:(t:Ty)->(w:World)->(cs:List Value)->(d:t.D)->(bl:List Nat)->Un t w cs d bl->∀ b∈bl,b<w.heap.size:=by
 intro t
 induction t with
 | int k=>intro w cs d bl h;simp[h.2.2]
 | bool=>intro w cs d bl h;simp[h.2]
 | str=>intro w cs d bl h;simp[h.2.2]
 | slice e t ih =>
  intro w cs d bl h
  rcases h with ⟨p,_,_,rfl⟩|⟨b,off,cap,cur,xs,bl',_,hv,hh,h1,_,h3,h4,hr,rfl⟩
  ·simp
  ·intro q hq
   rw[List.mem_cons] at hq
   rcases hq with rfl|hq
   ·exact (Array.getElem?_eq_some_iff.1 hh).1
   ·clear hh h1 h3 h4 hv
    induction d generalizing xs bl' with
    | nil=>have h2:=hr.2;rw[h2] at hq;simp at hq
    | cons x l ihl =>
     obtain ⟨c,xs',b1,b2,hc,rfl,rfl,h1,hr⟩:=hr
     rw[List.mem_append] at hq
     rcases hq with hq|hq
     ·exact ih w _ _ _ h1 q hq
     ·exact ihl _ _ hr hq
 | cD0 a b iha ihb =>
  intro w cs d bl h
  obtain ⟨c1,c2,b1,b2,_,rfl,h1,h2⟩:=h
  intro q hq
  rw[List.mem_append] at hq
  rcases hq with hq|hq
  ·exact iha w c1 d.1 b1 h1 q hq
  ·exact ihb w c2 d.2 b2 h2 q hq
section
variable {t:Ty} {e:TypeId} {w:World} {v:Value} {l:List t.D} {bl:List Nat}
theorem aQ8 (h:Un (.slice e t) w [v] l bl) (hnd:bl.Nodup) (k:Nat) (hk:k<l.length) :
  ∃ b cap c bk,v = .slice (some ⟨b,0,none⟩) l.length cap/\b∈bl/\b<w.heap.size/\(∀ j,w.frozen? ⟨b,j,none⟩=false)/\c.length=t.n/\(∀ j (hj:j<c.length),w.cell? ⟨b,k * t.n+j,none⟩=some c[j]) /\
   Un t w c l[k] bk/\(∀ q∈bk,q∈bl)/\bk.Nodup/\b ∉ bk /\
   (∀ (w':World) (x':t.D),(∀ q,q ∉ bk->q<w.heap.size->w'.heap[q]?=w.heap[q]?)->Un t w' c x' bk->Un (.slice e t) w' [v] (l.set k x') bl) /\
   (∀ (j:Nat) (u:Value) (x':t.D),j<c.length->Un t w (c.set j u) x' bk->Un (.slice e t) (w.setCell ⟨b,k * t.n+j,none⟩ u) [v] (l.set k x') bl):=by
 have hlt:=aF2 (.slice e t) w [v] l _ h
 rcases h with ⟨p,hv,hn,_⟩|⟨g,off,cap,cur,xs,bl',rfl,hv,hh,hc,hm,hcs,hx,hr,rfl⟩
 ·rw[hn] at hk;simp at hk
 ·simp only[List.cons.injEq,and_true] at hv
  subst hv
  rw[List.drop_zero] at hx
  obtain ⟨xs1,c,xs2,b1,bk,b2,he,hl,hcl,rfl,hr1,hR,hr2⟩:=hr.split k hk
  have hnd':=hnd
  simp only[List.nodup_cons,List.mem_append,not_or,List.nodup_append] at hnd'
  obtain ⟨⟨nb1,nbk,nb2⟩,n1,⟨nk,n2,d2⟩,d1⟩:=hnd'
  refine ⟨g,cap,c,bk,rfl,by simp,(Array.getElem?_eq_some_iff.1 hh).1,fun j=>by simp[World.frozen?,hh],hcl,fun j hj=>?_,hR,fun q hq=>by simp[hq],nk,nbk,?_,?_⟩
  ·have h2:xs[k * t.n+j]?=some c[j]:=by
    rw[he,List.getElem?_append_right (by omega),List.getElem?_append_left (by omega),hl,Nat.add_sub_cancel_left,List.getElem?_eq_getElem hj]
   have h3:cur[k * t.n+j]?=some c[j]:=by
    rw[hx,List.getElem?_take] at h2
    split at h2
    ·simpa using h2
    ·cases h2
   simp[World.cell?,hh,h3]
  ·intro w' x' hw' hx'
   have hsub:∀ q,q∈b1\/q∈b2->w'.heap[q]?=w.heap[q]?:=fun q hq=>by
    refine hw' q (fun hqb=>?_) ?_
    ·rcases hq with hq|hq
     ·exact d1 q hq q (.inl hqb) rfl
     ·exact d2 q hqb q hq rfl
    ·refine hlt q ?_
     rcases hq with hq|hq <;> simp[hq]
   refine .inr ⟨g,0,cap,cur,xs1++(c++xs2),b1++(bk++b2),rfl,by rw[List.length_set],(hw' g nbk (hlt g (by simp))).trans hh,by simpa using hc,hm,by simpa using hcs,by rw[List.length_set,List.drop_zero,<- hx,he],?_,rfl⟩
   refine oQ.join hk hcl (hr1.mono (fun c y bb hq hy=>Un.keep _ _ _ _ (fun q hqb=>hsub q (.inl (hq q hqb))) hy)) hx' (hr2.mono (fun c y bb hq hy=>Un.keep _ _ _ _ (fun q hqb=>hsub q (.inr (hq q hqb))) hy))
  ·intro j u x' hj hx'
   have hsub:∀ q,q∈b1\/q∈bk\/q∈b2->(w.setCell ⟨g,k * t.n+j,none⟩ u).heap[q]?=w.heap[q]?:=fun q hq=>by
    refine Below.heap_setCell _ _ _ _ (fun e=>?_)
    obtain rfl:q=g:=e
    rcases hq with hq|hq|hq
    ·exact nb1 hq
    ·exact nbk hq
    ·exact nb2 hq
   have hle:k * t.n+t.n<=l.length * t.n:=by
    have:(k+1) * t.n<=l.length * t.n:=Nat.mul_le_mul_right _ (by omega)
    rw[Nat.add_mul] at this;omega
   refine .inr ⟨g,0,cap,cur.setIfInBounds (k * t.n+j) u,xs1++(c.set j u++xs2),b1++(bk++b2),rfl,by rw[List.length_set],aO5 u hh,by simpa using hc,hm,by simpa using hcs,?_,?_,rfl⟩
   ·rw[List.length_set,List.drop_zero,Array.toList_setIfInBounds,List.take_set,<- hx,he]
    rw[List.set_append_right _ _ (by omega),List.set_append_left _ _ (by omega)]
    congr 3
    omega
   ·refine oQ.join hk (by simpa using hcl) (hr1.mono (fun c y bb hq hy=>Un.keep _ _ _ _ (fun q hqb=>hsub q (.inl (hq q hqb))) hy)) (Un.keep _ _ _ _ (fun q hqb=>hsub q (.inr (.inl hqb))) hx') (hr2.mono (fun c y bb hq hy=>Un.keep _ _ _ _ (fun q hqb=>hsub q (.inr (.inr (hq q hqb)))) hy))
end
theorem aIU {t:Ty} {e:TypeId} {w:World} {cs:List Value} {l:List t.D} {bl:List Nat} (h:Un (.slice e t) w cs l bl):∃ p n q,cs=[.slice p n q]:=by
 rcases h with ⟨p,rfl,_⟩|⟨b,off,cap,cur,xs,bl',_,rfl,_⟩
 ·exact ⟨_,_,_,rfl⟩
 ·exact ⟨_,_,_,rfl⟩
theorem aL3 {t:Ty} {e:TypeId} {w:World} {p:Option Addr} {len cap:Nat} {l:List t.D} {bl:List Nat} (h:Un (.slice e t) w [.slice p len cap] l bl):len=l.length/\len<=maxLen:=by
 rcases h with ⟨p,hv,rfl,_⟩|⟨b,off,cap,cur,xs,bl',_,hv,_,hc,hm,_⟩
 ·simp only[List.cons.injEq,Value.slice.injEq,and_true] at hv
  exact ⟨hv.2.1,by rw[hv.2.1];exact Nat.zero_le _⟩
 ·simp only[List.cons.injEq,Value.slice.injEq,and_true] at hv
  exact ⟨hv.2.1,by rw[hv.2.1];exact Nat.le_trans hc hm⟩
def bDG (t:Ty) (w:World) (cs:List Value) (d:t.D) (bl:List Nat) (n:Int) (r:Ending) (w':World):Prop :=
 r = .returned (.int .i64 n)/\Un t w' cs d bl/\Only bl w w'
def cA6 (t:Ty) (w:World) (cs:List Value) (d:t.D) (bl:List Nat) (n:Int) (r:Ending) (w':World):Prop :=
 r = .returned (.int .i64 n)/\Un t w' cs d bl/\Only bl w w'
theorem vM (p:Option Addr) (len cap:Nat) (k0:Int) (l:List Int) (bl:List Nat) (w:World) (h:Un aA w [.slice p len cap] l bl) (hnd:bl.Nodup) (h0:0<=k0) (h1:k0+l.length<=1000000000000) :
  Calls Tryz.prog 43 #[.slice p len cap,.int .i64 k0] w (bDG aA w [.slice p len cap] (mk aA l k0) bl (k0+(jI aA l:Int))):=by
 obtain ⟨rfl,hmx⟩:=aL3 h
 have HL:=Lib.hid (aKJ l k0)
 unfold maxLen at hmx
 go_enter Tryz.func43,Tryz.ntmps43
 go_wp2
 go_loopw [1,5] (fun q i wr=>∃ k:Nat,k<=l.length/\i = .int .i64 k/\q = .int .i64 (k0+k)/\Only bl w wr/\Un aA wr [.slice p l.length cap] ((mk aA l k0:List Int).take k++l.drop k) bl) (fun _ i _=>l.length - (intOf i).toNat)
 case atStart=>exact ⟨0,by omega,rfl,by simp,Only.refl _ _,by simpa using h⟩
 case round =>
  obtain ⟨k,hk,rfl,rfl,hb,hf⟩:=hrel
  clear h
  by_cases hlt:k<l.length
  ·have hkk:k<((mk aA l k0:List Int).take k++l.drop k).length:=by simp only[List.length_append,List.length_take,List.length_drop,HL.out];omega
   obtain ⟨b,cap',c,bk,hv,hbm,-,hfz,hcl,hc,hR,-,-,-,-,hU⟩:=aQ8 hf hnd k hkk
   simp only[Value.slice.injEq] at hv
   obtain ⟨rfl,-,-⟩:=hv
   obtain ⟨rfl,_,rfl⟩:=hR
   have c1:wr.cell? ⟨b,k,none⟩=some (.int .i64 l[k]):=by
    have:=hc 0 (by simp)
    simp only[Ty.n,Nat.mul_one,Nat.add_zero,List.getElem_cons_zero] at this
    rw[this,aEW _ _ _ hlt HL.out]
   have c2:=hfz k
   have HU:=Lib.hid (hU 0 (.int .i64 (k0+k)) (k0+k) (by simp) ⟨rfl,aJA (by omega),rfl⟩)
   have HM:=Lib.hid (bOR l k0 k hlt)
   clear hU hc hfz hf
   go_wp2
   go_roundw
   case rel =>
    refine ⟨k+1,by omega,by go_num,by go_num,hb.setCell hbm _,?_⟩
    have h2:=HU.out
    rw[aJ0 _ _ _ hlt HL.out _ HM.out] at h2
    simpa [Ty.n] using h2
   case measure=>simp[intOf];omega
  ·go_wp2
   go_ret
   obtain rfl:k=l.length:=by omega
   refine ⟨iF (by rw[uW]),?_,hb⟩
   have e1:(mk aA l k0:List Int).take l.length++l.drop l.length=mk aA l k0:=by
    rw[List.drop_length,List.append_nil,List.take_of_length_le (by rw[HL.out];exact Nat.le_refl _)]
   rw[e1] at hf
   exact hf
theorem cU.own {e:TypeId} {t:Ty} {lo mid:Nat} {w:World} {v:Value} {l:List t.D} (h:cU (.slice e t) lo mid w [v] l):∀ g,v.ownBlock=some g->lo<=g/\g<mid:=by
 obtain ⟨bl,⟨v0,xs,bl',hv,_,_,rfl⟩,_,hin,_⟩:=h
 obtain rfl:v=v0:=by simpa using hv
 exact fun g hg=>hin g (by simp[hg])
theorem cU.slen {e:TypeId} {t:Ty} {lo mid:Nat} {w:World} {p:Option Addr} {len cap:Nat} {l:List t.D} (h:cU (.slice e t) lo mid w [.slice p len cap] l):len=l.length:=(cC7 h).lens
section
variable {P:Program}
end
section
variable {P:Program} (w:World)
end
section
variable {P:Program}
end
def Kp (lo hi:Nat) (w w':World):Prop:=(∀ b,lo<=b->b<hi->w'.heap[b]?=w.heap[b]?)/\w.heap.size<=w'.heap.size
theorem Kp.refl (lo hi:Nat) (w:World):Kp lo hi w w:=⟨fun _ _ _=>rfl,Nat.le_refl _⟩
theorem Kp.trans {lo hi:Nat} {a b c:World} (h:Kp lo hi a b) (k:Kp lo hi b c):Kp lo hi a c:=⟨fun q h1 h2=>(k.1 q h1 h2).trans (h.1 q h1 h2),Nat.le_trans h.2 k.2⟩
theorem Kp.drew {lo hi:Nat} {a w:World} (h:Kp lo hi a w):Kp lo hi a w.drew:=h
theorem Kp.alloc {lo hi:Nat} {a w:World} (h:Kp lo hi a w) (hs:hi<=w.heap.size) (o:Obj):Kp lo hi a (w.alloc o) :=
 h.trans ⟨fun b h1 h2=>Below.heap_alloc _ _ _ (by omega),by simp⟩
theorem Kp.setCell {lo hi:Nat} {a w:World} (h:Kp lo hi a w) {p:Addr} (hp:p.block<lo\/hi<=p.block) (v:Value):Kp lo hi a (w.setCell p v) :=
 h.trans ⟨fun b h1 h2=>Below.heap_setCell _ _ _ _ (by omega),by simp[World.setCell]⟩
theorem Kp.below {lo hi B:Nat} {a w w':World} (h:Kp lo hi a w) (hb:Below B w w') (hB:hi<=B):Kp lo hi a w' :=
 h.trans ⟨fun b h1 h2=>hb.block b (by omega),hb.size⟩
theorem Kp.only {lo hi:Nat} {bl:List Nat} {a w w':World} (h:Kp lo hi a w) (hb:Only bl w w') (hB:∀ b∈bl,b<lo\/hi<=b) (hs:hi<=w.heap.size):Kp lo hi a w' :=
 h.trans ⟨fun b h1 h2=>hb.block b (fun hm=>by have:=hB b hm;omega) (by omega),hb.size⟩
theorem cU.kp {t:Ty} {lo hi:Nat} {w w':World} {cs:List Value} {d:t.D} (h:cU t lo hi w cs d) (k:Kp lo hi w w'):cU t lo hi w' cs d:=h.keep k.1 k.2
theorem Only.bel {bl:List Nat} {B:Nat} {w w' w'':World} (h:Only bl w w') (k:Below B w' w'') (hB:w.heap.size<=B):Only bl w w'' :=
 ⟨k.os.trans h.os,k.tape.trans h.tape,k.output.trans h.output,Nat.le_trans h.size k.size,fun q hq hz=>(k.block q (by omega)).trans (h.block q hq hz)⟩
theorem bF2 {w:World} {o:Obj} {a:Addr} (h:a.block<w.heap.size):(w.alloc o).frozen? a=w.frozen? a:=World.frozen?_of_block (Below.heap_alloc _ _ _ h)
theorem aFD {e:TypeId} {t:Ty} {l1 l2:List t.D} (h:l1.Sublist l2):bC (.slice e t) l1<=bC (.slice e t) l2:=by
 rw[dL,dL]
 induction h with
 | slnil=>simp
 | cons a _ ih=>simp only[List.map_cons,List.sum_cons,List.length_cons];omega
 | cons_cons a _ ih=>simp only[List.map_cons,List.sum_cons,List.length_cons];omega
theorem aPI {α:Type} (f:α->Nat) (S:Nat):(l:List α)->(∀ x∈l,f x<=S)->(l.map f).sum<=l.length * S
 | [],_=>by simp
 | a :: l,h=>by
  have h1:=h a (by simp)
  have h2:=aPI f S l (fun x hx=>h x (by simp[hx]))
  simp only[List.map_cons,List.sum_cons,List.length_cons,Nat.add_mul];omega
def FrA (t:Ty) (lo hi:Nat) (w:World) (cs:List Value) (d:t.D):Prop :=
 ∃ bl,Un t w cs d bl/\bl.Nodup/\(∀ b∈bl,lo<=b/\b<hi)/\hi<=w.heap.size
def FrR (t:Ty) (lo hi:Nat) (w:World) (cs:List Value) (d:t.D):Prop :=
 kE (fun b=>lo<=b/\b<hi) t w cs d/\hi<=w.heap.size
theorem bUD {e:TypeId} {t:Ty} {w:World} {p:Option Addr} {len cap:Nat} {l:List t.D} (h:rd (.slice e t) w [.slice p len cap] l):jT t.n (rd t w) w p len cap l:=by
 obtain ⟨p',len',cap',hv,hs⟩:=h
 simp only[List.cons.injEq,Value.slice.injEq,and_true] at hv
 obtain ⟨rfl,rfl,rfl⟩:=hv
 exact hs
section
variable {t:Ty} {lo hi lo' hi':Nat} {w w':World} {cs:List Value} {d:t.D} {bl:List Nat}
theorem FrA.rd (h:FrA t lo hi w cs d):rd t w cs d:=by
 obtain ⟨bl,h,_⟩:=h
 exact kE.rd (fun b hb=>aF2 _ _ _ _ _ h b hb) (Un.rdg _ _ _ _ h)
theorem FrA.mono (h:FrA t lo hi w cs d) (h1:lo'<=lo) (h2:hi<=hi') (h3:hi'<=w.heap.size):FrA t lo' hi' w cs d:=by
 obtain ⟨bl,h,hn,hb,hs⟩:=h
 exact ⟨bl,h,hn,fun b hb'=>by have:=hb b hb';omega,h3⟩
theorem FrA.keep (h:FrA t lo hi w cs d) (hw:∀ b,lo<=b->b<hi->w'.heap[b]?=w.heap[b]?) (hs:w.heap.size<=w'.heap.size):FrA t lo hi w' cs d:=by
 obtain ⟨bl,h,hn,hb,hz⟩:=h
 exact ⟨bl,Un.keep _ _ _ _ (fun b hb'=>hw b (hb b hb').1 (hb b hb').2) h,hn,hb,by omega⟩
theorem FrA.hi_le (h:FrA t lo hi w cs d):hi<=w.heap.size:=h.choose_spec.2.2.2
theorem FrA.below {B:Nat} (h:FrA t lo hi w cs d) (hw:Below B w w') (hB:hi<=B):FrA t lo hi w' cs d:=h.keep (fun b _ h2=>hw.block b (by omega)) hw.size
theorem FrA.set1 (h:FrA t lo hi w cs d) {a:Addr} (ha:a.block<lo\/hi<=a.block) (v:Value):FrA t lo hi (w.setCell a v) cs d:=h.keep (fun b h1 h2=>Below.heap_setCell _ _ _ _ (by omega)) (by simp[World.setCell])
theorem FrA.alloc (h:FrA t lo hi w cs d) (o:Obj):FrA t lo hi (w.alloc o) cs d:=h.keep (fun b h1 h2=>Below.heap_alloc _ _ _ (by have:=h.hi_le;omega)) (by simp)
theorem FrA.only (h:FrA t lo hi w cs d) (hw:Only bl w w') (hb:∀ b∈bl,b<lo\/hi<=b):FrA t lo hi w' cs d :=
 h.keep (fun b h1 h2=>hw.block b (fun hm=>by have:=hb b hm;omega) (by have:=h.hi_le;omega)) hw.size
theorem FrA.kp (h:FrA t lo hi w cs d) (k:Kp lo hi w w'):FrA t lo hi w' cs d:=h.keep k.1 k.2
theorem FrA.un (h:FrA t lo hi w cs d):∃ bl,Un t w cs d bl/\bl.Nodup/\(∀ b∈bl,lo<=b/\b<hi):=by
 obtain ⟨bl,h1,h2,h3,_⟩:=h
 exact ⟨bl,h1,h2,h3⟩
theorem FrA.of_un (h:Un t w cs d bl) (hn:bl.Nodup) (hb:∀ b∈bl,lo<=b/\b<hi) (hz:hi<=w.heap.size):FrA t lo hi w cs d:=⟨bl,h,hn,hb,hz⟩
theorem cU.toA (h:cU t lo hi w cs d):FrA t lo hi w cs d:=by
 obtain ⟨bl,h,hn,hb,hs⟩:=h
 exact ⟨bl,Un.of_rep _ _ _ _ h,hn,hb,hs⟩
theorem cU.un (h:cU t lo hi w cs d):∃ bl,Un t w cs d bl/\bl.Nodup/\(∀ b∈bl,lo<=b/\b<hi):=h.toA.un
theorem FrR.rd (h:FrR t lo hi w cs d):rd t w cs d:=kE.rd (fun b hb=>by have:=h.2;omega) h.1
theorem FrR.mono (h:FrR t lo hi w cs d) (h1:lo'<=lo) (h2:hi<=hi') (h3:hi'<=w.heap.size):FrR t lo' hi' w cs d:=⟨h.1.mono (fun b hb=>by omega) (fun _ _=>rfl),h3⟩
theorem FrR.keep (h:FrR t lo hi w cs d) (hw:∀ b,lo<=b->b<hi->w'.heap[b]?=w.heap[b]?) (hs:w.heap.size<=w'.heap.size):FrR t lo hi w' cs d :=
 ⟨h.1.mono (fun b hb=>hb) (fun b hb=>hw b hb.1 hb.2),Nat.le_trans h.2 hs⟩
theorem FrR.hi_le (h:FrR t lo hi w cs d):hi<=w.heap.size:=h.2
theorem FrR.below {B:Nat} (h:FrR t lo hi w cs d) (hw:Below B w w') (hB:hi<=B):FrR t lo hi w' cs d:=h.keep (fun b _ h2=>hw.block b (by omega)) hw.size
theorem FrR.set1 (h:FrR t lo hi w cs d) {a:Addr} (ha:a.block<lo\/hi<=a.block) (v:Value):FrR t lo hi (w.setCell a v) cs d:=h.keep (fun b h1 h2=>Below.heap_setCell _ _ _ _ (by omega)) (by simp[World.setCell])
theorem FrR.alloc (h:FrR t lo hi w cs d) (o:Obj):FrR t lo hi (w.alloc o) cs d:=h.keep (fun b h1 h2=>Below.heap_alloc _ _ _ (by have:=h.hi_le;omega)) (by simp)
theorem FrR.only (h:FrR t lo hi w cs d) (hw:Only bl w w') (hb:∀ b∈bl,b<lo\/hi<=b):FrR t lo hi w' cs d :=
 h.keep (fun b h1 h2=>hw.block b (fun hm=>by have:=hb b hm;omega) (by have:=h.hi_le;omega)) hw.size
theorem FrR.kp (h:FrR t lo hi w cs d) (k:Kp lo hi w w'):FrR t lo hi w' cs d:=h.keep k.1 k.2
end
section
variable {e:TypeId} {t:Ty} {lo hi:Nat} {w:World} {p:Option Addr} {len cap:Nat} {l:List t.D}
theorem cU.sl (h:cU (.slice e t) lo hi w [.slice p len cap] l):jT t.n (Go.Proofs.YtlhaoiaieiladaaGreat.rd t w) w p len cap l:=bUD h.rd
theorem FrA.sl (h:FrA (.slice e t) lo hi w [.slice p len cap] l):jT t.n (Go.Proofs.YtlhaoiaieiladaaGreat.rd t w) w p len cap l:=bUD h.rd
theorem FrR.sl (h:FrR (.slice e t) lo hi w [.slice p len cap] l):jT t.n (Go.Proofs.YtlhaoiaieiladaaGreat.rd t w) w p len cap l:=bUD h.rd
end
def aHA:Ty->List Nat->Bool
 | .slice _ _,2 :: _=>true
 | .slice _ _,1 :: _=>true
 | .slice _ _,_=>false
 | .cD0 a b,fl=>aHA a fl&&aHA b (zQ a fl)
 | _,_=>true
section
variable {G G':Nat->Prop} {w w':World}
theorem mvR.rdg (hG:∀ b,G b->G' b):{t:Ty}->{fl:List Nat}->{cs:List Value}->{d:t.D}->{ob ub:List Nat}->mvR G w t fl cs d ob ub->(∀ b∈ob,G' b)->kE G' t w cs d:=by
 intro t
 induction t with
 | cD0 x y ihx ihy =>
  intro fl cs d ob ub h hb
  obtain ⟨c1,c2,o1,o2,u1,u2,rfl,rfl,rfl,h1,h2⟩:=h
  exact ⟨c1,c2,rfl,ihx h1 fun b h=>hb b (by simp[h]),ihy h2 fun b h=>hb b (by simp[h])⟩
 | slice e t ih =>
  intro fl cs d ob ub h hb
  rcases fl with _|⟨_|_|_|_|f,fl⟩
  ·exact h.2.2.mono hG (fun _ _=>rfl)
  ·exact h.2.2.mono hG (fun _ _=>rfl)
  ·exact h.2.2.mono hG (fun _ _=>rfl)
  ·obtain ⟨v,rfl,_,h1,h2,rfl⟩:=h
   refine h1.rd hG fun b n c h0 hv=>hb b ?_
   subst hv
   simp only[lL]
   rw[if_neg (by omega)]
   simp
  ·obtain ⟨v,rfl,_,h1,_,rfl⟩:=h
   refine h1.rd hG fun b n c h0 hv=>hb b ?_
   subst hv
   simp only[lL]
   rw[if_neg (by omega)]
   simp
  ·exact h.2.2.mono hG (fun _ _=>rfl)
 | int k=>intro fl cs d ob ub h hb;cases fl <;> exact h.2.2.mono hG (fun _ _=>rfl)
 | bool=>intro fl cs d ob ub h hb;cases fl <;> exact h.2.2.mono hG (fun _ _=>rfl)
 | str=>intro fl cs d ob ub h hb;cases fl <;> exact h.2.2.mono hG (fun _ _=>rfl)
theorem mvR.un : {t : Ty} -> {fl : List Nat} -> {cs : List Value} -> {d : t.D} -> {ob ub : List Nat} -> aHA t fl = true -> mvR G w t fl cs d ob ub -> ∃ bl, Un t w cs d bl /\ bl.Perm (ob ++ ub) := by
  intro t
  induction t with
  | cD0 x y ihx ihy =>
    intro fl cs d ob ub hf h
    simp only [aHA, Bool.and_eq_true] at hf
    obtain ⟨c1, c2, o1, o2, u1, u2, rfl, rfl, rfl, h1, h2⟩ := h
    obtain ⟨b1, p1, q1⟩ := ihx hf.1 h1
    obtain ⟨b2, p2, q2⟩ := ihy hf.2 h2
    refine ⟨b1 ++ b2, ⟨c1, c2, b1, b2, rfl, rfl, p1, p2⟩, (q1.append q2).trans ?_⟩
    rw [List.append_assoc, List.append_assoc]
    refine List.Perm.append_left o1 ?_
    rw [<- List.append_assoc, <- List.append_assoc]
    exact List.perm_append_comm.append_right u2
  | slice e t ih =>
    intro fl cs d ob ub hf h
    rcases fl with _ | ⟨_ | _ | _ | f, fl⟩
    · cases hf
    · cases hf
    · obtain ⟨rfl, h1, _⟩ := h
      exact ⟨ub, h1, by simp⟩
    · obtain ⟨v, rfl, _, h1, h2, rfl⟩ := h
      rcases h1 with ⟨p, rfl, rfl⟩ | ⟨b, cap, cur, rfl, h0, hh, k1, k2, k3, k4⟩
      · rcases h2 with ⟨p', _, rfl⟩ | ⟨b, n, cap, cur, hv, h0, _⟩
        · exact ⟨[], .inl ⟨p, rfl, rfl, rfl⟩, by cases p <;> simp [lL]⟩
        · simp only [Value.slice.injEq] at hv; omega
      · rcases h2 with ⟨p', hv, rfl⟩ | ⟨b', n, cap', cur', hv, _, hh', hr⟩
        · simp only [Value.slice.injEq] at hv; omega
        · simp only [Value.slice.injEq, fL, Addr.mk.injEq, and_true] at hv
          obtain ⟨rfl, rfl, rfl⟩ := hv
          rw [hh] at hh'
          simp only [fL, Obj.cells.injEq, true_and, and_true] at hh'
          subst hh'
          refine ⟨b :: ub, .inr ⟨b, 0, cap, cur, _, ub, rfl, rfl, hh, k1, k2, ?_, by rw [List.drop_zero], hr, rfl⟩, ?_⟩
          · rw [Nat.zero_add, k3]; exact Nat.mul_le_mul_right _ k1
          · simp only [lL]
            rw [if_neg (by omega)]
            exact .refl _
    · cases hf
  | int k => intro fl cs d ob ub hf h; obtain ⟨rfl, rfl, h'⟩ : ob = [] /\ ub = [] /\ kE G (.int k) w cs d := by cases fl <;> exact h
             exact ⟨[], ⟨h'.1, h'.2, rfl⟩, .refl _⟩
  | bool => intro fl cs d ob ub hf h; obtain ⟨rfl, rfl, h'⟩ : ob = [] /\ ub = [] /\ kE G .bool w cs d := by cases fl <;> exact h
            exact ⟨[], ⟨h', rfl⟩, .refl _⟩
  | str => intro fl cs d ob ub hf h; obtain ⟨rfl, rfl, h'⟩ : ob = [] /\ ub = [] /\ kE G .str w cs d := by cases fl <;> exact h
           exact ⟨[], ⟨h'.1, h'.2, rfl⟩, .refl _⟩
end
def fD (w:World):List AM->List Value->List SV->Prop
 | [],vs,ds=>vs=[]/\ds=[]
 | .val m :: ms,vs,ds=>∃ v vs' d ds',vs=v :: vs'/\ds=d :: ds'/\(m.fl.any (· != 0))=false/\v=mkV m.ag v.cells.toList/\rd m.t w v.cells.toList (d.as m.t)/\fD w ms vs' ds'
 | .box _ _ :: _,_,_=>False
theorem fD.ams {w:World} {G:Nat->Prop} (hG:∀ b,b<w.heap.size->G b):{ms:List AM}->{vs:List Value}->{ds:List SV}->fD w ms vs ds->aEQ G w ms vs ds [] []/\wH ms vs=[]/\yT ms=[]
 | [],_,_,⟨h1,h2⟩=>⟨⟨h1,rfl,rfl⟩,rfl,rfl⟩
 | .val m :: ms,_,_,⟨v,vs',d,ds',rfl,rfl,hf,hv,hr,h⟩=>by
  obtain ⟨i1,i2,i3⟩:=fD.ams hG h
  exact ⟨⟨v,vs',d,ds',[],[],[],[],rfl,rfl,rfl,rfl,hv,bBB hf ((kE.of_rd hr).mono hG (fun _ _=>rfl)),i1⟩,i2,i3⟩
 | .box _ _ :: _,_,_,h=>h.elim
def bPY (m:MV) (w:World) (R:m.t.D) (e:Ending) (w':World):Prop :=
 ∃ r:Value,e = .returned r/\r=mkV m.ag r.cells.toList/\FrR m.t w.heap.size w'.heap.size w' r.cells.toList R/\(aHA m.t m.fl=true->FrA m.t w.heap.size w'.heap.size w' r.cells.toList R)/\Below w.heap.size w w'
def cBD (t:Ty) (w:World) (d:t.D) (r:Ending) (w':World):Prop:=∃ cs:Array Value,r = .returned (.agg cs)/\FrA t w.heap.size w'.heap.size w' cs.toList d/\Below w.heap.size w w'
def cBB (t:Ty) (w:World) (d:t.D) (r:Ending) (w':World):Prop:=∃ cs:Array Value,r = .returned (.agg cs)/\FrR t w.heap.size w'.heap.size w' cs.toList d/\Below w.heap.size w w'
theorem bPY.agA {m:MV} (hm:m.ag=true) (hf:aHA m.t m.fl=true) {w w':World} {R:m.t.D} {e:Ending} (h:bPY m w R e w'):cBD m.t w R e w':=by
 obtain ⟨r,h1,h2,h3,h4,h5⟩:=h
 rw[hm] at h2
 exact ⟨r.cells,by rw[h1];exact congrArg _ (h2.trans (by simp[mkV])),h4 hf,h5⟩
theorem bPY.agR {m:MV} (hm:m.ag=true) {w w':World} {R:m.t.D} {e:Ending} (h:bPY m w R e w'):cBB m.t w R e w':=by
 obtain ⟨r,h1,h2,h3,h4,h5⟩:=h
 rw[hm] at h2
 exact ⟨r.cells,by rw[h1];exact congrArg _ (h2.trans (by simp[mkV])),h3,h5⟩
def aIJ (w w':World) (m:MV) (r:Value) (R:m.t.D) (bl:List Nat):Prop :=
 r=mkV m.ag r.cells.toList/\FrR m.t w.heap.size w'.heap.size w' r.cells.toList R/\(aHA m.t m.fl=true->Un m.t w' r.cells.toList R bl)
def tT (w w':World):List MV->List Value->List SV->List Nat->Prop
 | [],rs,_,bl=>rs=[]/\bl=[]
 | m :: ms,rs,d :: ds,bl=>∃ r rs' b1 b2,rs=r :: rs'/\bl=b1++b2/\aIJ w w' m r (d.as m.t) b1/\tT w w' ms rs' ds b2
 | _ :: _,_,[],_=>False
def bVU (ms:List MV) (w:World) (ds:List SV) (e:Ending) (w':World):Prop :=
 ∃ rs bl,e = .returned (aP1 rs)/\tT w w' ms rs ds bl/\bl.Nodup/\(∀ b∈bl,w.heap.size<=b/\b<w'.heap.size)/\Below w.heap.size w w'
theorem aTD:(ts:List Ty)->(d:(cV ts).D)->(fW ts d).length=ts.length
 | [],_=>rfl
 | [_],_=>rfl
 | _ :: u :: ts,d=>congrArg (· + 1) (aTD (u :: ts) d.2)
theorem aEQ.outs {G:Nat->Prop} {w w':World} (hG:∀ b,G b->w.heap.size<=b/\b<w'.heap.size):{ms:List MV}->{rs:List Value}->{ds:List SV}->{ob ub:List Nat}->aEQ G w' (ms.map .val) rs ds ob ub ->
  (∀ b∈ob,w.heap.size<=b/\b<w'.heap.size)->∃ bl,tT w w' ms rs ds bl/\bl.Perm (ob++ub)
 | [],rs,ds,ob,ub,h,hb=>by
  obtain ⟨rfl,rfl,rfl⟩:=h
  exact ⟨[],⟨rfl,rfl⟩,.refl _⟩
 | m :: ms,rs,ds,ob,ub,h,hb=>by
  obtain ⟨v,vs',d,ds',o1,o2,u1,u2,rfl,rfl,rfl,rfl,h1,h2,h3⟩:=h
  obtain ⟨b2,q1,q2⟩:=aEQ.outs hG h3 (fun b hb'=>hb b (List.mem_append.2 (.inr hb')))
  have hr:FrR m.t w.heap.size w'.heap.size w' v.cells.toList (d.as m.t):=⟨h2.rdg hG (fun b hb'=>hb b (List.mem_append.2 (.inl hb'))),Nat.le_refl _⟩
  have hp:∀ {b1:List Nat},b1.Perm (o1++u1)->(b1++b2).Perm (o1++o2++(u1++u2)):=fun h=>by
   refine (h.append q2).trans ?_
   rw[List.append_assoc,List.append_assoc]
   refine List.Perm.append_left o1 ?_
   rw[<- List.append_assoc,<- List.append_assoc]
   exact List.perm_append_comm.append_right u2
  cases hf:aHA m.t m.fl with
  | false=>exact ⟨_,⟨v,vs',o1++u1,b2,rfl,rfl,⟨h1,hr,fun h=>by rw[hf] at h;cases h⟩,q1⟩,hp (.refl _)⟩
  | true =>
   obtain ⟨b1,p1,p2⟩:=h2.un hf
   exact ⟨_,⟨v,vs',b1,b2,rfl,rfl,⟨h1,hr,fun _=>p1⟩,q1⟩,hp p2⟩
theorem Con.Holds.givesL {P:Program} {C:Con} (h:Con.Holds P C) (hal:C.alias=false) {x:C.argTy.D} (hp:C.pre x) (hx:okD C.argTy x) {w:World} {vs:List Value} (ha:fD w C.ams vs (fW (C.ams.map (·.mv.t)) (SV.as _ ⟨C.argTy,x⟩))) (hbx:C.bx=none:=by rfl) (ht:bEX.p w:=by exact bIY _) :
  Calls P C.f vs.toArray w (bVU C.rms w (fW (C.rms.map (·.t)) (SV.as _ ⟨C.resTy,C.fn x⟩))):=by
 let X:Cx:=⟨fun _=>False,[],[],w,fun _ h=>h.elim,⟨ht,by simp⟩⟩
 obtain ⟨a1,a2,a3⟩:=ha.ams (G:=Gd X [] w false) fun b hb=>⟨hb,by simp,fun h=>h,fun h=>by cases h⟩
 refine Calls.mono' (h.run X vs x [] [] hp hx rfl rfl (by simp) (fun b hb=>by simp at hb) a1) fun e w' ⟨v,he,hg⟩=>?_
 obtain ⟨rs,o1,u1,o2,u2,hv,hf,g1,g2,g3,g4,g5⟩:=hg
 rw[a2] at g2
 rw[Con.ras_none hbx] at g1
 obtain ⟨rfl,rfl⟩:=g2
 have hq:∀ bs:List MV,bs=[]->List.take C.rms.length (fW (List.map (fun x=>x.t) (C.rms++bs)) (SV.as (cV (List.map (fun x=>x.t) (C.rms++bs))) ⟨C.resTy,C.fn x⟩))=fW (C.rms.map (·.t)) (SV.as _ ⟨C.resTy,C.fn x⟩):=fun bs h=>by
  subst h
  rw[List.append_nil]
  exact List.take_of_length_le (by rw[aTD];simp)
 rw[hq _ a3] at g1
 simp only[List.append_nil] at g1 g3 g4 g5
 rw[hal] at g1
 have hB:∀ b,Gd X o1 w' (!false) b->w.heap.size<=b/\b<w'.heap.size:=fun b hb=>by
  have:=hb.2.2.2 rfl
  simp only[Cx.F0,X,List.append_nil,List.not_mem_nil,or_false] at this
  exact ⟨this,hb.1⟩
 have hO:∀ b∈o1,w.heap.size<=b/\b<w'.heap.size:=fun b hb=>by
  obtain ⟨h1,h2,h3⟩:=g4 b hb
  simp only[X,List.not_mem_nil,or_false] at h2
  exact ⟨h2,h1⟩
 obtain ⟨bl,q1,q2⟩:=g1.outs hB hO
 refine ⟨rs,bl,by rw[he,hv],q1,q2.nodup_iff.2 g3,fun b hb=>?_,⟨hf.os,hf.tape,hf.output,hf.size,fun k hk=>hf.block k hk (by simp[X])⟩⟩
 have:=q2.mem_iff.1 hb
 rw[List.mem_append] at this
 rcases this with h1|h1
 ·exact hO b h1
 ·have hg:=g5 b h1
  have h2:=hg.2.2.2 rfl
  simp only[Cx.F0,X,List.append_nil,List.not_mem_nil,or_false] at h2
  exact ⟨h2,hg.1⟩
section
variable {w w':World} {r:Value} {bl:List Nat} {fl:List Nat}
theorem aIJ.int {k:IntKind} {R:Int} (h:aIJ w w' ⟨false,.int k,fl⟩ r R bl):r = .int k R:=by
 have h1:=h.1
 rw[h.2.1.1.1] at h1
 exact h1
theorem aIJ.bool {R:Bool} (h:aIJ w w' ⟨false,.bool,fl⟩ r R bl):r = .bool R:=by
 have h1:=h.1
 rw[show r.cells.toList=[.bool R] from h.2.1.1] at h1
 exact h1
theorem aIJ.str {R:ByteArray} (h:aIJ w w' ⟨false,.str,fl⟩ r R bl):r = .string R:=by
 have h1:=h.1
 rw[h.2.1.1.1] at h1
 exact h1
theorem aIJ.agR {t:Ty} {R:t.D} (h:aIJ w w' ⟨true,t,fl⟩ r R bl):r = .agg r.cells/\FrR t w.heap.size w'.heap.size w' r.cells.toList R:=⟨h.1.trans (by simp[mkV]),h.2.1⟩
theorem aIJ.agA {t:Ty} {R:t.D} (h:aIJ w w' ⟨true,t,fl⟩ r R bl) (hf:aHA t fl=true) (hn:bl.Nodup) (hb:∀ b∈bl,w.heap.size<=b/\b<w'.heap.size):r = .agg r.cells/\FrA t w.heap.size w'.heap.size w' r.cells.toList R :=
 ⟨h.1.trans (by simp[mkV]),bl,h.2.2 hf,hn,hb,Nat.le_refl _⟩
theorem aIJ.slR {e:TypeId} {t:Ty} {R:List t.D} (h:aIJ w w' ⟨false,.slice e t,fl⟩ r R bl):∃ p cap,r = .slice p R.length cap/\FrR (.slice e t) w.heap.size w'.heap.size w' [.slice p R.length cap] R:=by
 have h1:=h.1
 obtain ⟨p,len,cap,hc,hs⟩:=h.2.1.rd
 have hl:len=R.length:=hs.lens
 subst hl
 rw[hc] at h1
 refine ⟨p,cap,h1,?_⟩
 rw[<- hc]
 exact h.2.1
theorem aIJ.slA {e:TypeId} {t:Ty} {R:List t.D} (h:aIJ w w' ⟨false,.slice e t,fl⟩ r R bl) (hf:aHA (.slice e t) fl=true) (hn:bl.Nodup) (hb:∀ b∈bl,w.heap.size<=b/\b<w'.heap.size):∃ p cap,r = .slice p R.length cap/\FrA (.slice e t) w.heap.size w'.heap.size w' [.slice p R.length cap] R:=by
 have h1:=h.1
 obtain ⟨p,len,cap,hc,hs⟩:=h.2.1.rd
 have hl:len=R.length:=hs.lens
 subst hl
 rw[hc] at h1
 refine ⟨p,cap,h1,?_⟩
 rw[<- hc]
 exact ⟨bl,h.2.2 hf,hn,hb,Nat.le_refl _⟩
end
theorem fD.cons {w:World} {m:MV} {ms:List AM} {vs:List Value} {ds:List SV} {v:Value} {y:m.t.D} (hf:(m.fl.any (· != 0))=false) (hv:v=mkV m.ag v.cells.toList) (hr:rd m.t w v.cells.toList y) (hn:fD w ms vs ds) :
 fD w (.val m :: ms) (v :: vs) (⟨m.t,y⟩ :: ds):=⟨v,vs,⟨m.t,y⟩,ds,rfl,rfl,hf,hv,by rw[SV.as_self];exact hr,hn⟩
theorem fD.nil {w:World}:fD w [] [] []:=⟨rfl,rfl⟩
theorem tT.inv {w w':World} {m:MV} {ms:List MV} {rs:List Value} {y:m.t.D} {ds:List SV} {bl:List Nat} (h:tT w w' (m :: ms) rs (⟨m.t,y⟩ :: ds) bl) :
  ∃ r rs' b1 b2,rs=r :: rs'/\bl=b1++b2/\aIJ w w' m r y b1/\tT w w' ms rs' ds b2:=by
 obtain ⟨r,rs',b1,b2,h1,h2,h3,h4⟩:=h
 rw[SV.as_self] at h3
 exact ⟨r,rs',b1,b2,h1,h2,h3,h4⟩
def bR2:(t:Ty)->t.D->Prop
 | .slice _ t,l=>List.length l<=1000000000/\∀ x∈(l:List t.D),bR2 t x
 | .cD0 a b,x=>bR2 a x.1/\bR2 b x.2
 | .int _,_=>True
 | .bool,_=>True
 | .str,_=>True
theorem aS6 {e:TypeId} {t:Ty} {l:List t.D} {x:t.D} (h:x∈l):bC t x<=bC (.slice e t) l:=by
 obtain ⟨k,hk,rfl⟩:=List.mem_iff_getElem.1 h
 rw[dL]
 have:=aOX (bC t) l k hk
 omega
theorem wE {e:TypeId} {t:Ty} (l:List t.D):List.length l<=bC (.slice e t) l:=by rw[dL];omega
theorem jT.toRd {e:TypeId} {t:Ty} {w:World} {p:Option Addr} {len cap:Nat} {l:List t.D} (h:jT t.n (rd t w) w p len cap l):rd (.slice e t) w [.slice p len cap] l:=⟨p,len,cap,rfl,h⟩
def bQ9:List AM->Bool
 | []=>true
 | .val m :: ms=>!(m.fl.any (· != 0))&&bQ9 ms
 | .box _ _ :: _=>false
theorem bXL:(t:Ty)->(fl:List Nat)->(fl.any (· != 0))=false->((zQ t fl).any (· != 0))=false:=by
 intro t
 induction t with
 | cD0 x y ihx ihy=>intro fl h;exact ihy _ (ihx _ h)
 | _=>intro fl h;cases fl with
  | nil=>rfl
  | cons f fl=>simp only[List.any_cons,Bool.or_eq_false_iff] at h;exact h.2
section
variable {G:Nat->Prop} {w:World}
theorem aWL:{t:Ty}->{fl:List Nat}->{cs:List Value}->{d:t.D}->{ob ub:List Nat}->(fl.any (· != 0))=false->mvR G w t fl cs d ob ub->ob=[]/\ub=[]/\kE G t w cs d:=by
 intro t
 induction t with
 | cD0 x y ihx ihy =>
  intro fl cs d ob ub hf h
  obtain ⟨c1,c2,o1,o2,u1,u2,rfl,rfl,rfl,h1,h2⟩:=h
  obtain ⟨rfl,rfl,r1⟩:=ihx hf h1
  obtain ⟨rfl,rfl,r2⟩:=ihy (bXL x fl hf) h2
  exact ⟨rfl,rfl,c1,c2,rfl,r1,r2⟩
 | slice e t ih =>
  intro fl cs d ob ub hf h
  rcases fl with _|⟨_|_|_|_|f,fl⟩
  ·exact h
  ·exact h
  ·simp at hf
  ·simp at hf
  ·simp at hf
  ·exact h
 | int k=>intro fl cs d ob ub hf h;cases fl <;> exact h
 | bool=>intro fl cs d ob ub hf h;cases fl <;> exact h
 | str=>intro fl cs d ob ub hf h;cases fl <;> exact h
theorem bDC (hG:∀ b,G b->b<w.heap.size):{ms:List AM}->{vs:List Value}->{ds:List SV}->{ob ub:List Nat}->bQ9 ms=true->ds.length=ms.length->aEQ G w ms vs ds ob ub->fD w ms vs ds/\ob=[]/\ub=[]/\wH ms vs=[]/\yT ms=[]
 | [],vs,ds,ob,ub,_,hl,h=>by
  obtain ⟨rfl,rfl,rfl⟩:=h
  exact ⟨⟨rfl,List.eq_nil_of_length_eq_zero hl⟩,rfl,rfl,rfl,rfl⟩
 | .val m :: ms,vs,ds,ob,ub,hr,hl,h=>by
  simp only[bQ9,Bool.and_eq_true,Bool.not_eq_true'] at hr
  obtain ⟨v,vs',d,ds',o1,o2,u1,u2,rfl,rfl,rfl,rfl,h1,h2,h3⟩:=h
  obtain ⟨rfl,rfl,r⟩:=aWL hr.1 h2
  obtain ⟨i1,rfl,rfl,i4,i5⟩:=bDC hG hr.2 (by simpa using hl) h3
  exact ⟨⟨v,vs',d,ds',rfl,rfl,hr.1,h1,kE.rd hG r,i1⟩,rfl,rfl,i4,i5⟩
 | .box _ _ :: _,_,_,_,_,hr,_,_=>by cases hr
def aKW:Ty->List Nat->Bool
 | .slice _ _,1 :: _=>true
 | .slice _ _,_=>false
 | .cD0 a b,fl=>aKW a fl&&aKW b (zQ a fl)
 | _,_=>true
theorem bRI:(t:Ty)->(fl:List Nat)->aKW t fl=true->aHA t fl=true:=by
 intro t
 induction t with
 | cD0 x y ihx ihy=>intro fl h;simp only[aKW,aHA,Bool.and_eq_true] at h ⊢;exact ⟨ihx _ h.1,ihy _ h.2⟩
 | slice e t ih=>intro fl h;rcases fl with _|⟨_|_|_|f,fl⟩ <;> simp_all[aKW,aHA]
 | _=>intro fl h;rfl
theorem bY5 (hG:∀ b,b<w.heap.size->True):{t:Ty}->{fl:List Nat}->{cs:List Value}->{d:t.D}->{bl:List Nat}->aKW t fl=true->(∀ b∈bl,G b)->Un t w cs d bl->mvR G w t fl cs d [] bl:=by
 intro t
 induction t with
 | cD0 x y ihx ihy =>
  intro fl cs d bl hf hb h
  simp only[aKW,Bool.and_eq_true] at hf
  obtain ⟨c1,c2,b1,b2,rfl,rfl,h1,h2⟩:=h
  exact ⟨c1,c2,[],[],b1,b2,rfl,rfl,rfl,ihx hf.1 (fun b h=>hb b (by simp[h])) h1,ihy hf.2 (fun b h=>hb b (by simp[h])) h2⟩
 | slice e t ih =>
  intro fl cs d bl hf hb h
  rcases fl with _|⟨_|_|_|f,fl⟩
  ·cases hf
  ·cases hf
  ·exact ⟨rfl,h,(Un.rdg _ _ _ _ h).mono hb (fun _ _=>rfl)⟩
  ·cases hf
  ·cases hf
 | int k=>intro fl cs d bl hf hb h;obtain ⟨h1,h2,rfl⟩:=h;cases fl <;> exact ⟨rfl,rfl,h1,h2⟩
 | bool=>intro fl cs d bl hf hb h;obtain ⟨h1,rfl⟩:=h;cases fl <;> exact ⟨rfl,rfl,h1⟩
 | str=>intro fl cs d bl hf hb h;obtain ⟨h1,h2,rfl⟩:=h;cases fl <;> exact ⟨rfl,rfl,h1,h2⟩
def bQT (m:MV):Bool:=!(m.fl.any (· != 0)) || aKW m.t m.fl
theorem bIT {w':World} (hG:∀ b,w.heap.size<=b->b<w'.heap.size->G b):{ms:List MV}->{rs:List Value}->{ds:List SV}->{bl:List Nat}->ms.all bQT=true->tT w w' ms rs ds bl->(∀ b∈bl,w.heap.size<=b/\b<w'.heap.size)->bl.Nodup ->
  ∃ ub,aEQ G w' (ms.map .val) rs (ds.take ms.length) [] ub/\ub.Nodup/\(∀ b∈ub,b∈bl)
 | [],rs,ds,bl,_,h,hb,hn=>by
  obtain ⟨rfl,rfl⟩:=h
  exact ⟨[],⟨rfl,rfl,rfl⟩,by simp,by simp⟩
 | m :: ms,rs,[],bl,_,h,hb,hn=>h.elim
 | m :: ms,rs,d :: ds,bl,hm,h,hb,hn=>by
  simp only[List.all_cons,Bool.and_eq_true] at hm
  obtain ⟨r,rs',b1,b2,rfl,rfl,h1,h2⟩:=h
  rw[List.nodup_append] at hn
  obtain ⟨n1,n2,n3⟩:=hn
  obtain ⟨ub,i1,i2,i3⟩:=bIT hG hm.2 h2 (fun b h=>hb b (by simp[h])) n2
  obtain ⟨o1,o2,o3⟩:=h1
  rcases Bool.or_eq_true_iff.1 hm.1 with ho|ho
  ·refine ⟨ub,⟨r,rs',d,_,[],[],[],ub,rfl,rfl,rfl,rfl,o1,?_,i1⟩,i2,fun b h=>by simp[i3 b h]⟩
   exact bBB (by simpa using ho) (o2.1.mono (fun b h=>hG b h.1 h.2) (fun _ _=>rfl))
  ·refine ⟨b1++ub,⟨r,rs',d,_,[],[],b1,ub,rfl,rfl,rfl,rfl,o1,?_,i1⟩,?_,fun b h=>?_⟩
   ·exact bY5 (fun _ _=>trivial) ho (fun b h=>hG b (hb b (by simp[h])).1 (hb b (by simp[h])).2) (o3 (bRI _ _ ho))
   ·rw[List.nodup_append]
    exact ⟨n1,i2,fun a ha b hb e=>n3 a ha b (i3 b hb) e⟩
   ·rw[List.mem_append] at h ⊢
    exact h.imp id (i3 b)
end
theorem Con.holds_walk {P:Program} {C:Con} (hal:C.alias=false) (hbx:C.bx=none) (hro:bQ9 C.ams=true) (hr1:C.rms.all bQT=true)
  (ok:∀ x:C.argTy.D,C.pre x->okD C.argTy x->okD C.resTy (C.fn x))
  (fn:∃ f,P.funcs[C.f]?=some f/\(f.name == "runtime.NumGoroutine")=false/\f.body.isNone=false)
  (run:∀ (w:World) (vs:List Value) (x:C.argTy.D),bEX.p w->C.pre x->okD C.argTy x->fD w C.ams vs (fW (C.ams.map (·.mv.t)) (SV.as _ ⟨C.argTy,x⟩)) ->
   Calls P C.f vs.toArray w (bVU C.rms w (fW (C.rms.map (·.t)) (SV.as _ ⟨C.resTy,C.fn x⟩)))):Con.Holds P C:=by
 refine ⟨ok,fn,fun X vs x ob ub hp hx ho hu hn hb ha=>?_⟩
 obtain ⟨a1,rfl,rfl,a4,a5⟩:=bDC (fun b hb=>hb.1) hro (by rw[aTD];simp) ha
 refine Calls.mono' (run X.w0 vs x X.tb.1 hp hx a1) fun e w' hg=>?_
 obtain ⟨rs,bl,he,hO,hnd,hbl,hB⟩:=hg
 refine ⟨aP1 rs,he,?_⟩
 have hG:∀ b,X.w0.heap.size<=b->b<w'.heap.size->Gd X [] w' (!C.alias) b:=fun b h1 h2 =>
  ⟨h2,by simp,fun hA=>by have:=X.hA b hA;omega,fun _=>.inl h1⟩
 obtain ⟨ub,q1,q2,q3⟩:=bIT hG hr1 hO hbl hnd
 have hq:∀ bs:List MV,bs=[]->fW (List.map (fun x=>x.t) (C.rms++bs)) (SV.as (cV (List.map (fun x=>x.t) (C.rms++bs))) ⟨C.resTy,C.fn x⟩)=fW (C.rms.map (·.t)) (SV.as _ ⟨C.resTy,C.fn x⟩):=fun bs h=>by
  subst h
  rw[List.append_nil]
 refine ⟨rs,[],ub,[],[],rfl,⟨hB.os,hB.tape,hB.output,hB.size,fun b h1 _=>hB.block b h1⟩,?_,?_,?_,by simp,fun b hb=>?_⟩
 ·rw[hq _ a5,Con.ras_none hbx]
  simp only[List.append_nil]
  exact q1
 ·rw[a4]
  exact ⟨rfl,rfl⟩
 ·simpa using q2
 ·have:=q3 b (by simpa using hb)
  have h3:=hbl b this
  exact ⟨h3.2,by simp,fun hA=>by have:=X.hA b hA;omega,fun _=>.inl h3.1⟩
inductive Out where
 | ret (v:SV)
 | ag (d:Nat) (v:SV)
def Out.pop:Out->Option Out
 | .ret v=>some (.ret v)
 | .ag (d+1) v=>some (.ag d v)
 | .ag 0 _=>none
def aUG {α:Type} (as':SV->α) (R:α->Out->Prop):Nat->α->Out->Prop
 | 0,x,o=>∃ o',R x o'/\o'.pop=some o
 | n+1,x,o=>∃ v,R x (.ag 0 v)/\aUG as' R n (as' v) o
def T.out (Cs:List Con):T->List SV->Out->Prop
 | .cD1 p a k,env,o=>k.out Cs (env++[⟨p.oty,p.fn ((a.val env).as p.ity)⟩]) o
 | .call c a k,env,o=>match Cs[c]? with
  | some C=>k.out Cs (env++[⟨C.resTy,C.fn ((a.val env).as C.argTy)⟩]) o
  | none=>False
 | .ite a x y,env,o=>((a.val env).as .bool=true/\x.out Cs env o)\/((a.val env).as .bool=false/\y.out Cs env o)
 | .loop t a b,env,o=>∃ n,aUG (fun v:SV=>v.as t) (fun x o=>b.out Cs (env++[⟨t,x⟩]) o) n ((a.val env).as t) o
 | .cD3 d a,env,o=>o = .ag d (a.val env)
 | .ret a,env,o=>o = .ret (a.val env)
theorem bDK {α:Type} {as':SV->α} {R:α->Out->Prop} (hR:∀ x o1 o2,R x o1->R x o2->o1=o2):(n m:Nat)->{x:α}->{o1 o2:Out}->aUG as' R n x o1->aUG as' R m x o2->o1=o2
 | 0,0,x,o1,o2,⟨p,h1,h2⟩,⟨q,k1,k2⟩=>by
  have:=hR _ _ _ h1 k1
  subst this
  rw[h2] at k2
  exact Option.some.inj k2
 | 0,m+1,x,o1,o2,⟨p,h1,h2⟩,⟨v,k1,k2⟩=>by
  have:=hR _ _ _ h1 k1
  subst this
  cases h2
 | n+1,0,x,o1,o2,⟨v,k1,k2⟩,⟨p,h1,h2⟩=>by
  have:=hR _ _ _ h1 k1
  subst this
  cases h2
 | n+1,m+1,x,o1,o2,⟨v,h1,h2⟩,⟨u,k1,k2⟩=>by
  have:=hR _ _ _ h1 k1
  simp only[Out.ag.injEq,true_and] at this
  subst this
  exact bDK hR n m h2 k2
theorem T.out_det (Cs:List Con):(t:T)->{env:List SV}->{o1 o2:Out}->t.out Cs env o1->t.out Cs env o2->o1=o2
 | .cD1 p a k,env,o1,o2,h1,h2=>T.out_det Cs k h1 h2
 | .call c a k,env,o1,o2,h1,h2=>by
  simp only[T.out] at h1 h2
  split at h1
  ·exact T.out_det Cs k h1 (by rename_i C hc;rw[hc] at h2;exact h2)
  ·exact h1.elim
 | .ite a x y,env,o1,o2,h1,h2=>by
  rcases h1 with ⟨a1,h1⟩|⟨a1,h1⟩ <;> rcases h2 with ⟨a2,h2⟩|⟨a2,h2⟩
  ·exact T.out_det Cs x h1 h2
  ·rw[a1] at a2;cases a2
  ·rw[a1] at a2;cases a2
  ·exact T.out_det Cs y h1 h2
 | .loop t a b,env,o1,o2,⟨n,h1⟩,⟨m,h2⟩=>bDK (as':=fun v:SV=>v.as t) (R:=fun x o=>b.out Cs (env++[⟨t,x⟩]) o) (fun x o1 o2 k1 k2=>T.out_det Cs b k1 k2) n m h1 h2
 | .cD3 d a,env,o1,o2,h1,h2=>h1.trans h2.symm
 | .ret a,env,o1,o2,h1,h2=>h1.trans h2.symm
def Out.sat (L:List (SV->Prop)) (Q:SV->Prop):Out->Prop
 | .ret v=>Q v
 | .ag d v=>∃ I,L[d]?=some I/\I v
theorem T.out_of (Cs:List Con) (hC:∀ (c:Nat) (C:Con),Cs[c]?=some C->∀ x:C.argTy.D,C.pre x->okD C.argTy x->okD C.resTy (C.fn x)):(t:T)->t.okB=true->∀ {env:List SV} {L:List (SV->Prop)} {Q:SV->Prop},(∀ v∈env,v.okv)->t.wp Cs env L Q ->
  ∃ o,t.out Cs env o/\o.sat L Q/\(∀ v,o = .ret v->v.okv)/\(∀ d v,o = .ag d v->v.okv)
 | .cD1 p a k,hb,env,L,Q,he,h=>by
  simp only[T.okB,Bool.and_eq_true] at hb
  have ho:=aXY p hb.1.2 _ (vO (Ar.okv he a hb.1.1)) h.1
  refine T.out_of Cs hC k hb.2 (fun v hv=>?_) (h.2 ho)
  rw[List.mem_append,List.mem_singleton] at hv
  rcases hv with hv|rfl
  ·exact he v hv
  ·exact ho
 | .call c a k,hb,env,L,Q,he,h=>by
  simp only[T.okB,Bool.and_eq_true] at hb
  simp only[T.wp] at h
  simp only[T.out]
  split at h
  ·rename_i C hc
   have ho:=hC c C hc _ h.1 (vO (Ar.okv he a hb.1))
   obtain ⟨o,h1,h2⟩:=T.out_of Cs hC k hb.2 (fun v hv=>by
    rw[List.mem_append,List.mem_singleton] at hv
    rcases hv with hv|rfl
    ·exact he v hv
    ·exact ho) (h.2 ho)
   exact ⟨o,by rw[hc];exact h1,h2⟩
  ·exact h.elim
 | .ite a x y,hb,env,L,Q,he,h=>by
  simp only[T.okB,Bool.and_eq_true] at hb
  cases hv:(a.val env).as .bool with
  | true =>
   obtain ⟨o,h1,h2⟩:=T.out_of Cs hC x hb.1 he (h.1 hv)
   exact ⟨o,.inl ⟨hv,h1⟩,h2⟩
  | false =>
   obtain ⟨o,h1,h2⟩:=T.out_of Cs hC y hb.2 he (h.2 hv)
   exact ⟨o,.inr ⟨hv,h1⟩,h2⟩
 | .loop t a b,hb,env,L,Q,he,h=>by
  simp only[T.okB,Bool.and_eq_true] at hb
  obtain ⟨I,μ,hI,hbody⟩:=h
  have key:∀ (m:Nat) (x:t.D),μ x=m->okD t x->I x->∃ o,(∃ n,aUG (fun v:SV=>v.as t) (fun x o=>b.out Cs (env++[⟨t,x⟩]) o) n x o)/\o.sat L Q/\(∀ v,o = .ret v->v.okv)/\(∀ d v,o = .ag d v->v.okv):=by
   intro m
   induction m using Nat.strongRecOn with
   | _ m ih =>
    intro x hm hx hIx
    obtain ⟨o,h1,h2,h3,h4⟩:=T.out_of Cs hC b hb.2 (env:=env++[⟨t,x⟩]) (fun v hv=>by
     rw[List.mem_append,List.mem_singleton] at hv
     rcases hv with hv|rfl
     ·exact he v hv
     ·exact hx) (hbody x hx hIx)
    cases o with
    | ret v=>exact ⟨.ret v,⟨0,_,h1,rfl⟩,h2,h3,fun d u hu=>(by cases hu)⟩
    | ag d v =>
     cases d with
     | zero =>
      obtain ⟨J,e,hJ⟩:=h2
      simp only[List.getElem?_cons_zero,fL] at e
      subst e
      obtain ⟨o,⟨n,k1⟩,k2⟩:=ih _ (by rw[<- hm];exact hJ.2) _ rfl (vO (h4 _ _ rfl)) hJ.1
      exact ⟨o,⟨n+1,v,h1,k1⟩,k2⟩
     | succ d =>
      obtain ⟨J,e,hJ⟩:=h2
      refine ⟨.ag d v,⟨0,_,h1,rfl⟩,⟨J,by simpa using e,hJ⟩,fun u hu=>(by cases hu),fun d' u hu=>?_⟩
      cases hu
      exact h4 _ _ rfl
  exact key _ _ rfl (vO (Ar.okv he a hb.1)) hI
 | .cD3 d a,hb,env,L,Q,he,h=>by
  simp only[T.wp] at h
  split at h
  ·rename_i I hI
   refine ⟨.ag d (a.val env),rfl,⟨I,hI,h⟩,fun v hv=>(by cases hv),fun d' v hv=>?_⟩
   cases hv
   exact Ar.okv he a hb
  ·exact h.elim
 | .ret a,hb,env,L,Q,he,h=>⟨.ret (a.val env),rfl,h,fun v hv=>(by cases hv;exact Ar.okv he a hb),fun d v hv=>(by cases hv)⟩
theorem T.wp_out (Cs:List Con) (hC:∀ (c:Nat) (C:Con),Cs[c]?=some C->∀ x:C.argTy.D,C.pre x->okD C.argTy x->okD C.resTy (C.fn x)):(t:T)->t.okB=true->∀ {env:List SV} {L L':List (SV->Prop)} {Q Q':SV->Prop} {o:Out},(∀ v∈env,v.okv)->t.wp Cs env L Q->t.out Cs env o->o.sat L' Q'->t.wp Cs env L' Q'
 | .cD1 p a k,hb,env,L,L',Q,Q',o,he,h,ho,hs=>by
  simp only[T.okB,Bool.and_eq_true] at hb
  refine ⟨h.1,fun hk=>T.wp_out Cs hC k hb.2 (fun v hv=>?_) (h.2 hk) ho hs⟩
  rw[List.mem_append,List.mem_singleton] at hv
  rcases hv with hv|rfl
  ·exact he v hv
  ·exact hk
 | .call c a k,hb,env,L,L',Q,Q',o,he,h,ho,hs=>by
  simp only[T.okB,Bool.and_eq_true] at hb
  simp only[T.wp,T.out] at h ho ⊢
  split at h
  ·rename_i C hc
   try rw[hc] at ho
   try rw[hc]
   refine ⟨h.1,fun hk=>T.wp_out Cs hC k hb.2 (fun v hv=>?_) (h.2 hk) ho hs⟩
   rw[List.mem_append,List.mem_singleton] at hv
   rcases hv with hv|rfl
   ·exact he v hv
   ·exact hk
  ·exact h.elim
 | .ite a x y,hb,env,L,L',Q,Q',o,he,h,ho,hs=>by
  simp only[T.okB,Bool.and_eq_true] at hb
  rcases ho with ⟨a1,ho⟩|⟨a1,ho⟩
  ·exact ⟨fun hv=>T.wp_out Cs hC x hb.1 he (h.1 hv) ho hs,fun hv=>(by rw[a1] at hv;cases hv)⟩
  ·exact ⟨fun hv=>(by rw[a1] at hv;cases hv),fun hv=>T.wp_out Cs hC y hb.2 he (h.2 hv) ho hs⟩
 | .loop t a b,hb,env,L,L',Q,Q',o,he,h,⟨n,ho⟩,hs=>by
  simp only[T.okB,Bool.and_eq_true] at hb
  obtain ⟨I,μ,hI,hbody⟩:=h
  refine ⟨fun x=>I x/\∃ n,aUG (fun v:SV=>v.as t) (fun x o=>b.out Cs (env++[⟨t,x⟩]) o) n x o,μ,⟨hI,n,ho⟩,fun x hx ⟨hIx,n,hch⟩=>?_⟩
  have hex:∀ v∈env++[⟨t,x⟩],v.okv:=fun v hv=>by
   rw[List.mem_append,List.mem_singleton] at hv
   rcases hv with hv|rfl
   ·exact he v hv
   ·exact hx
  cases n with
  | zero =>
   obtain ⟨o',h1,h2⟩:=hch
   refine T.wp_out Cs hC b hb.2 hex (hbody x hx hIx) h1 ?_
   cases o' with
   | ret v=>simp only[Out.pop,fL] at h2;subst h2;exact hs
   | ag d v =>
    cases d with
    | zero=>cases h2
    | succ d =>
     simp only[Out.pop,fL] at h2
     subst h2
     obtain ⟨J,e,hJ⟩:=hs
     exact ⟨J,by simpa using e,hJ⟩
  | succ n =>
   obtain ⟨v,h1,h2⟩:=hch
   refine T.wp_out Cs hC b hb.2 hex (hbody x hx hIx) h1 ?_
   obtain ⟨o',k1,k2,_⟩:=T.out_of Cs hC b hb.2 hex (hbody x hx hIx)
   have:=T.out_det Cs b h1 k1
   subst this
   obtain ⟨J,e,hJ⟩:=k2
   simp only[List.getElem?_cons_zero,fL] at e
   subst e
   exact ⟨_,rfl,⟨hJ.1,n,h2⟩,hJ.2⟩
 | .cD3 d a,hb,env,L,L',Q,Q',o,he,h,ho,hs=>by
  subst ho
  obtain ⟨J,e,hJ⟩:=hs
  simp only[T.wp,e]
  exact hJ
 | .ret a,hb,env,L,L',Q,Q',o,he,h,ho,hs=>by
  subst ho
  exact hs
section
variable {P:Program} {Cs:List Con} {wr:Bool}
theorem bVM {C:Con} {fuel:Nat} {orc:Orc} {T':T} (h:aGU P Cs C wr fuel orc = .ok T'):T'.okB=true:=by
 unfold aGU at h
 simp only at h
 split at h
 ·split at h
  ·split at h
   ·split at h
    ·split at h
     ·rename_i hok
      simp only[Except.ok.injEq] at h
      subst h
      exact hok
     ·cases h
    ·cases h
   ·cases h
  ·cases h
 ·cases h
theorem zN (hm:P.follows .mixedOrders=true) {C:Con} {fuel:Nat} {orc:Orc} {T':T} (hC:∀ (c:Nat) (C:Con),Cs[c]?=some C->Con.Holds P C) (h:∀ f:C.argTy.D->C.resTy.D,aGU P Cs { C with fn:=f } wr fuel orc = .ok T') (post:C.argTy.D->C.resTy.D->Prop)
  (hw:∀ x:C.argTy.D,okD C.argTy x->C.pre x->T'.wp Cs [⟨C.argTy,x⟩] [] fun v=>post x (v.as C.resTy)) :
  ∃ f:C.argTy.D->C.resTy.D,(∀ x,okD C.argTy x->C.pre x->post x (f x))/\Con.Holds P { C with fn:=f }:=by
 have hok:=bVM (h C.fn)
 have hC2:∀ (c:Nat) (C:Con),Cs[c]?=some C->∀ x:C.argTy.D,C.pre x->okD C.argTy x->okD C.resTy (C.fn x):=fun c C hc=>(hC c C hc).ok
 have hex:∀ x:C.argTy.D,∃ y:C.resTy.D,okD C.argTy x->C.pre x->post x y/\T'.wp Cs [⟨C.argTy,x⟩] [] fun v=>v.as C.resTy=y:=fun x=>by
  by_cases hx:okD C.argTy x/\C.pre x
  ·have hev:∀ v∈([⟨C.argTy,x⟩]:List SV),v.okv:=fun v hv=>by
    rw[List.mem_singleton] at hv
    subst hv;exact hx.1
   obtain ⟨o,h1,h2,_⟩:=T.out_of Cs hC2 T' hok hev (hw x hx.1 hx.2)
   cases o with
   | ret v=>exact ⟨v.as C.resTy,fun _ _=>⟨h2,T.wp_out Cs hC2 T' hok hev (hw x hx.1 hx.2) h1 rfl⟩⟩
   | ag d v=>obtain ⟨J,e,_⟩:=h2;simp at e
  ·exact ⟨aK _,fun h1 h2=>absurd ⟨h1,h2⟩ hx⟩
 refine ⟨fun x=>(hex x).choose,fun x h1 h2=>((hex x).choose_spec h1 h2).1,?_⟩
 refine bF3 (C:={ C with fn:=fun x=>(hex x).choose }) hm hC (h _) fun x h1 h2=>((hex x).choose_spec h1 h2).2
end
theorem wC:(∀ (n:Nat),((n:Nat):Int).toNat=n)/\(∀ (b:Bool),((!b)=true)=(b=false))/\(∀ (b:Bool),((!b)=false)=(b=true))/\(∀ (a b:Bool),((a&&b)=true)=(a=true/\b=true))/\(∀ {x y:Bool},(x&&y)=false↔x=false\/y=false)/\(∀ {p:Prop} [inst:Decidable p],(decide p=true)=p)/\(∀ {p:Prop} {x:Decidable p},decide p=false↔¬ p)/\(∀ {a b:Int},¬ a<b↔b<=a)/\(∀ {a b:Int},¬ a<=b↔b<a)/\(∀ {α:Type} [LE α] {x y:α},x ≥ y↔y<=x)/\(∀ {α:Type} [LT α] {x y:α},x>y↔y<x)/\(∀ {α:Type} {a:α} {l:List α},(a :: l).length=l.length+1)/\(∀ {α:Type},([]:List α).length=0)/\(∀ {α:Type} {l m:List α},(l++m).length=l.length+m.length)/\(∀ (n:Nat),0+n=n)/\(∀ {α:Type} (l:List α),[]++l=l)/\(∀ {α:Type} [BEq α] [LawfulBEq α] {a b:α},(a==b)=true↔a=b)/\(∀ {α:Type} [BEq α] [LawfulBEq α] {a b:α},(a==b)=false↔a≠b)/\(∀ {α:Type} [BEq α] [LawfulBEq α] {a b:α},(a != b)=true↔a≠b)/\(∀ {α:Type} [BEq α] [LawfulBEq α] {a b:α},(a != b)=false↔a=b)/\(∀ {α:Type} (a b:α),(a≠b)=¬ (a=b))/\(∀ k:Nat,((k:Int) - 1).toNat=k - 1)/\(∀ k:Nat,((k:Int)+1).toNat=k+1)/\(0:Int).toNat=0/\(1:Int).toNat=1 :=
 ⟨@Int.toNat_natCast,@Bool.not_eq_true',@Bool.not_eq_false',@Bool.and_eq_true,@Bool.and_eq_false_iff,@decide_eq_true_eq,@decide_eq_false_iff_not,@Int.not_lt,@Int.not_le,@ge_iff_le,@gt_iff_lt,@List.length_cons,@List.length_nil,@List.length_append,@Nat.zero_add,@List.nil_append,@beq_iff_eq,@beq_eq_false_iff_ne,@bne_iff_ne,@bne_eq_false_iff_eq,@ne_eq,@aHU,@aZI,@bHD,@bKY⟩
theorem vE:(∀ (w:World) (o:Obj),(w.alloc o).heap.size=w.heap.size+1)/\(∀ w:World,w.drew.heap.size=w.heap.size):=⟨World.size_alloc,World.size_drew⟩
theorem szy:(∀ (w:World) (o:Obj),(w.alloc o).heap.size=w.heap.size+1)/\(∀ (w:World) (a:Addr) (v:Value),(w.setCell a v).heap.size=w.heap.size):=⟨World.size_alloc,World.size_setCell⟩
abbrev hZ:Ty:=.cD0 (.slice 5 (.int .u8)) aQ
abbrev rW:Ty:=.cD0 tI bF
abbrev yP:Ty:=.cD0 aA .bool
abbrev aA1:Ty:=.slice 73 aE
abbrev aC2:Ty:=.cD0 tI .bool
abbrev bCL:Ty:=.cD0 aH aE
abbrev aU1:Ty:=.cD0 tI hZ
abbrev aVC:Ty:=.cD0 hZ tI
abbrev bCA:Ty:=.slice 5 (.int .u8)
abbrev aYA:Ty:=.cD0 aH tI
abbrev bDY:Ty:=.cD0 hZ aB
abbrev iT (a:Prim) (b c:Ty) (d e:Ar) (f:T):T:=.cD1 a (.cD2 b c d e) f
abbrev eK (a b c:Ty):Ty:=.cD0 a (.cD0 b c)
abbrev qT (a b:Ty) (c:Nat):Ar:=.p1 a b (.Z c)
abbrev aAM (a:Ty) (b c:Nat):Ar:=pjA a b (.Z c)
abbrev dR (a:Int):Ar:=.ci .i64 a
abbrev cG (a:Nat) (b c:T):T:=.ite (.Z a) b c
abbrev fV (a:Ty) (b c:Nat):Ar:=prA a b (.Z c)
abbrev bT (a:TypeId) (b:Ty) (c:Ar) (d:T):T:=.cD1 (.cD4 a b) c d
abbrev vW (a:BinOp):Prim:=.cmp a .i64
abbrev bAP (a b:Ty) (c d:Nat):Ar:=fV (.cD0 a b) c d
abbrev bFL (a:Prim) (b:Ty) (c d:Ar) (e:T):T:=iT a b tI c d e
abbrev dP (a:TypeId) (b c:Ty) (d e:Ar) (f:T):T:=bFL (.cD5 a b) c d e f
abbrev bW8 (a:Prim) (b:Ty) (c:Ar) (d:Int) (e:T):T:=bFL a b c (dR d) e
abbrev jO (a b c:Ty) (d:Nat):Ar:=qT a (.cD0 b c) d
abbrev cE (a:Nat) (b:Ar) (c:T):T:=cG a (.ret b) c
abbrev bNM (a:BinOp):Prim:=.ar a .i64
abbrev bMH (a:Nat) (b:Ar) (c:Prim) (d:Ar) (e:T):T:=.call a b <| .cD1 c d e
abbrev cC:Prim:=bNM .add
abbrev bS (a b:Nat):Ar:=aAM aC a b
abbrev cL:Ar:=.cb false
abbrev kL (a:Ty):Ty:=.cD0 tI a
abbrev yJ (a:Nat) (b c:Ty) (d e:Ar) (f:T):T:=.call a (.cD2 b c d e) f
abbrev zK (a b:Ty):Ty:=eK tI a b
abbrev bM:Prim:=vW .lss
abbrev pM (a:Ty):Ty:=zK .bool a
abbrev cF:Ty:=.slice 5 (.int .u8)
abbrev fY (a:Nat) (b:T) (c:Ar):T:=cG a b <| .ret c
abbrev bO (a:Ty) (b:Nat):Ar:=qT tI a b
abbrev aM:Ar:=dR 0
abbrev aBV (a:Ty):Ty:=zK a .bool
abbrev bFT (a:Ty):Ty:=.cD0 a aQ
abbrev yK (a:Nat) (b:Ar) (c:Prim) (d:Nat) (e:T):T:=bMH a b c (.Z d) e
abbrev bJ:Ty:=.slice 200 aY
abbrev dM (a:Prim) (b c:Ty) (d:Ar) (e:Nat) (f:T):T:=iT a b c d (.Z e) f
abbrev aEG (a:Ty) (b:List Ar):T:=.ret (mkA a b)
abbrev iS (a:Prim) (b:Ar) (c:Int) (d:T):T:=bW8 a tI b c d
abbrev bU:Ty:=.slice 145 aC
abbrev sB (a:BinOp) (b:Ar) (c:Int) (d:T):T:=iS (vW a) b c d
abbrev rB (a:Ty) (b c:Ar):Ar:=.cD2 tI a b c
abbrev bM3 (a:Nat) (b:Ar) (c:Nat) (d:T):T:=yK a b .not c d
abbrev dC (a:Nat) (b:Ar) (c d:Nat) (e:Ar) (f:T):T:=bM3 a b c <| cE d e f
abbrev aLU (a:Prim) (b:Ty) (c:List Ar) (d:T):T:=.cD1 a (mkA b c) d
abbrev bK:Ar:=.cb true
abbrev aTI (a:Ty) (b:Nat) (c d:Ty) (e:Nat):Ar:=pjA a b (qT c d e)
abbrev fJ:Prim:=bNM .sub
abbrev cM (a:Nat):T:=.ret (.Z a)
abbrev dE (a b:Nat) (c:T):T:=.call a (.Z b) c
abbrev eE (a b:Ar) (c:Nat):List Ar:=[a,b,.Z c]
abbrev bN (a:TypeId) (b c:Ty) (d:Ar) (e:Nat) (f:T):T:=dP a b c d (.Z e) f
abbrev qK (a:Nat):Ar:=bS a 1
abbrev aT:Ar:=.nl 3 tI
abbrev lS (a:Ty) (b:Nat):Ar:=qT a .bool b
abbrev bL:Ty:=kL bF
abbrev cB:Ty:=pM aA
abbrev aLG (a:Ty) (b c:Ar):Ar:=.cD2 a .bool b c
abbrev aX:Ar:=.Z 1
abbrev eM (a:Prim) (b:Ar) (c:Nat) (d:T):T:=bFL a tI b (.Z c) d
abbrev lY (a:Nat) (b:Ty) (c:List Ar) (d:T):T:=.call a (mkA b c) d
abbrev dQ:Ty:=aBV tI
abbrev gQ (a b c:Ty) (d e:Nat):Ar:=aAM (eK a b c) d e
abbrev kA (a:TypeId) (b:Ty):Prim:=.lit a b 1
abbrev dX (a:Ty) (b:Ar) (c:TypeId) (d:Ty) (e:Ar) (f:T):T:=.loop a b <| bT c d e f
abbrev dF:Ty:=.slice 73 aE
abbrev cS (a:Nat):Ar:=bO .bool a
abbrev cD:Ty:=bFT cF
abbrev cY:Ar:=qK 5
abbrev nI (a b:Ty) (c d:Nat):Ar:=aAM (zK a b) c d
abbrev aKR (a:Prim) (b:Ar) (c:Int) (d:Nat) (e:Ar):T:=bW8 a tI b c <| .cD3 d e
abbrev kF (a:Ar) (b:Int) (c:Nat) (d:Ar):T:=aKR cC a b c d
abbrev kP (a:Ty) (b c:Nat):Ar:=bAP a .bool b c
abbrev kC (a:Prim) (b c:Nat) (d:T):T:=eM a (.Z b) c d
abbrev eW:Prim:=vW .neq
abbrev cJ (a:Ty) (b c:Nat):Ar:=aAM (kL a) b c
abbrev aJV (a b:Ty):Ty:=eK a b .bool
abbrev gG (a:Nat) (b c:Ty) (d:Nat) (e:T):T:=.call a (qT b c d) e
abbrev aTJ (a:Ty) (b:Nat) (c:Ar):Ar:=rB a (.Z b) c
abbrev iM (a b c d:Ty) (e:Nat):Ar:=.p1 a b (qT c d e)
abbrev gT (a:Prim) (b:Nat) (c:Int) (d:T):T:=iS a (.Z b) c d
abbrev oR (a:Ar) (b:Int) (c:T):T:=sB .eql a b c
abbrev iD (a:Ty) (b c:Nat):Ar:=bAP a tI b c
abbrev aY7 (a:Ty) (b:Nat):Prim:=.cD7 158 a b
abbrev eH (a:Ty) (b:Nat):Ar:=fV a 1 b
abbrev aA9 (a:Ar) (b:Int) (c:Nat) (d:Ty) (e:List Ar):T:=kF a b c (mkA d e)
abbrev bX (a:Prim) (b c:Ar) (d:T):T:=bFL a tI b c d
abbrev sS (a:TypeId) (b:Nat):Prim:=.cD7 a tI b
abbrev cR (a:TypeId) (b c:Ty) (d:Ar) (e:Ty) (f:Nat) (g:T):T:=dP a b c d (bO e f) g
abbrev pX (a b:Ty) (c:Nat):Ar:=jO a b .bool c
abbrev oJ (a b:Ty):Ty:=eK .bool a b
abbrev iN (a:TypeId) (b:Ty) (c:Ar) (d:Ty) (e:Ar) (f:T):T:=bT a b c <| .loop d e f
abbrev aA6 (a b:Ty):Ty:=eK a tI b
abbrev zR (a:Ty) (b c:Nat):Ar:=aTJ a b (.Z c)
abbrev aD3 (a:TypeId) (b c:Ty) (d:List Ar) (e:T):T:=aLU (.cD6 a b) (bFT c) d e
abbrev cQ (a:Ty) (b:Nat):Ar:=aAM a 1 b
abbrev jX (a:Ty) (b:Nat):Ar:=jO tI .bool a b
abbrev eJ:Ty:=.slice 161 bF
abbrev aAK (a:Prim) (b:Ty) (c d:Nat) (e:T):T:=eM a (bO b c) d e
abbrev dY (a:Ar) (b:Int) (c:T):T:=sB .gtr a b c
abbrev cX:Ar:=.Z 0
abbrev fQ (a:Ty) (b c:Nat):Ar:=bAP tI a b c
abbrev bFG (a:TypeId) (b c:Ty) (d:List Ar) (e:T):T:=aLU (.cD8 a b) c d e
abbrev jJ (a:Ty) (b c:Nat) (d e:T):T:=.ite (kP a b c) d e
abbrev gN:Ar:=.Z 10
abbrev vQ (a:Ty) (b:List Ar):Ar:=mkA (kL a) b
abbrev aGP (a:TypeId) (b c:Ty) (d e:Ar) (f:Nat) (g:T):T:=aD3 a b c (eE d e f) g
abbrev bWE (a b:Nat):Ar:=iD aR a b
abbrev bX9 (a:Ty) (b:Nat) (c:Int) (d:Nat) (e:Ar):T:=kF (bO a b) c d e
abbrev iO (a b:Ar) (c:Int):List Ar:=[a,b,dR c]
abbrev gW:Ar:=.Z 14
abbrev lW (a:Ar) (b:Int) (c:Nat) (d e:T):T:=oR a b <| cG c d e
abbrev gX:Ty:=pM aJ
abbrev rS (a b:Ty):Ty:=eK aB a b
abbrev fE (a:Ty) (b:Nat) (c:Int) (d:Nat) (e:Ty) (f g:Nat):T:=bX9 a b c d (zR e f g)
abbrev iL:Ar:=.Z 15
abbrev iX:Ar:=.Z 11
abbrev fB:Ar:=.Z 6
abbrev dT (a b:Ty):Ar:=qT a b 0
abbrev jC:Ar:=.Z 13
abbrev mW (a b:Ty) (c:Nat):Ar:=cQ (.cD0 a b) c
abbrev fS:Ar:=qK 1
abbrev fO:Ar:=qK 2
abbrev fR:Ar:=qK 3
abbrev fP:Ar:=qK 4
abbrev aOL (a:Nat):Ar:=bO bHL a
abbrev fT:Ar:=aOL 1
abbrev jF:Ar:=.nl 117 aA
abbrev bH6 (a b c:Ty):Ty:=.cD0 a (zK b c)
abbrev gD:Ar:=.Z 4
abbrev gF:Ar:=dR 1
abbrev jV:Ar:=qK 10
abbrev jW:Ar:=qK 11
abbrev gP:Ar:=.Z 8
abbrev sE (a:Ty):Ty:=zK tI a
abbrev gZ (a:Ty) (b:Nat) (c:Int) (d:Nat) (e:Ty) (f:List Ar):T:=aA9 (jX a b) c d e f
abbrev cI (a:Nat) (b:Ty) (c d:Ar) (e:T):T:=yJ a b tI c d e
abbrev kO:Ar:=.Z 12
abbrev kT:Ar:=.Z 16
abbrev bLP (a:Nat):Ar:=cQ aR a
abbrev eQ (a:Nat) (b:T):T:=cE a cL b
abbrev xC (a:TypeId) (b c:Ty) (d:Ar) (e f:Nat) (g:T):T:=dP a b c d (bWE e f) g
abbrev qR:Prim:=bNM .mul
abbrev bVG (a:Ty):Ty:=aA6 cF a
abbrev fZ:Ty:=bVG bF
abbrev hK:Ar:=bLP 1
abbrev oP (a:TypeId) (b:Ty) (c:Ar) (d:T):T:=.cD1 (kA a b) c d
abbrev cO (a:Ty) (b c d:Ar):Ar:=mkA a [b,c,d]
abbrev zW (a b:Ty) (c:Nat):Ar:=jO a tI b c
abbrev tN (a:TypeId) (b c d:Ty) (e:Ar) (f:Nat) (g:T):T:=dM (.cD7 a b 32) c d e f g
abbrev iJ:Ar:=qK 6
abbrev iR:Ar:=.Z 5
abbrev tY:Ty:=kL .bool
abbrev fK (a:Ty) (b:Nat) (c d:Ty):Ar:=aTI a b c d 0
abbrev gM (a:Ty) (b:Ar):Ar:=rB a aM b
abbrev iU:Ty:=eK bU aU aU
abbrev iZ:Ar:=.Z 2
abbrev iW:Ar:=qK 9
abbrev mI:Ty:=.slice 69 aG
abbrev lC (a:Ar) (b:T):T:=.call 0 a b
abbrev iV (a:TypeId) (b c:Ty) (d:Ar) (e:Ty) (f:Nat) (g:T):T:=dP a b c d (jX e f) g
abbrev kG (a:Ty) (b:Nat) (c d:Ty):Ar:=prA a b (dT c d)
abbrev mV:Ar:=.Z 17
abbrev gJ (a:Nat):Ar:=eH aQ a
abbrev vZ (a:Ty) (b c:Nat):Ar:=nI tI a b c
abbrev dD (a:Ty) (b:Nat):Ar:=fV a 2 b
abbrev jZ:Ar:=qK 8
abbrev aWZ (a b:Ty) (c:Nat):Ar:=jO a cF b c
abbrev nS:Ty:=sE dF
abbrev lJ (a:Ty) (b:Nat):Ar:=aWZ a aQ b
abbrev kB (a:TypeId) (b:Nat) (c d:Ty) (e:Ar) (f:Nat) (g:T):T:=dM (sS a b) c d e f g
abbrev lT (a:List Ar):T:=aEG aC a
abbrev kR (a:Prim) (b:Ar) (c d:Nat) (e:T) (f:Ar):T:=eM a b c <| fY d e f
abbrev jY (a:Nat):Ar:=eH aY a
abbrev pI:Ty:=aBV aJ
abbrev pK:Ar:=.Z 19
abbrev aPD (a:Ty):Ty:=zK cF a
abbrev mQ:Ty:=aPD aQ
abbrev gK (a b:Ty) (c:Nat):Ar:=bAP a b c 0
abbrev kI (a:TypeId) (b:Ty) (c:Ar) (d:Prim) (e:Nat) (f:Int) (g:T):T:=bT a b c <| gT d e f g
abbrev bNQ (a:TypeId) (b:Ty) (c d:Ar) (e:T):T:=bX (kA a b) c d e
abbrev lV (a:Nat):Ar:=bO tI a
abbrev vU:Prim:=vW .eql
abbrev lN:Ar:=.Z 7
abbrev tX (a:Ty):Ar:=dT a aA
abbrev kW:Ar:=tX aA
abbrev pY:Ty:=bFT aH
abbrev sJ (a:Ty) (b:Nat) (c d:T):T:=.ite (cQ a b) c d
abbrev kS (a:Nat) (b:Ty) (c:List Ar) (d e:Nat) (f:Ar) (g:T):T:=dC a (vQ b c) d e f g
abbrev aT7 (a:Nat) (b:Ty):Ar:=fK aC a aC b
abbrev rA (a:Nat):Ar:=aT7 a bF
abbrev sL (a:Nat) (b c:Ty) (d:List Ar) (e:T):T:=lY a (.cD0 b c) d e
abbrev mT:Ar:=.Z 9
abbrev aIO (a:Ty):Ty:=aJV a aA
abbrev nH:Ty:=aIO aA
abbrev rN (a:Ty) (b:TypeId) (c:Ty):Ar:=gM a (.nl b c)
abbrev mO (a:Ty) (b:Nat) (c d:Ty) (e:Nat):Ar:=pjA a b (zW c d e)
abbrev yG (a:Ty) (b:Ar) (c:T):T:=.loop (kL a) b c
abbrev nC:Ar:=rA 2
abbrev mG (a:TypeId) (b c d:Ty) (e:List Ar) (f:T):T:=bFG a b (aA6 c d) e f
abbrev fA (a:Ty) (b c d:Ar):T:=aEG a [b,c,d]
abbrev eI (a:Nat) (b:Ty) (c d:Ar) (e:T):T:=yJ a b aA c d e
abbrev sG:Ar:=.Z 20
abbrev sM:Ar:=.Z 26
abbrev sH:Ty:=pM tI
abbrev sK:Ar:=qK 12
abbrev gV (a:Nat) (b:T):T:=fY a b cL
abbrev oK:Ar:=bLP 0
abbrev tH (a:TypeId) (b:Ty):Prim:=.cD7 a b 24
abbrev tP:Ar:=.Z 22
abbrev vH (a:Ty) (b:Ar):Ar:=aLG a b cL
abbrev bG2 (a:Ty) (b c:Nat) (d:T):T:=aAK bM a b c d
abbrev xA (a:Nat):Ar:=eH aF a
abbrev pD:Ar:=xA 0
abbrev iY (a:Nat):Ar:=lS aA a
abbrev qJ (a b:Ty) (c:Nat):Ar:=dD (rS a b) c
abbrev nR (a:Ty) (b c d:Nat) (e:T) (f:Ar):T:=bG2 a b c <| fY d e f
abbrev nV (a:Nat) (b:Ar) (c:TypeId) (d:Ty) (e:Ar) (f:T):T:=bMH a b (kA c d) e f
abbrev uA:Ar:=.Z 18
abbrev qO (a:Ty) (b c:Ar):Ar:=.cD2 a tI b c
abbrev uL:Ar:=jY 19
abbrev rP (a b:Ty):Ty:=bVG (zK a b)
abbrev aBT (a:Ty) (b:Nat):Ar:=aAM a 2 b
abbrev dH (a:Ty) (b:Nat):Ar:=fV a 3 b
abbrev iA (a:Ar) (b:Int) (c:T):T:=iS fJ a b c
abbrev nD (a:Nat) (b:Ar) (c d:Nat) (e:Ty) (f:Ar) (g:T):T:=dC a b c d (vH e f) g
abbrev qN:Ar:=.Z 3
abbrev aSV (a:Ty):Ty:=aPD (sE a)
abbrev gL (a b:Ty) (c d:Nat):Ar:=gQ a tI b c d
abbrev cN (a:Ar) (b:T):T:=bT 3 tI a b
abbrev qH (a:Prim) (b:Nat) (c:Int) (d:T):T:=iS a (aOL b) c d
abbrev tK (a:Nat):Ar:=aBT bQ a
abbrev uD (a:Nat) (b:Ty):Ar:=fK aH a aH b
abbrev pH (a:Ar) (b:Nat) (c:T):T:=aGP 200 aY bJ cY a b c
abbrev kD (a:Nat):Ar:=eH bF a
abbrev rM (a:Nat):Ar:=cQ bQ a
abbrev aG7:Prim:=.mx .i64
abbrev oZ (a:Nat):Ar:=lS aJ a
abbrev uQ:Ar:=.nl 158 aQ
abbrev uN (a b:Ty) (c d:Nat):Ar:=gQ a b .bool c d
abbrev jQ (a:Ty) (b:Nat):Ar:=gK bQ a b
abbrev fU (a:Nat):Ar:=bS a 0
abbrev tC (a:Nat):Ar:=eH aI a
abbrev rR (a:Ar) (b:Int) (c d:Nat):T:=kF a b c (.Z d)
abbrev pW (a:TypeId) (b:Ty) (c d:Ar) (e:Nat) (f:T):T:=bT a b c <| pH d e f
abbrev qY (a:Nat) (b:Int) (c:Nat) (d e:T):T:=lW (lV a) b c d e
abbrev aI0:Prim:=.mn .i64
abbrev pG (a b c d e f:Ty) (g:Nat):Ar:=iM a (bH6 b c d) e f g
abbrev lU (a:Nat):Ar:=dD cB a
abbrev sI (a:Ty) (b:Ar) (c:Ty) (d:Nat):Ar:=aLG a b (cQ c d)
abbrev kV (a:Ty) (b:Nat):Ar:=gK aB a b
abbrev zJ:Ty:=aSV aB
abbrev lZ:Ty:=pM (rS aB aA)
abbrev uC (a b:Nat) (c:T):T:=kC bM a b c
abbrev uK:Ar:=fU 2
abbrev pR (a:TypeId) (b c d:Ty) (e:Ar) (f:Nat) (g:List Ar):T:=tN a b c d e f <| lT g
abbrev uJ (a b:Ty) (c:Nat):Ar:=dH (aA6 a b) c
abbrev tL (a:Prim) (b:Ar) (c:Nat) (d:T):T:=bX a b (tK c) d
abbrev lI (a:Ty) (b:Nat):Ar:=pX a aA b
abbrev lK (a:Ty) (b:Nat):Ar:=zW tI a b
abbrev aAD:Ar:=.Z 29
abbrev dN (a:Ty) (b:Nat):Ar:=fQ a 1 b
abbrev mX (a b:Ty) (c:Ar) (d e:Nat) (f:T):T:=xC 145 a b c d e f
abbrev zU (a:Ty) (b:Ar) (c:Nat) (d:T):T:=dM (aY7 aQ 16) bD a b c d
abbrev mJ (a:Ty) (b:Int) (c:Ar) (d:Ty) (e:Ar) (f:Nat) (g:T):T:=bNQ 158 a (dR b) c <| zU d e f g
abbrev aPE:Prim:=.rem .i64
abbrev nJ (a:Nat):Ar:=lJ tI a
abbrev eT:Ar:=bWE 1 0
abbrev nE:Ty:=oJ aB aA
abbrev jE (a:Nat) (b:Ar) (c d:Nat) (e:T):T:=dC a b c d cL e
abbrev wZ:Ar:=rM 0
abbrev wA (a:Ar) (b:Int) (c:T):T:=sB .neq a b c
abbrev xE:Ar:=tC 0
abbrev aC0:Ty:=aIO aJ
abbrev aBX:Ar:=.Z 23
abbrev aBZ:Ty:=aJV bD .bool
abbrev aDR (a:Ty) (b:Nat) (c:Ar):T:=.ret (aTJ a b c)
abbrev tE (a b c:Nat) (d:T) (e:Ar):T:=uC a b <| fY c d e
abbrev tM (a:Prim) (b c d:Nat) (e:T):T:=kC a b c <| eQ d e
abbrev aE5 (a b:Ty) (c:Nat):Ar:=aBT (.cD0 a b) c
abbrev oI (a:Nat):Ar:=uD a aE
abbrev sT (a:Ty) (b c d:Nat) (e f:T):T:=bG2 a b c <| cG d e f
abbrev aG2 (a:Ar) (b:T):T:=.cD1 .not a b
abbrev uI:Prim:=kA 200 aY
abbrev aLE:Prim:=vW .geq
abbrev aEO:Ty:=kL aQ
abbrev pC (a:Ty):Ar:=dT a tI
abbrev aDL:Ty:=sE aQ
abbrev aGD (a:Nat):Ar:=aBT aR a
abbrev xD:Ar:=aGD 1
abbrev aEL:Ar:=oZ 18
abbrev zF (a:Nat):Ar:=vZ dQ a 0
abbrev tG:Ar:=zF 1
abbrev uG:Ar:=zF 2
abbrev nF:Ar:=qT aE iU 1
abbrev yA (a b c:Nat):T:=dE a b <| cM c
abbrev kZ (a:Ar) (b:Nat) (c:T):T:=bN 117 aA aJ a b c
abbrev uH (a:Nat) (b c:Ty) (d:List Ar) (e:T):T:=lY a (rS b c) d e
abbrev uM (a:Ar) (b:Int) (c:Nat) (d:Ty) (e:List Ar):T:=aA9 a b c (kL d) e
abbrev zC:Ar:=gJ 6
end Go.Proofs.YtlhaoiaieiladaaGreat
