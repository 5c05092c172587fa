/- Ce: lemmas. No conditions. -/
import Derived.Test.YtfmfeplebgbpmaaGreatCd
import Derived.Orders
import Derived.OrdersHeld
import Derived.Outline
import Derived.Deep.RegionHeld3
namespace Go.Proofs.YtfmfeplebgbpmaaGreat
open Go.ChangeShapes Go.WideShapes Go.ChangeAt Go.RowKit Go.Deep
set_option linter.unusedVariables false
set_option linter.unusedSimpArgs false
section
variable {P:Program} {Cs:List Con} {X:Cx} {g0 γ γ':Gh} {β β':Bt} {e env:List SV} {ops:Array Oper} {clo:Array Nat} {wrt:List (Nat×Nat)} {N:Nat} {tm0:Tm} {es0 fx:Es} {n0:Nat} {pre rs x y:List Rc} {r:Rc} {S:Nat->Bool} {a:Act} {w w':World} {σ:St} {wr:Bool} {D:List Nat}
theorem bB1.op {i:Nat} {o:Oper} (hi:ops[i]?=some o) {K:Act->World->Prop} {Q:Exit->Act->World->Prop} (h:bB1 P ops o a w fun v w'=>K (a.put o.dst v) w'):wpOp P ops Q i K a w:=by
 unfold wpOp
 simp only[hi]
 rcases h with⟨h1,h2⟩|⟨h1,h2⟩
 ·rw[h1];exact h2
 ·rw[h1]
  simp only[if_true]
  exact .inl (h2.upon fun v w' h=>h)
theorem bKL:(l:List Rc)->(∃r∈l,S r.i=false)->∃x r y,l=x++r::y/\S r.i=false/\∀q∈x,S q.i=true
 | [],⟨r,h,_⟩=>by simp at h
 | q::l,⟨r,h1,h2⟩=>by
  cases hq:S q.i
  ·exact⟨[],q,l,rfl,hq,fun _ h=>by simp at h⟩
  ·have:∃r∈l,S r.i=false:=by
    rw[List.mem_cons] at h1
    rcases h1 with rfl|h1
    ·rw[hq] at h2;cases h2
    ·exact⟨r,h1,h2⟩
   obtain⟨x,r',y,e1,e2,e3⟩:=bKL l this
   refine⟨q::x,r',y,by rw[e1];rfl,e2,fun z hz=>?_⟩
   rw[List.mem_cons] at hz
   rcases hz with rfl|hz
   ·exact hq
   ·exact e3 z hz
theorem aTT {clo:Array Nat}:(l:List Edge)->(s:Nat)->∀j,((l.foldl (fun s e=>if Region.binds .any e then s ||| (2 ^ e.on ||| clo.getD e.on 0) else s) s).testBit j=true↔s.testBit j=true\/∃e∈l,Region.binds .any e=true/\(j=e.on\/(clo.getD e.on 0).testBit j=true))
 | [],s,j=>by simp
 | e::l,s,j=>by
  rw[List.foldl_cons,aTT l]
  cases hb:Region.binds .any e
  ·simp only[Bool.false_eq_true,if_false,List.mem_cons,exists_eq_or_imp,hb,false_and,false_or]
  ·simp only[if_true,List.mem_cons,exists_eq_or_imp,hb,true_and,Nat.testBit_or,Bool.or_eq_true,Nat.testBit_two_pow,decide_eq_true_eq]
   constructor
   ·rintro((h|h|h)|h)
    ·exact .inl h
    ·exact .inr (.inl (.inl h.symm))
    ·exact .inr (.inl (.inr h))
    ·exact .inr (.inr h)
   ·rintro(h|(h|h)|h)
    ·exact .inl (.inl h)
    ·exact .inl (.inr (.inl h.symm))
    ·exact .inl (.inr (.inr h))
    ·exact .inr h
theorem cKR (h:OrdOK P X e ops clo wrt N tm0 es0 fx n0 rs) (Ci:∀i,i<ops.size->∃r∈rs,r.i=i) (G0:∀i o,ops[i]?=some o->clo.getD i 0=bM6 clo o) {Q:Exit->Act->World->Prop}
  (hQ:∀(S:Nat->Bool) γ β a w,(∀r∈rs,S r.i=true)->Dyn X g0 e clo N tm0 es0 fx n0 rs S γ β a w->Q .normal a w) :
  ∀(fuel:Nat) (listed:Array Bool) (γ:Gh) (β:Bt) (a:Act) (w:World),listed.size=ops.size->(rs.filter fun r=>!listed.getD r.i false).length<=fuel->Dyn X g0 e clo N tm0 es0 fx n0 rs (fun j=>listed.getD j false) γ β a w->wpAny P .any ops Q fuel listed a w:=by
 have lt:∀r∈rs,r.i<ops.size:=fun r hr=>by
  obtain⟨x,y,he⟩:=List.append_of_mem hr
  exact(Array.getElem?_eq_some_iff.1 (h.at' he).1).1
 have all:∀(listed:Array Bool),listed.size=ops.size->Region.ready .any ops listed=[]->∀r∈rs,listed.getD r.i false=true:=fun listed hsz hr=>by
  refine Classical.byContradiction fun hno=>?_
  have:∃r∈rs,(fun j=>listed.getD j false) r.i=false:=by
   refine Classical.byContradiction fun h1=>hno fun r hr=>?_
   cases hb:listed.getD r.i false
   ·exact absurd ⟨r,hr,hb⟩ h1
   ·rfl
  obtain⟨x,r,y,e1,e2,e3⟩:=bKL (S:=fun j=>listed.getD j false) rs this
  have Cg:r∈rs:=by rw[e1];simp
  have hi:=(h.at' e1).1
  have:r.i∈Region.ready .any ops listed:=by
   rw[mem_ready]
   have hl:=lt r Cg
   refine⟨?_,r.o,hi,fun ed he hb=>?_⟩
   ·simp only[Array.getD_eq_getD_getElem?] at e2⊢
    rw[Array.getElem?_eq_getElem (by omega)] at e2⊢
    simpa using e2
   ·have Iu:(clo.getD r.i 0).testBit ed.on=true:=by
     rw[G0 r.i r.o hi]
     exact(aTT r.o.after.toList 0 ed.on).2 (.inr ⟨ed,by simpa using he,hb,.inl rfl⟩)
    obtain⟨q,q1,q2⟩:=h.lin x r y e1 ed.on Iu
    rw[<-q2]
    exact e3 q q1
  rw[hr] at this
  cases this
 intro fuel
 induction fuel with
 | zero =>
  intro listed γ β a w hsz hf hd
  have hall:∀r∈rs,listed.getD r.i false=true:=fun r hr=>by
   have h0:(rs.filter fun r=>!listed.getD r.i false)=[]:=List.eq_nil_of_length_eq_zero (by omega)
   rw[List.filter_eq_nil_iff] at h0
   have:=h0 r hr
   simpa using this
  refine⟨?_,hQ _ _ _ _ _ hall hd⟩
  rw[List.eq_nil_iff_forall_not_mem]
  intro i hi
  rw[mem_ready] at hi
  obtain⟨h1,o,h2,_⟩:=hi
  have hl:=(Array.getElem?_eq_some_iff.1 h2).1
  obtain⟨r,hr,rfl⟩:=Ci i hl
  have:=hall r hr
  simp only[Array.getD_eq_getD_getElem?] at h1 this
  rw[Array.getElem?_eq_getElem (by omega)] at h1 this
  simp only[Option.getD_some] at h1 this
  rw[h1] at this;cases this
 | succ fuel ih =>
  intro listed γ β a w hsz hf hd
  refine⟨fun hr=>hQ _ _ _ _ _ (all listed hsz hr) hd,fun i hi=>?_⟩
  obtain⟨h1,o,h2,h3⟩:=mem_ready.1 hi
  have hl:=(Array.getElem?_eq_some_iff.1 h2).1
  obtain⟨r,hr,rfl⟩:=Ci i hl
  obtain⟨x,y,hs⟩:=List.append_of_mem hr
  have ho:=(h.at' hs).1
  rw[h2] at ho
  simp only[eW] at ho
  subst ho
  have hS:(fun j=>listed.getD j false) r.i=false:=by
   simp only[Array.getD_eq_getD_getElem?] at h1⊢
   rw[Array.getElem?_eq_getElem (by omega)] at h1⊢
   simpa using h1
  refine bB1.op h2 ((hd.step h hs hS fun j hj=>?_).mono fun v w' ⟨γ',β',hd'⟩=>?_)
  ·rw[G0 r.i r.o h2] at hj
   rcases(aTT r.o.after.toList 0 j).1 hj with h4|⟨ed,e1,e2,e3⟩
   ·simp at h4
   ·have Hp:=h3 ed (by simpa using e1) e2
    rcases e3 with rfl|e3
    ·exact Hp
    ·have hlt:ed.on<ops.size:=by
      rcases Nat.lt_or_ge ed.on listed.size with h'|h'
      ·omega
      ·simp[Array.getElem?_eq_none h'] at Hp
     obtain⟨q,hq,C3⟩:=Ci ed.on hlt
     exact hd.closed q hq (by rw[C3];exact Hp) j (by rw[C3];exact e3)
  ·have Ab:(fun j=>(listed.setIfInBounds r.i true).getD j false)=aA9 (fun j=>listed.getD j false) r.i:=by
    funext j
    simp only[aA9,Array.getD_eq_getD_getElem?]
    by_cases hj:j=r.i
    ·subst hj
     rw[Array.getElem?_setIfInBounds_self]
     simp[hsz,hl]
    ·rw[Array.getElem?_setIfInBounds_ne (fun h=>hj h.symm)]
     simp[hj]
   refine ih _ γ' β' _ _ (by simpa using hsz) ?_ (by rw[Ab];exact hd')
   have Bh:(rs.filter fun q=>!(listed.setIfInBounds r.i true).getD q.i false).length<(rs.filter fun q=>!listed.getD q.i false).length:=by
    have e0:∀q:Rc,(listed.setIfInBounds r.i true).getD q.i false=aA9 (fun j=>listed.getD j false) r.i q.i:=fun q=>congrFun Ab q.i
    simp only[e0]
    rw[hs]
    simp only[List.filter_append,List.filter_cons,List.length_append]
    have hr1:(!aA9 (fun j=>listed.getD j false) r.i r.i)=false:=by simp[aA9]
    have hr2:(!listed.getD r.i false)=true:=by simpa using hS
    rw[hr1,hr2]
    simp only[Bool.false_eq_true,if_false,if_true,List.length_cons]
    have mono:∀l:List Rc,(l.filter fun q=>!aA9 (fun j=>listed.getD j false) r.i q.i).length<=(l.filter fun q=>!listed.getD q.i false).length:=fun l=>by
     rw[<-List.countP_eq_length_filter,<-List.countP_eq_length_filter]
     refine List.countP_mono_left fun q _ hq=>?_
     simp only[aA9,Bool.not_or,Bool.and_eq_true] at hq
     exact hq.1
    have m1:=mono x
    have m2:=mono y
    omega
   omega
theorem bR7 {clo:Array Nat}:(n:Nat)->(done:Nat)->(l:List (Nat×Oper))->∀p∈bC2 clo n done l,p∈l
 | 0,done,l,p,hp=>hp
 | n+1,done,l,p,hp=>by
  have pick:∀(c:Nat) (l:List (Nat×Oper)) (q:Nat×Oper),aMC done clo c l=some q->q∈l:=by
   intro c l
   induction l with
   | nil=>intro q h;simp[aMC] at h
   | cons z l ih =>
    intro q h
    simp only[aMC] at h
    split at h
    ·simp only[eW] at h;subst h;simp
    ·exact List.mem_cons_of_mem _ (ih q h)
  simp only[bC2] at hp
  split at hp
  ·rename_i q hq
   rw[List.mem_cons] at hp
   rcases hp with rfl|hp
   ·simp only[Option.or_eq_some_iff] at hq
    rcases hq with h|⟨_,h|⟨_,h|⟨_,h|⟨_,h⟩⟩⟩⟩<;>exact pick _ _ _ h
   ·exact(List.mem_filter.1 (bR7 n _ _ p hp)).1
  ·exact hp
theorem bY5:(l:List Oper)->(l.filterMap (·.dst)).Nodup->∀{i j:Nat} {o o':Oper} {t:Nat},l[i]?=some o->l[j]?=some o'->o.dst=some t->o'.dst=some t->i=j
 | [],_,i,j,o,o',t,h1,_,_,_=>by simp at h1
 | z::l,hn,i,j,o,o',t,h1,h2,h3,h4=>by
  have mem:∀{k:Nat} {u:Oper},l[k]?=some u->u.dst=some t->t∈l.filterMap (·.dst):=fun {k u} hk hu=>by
   rw[List.mem_filterMap]
   exact⟨u,List.mem_of_getElem? hk,hu⟩
  have hl:(l.filterMap (·.dst)).Nodup:=by
   cases hz:z.dst with
   | none=>simpa [List.filterMap_cons,hz] using hn
   | some t=>rw[List.filterMap_cons,hz] at hn;exact(List.nodup_cons.1 hn).2
  have Jh:z.dst=some t->t ∉ l.filterMap (·.dst):=fun hz=>by
   rw[List.filterMap_cons,hz] at hn;exact(List.nodup_cons.1 hn).1
  cases i with
  | zero =>
   simp only[List.getElem?_cons_zero,eW] at h1
   subst h1
   cases j with
   | zero=>rfl
   | succ j=>exact absurd (mem (by simpa using h2) h4) (Jh h3)
  | succ i =>
   cases j with
   | zero =>
    simp only[List.getElem?_cons_zero,eW] at h2
    subst h2
    exact absurd (mem (by simpa using h1) h3) (Jh h4)
   | succ j=>exact congrArg Nat.succ (bY5 l hl (i:=i) (j:=j) (by simpa using h1) (by simpa using h2) h3 h4)
end
section
variable {P:Program} {Cs:List Con} {X:Cx} {g0 γ γ':Gh} {β β':Bt} {e env:List SV} {ops:Array Oper} {a:Act} {w w':World} {σ σF:St} {wr:Bool} {D:List Nat} {R:RT} {N0:Nat}
theorem bWE (hst:StOK X g0 γ β e w σ a) (hp:RTPath Cs R env σF e) (hn:env.length=σ.nx) (h:bLS N0 σ R=true) (h0:∀r v,g0 r=some v->r<N0):∃γ' β',StOK X g0 γ' β' e w σF a:=by
 unfold bLS at h
 split at h
 ·simp only[Bool.and_eq_true,List.all_eq_true,List.mem_range,beq_iff_eq] at h
  obtain⟨⟨⟨⟨h1,h2⟩,h3⟩,h4⟩,h5⟩:=h
  cases hp with
  | cMW p a k env σ e q1 q2 q3 q4 =>
   cases q4
   obtain⟨β1,hs⟩:=hst.sealed
   have hlen:(env++[(⟨Prim.not.oty,Prim.not.fn (((Ar.cb true).val env).as Prim.not.ity)⟩:SV)]).length=env.length+1:=by simp
   have hH:=StOK.head (n:=env.length) (t0:=.bool) (q:=.Z env.length) (σh:=σF) (l:=aKB σF.tm σ.tm σF.es (rU σ.es)) hs (by simp) (by rw[hn];exact h1) (by rw[beq_iff_eq];exact h2) (by rw[hn];exact h3)
    (fun r v hr=>h4 r (h0 r v hr)) (fun p hp=>by
     have h6:=h5 p hp
     rw[List.any_eq_true] at h6
     obtain⟨g1,z,z1,z2⟩:=h6
     rw[Bool.and_eq_true,beq_iff_eq] at z2
     have e1:=Ar.beq_eq z2.1
     have hz:=(hst.facts z z1).2
     rw[<-hn] at g1
     refine⟨g1,?_⟩
     rw[List.take_left]
     rw[e1,z2.2] at hz
     rw[<-hz,Ar.val_ext _ g1])
   obtain⟨γ',β',hF⟩:=hH
   refine⟨γ',β',?_⟩
   have e1:(env++[(⟨Prim.not.oty,Prim.not.fn (((Ar.cb true).val env).as Prim.not.ity)⟩:SV)]).take env.length=env:=List.take_left
   have e2:((Ar.Z env.length).val (env++[(⟨Prim.not.oty,Prim.not.fn (((Ar.cb true).val env).as Prim.not.ity)⟩:SV)]))=⟨Prim.not.oty,Prim.not.fn (((Ar.cb true).val env).as Prim.not.ity)⟩:=by
    show aSJ _ _=_
    unfold aSJ
    rw[List.getElem?_append_right (Nat.le_refl _)];simp
   rw[e1,e2] at hF
   generalize (Prim.not.fn (((Ar.cb true).val env).as Prim.not.ity))=z at hF⊢
   change Bool at z
   have hF':StOK X g0 γ' β' (env++[⟨Ty.bool,SV.as Ty.bool ⟨Ty.bool,z⟩⟩]) w σF a:=hF
   rw[SV.as_self] at hF'
   exact hF'
 ·cases h
theorem cCI {done i j:Nat}:(done ||| 2 ^ i).testBit j=(done.testBit j||decide (i=j)):=by
 rw[Nat.testBit_or,Nat.testBit_two_pow]
theorem bOM:(l:List Oper)->(n j:Nat)->(o:Oper)->l[j]?=some o->(n+j,o)∈wC n l
 | [],n,j,o,h=>by simp at h
 | z::l,n,j,o,h=>by
  cases j with
  | zero=>simp at h;subst h;simp[wC]
  | succ j =>
   have:=bOM l (n+1) j o (by simpa using h)
   rw[show n+(j+1)=n+1+j by omega]
   exact List.mem_cons_of_mem _ this
theorem bSY {done:Nat} {listed:Array Bool} (hsz:listed.size=ops.size) (hl:∀j,j<ops.size->listed.getD j false=done.testBit j) (Ev:∀j,done.testBit j=true->j<ops.size) {p:Nat×Oper} (hp:p∈(wC 0 ops.toList).filter (aFG done)) :
  ops[p.1]?=some p.2/\p.1∈Region.ready .any ops listed:=by
 obtain⟨hp1,hp2⟩:=List.mem_filter.1 hp
 obtain⟨_,Jx⟩:=aV1 hp1
 have hpo:ops[p.1]?=some p.2:=by simpa using Jx
 have hlt:=(Array.getElem?_eq_some_iff.1 hpo).1
 unfold aFG at hp2
 simp only[Bool.and_eq_true,Bool.not_eq_true',List.all_eq_true,Bool.or_eq_true] at hp2
 refine⟨hpo,?_⟩
 rw[mem_ready]
 refine⟨?_,p.2,hpo,fun ed he hb=>?_⟩
 ·have h5:=hl p.1 hlt
  rw[hp2.1] at h5
  simp only[Array.getD_eq_getD_getElem?] at h5⊢
  rw[Array.getElem?_eq_getElem (by omega)] at h5⊢
  simpa using h5
 ·rcases hp2.2 ed (by simpa using he) with h6|h6
  ·rw[hb] at h6;cases h6
  ·rw[hl _ (Ev _ h6)];exact h6
theorem bXO {Q:Exit->Act->World->Prop}:(n:Nat)->(listed:Array Bool)->(a:Act)->(w:World)->wpAny P .any ops Q n listed a w->wpAnyH P .any ops Q (fun _=>True) n listed a w
 | 0,_,_,_,h=>h
 | n+1,_,_,_,h=>⟨h.1,fun i hi=>wpOp_mono (fun a' w' h'=>⟨trivial,bXO n _ a' w' h'⟩) (h.2 i hi)⟩
theorem cM3 (hC:∀(c:Nat) (C:Con),Cs[c]?=some C->Con.Holds P C) (hgd:∀(i:Nat) (o:Oper),ops[i]?=some o->o.guard=none) (D4:Region.noSelect ops=true) (h0:∀r v,g0 r=some v->r<N0) :
  ∀(n:Nat) (done:Nat) (listed:Array Bool) (σ:St) (R:RT) (env:List SV) (γ:Gh) (β:Bt) (a:Act) (w:World),listed.size=ops.size->(∀j,j<ops.size->listed.getD j false=done.testBit j)->(∀j,done.testBit j=true->j<ops.size) ->
   bYU P Cs wr D ops N0 n done σ R=true->RTPath Cs R env σF e->env.length=σ.nx->StOK X g0 γ β e w σ a->wpAny P .any ops (aRD X g0 e σF) n listed a w:=by
 have rdy:∀(done:Nat) (listed:Array Bool),listed.size=ops.size->(∀j,j<ops.size->listed.getD j false=done.testBit j)->∀i,i∈Region.ready .any ops listed->∃o,ops[i]?=some o/\(i,o)∈(wC 0 ops.toList).filter (aFG done):=fun done listed hsz hl i hi=>by
  obtain⟨h1,o,h2,h3⟩:=mem_ready.1 hi
  have hlt:=(Array.getElem?_eq_some_iff.1 h2).1
  refine⟨o,h2,List.mem_filter.2 ⟨?_,?_⟩⟩
  ·have:=bOM ops.toList 0 i o (by simpa using h2)
   simpa using this
  ·unfold aFG
   simp only[Bool.and_eq_true,Bool.not_eq_true',List.all_eq_true,Bool.or_eq_true]
   refine⟨?_,fun ed he=>?_⟩
   ·rw[<-hl i hlt]
    simp only[Array.getD_eq_getD_getElem?] at h1⊢
    rw[Array.getElem?_eq_getElem (by omega)] at h1⊢
    simpa using h1
   ·cases hb:Region.binds .any ed
    ·exact .inl rfl
    ·right
     have h4:=h3 ed (by simpa using he) hb
     have Hy:ed.on<ops.size:=by
      rcases Nat.lt_or_ge ed.on listed.size with h'|h'
      ·omega
      ·simp[Array.getElem?_eq_none h'] at h4
     rw[<-hl _ Hy];exact h4
 intro n
 induction n with
 | zero =>
  intro done listed σ R env γ β a w hsz hl Ev h hp hn hst
  simp only[bYU,Bool.and_eq_true,List.isEmpty_iff] at h
  obtain⟨γ',β',hF⟩:=bWE hst hp hn h.2 h0
  refine⟨?_,rfl,γ',β',hF⟩
  rw[List.eq_nil_iff_forall_not_mem]
  intro i hi
  obtain⟨o,_,hm⟩:=rdy done listed hsz hl i hi
  rw[h.1] at hm;cases hm
 | succ n ih =>
  intro done listed σ R env γ β a w hsz hl Ev h hp hn hst
  have nxt:∀(i:Nat) (o:Oper),ops[i]?=some o->(∀j,j<ops.size->(listed.setIfInBounds i true).getD j false=(done ||| 2 ^ i).testBit j)/\∀j,(done ||| 2 ^ i).testBit j=true->j<ops.size:=fun i o ho=>by
   have hi:=(Array.getElem?_eq_some_iff.1 ho).1
   refine⟨fun j hj=>?_,fun j hj=>?_⟩
   ·rw[cCI,<-hl j hj]
    simp only[Array.getD_eq_getD_getElem?]
    by_cases hij:i=j
    ·subst hij
     rw[Array.getElem?_setIfInBounds_self]
     simp[hsz,hj]
    ·rw[Array.getElem?_setIfInBounds_ne hij]
     simp[hij]
   ·rw[cCI,Bool.or_eq_true] at hj
    rcases hj with hj|hj
    ·exact Ev j hj
    ·have:=of_decide_eq_true hj
     subst this
     exact hi
  simp only[bYU] at h
  split at h
  ·rename_i p hf
   have Li:=List.mem_of_find?_eq_some hf
   have hpb:=List.find?_some hf
   obtain⟨hpo,D6⟩:=bSY hsz hl Ev Li
   unfold cCM at hpb
   rw[Bool.and_eq_true] at hpb
   obtain⟨As,hm2⟩:=hpb
   rw[List.all_eq_true] at hm2
   split at h
   ·rename_i ls σ' d' hx
    split at h
    ·rename_i R' hR
     have e1:=aT3 ls hR
     subst e1
     obtain⟨q1,env',q2,q3,_⟩:=aC9 ls hp
     rw[hn] at q1
     obtain⟨g1,g2⟩:=aXT hC hst ⟨rfl,rfl⟩ hx q1
     split at As
     case h_2=>cases As
     rename_i x hop
     have hrun:∀w,(execOp a.eval p.2).run P w = .ok (.value (a.eval x)) w:=fun w=>by simp[execOp,hop]
     have Cm:∃γ' β',StOK X g0 γ' β' e w σ' (a.put p.2.dst (a.eval x)):=by
      rcases g2 with⟨v,w1,e1,e2⟩|⟨w1,e1,_⟩|⟨f,args,e1,_⟩
      ·rw[hrun] at e1
       cases e1
       exact e2
      ·rw[hrun] at e1;cases e1
      ·rw[hrun] at e1;cases e1
     obtain⟨γ',β',h'⟩:=Cm
     obtain⟨n1,n2⟩:=nxt p.1 p.2 hpo
     have hih:=ih _ _ σ' _ env' γ' β' _ w (by simpa using hsz) n1 n2 h q2 (by rw[q3,aR6 hx,hn]) h'
     refine wpAny_of_held (n+1) listed a w (wpAnyH_first (S:=fun _=>True) hpo (Region.noSelect_spec D4) (fun c a w hq=>by cases hq.1) n listed a w (fun j oj hj hji _ hno=>?_) D6
      (.inl ⟨by simp[Region.wanted,hgd _ _ hpo],fun w _=>hrun w⟩) trivial (bXO n _ _ w hih))
     have hmem:(j,oj)∈wC 0 ops.toList:=by
      have:=bOM ops.toList 0 j oj (by simpa using hj)
      simpa using this
     have h7:=hm2 _ hmem
     rw[Bool.or_eq_true,Bool.or_eq_true] at h7
     rcases h7 with(h7|h7)|h7
     ·exact absurd (by simpa using h7) hji
     ·rw[List.any_eq_true] at h7
      obtain⟨ed,k1,k2⟩:=h7
      rw[Bool.and_eq_true,beq_iff_eq] at k2
      exact absurd k2.2 (hno ed (by simpa using k1) k2.1)
     ·exact h7
    ·cases h
   ·cases h
  ·simp only[Bool.and_eq_true,Bool.or_eq_true,List.all_eq_true] at h
   obtain⟨h1,h2⟩:=h
   refine⟨fun hr=>?_,fun i hi=>?_⟩
   ·have hemp:(!((wC 0 ops.toList).filter (aFG done)).isEmpty)=true->False:=fun hne=>by
     rw[Bool.not_eq_true',List.isEmpty_eq_false_iff] at hne
     obtain⟨p,hp⟩:=List.exists_mem_of_ne_nil _ hne
     have:=(bSY hsz hl Ev hp).2
     rw[hr] at this;cases this
    obtain⟨γ',β',hF⟩:=bWE hst hp hn (h1.resolve_left hemp) h0
    exact⟨rfl,γ',β',hF⟩
   ·obtain⟨o,ho,hm⟩:=rdy done listed hsz hl i hi
    have hs:=h2 (i,o) hm
    split at hs
    ·rename_i ls σ' d' hx
     split at hs
     ·rename_i R' hR
      have e1:=aT3 ls hR
      subst e1
      obtain⟨q1,env',q2,q3,_⟩:=aC9 ls hp
      rw[hn] at q1
      obtain⟨g1,g2⟩:=aXT hC hst ⟨rfl,rfl⟩ hx q1
      unfold wpOp
      simp only[ho]
      rw[if_pos (by simp[Region.wanted,hgd i o ho])]
      obtain⟨n1,n2⟩:=nxt i o ho
      refine .inl (g2.upon fun v w' ⟨γ',β',h'⟩=>?_)
      exact ih _ _ _ _ env' γ' β' _ _ (by simpa using hsz) n1 n2 hs q2 (by rw[q3,aR6 hx,hn]) h'
     ·cases hs
    ·cases hs
theorem cCD (hm:P.follows .mixedOrders=true) (hC:∀(c:Nat) (C:Con),Cs[c]?=some C->Con.Holds P C) {id:Nat} (h:aVK P Cs wr D ops σ = .ok R) (hp:RTPath Cs R env σF e) (hn:env.length=σ.nx) (hst:StOK X g0 γ β e w σ a):(Code.region id ops true).wp P (aRD X g0 e σF) a w:=by
 unfold aVK at h
 split at h
 ·rename_i hg
  rw[Bool.and_eq_true] at hg
  obtain⟨hg,D4⟩:=hg
  split at h
  ·split at h
   ·rename_i rt hrt hb
    simp only[Except.ok.injEq] at h
    subst h
    have hgd:∀(i:Nat) (o:Oper),ops[i]?=some o->o.guard=none:=fun i o ho=>by
     rw[List.all_eq_true] at hg
     have:=hg o (by simpa using Array.mem_of_getElem? ho)
     simpa using this
    have h0:∀r v,g0 r=some v->r<σ.nr:=fun r v hr=>by
     rcases Nat.lt_or_ge r σ.nr with h'|h'
     ·exact h'
     ·have h1:=hst.base r v hr
      rw[hst.fresh r h'] at h1;cases h1
    have hlat:Later X γ (Os γ σ.es) e w γ (Os γ σ.es) e { w with drawn:=w.drawn+1 }:=⟨fun _ _ h=>h,⟨[],by simp⟩,Nat.le_refl _,fun b _ h _=>⟨rfl,h⟩⟩
    have Cm:StOK X g0 γ β e { w with drawn:=w.drawn+1 } σ a :=
     ⟨⟨hst.mem.nd,hst.mem.at',fun b hb=>(hlat.gd (hst.mem.good b hb)).1,fun p hp=>jS.later hlat rfl (fun _ _=>rfl) (fun _ _=>rfl) (hst.mem.ent p hp)⟩,hst.keys,
      ⟨hst.frame.os,hst.frame.tape,hst.frame.output,hst.frame.size,hst.frame.block⟩,hst.gh,hst.len,fun t=>bU.later hlat (hst.vals t),hst.facts,hst.fresh,hst.nodef,hst.base⟩
    refine wp_region_any hm (cM3 hC hgd D4 h0 ops.size 0 _ σ _ env γ β a _ (by simp) (fun j hj=>?_) (fun j hj=>?_) hb hp hn Cm)
    ·rw[Array.getD_eq_getD_getElem?,Array.getElem?_replicate,if_pos hj];simp
    ·simp at hj
   ·cases h
  ·cases h
 ·cases h
theorem bT4 {er:Err} {x:RT} (h:cE8 P Cs wr D ops σ er = .ok x):aVK P Cs wr D ops σ = .ok x:=by
 unfold cE8 at h
 split at h
 ·exact h
 ·cases h
end
section
variable {P:Program} {Cs:List Con} {X:Cx} {g0 γ γ':Gh} {β β':Bt} {e env:List SV} {ops:Array Oper} {clo:Array Nat} {wrt:List (Nat×Nat)} {N:Nat} {tm0:Tm} {es0:Es} {n0:Nat} {pre rs x y:List Rc} {r:Rc} {S:Nat->Bool} {a:Act} {w w':World} {σ:St} {wr:Bool} {D:List Nat} {C:Con}
theorem bPN {l:List Oper} {t:Nat}:(((l.zipIdx.filterMap fun p=>p.1.dst.map fun t=>(t,p.2)).find? fun p=>p.1==t)=none->∀(j:Nat) (o:Oper),l[j]?=some o->o.dst≠some t) /\
  ∀p,((l.zipIdx.filterMap fun p=>p.1.dst.map fun t=>(t,p.2)).find? fun p=>p.1==t)=some p->∃o,l[p.2]?=some o/\o.dst=some t:=by
 refine⟨fun h j o hj hd=>?_,fun p h=>?_⟩
 ·rw[List.find?_eq_none] at h
  have:(t,j)∈l.zipIdx.filterMap fun p=>p.1.dst.map fun t=>(t,p.2):=by
   rw[List.mem_filterMap]
   exact⟨(o,j),List.mem_zipIdx_iff_getElem?.2 hj,by simp[hd]⟩
  exact h _ this (by simp)
 ·have h1:=List.mem_of_find?_eq_some h
  have h2:=List.find?_some h
  simp only[beq_iff_eq] at h2
  rw[List.mem_filterMap] at h1
  obtain⟨⟨o,j⟩,h3,h4⟩:=h1
  simp only[Option.map_eq_some_iff] at h4
  obtain⟨t',h5,rfl⟩:=h4
  simp only at h2
  subst h2
  exact⟨o,List.mem_zipIdx_iff_getElem?.1 h3,h5⟩
theorem bR6 (ops:Array Oper):(Region.before ops).size=ops.size:=by
 have key:∀(f:Array Nat->Oper->Nat) (l:List Oper) (acc:Array Nat),(l.foldl (fun a o=>a.push (f a o)) acc).size=acc.size+l.length:=by
  intro f l
  induction l with
  | nil=>intro acc;rfl
  | cons o l ih=>intro acc;rw[List.foldl_cons,ih,Array.size_push,List.length_cons];omega
 unfold Region.before
 rw[<-Array.foldl_toList,key]
 simp
theorem cEM (hm:P.follows .mixedOrders=true) (hC:∀(c:Nat) (C:Con),Cs[c]?=some C->Con.Holds P C) {σF:St} {rt:RT} {id:Nat} (hk:bNV ops (Region.before ops) (aHI ops true)=true)
  {fx:Es} (Bw:∀p∈fx,p∈σ.es) (h:rW P Cs wr D ops (aHI ops true) σ (bIO ops true fx) = .ok rt) (hp:RTPath Cs rt env σF e) (hn:env.length=σ.nx) (hst:StOK X g0 γ β e w σ a):(Code.region id ops true).wp P (aRD X g0 e σF) a w:=by
 simp only[bNV,Bool.and_eq_true,decide_eq_true_eq,List.all_eq_true,beq_iff_eq,List.mem_range,List.contains_iff_mem] at hk
 obtain⟨⟨⟨⟨⟨k1,k2⟩,k3⟩,k4⟩,k5⟩,k6⟩:=hk
 have hmem:∀p∈aHI ops true,ops[p.1]?=some p.2:=fun p hp=>by
  simp only[aHI,if_true] at hp
  obtain⟨_,h2⟩:=aV1 (bR7 _ _ _ p hp)
  simpa using h2
 have hrel:RelD (Region.before ops) (ops.toList.zipIdx.filterMap fun p=>p.1.dst.map fun t=>(t,p.2)) σ.n σ.tm σ.es fx σ.nr [] σ (bIO ops true fx):=⟨rfl,rfl,rfl,rfl,rfl,fun r hr=>(by simp at hr),rfl,rfl,rfl,rfl,rfl,fun _=>Bw⟩
 obtain⟨rs,q1,q2,q0,q3,q4,q5,q6⟩:=aUW (X:=X) hC (aHI ops true) h hp hn hrel hst.facts hmem
 simp only[List.nil_append] at q3 q4 q5
 have hi:rs.map (·.i)=(aHI ops true).map (·.1):=by rw[<-q1];simp
 have hlen:rs.length=ops.size:=by rw[<-k2,<-q1];simp
 have hop:∀r∈rs,ops[r.i]?=some r.o:=fun r hr=>hmem (r.i,r.o) (by rw[<-q1];exact List.mem_map.2 ⟨r,hr,rfl⟩)
 have hnd:(rs.map (·.i)).Nodup:=by rw[hi];exact k3
 have Ci:∀i,i<ops.size->∃r∈rs,r.i=i:=fun i hlt=>by
  have:=k4 i hlt
  rw[<-hi,List.mem_map] at this
  exact this
 have Hn:OrdOK P X e ops (Region.before ops) (ops.toList.zipIdx.filterMap fun p=>p.1.dst.map fun t=>(t,p.2)) σ.n σ.tm σ.es fx σ.nr rs:=by
  refine⟨q2,hnd,fun x r y hs j hj=>?_,fun r hr r' hr' t h1 h2=>?_,Bw,fun r hr=>by rw[bR6];exact(Array.getElem?_eq_some_iff.1 (hop r hr)).1,fun t hf r hr=>?_,fun t p hf=>?_⟩
  ·rcases cFH (aHI ops true) k5 (x:=x.map fun r=>(r.i,r.o)) (y:=y.map fun r=>(r.i,r.o)) (p:=(r.i,r.o)) (by rw[<-q1,hs];simp) j hj with h1|⟨q,h1,h2⟩
   ·simp at h1
   ·rw[List.mem_map] at h1
    obtain⟨q',h3,rfl⟩:=h1
    exact⟨q',h3,h2⟩
  ·have:=bY5 ops.toList (by simpa [bQY] using k1) (by simpa using hop r hr) (by simpa using hop r' hr') h1 h2
   exact aQS hnd hr hr' this
  ·exact bPN.1 hf r.i r.o (by simpa using hop r hr)
  ·obtain⟨o,h1,h2⟩:=bPN.2 p hf
   have hlt:p.2<ops.size:=by
    have:=(List.getElem?_eq_some_iff.1 h1).1
    simpa using this
   obtain⟨r,hr,he⟩:=Ci p.2 hlt
   refine⟨r,hr,he,?_⟩
   have h3:=hop r hr
   rw[he] at h3
   have h4:ops[p.2]?=some o:=by simpa using h1
   rw[h3] at h4
   simp only[eW] at h4
   rw[h4];exact h2
 have G0:∀i o,ops[i]?=some o->(Region.before ops).getD i 0=bM6 (Region.before ops) o:=fun i o ho=>by
  have:(i,o)∈wC 0 ops.toList:=by
   have key:∀(l:List Oper) (n j:Nat) (o:Oper),l[j]?=some o->(n+j,o)∈wC n l:=by
    intro l
    induction l with
    | nil=>intro n j o h;simp at h
    | cons z l ih =>
     intro n j o h
     cases j with
     | zero=>simp at h;subst h;simp[wC]
     | succ j =>
      have:=ih (n+1) j o (by simpa using h)
      rw[show n+(j+1)=n+1+j by omega]
      exact List.mem_cons_of_mem _ this
   have:=key ops.toList 0 i o (by simpa using ho)
   simpa using this
  exact k6 (i,o) this
 have hnone:∀j,(Array.replicate ops.size false).getD j false=false:=fun j=>by
  rw[Array.getD_eq_getD_getElem?,Array.getElem?_replicate]
  split<;>rfl
 have Bl:σ.nr<=aHC σ.nr rs/\∀r∈rs,σ.nr<=r.nr:=by
  obtain⟨n1,n2⟩:=fO.nums rs q2
  simp only[List.nil_append] at n1 n2
  have e1:aHC σ.nr []=σ.nr:=rfl
  rw[e1] at n1 n2
  exact⟨n1,fun r hr=>(n2 r hr).1⟩
 refine wp_region_any hm (cKR (g0:=g0) Hn Ci G0 (fun S γ' β' a' w' hall hd=>⟨rfl,?_⟩) ops.size _ γ β a _ (by simp) (by
  rw[List.filter_eq_self.2 (fun r _=>by rw[hnone];rfl)]
  omega) ?_)
 ·have hfl:rs.filter (fun r=>(Array.replicate ops.size false).getD r.i false)=[]:=List.filter_eq_nil_iff.2 fun r _=>by rw[hnone];simp
  have ht:aCR σ.es (fun j=>(Array.replicate ops.size false).getD j false) rs=σ.es:=by unfold aCR;rw[hfl];rfl
  have E6:tmS σ.n σ.tm (fun j=>(Array.replicate ops.size false).getD j false) rs=σ.tm:=by unfold tmS;rw[hfl];rfl
  have hlat:Later X γ (Os γ σ.es) e w γ (Os γ σ.es) e { w with drawn:=w.drawn+1 }:=⟨fun _ _ h=>h,⟨[],by simp⟩,Nat.le_refl _,fun b _ h _=>⟨rfl,h⟩⟩
  refine⟨fun r hr h=>(by rw[hnone] at h;cases h),?_,by rw[ht];exact hst.keys,⟨hst.frame.os,hst.frame.tape,hst.frame.output,hst.frame.size,hst.frame.block⟩,hst.gh,hst.len,fun t=>?_,fun r hr _ q h1 h2=>hst.fresh q (by have:=Bl.2 r hr;omega),fun q hq=>hst.fresh q (by have:=Bl.1;omega),hst.nodef,hst.base⟩
  ·rw[ht]
   exact⟨hst.mem.nd,hst.mem.at',fun b hb=>(hlat.gd (hst.mem.good b hb)).1,fun p hp=>jS.later hlat rfl (fun _ _=>rfl) (fun _ _=>rfl) (hst.mem.ent p hp)⟩
  ·rw[ht,E6]
   exact bU.later hlat (hst.vals t)
 ·have hfl:rs.filter (fun r=>S r.i)=rs:=List.filter_eq_self.2 fun r hr=>hall r hr
  have ht:aCR σ.es S rs=pA σ.es rs:=by unfold aCR;rw[hfl]
  have E6:tmS σ.n σ.tm S rs=σF.tm:=by unfold tmS;rw[hfl,q3]
  have hs1:StOK X g0 γ' β' e w' { σF with es:=pA σ.es rs } a':=by
   refine⟨by rw[<-ht];exact hd.mem,by rw[<-ht];exact hd.keys,hd.frame,hd.gh,?_,fun t=>?_,q6,fun r hr=>hd.top r (by rw[<-q5];exact hr),hd.nodef,hd.base⟩
   ·show σF.n=_
    rw[q0];exact hd.len
   ·have:=hd.vals t
    rw[E6,ht] at this
    exact this
  obtain⟨β2,hs2⟩:=hs1.sealed
  refine⟨γ',β2,?_⟩
  have e1:({ σF with es:=pA σ.es rs }:St).upd (rU ({ σF with es:=pA σ.es rs }:St).es) σF.nx σF.nr σF.cr=σF:=by
   cases σF
   simp only at q4
   rw[q4]
   rfl
  have hs2:StOK X g0 γ' β2 e w' (({ σF with es:=pA σ.es rs }:St).upd (rU ({ σF with es:=pA σ.es rs }:St).es) σF.nx σF.nr σF.cr) a':=hs2
  rw[e1] at hs2
  exact hs2
theorem aJR {draw:Bool} {x:RT}:(n:Nat)->{D:List Nat}->{σ:St}->{γ:Gh}->{β:Bt}->aG8 P Cs wr ops draw n D σ = .ok x->StOK X g0 γ β e w σ a ->
  (∃D' σ' β' fx,(draw=true->bNV ops (Region.before ops) (aHI ops draw)=true)/\rW P Cs wr D' ops (aHI ops draw) σ' (bIO ops draw fx) = .ok x/\StOK X g0 γ β' e w σ' a/\σ'.nx=σ.nx/\(draw=false->fx=[])/\∀p∈fx,p∈σ'.es) \/
   (draw=true/\∃D' σ' β',aVK P Cs wr D' ops σ' = .ok x/\StOK X g0 γ β' e w σ' a/\σ'.nx=σ.nx)
 | 0,D,σ,γ,β,h,hst=>by simp[aG8] at h
 | n+1,D,σ,γ,β,h,hst=>by
  simp only[aG8] at h
  split at h
  ·cases h
  ·rename_i hk
   split at h
   ·rename_i x' hx
    simp only[Except.ok.injEq] at h
    subst h
    refine .inl ⟨D,σ,β,[],fun hd=>?_,hx,hst,rfl,fun _=>rfl,fun p hp=>(by simp at hp)⟩
    subst hd
    simpa using hk
   ·split at h
    ·rename_i x' hx
     split at hx
     ·rename_i hdr
      simp only[Except.ok.injEq] at h
      subst h
      rcases cFQ hx with hx2|hx2
      ·refine .inl ⟨D,σ,β,bT7 ops σ,fun hd=>?_,hx2,hst,rfl,fun hd=>(by rw[hdr] at hd;cases hd),fun p hp=>(List.mem_filter.1 hp).1⟩
       subst hd
       simpa using hk
      ·refine .inl ⟨D,σ,β,cFT ops σ,fun hd=>?_,hx2,hst,rfl,fun hd=>(by rw[hdr] at hd;cases hd),fun p hp=>(List.mem_append.1 hp).elim (fun h=>(List.mem_filter.1 h).1) fun h=>(List.mem_filter.1 h).1⟩
       subst hd
       simpa using hk
     ·cases hx
    ·rename_i err2 hx
     split at h
     ·rename_i x' hx2
      split at hx2
      ·rename_i hdr
       simp only[Except.ok.injEq] at h
       subst h
       exact .inr ⟨hdr,D,σ,β,bT4 hx2,hst,rfl⟩
      ·cases hx2
     ·split at h
      ·split at h
       ·split at h
        ·rename_i σ' hz
         obtain⟨β1,f1,f2,f3⟩:=hst.frz hz
         rcases aJR n h f1 with⟨D',σ2,β2,fx,g1,g2,g3,g4,g5⟩|⟨g1,D',σ2,β2,g2,g3,g4⟩
         ·exact .inl ⟨D',σ2,β2,fx,g1,g2,g3,g4.trans f2,g5⟩
         ·exact .inr ⟨g1,D',σ2,β2,g2,g3,g4.trans f2⟩
        ·cases h
       ·split at h
        ·cases h
        ·exact aJR n h hst
      ·cases h
theorem cL1 (hm:P.follows .mixedOrders=true) (hC:∀(c:Nat) (C:Con),Cs[c]?=some C->Con.Holds P C) (X:Cx) (g0:Gh):bXL P Cs wr X g0:=by
 intro id ops draw D σ rt env e σF γ β w a h hp hn hst
 rcases aJR 12 h hst with⟨D',σ',β',fx,h1,h2,h3,h4,h5,h6⟩|⟨hd,D',σ',β',h2,h3,h4⟩
 rotate_left
 ·subst hd
  exact cCD hm hC h2 hp (by rw[h4];exact hn) h3
 cases draw with
 | true=>exact cEM hm hC (h1 rfl) h6 h2 hp (by rw[h4];exact hn) h3
 | false=>exact cAH hC (by rw[h5 rfl] at h2;simpa [aHI] using h2) hp (by rw[h4];exact hn) h3
theorem bMD (hm:P.follows .mixedOrders=true) {fuel:Nat} {orc:Orc} {T':T} (hC:∀(c:Nat) (C:Con),Cs[c]?=some C->Con.Holds P C) (h:bPY P Cs C wr fuel orc = .ok T')
 (hw:∀x:C.argTy.D,okD C.argTy x->C.pre x->T'.wp Cs [⟨C.argTy,x⟩] [] fun v=>v.as C.resTy=C.fn x):Con.Holds P C:=cGX hC (fun X g0=>cL1 hm hC X g0) h hw
end
#print axioms bMD
theorem cFS:Tryz.prog.follows .mixedOrders=true:=by kernel_rfl
theorem aH {P:Program}:∀(c:Nat) (C:Con),([]:List Con)[c]?=some C->Con.Holds P C:=fun c C h=>by simp at h
theorem aC {P:Program} {C0:Con} {Cs:List Con} (h0:Con.Holds P C0) (h:∀(c:Nat) (C:Con),Cs[c]?=some C->Con.Holds P C):∀(c:Nat) (C:Con),(C0::Cs)[c]?=some C->Con.Holds P C:=fun c C hc=>by
 cases c with
 | zero=>simp only[List.getElem?_cons_zero,eW] at hc;subst hc;exact h0
 | succ c=>exact h c C (by simpa using hc)
theorem tk {C:Con} {Cs:List Con} (o:Orc) (t:T) (hC:∀(c:Nat) (C:Con),Cs[c]?=some C->Con.Holds Tryz.prog C) (hw:∀x:C.argTy.D,okD C.argTy x->C.pre x->t.wp Cs [⟨C.argTy,x⟩] [] fun v=>v.as C.resTy=C.fn x) (h:bPY Tryz.prog Cs C false 3000 o = .ok t:=by kernel_rfl):Con.Holds Tryz.prog C:=bMD cFS hC h hw
theorem cLK (k:IntKind) (x y:Int):@LE.le (Ty.D (.int k)) Int.instLEInt x y = @LE.le Int Int.instLEInt x y:=rfl
theorem cM6 (k:IntKind) (x y:Int):@LT.lt (Ty.D (.int k)) Int.instLTInt x y = @LT.lt Int Int.instLTInt x y:=rfl
theorem cLM (k:IntKind) (x y:Int):@Ne (Ty.D (.int k)) x y = @Ne Int x y:=rfl
theorem cLQ (k:IntKind) (x y:Int):@Eq (Ty.D (.int k)) x y = @Eq Int x y:=rfl
theorem cI0 (k:IntKind):(@OfNat.ofNat (Ty.D (.int k)) 0 (@instOfNat 0))=(0:Int):=rfl
theorem cDN (b:Bool):okD .bool b=True:=rfl
theorem aP {α:Type} {l:List α} {k:Nat} (h:k<l.length) {d:α}:l.getD k d=l[k]:=by simp[h]
theorem oT {α:Type} {l:List α} {k:Nat} (h:k<l.length):l.take k++[l[k]]=l.take (k+1):=by rw[List.take_succ_eq_append_getElem h]
def mS (x:Int):Int:=min (max x (-2147483647)) 2147483647
def bIA (x:Int):Int×Bool:=(mS x,decide (x≠mS x))
def kH (a b:Int):Int×Bool:=bIA (mS a+mS b)
theorem aL4 (k:Nat):((k:Int) - 1).toNat=k - 1:=by omega
theorem bGR (k:Nat):((k:Int)+1).toNat=k+1:=by omega
theorem bS2:Int.toNat 0=0:=rfl
theorem bSN:Int.toNat 1=1:=rfl
theorem avA (env:List SV) (a b:Ty) (p:Ar):Ar.val env (pjA (.cMV a b) 0 p)=⟨a,((p.val env).as (.cMV a b)).1⟩:=rfl
theorem avB (env:List SV) (a b:Ty) (n:Nat) (p:Ar):Ar.val env (pjA (.cMV a b) (n+1) p)=Ar.val env (pjA b n (.p2 a b p)):=rfl
theorem avC (env:List SV) (k:IntKind) (n:Nat) (p:Ar):Ar.val env (pjA (.int k) n p)=Ar.val env p:=rfl
theorem avD (env:List SV) (n:Nat) (p:Ar):Ar.val env (pjA .bool n p)=Ar.val env p:=rfl
theorem avE (env:List SV) (n:Nat) (p:Ar):Ar.val env (pjA .str n p)=Ar.val env p:=rfl
theorem avF (env:List SV) (e:TypeId) (t:Ty) (n:Nat) (p:Ar):Ar.val env (pjA (.slice e t) n p)=Ar.val env p:=rfl
theorem avG (env:List SV) (a b:Ty) (n:Nat) (p:Ar):Ar.val env (prA (.cMV a b) (n+1) p)=Ar.val env (prA b n (.p2 a b p)):=rfl
theorem avH (env:List SV) (a b:Ty) (p:Ar):Ar.val env (prA (.cMV a b) 0 p)=Ar.val env p:=rfl
theorem avI (env:List SV) (k:IntKind) (n:Nat) (p:Ar):Ar.val env (prA (.int k) n p)=Ar.val env p:=rfl
theorem avJ (env:List SV) (n:Nat) (p:Ar):Ar.val env (prA .bool n p)=Ar.val env p:=rfl
theorem avK (env:List SV) (n:Nat) (p:Ar):Ar.val env (prA .str n p)=Ar.val env p:=rfl
theorem avL (env:List SV) (e:TypeId) (t:Ty) (n:Nat) (p:Ar):Ar.val env (prA (.slice e t) n p)=Ar.val env p:=rfl
theorem avM (env:List SV) (a b:Ty) (x y:Ar) (l:List Ar):Ar.val env (oH (.cMV a b) (x::y::l))=⟨.cMV a b,((x.val env).as a,((oH b (y::l)).val env).as b)⟩:=rfl
theorem avN (env:List SV) (k:IntKind) (x:Ar) (l:List Ar):Ar.val env (oH (.int k) (x::l))=Ar.val env x:=rfl
theorem avO (env:List SV) (x:Ar) (l:List Ar):Ar.val env (oH .bool (x::l))=Ar.val env x:=rfl
theorem avP (env:List SV) (x:Ar) (l:List Ar):Ar.val env (oH .str (x::l))=Ar.val env x:=rfl
theorem avQ (env:List SV) (e:TypeId) (t:Ty) (x:Ar) (l:List Ar):Ar.val env (oH (.slice e t) (x::l))=Ar.val env x:=rfl
theorem avR (env:List SV) (a b:Ty) (x:Ar):Ar.val env (oH (.cMV a b) [x])=Ar.val env x:=rfl
theorem dR {t:T} {Cs:List Con} {env:List SV} {L:List (SV->Prop)} {Q:SV->Prop} {P:Prop} (p:P) (h:t.wp Cs env L Q↔P:=by dsimp only [avA,avB,avC,avD,avE,avF,avG,avH,avI,avJ,avK,avL,avM,avN,avO,avP,avQ,avR,T.wp,pjA,prA,oH,aN9,aPM,Ar.val,aSJ,Prim.cond,Prim.fn,Prim.ity,Prim.oty,List.getElem?_cons_succ,List.getElem?_cons_zero,Option.getD_some,List.cons_append,List.nil_append,inK,arI,cGG,maxI,minI,negI];(try simp only[SV.as_self,true_and,forall_const,cDN,cLK,cM6,cLM,cLQ,cI0]);exact Iff.rfl):t.wp Cs env L Q:=h.mpr p
theorem dQ {P Q:Prop} (q:Q) (h:P↔Q:=by(try simp only[Int.toNat_natCast,Bool.not_eq_true',Bool.not_eq_false',Bool.and_eq_true,Bool.and_eq_false_iff,decide_eq_true_eq,decide_eq_false_iff_not,Int.not_lt,Int.not_le,ge_iff_le,gt_iff_lt,List.length_cons,List.length_nil,List.length_append,Nat.zero_add,List.nil_append,beq_iff_eq,beq_eq_false_iff_ne,bne_iff_ne,bne_eq_false_iff_eq,ne_eq,aL4,bGR,bS2,bSN]);exact Iff.rfl):P:=h.mpr q
section
variable {t:Ty} {e:TypeId} {w:World} {v:Value} {l:List t.D} {bl:List Nat}
end
structure Only (bl:List Nat) (w w':World):Prop where
 os:w'.os=w.os
 tape:w'.tape=w.tape
 output:w'.output=w.output
 size:w.heap.size<=w'.heap.size
 block:∀q,q ∉ bl->q<w.heap.size->w'.heap[q]?=w.heap[q]?
section
variable {bl bl':List Nat} {w w' w'':World}
theorem Only.refl (bl:List Nat) (w:World):Only bl w w:=⟨rfl,rfl,rfl,Nat.le_refl _,fun _ _ _=>rfl⟩
theorem Only.trans (h:Only bl w w') (k:Only bl w' w''):Only bl w w'' :=
 ⟨k.os.trans h.os,k.tape.trans h.tape,k.output.trans h.output,Nat.le_trans h.size k.size,fun q hq hz=>(k.block q hq (Nat.lt_of_lt_of_le hz h.size)).trans (h.block q hq hz)⟩
theorem Only.mono (h:Only bl w w') (hb:∀q∈bl,q∈bl'):Only bl' w w':=⟨h.os,h.tape,h.output,h.size,fun q hq hz=>h.block q (fun hm=>hq (hb q hm)) hz⟩
theorem Only.setCell (h:Only bl w w') {p:Addr} (hp:p.block∈bl) (u:Value):Only bl w (w'.setCell p u) :=
 h.trans ⟨rfl,rfl,rfl,by simp[World.setCell],fun q hq _=>Below.heap_setCell _ _ _ _ (fun e=>hq (e ▸ hp))⟩
theorem Only.alloc (h:Only bl w w') (o:Obj):Only bl w (w'.alloc o) :=
 h.trans ⟨rfl,rfl,rfl,by simp,fun q hq hz=>Below.heap_alloc _ _ _ hz⟩
theorem Only.drew (h:Only bl w w'):Only bl w w'.drew:=⟨h.os,h.tape,h.output,h.size,h.block⟩
theorem Only.of_below {B:Nat} (h:Below B w w') (hB:B=w.heap.size):Only bl w w':=⟨h.os,h.tape,h.output,h.size,fun q _ hz=>h.block q (by omega)⟩
theorem Only.below {B:Nat} (h:Only bl w w') (hb:∀q∈bl,B<=q) (hB:B<=w.heap.size):Below B w w' :=
 ⟨h.os,h.tape,h.output,h.size,fun k hk=>h.block k (fun hm=>by have:=hb k hm;omega) (by omega)⟩
end
theorem aFM {α:Type} (A l:List α) (k:Nat) (hk:k<l.length) (hA:A.length=l.length) (x:α) (hx:A[k]'(by omega)=x):(A.take k++l.drop k).set k x=A.take (k+1)++l.drop (k+1):=by
 have h1:(A.take k).length=k:=by simp;omega
 rw[List.set_append_right _ _ (by omega),h1,Nat.sub_self,List.drop_eq_getElem_cons hk,List.set_cons_zero,List.take_succ_eq_append_getElem (by omega),hx]
 simp
theorem cCY {α:Type} (l:List α) (z:α) (k:Nat) (hk:k<l.length):(l.take k++List.replicate (l.length - k) z).set k l[k]=l.take (k+1)++List.replicate (l.length - (k+1)) z:=by
 have h1:(l.take k).length=k:=by simp;omega
 rw[List.set_append_right _ _ (by omega),h1,Nat.sub_self,show l.length - k=l.length - (k+1)+1 by omega,List.replicate_succ,List.set_cons_zero,List.take_succ_eq_append_getElem hk,List.append_assoc,List.singleton_append]
theorem aFS {α:Type} (A l:List α) (k:Nat) (hk:k<l.length) (hA:A.length=l.length):(A.take k++l.drop k)[k]'(by simp;omega)=l[k]:=by
 have h1:(A.take k).length=k:=by simp;omega
 rw[List.getElem_append_right (by omega)]
 simp[h1]
def bC:(t:Ty)->t.D->Nat
 | .int _,_=>0
 | .bool,_=>0
 | .str,_=>0
 | .slice _ t,l=>List.length l+(l.map (bC t)).sum
 | .cMV a b,x=>bC a x.1+bC b x.2
theorem iN (e:TypeId) (t:Ty) (l:List t.D):bC (.slice e t) l=l.length+(l.map (bC t)).sum:=rfl
def szR (left:Int) (n:Nat):Int:=if(n:Int)<=left then left - n else -1
theorem bX1 {left:Int} {n:Nat} (h:(n:Int)<=left):szR left n=left - n:=if_pos h
theorem bX2 {left:Int} {n:Nat} (h:¬(n:Int)<=left):szR left n = -1:=if_neg h
theorem bGX {α:Type} (f:α->Nat) (l:List α) (h:∀x,f x=0):(l.map f).sum=0:=by
 induction l with
 | nil=>rfl
 | cons a m ih=>rw[List.map_cons,List.sum_cons,ih,h]
theorem gN {α:Type} (f:α->Nat) (l:List α) (k:Nat) (h:k<l.length):((l.take (k+1)).map f).sum=((l.take k).map f).sum+f l[k]:=by
 rw[List.take_succ_eq_append_getElem h,List.map_append,List.sum_append];simp only[List.map_cons,List.map_nil,List.sum_cons,List.sum_nil,Nat.add_zero]
theorem sL {α:Type} (f:α->Nat) (l:List α) (k:Nat):((l.take k).map f).sum<=(l.map f).sum:=by
 conv=>rhs;rw[<-List.take_append_drop k l,List.map_append,List.sum_append]
 omega
theorem bTE {α:Type} (f:α->Nat) (l:List α) (k:Nat) (h:k<l.length):f l[k]<=(l.map f).sum:=by
 have h1:=gN f l k h
 have h2:=sL f l (k+1)
 omega
def cR:(t:Ty)->t.D->Nat
 | .int _,_=>1
 | .bool,_=>1
 | .str,_=>1
 | .slice _ t,l=>(l.map (cR t)).sum
 | .cMV a b,x=>cR a x.1+cR b x.2
def aJ0 {α:Type} (f:α->Int->α) (c:α->Nat):List α->Int->List α
 | [],_=>[]
 | x::l,k=>f x k::aJ0 f c l (k+(c x:Int))
def mk:(t:Ty)->t.D->Int->t.D
 | .int _,_,k=>k
 | .bool,_,k=>decide (k % 3=0)
 | .str,s,_=>s
 | .slice _ t,l,k=>aJ0 (mk t) (cR t) l k
 | .cMV a b,x,k=>(mk a x.1 k,mk b x.2 (k+(cR a x.1:Int)))
theorem aDJ {α:Type} (f:α->Int->α) (c:α->Nat):(l:List α)->(k:Int)->(aJ0 f c l k).length=l.length
 | [],k=>rfl
 | x::l,k=>by simp[aJ0,aDJ f c l]
theorem aSS {α:Type} (f:α->Int->α) (c:α->Nat):(l:List α)->(k:Int)->(i:Nat)->(h:i<l.length)->(h':i<(aJ0 f c l k).length)->(aJ0 f c l k)[i]=f l[i] (k+(((l.take i).map c).sum:Int))
 | [],k,i,h,_=>by simp at h
 | x::l,k,0,h,_=>by simp[aJ0]
 | x::l,k,i+1,h,h'=>by
  simp only[aJ0,List.getElem_cons_succ,List.take_succ_cons,List.map_cons,List.sum_cons]
  rw[aSS f c l _ i (by simpa using h)]
  congr 1
  omega
theorem cCT {a0:Int} (w0:(Lit.int .i64 a0).wf=true):-9223372036854775808<=a0/\a0<=9223372036854775807:=by
 simpa [Lit.wf,IntKind.min,IntKind.max,IntKind.signed,IntKind.bits] using w0
theorem aAF {a0:Int} (h:-9223372036854775808<=a0/\a0<=9223372036854775807):(Lit.int .i64 a0).wf=true:=by
 simpa [Lit.wf,IntKind.min,IntKind.max,IntKind.signed,IntKind.bits] using h
def bLG (v:Value) (w:World) (r:Ending) (w':World):Prop:=r = .returned v/\Below w.heap.size w w'
def cMH (e:TypeId) (t:Ty) (w:World) (l:List t.D) (r:Ending) (w':World):Prop :=
 ∃p cap,r = .returned (.slice p l.length cap)/\mJ (.slice e t) w.heap.size w'.heap.size w' [.slice p l.length cap] l/\Below w.heap.size w w'
theorem aDQ {k:IntKind} {a b:Int} (h:a=b):Ending.returned (.int k a) = .returned (.int k b):=by rw[h]
theorem bW6 {cs:Array Value} {l:List Value} (h:cs.toList=l):cs=l.toArray:=by rw[<-h]
theorem tC.below {t:Ty} {w w':World} {p:Option Addr} {len cap:Nat} {l:List t.D} (h:tC t.n (rd t w) w p len cap l) (hb:Below w.heap.size w w'):tC t.n (rd t w') w' p len cap l :=
 h.mono (Below.keeps hb) (fun cs x hx=>bYF (Below.keeps hb) t cs x hx)
theorem aKG {t:Ty} {w w':World} {cs:List Value} {d:t.D} (h:rd t w cs d) (hb:Below w.heap.size w w'):rd t w' cs d:=bYF (Below.keeps hb) t cs d h
theorem cLL {e:TypeId} {t:Ty} {lo hi:Nat} {w:World} {p:Option Addr} {len cap:Nat} {l:List t.D} (h:mJ (.slice e t) lo hi w [.slice p len cap] l):tC t.n (rd t w) w p len cap l:=by
 obtain⟨p',len',cap',hv,hs⟩:=h.rd
 simp only[List.cons.injEq,Value.slice.injEq,and_true] at hv
 obtain⟨rfl,rfl,rfl⟩:=hv
 exact hs
theorem mJ.set1 {t:Ty} {lo hi:Nat} {w:World} {cs:List Value} {d:t.D} (h:mJ t lo hi w cs d) {a:Addr} (ha:a.block<lo\/hi<=a.block) (v:Value):mJ t lo hi (w.setCell a v) cs d :=
 h.keep (fun b h1 h2=>Below.heap_setCell _ _ _ _ (by omega)) (by simp[World.setCell])
theorem mJ.alloc {t:Ty} {lo hi:Nat} {w:World} {cs:List Value} {d:t.D} (h:mJ t lo hi w cs d) (o:Obj):mJ t lo hi (w.alloc o) cs d :=
 h.keep (fun b h1 h2=>Below.heap_alloc _ _ _ (by have:=h.hi_le;omega)) (by simp)
theorem tC.lens {α:Type} {n:Nat} {R:List Value->α->Prop} {w:World} {p:Option Addr} {len cap:Nat} {l:List α} (h:tC n R w p len cap l):len=l.length:=h.1
theorem bUZ {w:World} {p:Option Addr} {len cap:Nat} {l:List Int} (h:tC 1 (rd pN w) w p len cap l) (k:Nat) (hk:k<l.length) :
  ∃b off,p=some ⟨b,off,none⟩/\b<w.heap.size/\w.cell? ⟨b,off+k,none⟩=some (.int .i64 l[k])/\-9223372036854775808<=l[k]/\l[k]<=9223372036854775807:=by
 obtain⟨b,off,hp,hb,cs,hl,hc,rfl,hw⟩:=h.2.2.2.2 k hk
 exact⟨b,off,hp,hb,by simpa using hc 0 (by simp),(cCT hw).1,(cCT hw).2⟩
theorem aLF (p:Option Addr) (len cap:Nat) (l:List Int) (w:World) (h:tC 1 (rd pN w) w p len cap l) (hlen:l.length<=1048576) :
  Calls Tryz.prog 61 #[.slice p len cap] w (cMH 3 pN w l):=by
 obtain rfl:=h.lens
 have hmk:=aZI Tryz.prog 53 3 (.int .i64 0) 8 pN Tryz.underlying53 (by kernel_rfl) rfl l.length (by omega) (by omega)
 go_enter Tryz.func61,Tryz.ntmps61
 go_wp2
 go_loopw [4] (fun i wr=>∃k:Nat,k<=l.length/\i = .int .i64 k/\Below w.heap.size w wr/\mJ aA w.heap.size wr.heap.size wr [.slice (some ⟨w.heap.size,0,none⟩) l.length l.length] (l.take k++List.replicate (l.length - k) (0:Int))) (fun i _=>l.length - (intOf i).toNat)
 case atStart=>exact⟨0,by omega,rfl,(Below.refl _ _).alloc (Nat.le_refl _) _,(mJ.made w pN _ l.length (by simp[maxLen];omega)).mono (Nat.le_refl _) (by simp) (Nat.le_refl _)⟩
 case round =>
  obtain⟨k,hk,rfl,hb,hf⟩:=hrel
  by_cases hlt:k<l.length
  ·obtain⟨b,off,rfl,hlb,hc,hw1,hw2⟩:=bUZ h k hlt
   have c1:wr.cell? ⟨b,off+k,none⟩=some (.int .i64 l[k]):=(hb.cell hlb).trans hc
   obtain⟨b',cap',hv,_,_,hfz,c,hcl,hcc,_⟩:=hf.at k (by simp;omega)
   simp only[Value.slice.injEq,eW,Addr.mk.injEq,and_true] at hv
   obtain⟨rfl,-,rfl⟩:=hv
   have c2:wr.cell? ⟨w.heap.size,k,none⟩=some (c[0]'(by rw[hcl];exact Nat.one_pos)):=by simpa [Ty.n] using hcc 0 (by rw[hcl];exact Nat.one_pos)
   have c3:=hfz k
   have HF:=Lib.hid hf
   clear h hc hcc hfz hf
   go_wp2
   go_roundw
   case rel =>
    refine⟨k+1,by omega,by go_num,hb.setCell (Nat.le_refl _) _,?_⟩
    have h1:=HF.out.set k (by simp;omega) (hb.size) (Nat.le_refl _) (mJ.int (aAF ⟨hw1,hw2⟩) (Nat.le_refl _))
    simp only[Ty.n,Nat.mul_one,setCells] at h1
    rw[cCY l (0:Int) k hlt] at h1
    simpa [World.setCell] using h1
   case measure=>simp[intOf];omega
  ·clear h
   go_wp2
   go_ret
   obtain rfl:k=l.length:=by omega
   exact⟨_,_,rfl,by simpa using hf,hb⟩
theorem bVU (p q:Option Addr) (len cap len' cap':Nat) (l:List Int) (w:World) (h:tC 1 (rd pN w) w p len cap l) (h':tC 1 (rd pN w) w q len' cap' l) :
  Calls Tryz.prog 51 #[.slice p len cap,.slice q len' cap'] w (bLG (.bool true) w):=by
 obtain rfl:=h.lens
 obtain rfl:=h'.lens
 have hmx:l.length<=maxLen:=by have:=h.2.1;have:=h.2.2.1;omega
 unfold maxLen at hmx
 go_enter Tryz.func51,Tryz.ntmps51
 go_wp2
 go_loopw [5] (fun i wr=>∃k:Nat,k<=l.length/\i = .int .i64 k/\Below w.heap.size w wr) (fun i _=>l.length - (intOf i).toNat)
 case atStart=>exact⟨0,by omega,rfl,Below.refl _ _⟩
 case round =>
  obtain⟨k,hk,rfl,hb⟩:=hrel
  by_cases hlt:k<l.length
  ·obtain⟨b,off,rfl,hlb,hc,hw1,hw2⟩:=bUZ h k hlt
   obtain⟨b2,off2,rfl,D9,hc2,-,-⟩:=bUZ h' k hlt
   have c1:wr.cell? ⟨b,off+k,none⟩=some (.int .i64 l[k]):=(hb.cell hlb).trans hc
   have c2:wr.cell? ⟨b2,off2+k,none⟩=some (.int .i64 l[k]):=(hb.cell D9).trans hc2
   clear h h' hc hc2
   go_wp2
   go_quiet (fail)
   go_wp2
   go_roundw
   case rel=>exact⟨k+1,by omega,by go_num,below_drewN hb _⟩
   case measure=>simp[intOf];omega
  ·clear h h'
   go_wp2
   go_ret
   exact⟨rfl,hb⟩
theorem lX (l:List Int):bC aA l=l.length:=by
 rw[iN,bGX (bC pN) l (fun _=>rfl)];rfl
theorem bYB (l:List Int):(l.map (cR pN)).sum=l.length:=by
 induction l with
 | nil=>rfl
 | cons a m ih =>
  rw[List.map_cons,List.sum_cons,ih,List.length_cons]
  show 1+_=_
  omega
theorem cHL (l:List Int) (k0:Int) (k:Nat) (hk:k<l.length):(mk aA l k0)[k]'(by show k<(aJ0 _ _ _ _).length;rw[aDJ];exact hk)=k0+k:=by
 show(aJ0 (mk pN) (cR pN) l k0)[k]'_=_
 rw[aSS _ _ _ _ _ hk]
 show k0+_=_
 rw[bYB,List.length_take,Nat.min_eq_left (by omega)]
theorem bHZ (l:List Int) (k0:Int):(mk aA l k0:List Int).length=l.length:=aDJ _ _ _ _
theorem zI (l:List Int):cR aA l=l.length:=bYB l
section
variable {t:Ty} {e:TypeId} {w:World} {v:Value} {l:List t.D} {bl:List Nat}
end
theorem Only.setCells {bl:List Nat} {w w':World}:{vs:List Value}->{b off:Nat}->Only bl w w'->b∈bl->Only bl w (setCells w' b off vs)
 | [],b,off,h,hb=>h
 | v::vs,b,off,h,hb=>Only.setCells (vs:=vs) (h.setCell (p:=⟨b,off,none⟩) hb v) hb
theorem aB2 {t:Ty} {e:TypeId} (l:List t.D) (k0:Int):List.length (mk (.slice e t) l k0)=l.length:=aDJ _ _ _ _
theorem aPI {t:Ty} {e:TypeId} (l:List t.D) (k0:Int) (k:Nat) (hk:k<l.length) (h':k<List.length (mk (.slice e t) l k0)) :
 (mk (.slice e t) l k0:List t.D)[k]=mk t l[k] (k0+(((l.take k).map (cR t)).sum:Nat)):=aSS _ _ _ _ _ hk h'
theorem mP {t:Ty} {e:TypeId} (l:List t.D):cR (.slice e t) l=(l.map (cR t)).sum:=rfl
theorem mJ.only {t:Ty} {lo hi:Nat} {w w':World} {cs:List Value} {d:t.D} {bl:List Nat} (h:mJ t lo hi w cs d) (hw:Only bl w w') (hb:∀b∈bl,b<lo\/hi<=b):mJ t lo hi w' cs d :=
 h.keep (fun b h1 h2=>hw.block b (fun hm=>by have:=hb b hm;omega) (by have:=h.hi_le;omega)) hw.size
theorem mJ.of_rep {t:Ty} {lo hi:Nat} {w:World} {cs:List Value} {d:t.D} {bl:List Nat} (h:rep t w cs d bl) (hn:bl.Nodup) (hb:∀b∈bl,lo<=b/\b<hi) (hz:hi<=w.heap.size):mJ t lo hi w cs d :=
 ⟨bl,h,hn,hb,hz⟩
def Ty.scal:Ty->Nat
 | .slice _ _=>0
 | .cMV a b=>a.scal+b.scal
 | _=>1
def Ty.per:Ty->Nat
 | .slice _ t=>max t.scal t.per
 | .cMV a b=>max a.per b.per
 | _=>0
theorem bDJ:(t:Ty)->(d:t.D)->cR t d<=t.scal+t.per * bC t d:=by
 intro t
 induction t with
 | int k=>intro d;exact Nat.le_add_right _ _
 | bool=>intro d;exact Nat.le_add_right _ _
 | str=>intro d;exact Nat.le_add_right _ _
 | slice e t ih =>
  intro l
  rw[mP,iN]
  simp only[Ty.scal,Ty.per,Nat.zero_add]
  have h:∀m:List t.D,(m.map (cR t)).sum<=max t.scal t.per * (m.length+(m.map (bC t)).sum):=by
   intro m
   induction m with
   | nil=>simp
   | cons a m ihm =>
    rw[List.map_cons,List.sum_cons,List.map_cons,List.sum_cons,List.length_cons]
    have h1:=ih a
    have h2:t.scal<=max t.scal t.per:=Nat.le_max_left _ _
    have h3:t.per * bC t a<=max t.scal t.per * bC t a:=Nat.mul_le_mul_right _ (Nat.le_max_right _ _)
    have e1:max t.scal t.per * (m.length+1+(bC t a+(m.map (bC t)).sum))=max t.scal t.per+max t.scal t.per * bC t a+max t.scal t.per * (m.length+(m.map (bC t)).sum):=by
     rw[show m.length+1+(bC t a+(m.map (bC t)).sum)=1+bC t a+(m.length+(m.map (bC t)).sum) by omega,Nat.mul_add,Nat.mul_add,Nat.mul_one]
    omega
  exact h l
 | cMV a b iha ihb =>
  intro x
  have h1:=iha x.1
  have h2:=ihb x.2
  have h3:a.per * bC a x.1<=max a.per b.per * bC a x.1:=Nat.mul_le_mul_right _ (Nat.le_max_left _ _)
  have h4:b.per * bC b x.2<=max a.per b.per * bC b x.2:=Nat.mul_le_mul_right _ (Nat.le_max_right _ _)
  show cR a x.1+cR b x.2<=a.scal+b.scal+max a.per b.per * (bC a x.1+bC b x.2)
  rw[Nat.mul_add]
  omega
theorem cLG (e:TypeId) (t:Ty) (l:List t.D) (h:(Ty.slice e t).per<=20):cR (.slice e t) l<=20 * bC (.slice e t) l:=by
 have h1:=bDJ (.slice e t) l
 have h2:(Ty.slice e t).per * bC (.slice e t) l<=20 * bC (.slice e t) l:=Nat.mul_le_mul_right _ h
 have h3:(Ty.slice e t).scal=0:=rfl
 omega
theorem aLQ {w:World} {o:Obj} {a:Addr} (h:a.block<w.heap.size):(w.alloc o).cell? a=w.cell? a :=
 World.cell?_of_block (Below.heap_alloc _ _ _ h)
def aVZ:(t:Ty)->t.D->Nat
 | .slice e t,l=>cR (.slice e t) l
 | .cMV a b,x=>aVZ a x.1+aVZ b x.2
 | .int _,_=>0
 | .bool,_=>0
 | .str,_=>0
def mkt:(t:Ty)->t.D->Int->t.D
 | .slice e t,l,k=>mk (.slice e t) l k
 | .cMV a b,x,k=>(mkt a x.1 k,mkt b x.2 (k+(aVZ a x.1:Int)))
 | .int _,x,_=>x
 | .bool,x,_=>x
 | .str,x,_=>x
theorem bQD:(t:Ty)->(d:t.D)->aVZ t d<=t.per * bC t d:=by
 intro t
 induction t with
 | int k=>intro d;exact Nat.zero_le _
 | bool=>intro d;exact Nat.zero_le _
 | str=>intro d;exact Nat.zero_le _
 | slice e t ih =>
  intro l
  have h1:=bDJ (.slice e t) l
  have h3:(Ty.slice e t).scal=0:=rfl
  show cR (.slice e t) l<=_
  omega
 | cMV a b iha ihb =>
  intro x
  have h1:=iha x.1
  have h2:=ihb x.2
  have h3:a.per * bC a x.1<=max a.per b.per * bC a x.1:=Nat.mul_le_mul_right _ (Nat.le_max_left _ _)
  have h4:b.per * bC b x.2<=max a.per b.per * bC b x.2:=Nat.mul_le_mul_right _ (Nat.le_max_right _ _)
  show aVZ a x.1+aVZ b x.2<=max a.per b.per * (bC a x.1+bC b x.2)
  rw[Nat.mul_add]
  omega
theorem cI5 (t:Ty) (d:t.D) (h:t.per<=20):aVZ t d<=20 * bC t d :=
 Nat.le_trans (bQD t d) (Nat.mul_le_mul_right _ h)
theorem Only.cell {bl:List Nat} {w w':World} (h:Only bl w w') {a:Addr} (ha:a.block ∉ bl) (hz:a.block<w.heap.size):w'.cell? a=w.cell? a :=
 World.cell?_of_block (h.block a.block ha hz)
theorem aF5:(t:Ty)->(w:World)->(cs:List Value)->(d:t.D)->(bl:List Nat)->Un t w cs d bl->∀b∈bl,b<w.heap.size:=by
 intro t
 induction t with
 | int k=>intro w cs d bl h;simp[h.2.2]
 | bool=>intro w cs d bl h;simp[h.2]
 | str=>intro w cs d bl h;simp[h.2.2]
 | slice e t ih =>
  intro w cs d bl h
  rcases h with⟨p,_,_,rfl⟩|⟨b,off,cap,cur,xs,bl',_,hv,hh,h1,_,h3,h4,hr,rfl⟩
  ·simp
  ·intro q hq
   rw[List.mem_cons] at hq
   rcases hq with rfl|hq
   ·exact(Array.getElem?_eq_some_iff.1 hh).1
   ·clear hh h1 h3 h4 hv
    induction d generalizing xs bl' with
    | nil=>have h2:=hr.2;rw[h2] at hq;simp at hq
    | cons x l ihl =>
     obtain⟨c,xs',b1,b2,hc,rfl,rfl,h1,hr⟩:=hr
     rw[List.mem_append] at hq
     rcases hq with hq|hq
     ·exact ih w _ _ _ h1 q hq
     ·exact ihl _ _ hr hq
 | cMV a b iha ihb =>
  intro w cs d bl h
  obtain⟨c1,c2,b1,b2,_,rfl,h1,h2⟩:=h
  intro q hq
  rw[List.mem_append] at hq
  rcases hq with hq|hq
  ·exact iha w c1 d.1 b1 h1 q hq
  ·exact ihb w c2 d.2 b2 h2 q hq
section
variable {t:Ty} {e:TypeId} {w:World} {v:Value} {l:List t.D} {bl:List Nat}
theorem bLJ (h:Un (.slice e t) w [v] l bl) (hnd:bl.Nodup) (k:Nat) (hk:k<l.length) :
  ∃b cap c bk,v = .slice (some ⟨b,0,none⟩) l.length cap/\b∈bl/\b<w.heap.size/\(∀j,w.frozen? ⟨b,j,none⟩=false)/\c.length=t.n/\(∀j (hj:j<c.length),w.cell? ⟨b,k * t.n+j,none⟩=some c[j]) /\
   Un t w c l[k] bk/\(∀q∈bk,q∈bl)/\bk.Nodup/\b ∉ bk /\
   (∀(w':World) (x':t.D),(∀q,q ∉ bk->q<w.heap.size->w'.heap[q]?=w.heap[q]?)->Un t w' c x' bk->Un (.slice e t) w' [v] (l.set k x') bl) /\
   (∀(j:Nat) (u:Value) (x':t.D),j<c.length->Un t w (c.set j u) x' bk->Un (.slice e t) (w.setCell ⟨b,k * t.n+j,none⟩ u) [v] (l.set k x') bl):=by
 have hlt:=aF5 (.slice e t) w [v] l _ h
 rcases h with⟨p,hv,hn,_⟩|⟨g,off,cap,cur,xs,bl',rfl,hv,hh,hc,hm,hcs,hx,hr,rfl⟩
 ·rw[hn] at hk;simp at hk
 ·simp only[List.cons.injEq,and_true] at hv
  subst hv
  rw[List.drop_zero] at hx
  obtain⟨xs1,c,xs2,b1,bk,b2,he,hl,hcl,rfl,hr1,hR,hr2⟩:=hr.split k hk
  have hnd':=hnd
  simp only[List.nodup_cons,List.mem_append,not_or,List.nodup_append] at hnd'
  obtain⟨⟨nb1,nbk,nb2⟩,n1,⟨nk,n2,d2⟩,d1⟩:=hnd'
  refine⟨g,cap,c,bk,rfl,by simp,(Array.getElem?_eq_some_iff.1 hh).1,fun j=>by simp[World.frozen?,hh],hcl,fun j hj=>?_,hR,fun q hq=>by simp[hq],nk,nbk,?_,?_⟩
  ·have h2:xs[k * t.n+j]?=some c[j]:=by
    rw[he,List.getElem?_append_right (by omega),List.getElem?_append_left (by omega),hl,Nat.add_sub_cancel_left,List.getElem?_eq_getElem hj]
   have h3:cur[k * t.n+j]?=some c[j]:=by
    rw[hx,List.getElem?_take] at h2
    split at h2
    ·simpa using h2
    ·cases h2
   simp[World.cell?,hh,h3]
  ·intro w' x' hw' hx'
   have hsub:∀q,q∈b1\/q∈b2->w'.heap[q]?=w.heap[q]?:=fun q hq=>by
    refine hw' q (fun Bk=>?_) ?_
    ·rcases hq with hq|hq
     ·exact d1 q hq q (.inl Bk) rfl
     ·exact d2 q Bk q hq rfl
    ·refine hlt q ?_
     rcases hq with hq|hq<;>simp[hq]
   refine .inr ⟨g,0,cap,cur,xs1++(c++xs2),b1++(bk++b2),rfl,by rw[List.length_set],(hw' g nbk (hlt g (by simp))).trans hh,by simpa using hc,hm,by simpa using hcs,by rw[List.length_set,List.drop_zero,<-hx,he],?_,rfl⟩
   refine pC.join hk hcl (hr1.mono (fun c y bb hq hy=>Un.keep _ _ _ _ (fun q Bk=>hsub q (.inl (hq q Bk))) hy)) hx' (hr2.mono (fun c y bb hq hy=>Un.keep _ _ _ _ (fun q Bk=>hsub q (.inr (hq q Bk))) hy))
  ·intro j u x' hj hx'
   have hsub:∀q,q∈b1\/q∈bk\/q∈b2->(w.setCell ⟨g,k * t.n+j,none⟩ u).heap[q]?=w.heap[q]?:=fun q hq=>by
    refine Below.heap_setCell _ _ _ _ (fun e=>?_)
    obtain rfl:q=g:=e
    rcases hq with hq|hq|hq
    ·exact nb1 hq
    ·exact nbk hq
    ·exact nb2 hq
   have hle:k * t.n+t.n<=l.length * t.n:=by
    have:(k+1) * t.n<=l.length * t.n:=Nat.mul_le_mul_right _ (by omega)
    rw[Nat.add_mul] at this;omega
   refine .inr ⟨g,0,cap,cur.setIfInBounds (k * t.n+j) u,xs1++(c.set j u++xs2),b1++(bk++b2),rfl,by rw[List.length_set],aSL u hh,by simpa using hc,hm,by simpa using hcs,?_,?_,rfl⟩
   ·rw[List.length_set,List.drop_zero,Array.toList_setIfInBounds,List.take_set,<-hx,he]
    rw[List.set_append_right _ _ (by omega),List.set_append_left _ _ (by omega)]
    congr 3
    omega
   ·refine pC.join hk (by simpa using hcl) (hr1.mono (fun c y bb hq hy=>Un.keep _ _ _ _ (fun q Bk=>hsub q (.inl (hq q Bk))) hy)) (Un.keep _ _ _ _ (fun q Bk=>hsub q (.inr (.inl Bk))) hx') (hr2.mono (fun c y bb hq hy=>Un.keep _ _ _ _ (fun q Bk=>hsub q (.inr (.inr (hq q Bk)))) hy))
end
theorem tR {t:Ty} {e:TypeId} {w:World} {cs:List Value} {l:List t.D} {bl:List Nat} (h:Un (.slice e t) w cs l bl):∃p n q,cs=[.slice p n q]:=by
 rcases h with⟨p,rfl,_⟩|⟨b,off,cap,cur,xs,bl',_,rfl,_⟩
 ·exact⟨_,_,_,rfl⟩
 ·exact⟨_,_,_,rfl⟩
theorem aJT {t:Ty} {e:TypeId} {w:World} {p:Option Addr} {len cap:Nat} {l:List t.D} {bl:List Nat} (h:Un (.slice e t) w [.slice p len cap] l bl):len=l.length/\len<=maxLen:=by
 rcases h with⟨p,hv,rfl,_⟩|⟨b,off,cap,cur,xs,bl',_,hv,_,hc,hm,_⟩
 ·simp only[List.cons.injEq,Value.slice.injEq,and_true] at hv
  exact⟨hv.2.1,by rw[hv.2.1];exact Nat.zero_le _⟩
 ·simp only[List.cons.injEq,Value.slice.injEq,and_true] at hv
  exact⟨hv.2.1,by rw[hv.2.1];exact Nat.le_trans hc hm⟩
def aWK (t:Ty) (w:World) (cs:List Value) (d:t.D) (bl:List Nat) (n:Int) (r:Ending) (w':World):Prop :=
 r = .returned (.int .i64 n)/\Un t w' cs d bl/\Only bl w w'
def cMG (t:Ty) (w:World) (cs:List Value) (d:t.D) (bl:List Nat) (n:Int) (r:Ending) (w':World):Prop :=
 r = .returned (.int .i64 n)/\Un t w' cs d bl/\Only bl w w'
theorem rC (p:Option Addr) (len cap:Nat) (k0:Int) (l:List Int) (bl:List Nat) (w:World) (h:Un aA w [.slice p len cap] l bl) (hnd:bl.Nodup) (h0:0<=k0) (h1:k0+l.length<=1000000000000) :
  Calls Tryz.prog 57 #[.slice p len cap,.int .i64 k0] w (aWK aA w [.slice p len cap] (mk aA l k0) bl (k0+(cR aA l:Int))):=by
 obtain⟨rfl,hmx⟩:=aJT h
 have HL:=Lib.hid (bHZ l k0)
 unfold maxLen at hmx
 go_enter Tryz.func57,Tryz.ntmps57
 go_wp2
 go_loopw [1,5] (fun q i wr=>∃k:Nat,k<=l.length/\i = .int .i64 k/\q = .int .i64 (k0+k)/\Only bl w wr/\Un aA wr [.slice p l.length cap] ((mk aA l k0:List Int).take k++l.drop k) bl) (fun _ i _=>l.length - (intOf i).toNat)
 case atStart=>exact⟨0,by omega,rfl,by simp,Only.refl _ _,by simpa using h⟩
 case round =>
  obtain⟨k,hk,rfl,rfl,hb,hf⟩:=hrel
  clear h
  by_cases hlt:k<l.length
  ·have hkk:k<((mk aA l k0:List Int).take k++l.drop k).length:=by simp only[List.length_append,List.length_take,List.length_drop,HL.out];omega
   obtain⟨b,cap',c,bk,hv,Ga,-,hfz,hcl,hc,hR,-,-,-,-,hU⟩:=bLJ hf hnd k hkk
   simp only[Value.slice.injEq] at hv
   obtain⟨rfl,-,-⟩:=hv
   obtain⟨rfl,_,rfl⟩:=hR
   have c1:wr.cell? ⟨b,k,none⟩=some (.int .i64 l[k]):=by
    have:=hc 0 (by simp)
    simp only[Ty.n,Nat.mul_one,Nat.add_zero,List.getElem_cons_zero] at this
    rw[this,aFS _ _ _ hlt HL.out]
   have c2:=hfz k
   have HU:=Lib.hid (hU 0 (.int .i64 (k0+k)) (k0+k) (by simp) ⟨rfl,aAF (by omega),rfl⟩)
   have HM:=Lib.hid (cHL l k0 k hlt)
   clear hU hc hfz hf
   go_wp2
   go_roundw
   case rel =>
    refine⟨k+1,by omega,by go_num,by go_num,hb.setCell Ga _,?_⟩
    have h2:=HU.out
    rw[aFM _ _ _ hlt HL.out _ HM.out] at h2
    simpa [Ty.n] using h2
   case measure=>simp[intOf];omega
  ·go_wp2
   go_ret
   obtain rfl:k=l.length:=by omega
   refine⟨aDQ (by rw[zI]),?_,hb⟩
   have e1:(mk aA l k0:List Int).take l.length++l.drop l.length=mk aA l k0:=by
    rw[List.drop_length,List.append_nil,List.take_of_length_le (by rw[HL.out];exact Nat.le_refl _)]
   rw[e1] at hf
   exact hf
theorem mJ.own {e:TypeId} {t:Ty} {lo mid:Nat} {w:World} {v:Value} {l:List t.D} (h:mJ (.slice e t) lo mid w [v] l):∀g,v.ownBlock=some g->lo<=g/\g<mid:=by
 obtain⟨bl,⟨v0,xs,bl',hv,_,_,rfl⟩,_,hin,_⟩:=h
 obtain rfl:v=v0:=by simpa using hv
 exact fun g hg=>hin g (by simp[hg])
theorem mJ.slen {e:TypeId} {t:Ty} {lo mid:Nat} {w:World} {p:Option Addr} {len cap:Nat} {l:List t.D} (h:mJ (.slice e t) lo mid w [.slice p len cap] l):len=l.length:=(cLL h).lens
section
variable {P:Program}
end
section
variable {P:Program} (w:World)
end
section
variable {P:Program}
end
def Kp (lo hi:Nat) (w w':World):Prop:=(∀b,lo<=b->b<hi->w'.heap[b]?=w.heap[b]?)/\w.heap.size<=w'.heap.size
theorem Kp.refl (lo hi:Nat) (w:World):Kp lo hi w w:=⟨fun _ _ _=>rfl,Nat.le_refl _⟩
theorem Kp.trans {lo hi:Nat} {a b c:World} (h:Kp lo hi a b) (k:Kp lo hi b c):Kp lo hi a c:=⟨fun q h1 h2=>(k.1 q h1 h2).trans (h.1 q h1 h2),Nat.le_trans h.2 k.2⟩
theorem Kp.drew {lo hi:Nat} {a w:World} (h:Kp lo hi a w):Kp lo hi a w.drew:=h
theorem Kp.alloc {lo hi:Nat} {a w:World} (h:Kp lo hi a w) (hs:hi<=w.heap.size) (o:Obj):Kp lo hi a (w.alloc o) :=
 h.trans ⟨fun b h1 h2=>Below.heap_alloc _ _ _ (by omega),by simp⟩
theorem Kp.setCell {lo hi:Nat} {a w:World} (h:Kp lo hi a w) {p:Addr} (hp:p.block<lo\/hi<=p.block) (v:Value):Kp lo hi a (w.setCell p v) :=
 h.trans ⟨fun b h1 h2=>Below.heap_setCell _ _ _ _ (by omega),by simp[World.setCell]⟩
theorem Kp.below {lo hi B:Nat} {a w w':World} (h:Kp lo hi a w) (hb:Below B w w') (hB:hi<=B):Kp lo hi a w' :=
 h.trans ⟨fun b h1 h2=>hb.block b (by omega),hb.size⟩
theorem Kp.only {lo hi:Nat} {bl:List Nat} {a w w':World} (h:Kp lo hi a w) (hb:Only bl w w') (hB:∀b∈bl,b<lo\/hi<=b) (hs:hi<=w.heap.size):Kp lo hi a w' :=
 h.trans ⟨fun b h1 h2=>hb.block b (fun hm=>by have:=hB b hm;omega) (by omega),hb.size⟩
theorem mJ.kp {t:Ty} {lo hi:Nat} {w w':World} {cs:List Value} {d:t.D} (h:mJ t lo hi w cs d) (k:Kp lo hi w w'):mJ t lo hi w' cs d:=h.keep k.1 k.2
theorem Only.bel {bl:List Nat} {B:Nat} {w w' w'':World} (h:Only bl w w') (k:Below B w' w'') (hB:w.heap.size<=B):Only bl w w'' :=
 ⟨k.os.trans h.os,k.tape.trans h.tape,k.output.trans h.output,Nat.le_trans h.size k.size,fun q hq hz=>(k.block q (by omega)).trans (h.block q hq hz)⟩
theorem aE7 {e:TypeId} {t:Ty} {l1 l2:List t.D} (h:l1.Sublist l2):bC (.slice e t) l1<=bC (.slice e t) l2:=by
 rw[iN,iN]
 induction h with
 | slnil=>simp
 | cons a _ ih=>simp only[List.map_cons,List.sum_cons,List.length_cons];omega
 | cons_cons a _ ih=>simp only[List.map_cons,List.sum_cons,List.length_cons];omega
theorem aTI {α:Type} (f:α->Nat) (S:Nat):(l:List α)->(∀x∈l,f x<=S)->(l.map f).sum<=l.length * S
 | [],_=>by simp
 | a::l,h=>by
  have h1:=h a (by simp)
  have h2:=aTI f S l (fun x hx=>h x (by simp[hx]))
  simp only[List.map_cons,List.sum_cons,List.length_cons,Nat.add_mul];omega
def FrA (t:Ty) (lo hi:Nat) (w:World) (cs:List Value) (d:t.D):Prop :=
 ∃bl,Un t w cs d bl/\bl.Nodup/\(∀b∈bl,lo<=b/\b<hi)/\hi<=w.heap.size
def FrR (t:Ty) (lo hi:Nat) (w:World) (cs:List Value) (d:t.D):Prop :=
 kS (fun b=>lo<=b/\b<hi) t w cs d/\hi<=w.heap.size
theorem cEV {e:TypeId} {t:Ty} {w:World} {p:Option Addr} {len cap:Nat} {l:List t.D} (h:rd (.slice e t) w [.slice p len cap] l):tC t.n (rd t w) w p len cap l:=by
 obtain⟨p',len',cap',hv,hs⟩:=h
 simp only[List.cons.injEq,Value.slice.injEq,and_true] at hv
 obtain⟨rfl,rfl,rfl⟩:=hv
 exact hs
section
variable {t:Ty} {lo hi lo' hi':Nat} {w w':World} {cs:List Value} {d:t.D} {bl:List Nat}
theorem FrA.rd (h:FrA t lo hi w cs d):rd t w cs d:=by
 obtain⟨bl,h,_⟩:=h
 exact kS.rd (fun b hb=>aF5 _ _ _ _ _ h b hb) (Un.rdg _ _ _ _ h)
theorem FrA.mono (h:FrA t lo hi w cs d) (h1:lo'<=lo) (h2:hi<=hi') (h3:hi'<=w.heap.size):FrA t lo' hi' w cs d:=by
 obtain⟨bl,h,hn,hb,hs⟩:=h
 exact⟨bl,h,hn,fun b hb'=>by have:=hb b hb';omega,h3⟩
theorem FrA.keep (h:FrA t lo hi w cs d) (hw:∀b,lo<=b->b<hi->w'.heap[b]?=w.heap[b]?) (hs:w.heap.size<=w'.heap.size):FrA t lo hi w' cs d:=by
 obtain⟨bl,h,hn,hb,hz⟩:=h
 exact⟨bl,Un.keep _ _ _ _ (fun b hb'=>hw b (hb b hb').1 (hb b hb').2) h,hn,hb,by omega⟩
theorem FrA.hi_le (h:FrA t lo hi w cs d):hi<=w.heap.size:=h.choose_spec.2.2.2
theorem FrA.below {B:Nat} (h:FrA t lo hi w cs d) (hw:Below B w w') (hB:hi<=B):FrA t lo hi w' cs d:=h.keep (fun b _ h2=>hw.block b (by omega)) hw.size
theorem FrA.set1 (h:FrA t lo hi w cs d) {a:Addr} (ha:a.block<lo\/hi<=a.block) (v:Value):FrA t lo hi (w.setCell a v) cs d:=h.keep (fun b h1 h2=>Below.heap_setCell _ _ _ _ (by omega)) (by simp[World.setCell])
theorem FrA.alloc (h:FrA t lo hi w cs d) (o:Obj):FrA t lo hi (w.alloc o) cs d:=h.keep (fun b h1 h2=>Below.heap_alloc _ _ _ (by have:=h.hi_le;omega)) (by simp)
theorem FrA.only (h:FrA t lo hi w cs d) (hw:Only bl w w') (hb:∀b∈bl,b<lo\/hi<=b):FrA t lo hi w' cs d :=
 h.keep (fun b h1 h2=>hw.block b (fun hm=>by have:=hb b hm;omega) (by have:=h.hi_le;omega)) hw.size
theorem FrA.kp (h:FrA t lo hi w cs d) (k:Kp lo hi w w'):FrA t lo hi w' cs d:=h.keep k.1 k.2
theorem FrA.un (h:FrA t lo hi w cs d):∃bl,Un t w cs d bl/\bl.Nodup/\(∀b∈bl,lo<=b/\b<hi):=by
 obtain⟨bl,h1,h2,h3,_⟩:=h
 exact⟨bl,h1,h2,h3⟩
theorem FrA.of_un (h:Un t w cs d bl) (hn:bl.Nodup) (hb:∀b∈bl,lo<=b/\b<hi) (hz:hi<=w.heap.size):FrA t lo hi w cs d:=⟨bl,h,hn,hb,hz⟩
theorem mJ.toA (h:mJ t lo hi w cs d):FrA t lo hi w cs d:=by
 obtain⟨bl,h,hn,hb,hs⟩:=h
 exact⟨bl,Un.of_rep _ _ _ _ h,hn,hb,hs⟩
theorem mJ.un (h:mJ t lo hi w cs d):∃bl,Un t w cs d bl/\bl.Nodup/\(∀b∈bl,lo<=b/\b<hi):=h.toA.un
theorem FrR.rd (h:FrR t lo hi w cs d):rd t w cs d:=kS.rd (fun b hb=>by have:=h.2;omega) h.1
theorem FrR.mono (h:FrR t lo hi w cs d) (h1:lo'<=lo) (h2:hi<=hi') (h3:hi'<=w.heap.size):FrR t lo' hi' w cs d:=⟨h.1.mono (fun b hb=>by omega) (fun _ _=>rfl),h3⟩
theorem FrR.keep (h:FrR t lo hi w cs d) (hw:∀b,lo<=b->b<hi->w'.heap[b]?=w.heap[b]?) (hs:w.heap.size<=w'.heap.size):FrR t lo hi w' cs d :=
 ⟨h.1.mono (fun b hb=>hb) (fun b hb=>hw b hb.1 hb.2),Nat.le_trans h.2 hs⟩
theorem FrR.hi_le (h:FrR t lo hi w cs d):hi<=w.heap.size:=h.2
theorem FrR.below {B:Nat} (h:FrR t lo hi w cs d) (hw:Below B w w') (hB:hi<=B):FrR t lo hi w' cs d:=h.keep (fun b _ h2=>hw.block b (by omega)) hw.size
theorem FrR.set1 (h:FrR t lo hi w cs d) {a:Addr} (ha:a.block<lo\/hi<=a.block) (v:Value):FrR t lo hi (w.setCell a v) cs d:=h.keep (fun b h1 h2=>Below.heap_setCell _ _ _ _ (by omega)) (by simp[World.setCell])
theorem FrR.alloc (h:FrR t lo hi w cs d) (o:Obj):FrR t lo hi (w.alloc o) cs d:=h.keep (fun b h1 h2=>Below.heap_alloc _ _ _ (by have:=h.hi_le;omega)) (by simp)
theorem FrR.only (h:FrR t lo hi w cs d) (hw:Only bl w w') (hb:∀b∈bl,b<lo\/hi<=b):FrR t lo hi w' cs d :=
 h.keep (fun b h1 h2=>hw.block b (fun hm=>by have:=hb b hm;omega) (by have:=h.hi_le;omega)) hw.size
theorem FrR.kp (h:FrR t lo hi w cs d) (k:Kp lo hi w w'):FrR t lo hi w' cs d:=h.keep k.1 k.2
end
section
variable {e:TypeId} {t:Ty} {lo hi:Nat} {w:World} {p:Option Addr} {len cap:Nat} {l:List t.D}
theorem mJ.sl (h:mJ (.slice e t) lo hi w [.slice p len cap] l):tC t.n (Go.Proofs.YtfmfeplebgbpmaaGreat.rd t w) w p len cap l:=cEV h.rd
theorem FrA.sl (h:FrA (.slice e t) lo hi w [.slice p len cap] l):tC t.n (Go.Proofs.YtfmfeplebgbpmaaGreat.rd t w) w p len cap l:=cEV h.rd
theorem FrR.sl (h:FrR (.slice e t) lo hi w [.slice p len cap] l):tC t.n (Go.Proofs.YtfmfeplebgbpmaaGreat.rd t w) w p len cap l:=cEV h.rd
end
def aPP:Ty->List Nat->Bool
 | .slice _ _,2::_=>true
 | .slice _ _,1::_=>true
 | .slice _ _,_=>false
 | .cMV a b,fl=>aPP a fl&&aPP b (aCS a fl)
 | _,_=>true
section
variable {G G':Nat->Prop} {w w':World}
theorem mvR.rdg (hG:∀b,G b->G' b):{t:Ty}->{fl:List Nat}->{cs:List Value}->{d:t.D}->{ob ub:List Nat}->mvR G w t fl cs d ob ub->(∀b∈ob,G' b)->kS G' t w cs d:=by
 intro t
 induction t with
 | cMV x y ihx ihy =>
  intro fl cs d ob ub h hb
  obtain⟨c1,c2,o1,o2,u1,u2,rfl,rfl,rfl,h1,h2⟩:=h
  exact⟨c1,c2,rfl,ihx h1 fun b h=>hb b (by simp[h]),ihy h2 fun b h=>hb b (by simp[h])⟩
 | slice e t ih =>
  intro fl cs d ob ub h hb
  rcases fl with _|⟨_|_|_|_|f,fl⟩
  ·exact h.2.2.mono hG (fun _ _=>rfl)
  ·exact h.2.2.mono hG (fun _ _=>rfl)
  ·exact h.2.2.mono hG (fun _ _=>rfl)
  ·obtain⟨v,rfl,_,h1,h2,rfl⟩:=h
   refine h1.rd hG fun b n c h0 hv=>hb b ?_
   subst hv
   simp only[lY]
   rw[if_neg (by omega)]
   simp
  ·obtain⟨v,rfl,_,h1,_,rfl⟩:=h
   refine h1.rd hG fun b n c h0 hv=>hb b ?_
   subst hv
   simp only[lY]
   rw[if_neg (by omega)]
   simp
  ·exact h.2.2.mono hG (fun _ _=>rfl)
 | int k=>intro fl cs d ob ub h hb;cases fl<;>exact h.2.2.mono hG (fun _ _=>rfl)
 | bool=>intro fl cs d ob ub h hb;cases fl<;>exact h.2.2.mono hG (fun _ _=>rfl)
 | str=>intro fl cs d ob ub h hb;cases fl<;>exact h.2.2.mono hG (fun _ _=>rfl)
theorem mvR.un : {t : Ty} -> {fl : List Nat} -> {cs : List Value} -> {d : t.D} -> {ob ub : List Nat} -> aPP t fl = true -> mvR G w t fl cs d ob ub -> ∃bl, Un t w cs d bl /\ bl.Perm (ob ++ ub) := by
  intro t
  induction t with
  | cMV x y ihx ihy =>
    intro fl cs d ob ub hf h
    simp only [aPP, Bool.and_eq_true] at hf
    obtain⟨c1, c2, o1, o2, u1, u2, rfl, rfl, rfl, h1, h2⟩ := h
    obtain⟨b1, p1, q1⟩ := ihx hf.1 h1
    obtain⟨b2, p2, q2⟩ := ihy hf.2 h2
    refine⟨b1 ++ b2, ⟨c1, c2, b1, b2, rfl, rfl, p1, p2⟩, (q1.append q2).trans ?_⟩
    rw [List.append_assoc, List.append_assoc]
    refine List.Perm.append_left o1 ?_
    rw [<-List.append_assoc, <-List.append_assoc]
    exact List.perm_append_comm.append_right u2
  | slice e t ih =>
    intro fl cs d ob ub hf h
    rcases fl with _ | ⟨_ | _ | _ | f, fl⟩
    · cases hf
    · cases hf
    · obtain⟨rfl, h1, _⟩ := h
      exact⟨ub, h1, by simp⟩
    · obtain⟨v, rfl, _, h1, h2, rfl⟩ := h
      rcases h1 with⟨p, rfl, rfl⟩ | ⟨b, cap, cur, rfl, h0, hh, k1, k2, k3, k4⟩
      · rcases h2 with⟨p', _, rfl⟩ | ⟨b, n, cap, cur, hv, h0, _⟩
        · exact⟨[], .inl ⟨p, rfl, rfl, rfl⟩, by cases p<;>simp [lY]⟩
        · simp only [Value.slice.injEq] at hv; omega
      · rcases h2 with⟨p', hv, rfl⟩ | ⟨b', n, cap', cur', hv, _, hh', hr⟩
        · simp only [Value.slice.injEq] at hv; omega
        · simp only [Value.slice.injEq, eW, Addr.mk.injEq, and_true] at hv
          obtain⟨rfl, rfl, rfl⟩ := hv
          rw [hh] at hh'
          simp only [eW, Obj.cells.injEq, true_and, and_true] at hh'
          subst hh'
          refine⟨b::ub, .inr ⟨b, 0, cap, cur, _, ub, rfl, rfl, hh, k1, k2, ?_, by rw [List.drop_zero], hr, rfl⟩, ?_⟩
          · rw [Nat.zero_add, k3]; exact Nat.mul_le_mul_right _ k1
          · simp only [lY]
            rw [if_neg (by omega)]
            exact .refl _
    · cases hf
  | int k => intro fl cs d ob ub hf h; obtain⟨rfl, rfl, h'⟩ : ob = [] /\ ub = [] /\ kS G (.int k) w cs d := by cases fl<;>exact h
             exact⟨[], ⟨h'.1, h'.2, rfl⟩, .refl _⟩
  | bool => intro fl cs d ob ub hf h; obtain⟨rfl, rfl, h'⟩ : ob = [] /\ ub = [] /\ kS G .bool w cs d := by cases fl<;>exact h
            exact⟨[], ⟨h', rfl⟩, .refl _⟩
  | str => intro fl cs d ob ub hf h; obtain⟨rfl, rfl, h'⟩ : ob = [] /\ ub = [] /\ kS G .str w cs d := by cases fl<;>exact h
           exact⟨[], ⟨h'.1, h'.2, rfl⟩, .refl _⟩
end
def iD (w:World):List AM->List Value->List SV->Prop
 | [],vs,ds=>vs=[]/\ds=[]
 | .val m::ms,vs,ds=>∃v vs' d ds',vs=v::vs'/\ds=d::ds'/\(m.fl.any (· != 0))=false/\v=mkV m.ag v.cells.toList/\rd m.t w v.cells.toList (d.as m.t)/\iD w ms vs' ds'
 | .box _ _::_,_,_=>False
theorem iD.ams {w:World} {G:Nat->Prop} (hG:∀b,b<w.heap.size->G b):{ms:List AM}->{vs:List Value}->{ds:List SV}->iD w ms vs ds->aKA G w ms vs ds [] []/\zW ms vs=[]/\aBZ ms=[]
 | [],_,_,⟨h1,h2⟩=>⟨⟨h1,rfl,rfl⟩,rfl,rfl⟩
 | .val m::ms,_,_,⟨v,vs',d,ds',rfl,rfl,hf,hv,hr,h⟩=>by
  obtain⟨i1,i2,i3⟩:=iD.ams hG h
  exact⟨⟨v,vs',d,ds',[],[],[],[],rfl,rfl,rfl,rfl,hv,bNZ hf ((kS.of_rd hr).mono hG (fun _ _=>rfl)),i1⟩,i2,i3⟩
 | .box _ _::_,_,_,h=>h.elim
def bS0 (m:MV) (w:World) (R:m.t.D) (e:Ending) (w':World):Prop :=
 ∃r:Value,e = .returned r/\r=mkV m.ag r.cells.toList/\FrR m.t w.heap.size w'.heap.size w' r.cells.toList R/\(aPP m.t m.fl=true->FrA m.t w.heap.size w'.heap.size w' r.cells.toList R)/\Below w.heap.size w w'
theorem Con.Holds.gives {P:Program} {C:Con} (h:Con.Holds P C) {m:MV} (Ju:C.rms=[m]) (hal:C.alias=false) {x:C.argTy.D} (hp:C.pre x) (hx:okD C.argTy x) {w:World} {vs:List Value} (ha:iD w C.ams vs (gA (C.ams.map (·.mv.t)) (SV.as _ ⟨C.argTy,x⟩))) (De:C.bx=none:=by rfl) (ht:bNA.p w:=by exact bGH _) :
  Calls P C.f vs.toArray w (bS0 m w (SV.as m.t ⟨C.resTy,C.fn x⟩)):=by
 let X:Cx:=⟨fun _=>False,[],[],w,fun _ h=>h.elim,⟨ht,by simp⟩⟩
 obtain⟨a1,a2,a3⟩:=ha.ams (G:=Gd X [] w false) fun b hb=>⟨hb,by simp,fun h=>h,fun h=>by cases h⟩
 refine Calls.mono' (h.run X vs x [] [] hp hx rfl rfl (by simp) (fun b hb=>by simp at hb) a1) fun e w' ⟨v,he,hg⟩=>?_
 obtain⟨rs,o1,u1,o2,u2,hv,hf,g1,g2,g3,g4,g5⟩:=hg
 rw[a2] at g2
 rw[Con.ras_none De] at g1
 obtain⟨rfl,rfl⟩:=g2
 rw[Ju] at g1
 simp only[a3,Ju,List.map_cons,List.map_nil,List.append_nil,List.length_cons,List.length_nil,gA,List.take_succ_cons,List.take_zero,Nat.zero_add] at g1
 obtain⟨r,vs',d,ds',p1,p2,q1,q2,rfl,hd,rfl,rfl,k1,k2,k3⟩:=g1
 obtain⟨rfl,rfl,rfl⟩:=k3
 have hq:∀bs:List MV,bs=[]->List.take 1 (gA (List.map (fun x=>x.t) ([m]++bs)) (SV.as (dI (List.map (fun x=>x.t) ([m]++bs))) ⟨C.resTy,C.fn x⟩))=[⟨m.t,SV.as m.t ⟨C.resTy,C.fn x⟩⟩]:=fun bs h=>by subst h;rfl
 rw[hq _ a3] at hd
 simp only[List.cons.injEq] at hd
 obtain⟨rfl,rfl⟩:=hd
 (try simp only[List.append_nil] at k2);(try simp only[List.append_nil] at g3);(try simp only[List.append_nil] at g4);(try simp only[List.append_nil] at g5)
 rw[hal] at k2
 have hB:∀b,Gd X p1 w' (!false) b->w.heap.size<=b/\b<w'.heap.size:=fun b hb=>by
  have:=hb.2.2.2 rfl
  simp only[Cx.F0,X,List.append_nil,List.not_mem_nil,or_false] at this
  exact⟨this,hb.1⟩
 have hO:∀b∈p1,w.heap.size<=b/\b<w'.heap.size:=fun b hb=>by
  obtain⟨h1,h2,h3⟩:=g4 b hb
  simp only[X,List.not_mem_nil,or_false] at h2
  exact⟨h2,h1⟩
 rw[SV.as_self] at k2
 refine⟨r,by rw[he,hv];rfl,k1,⟨k2.rdg hB hO,Nat.le_refl _⟩,fun hfl=>?_,⟨hf.os,hf.tape,hf.output,hf.size,fun k hk=>hf.block k hk (by simp[X])⟩⟩
 obtain⟨bl,b1,b2⟩:=k2.un hfl
 refine⟨bl,b1,b2.nodup_iff.2 g3,fun b hb=>?_,Nat.le_refl _⟩
 have:=b2.mem_iff.1 hb
 rw[List.mem_append] at this
 rcases this with h1|h1
 ·exact hO b h1
 ·have hg:=g5 b h1
  have h2:=hg.2.2.2 rfl
  simp only[Cx.F0,X,List.append_nil,List.not_mem_nil,or_false] at h2
  exact⟨h2,hg.1⟩
def bVM (t:Ty) (w:World) (d:t.D) (r:Ending) (w':World):Prop:=∃cs:Array Value,r = .returned (.agg cs)/\FrA t w.heap.size w'.heap.size w' cs.toList d/\Below w.heap.size w w'
def cKW (t:Ty) (w:World) (d:t.D) (r:Ending) (w':World):Prop:=∃cs:Array Value,r = .returned (.agg cs)/\FrR t w.heap.size w'.heap.size w' cs.toList d/\Below w.heap.size w w'
theorem bS0.agA {m:MV} (hm:m.ag=true) (hf:aPP m.t m.fl=true) {w w':World} {R:m.t.D} {e:Ending} (h:bS0 m w R e w'):bVM m.t w R e w':=by
 obtain⟨r,h1,h2,h3,h4,h5⟩:=h
 rw[hm] at h2
 exact⟨r.cells,by rw[h1];exact congrArg _ (h2.trans (by simp[mkV])),h4 hf,h5⟩
theorem bS0.agR {m:MV} (hm:m.ag=true) {w w':World} {R:m.t.D} {e:Ending} (h:bS0 m w R e w'):cKW m.t w R e w':=by
 obtain⟨r,h1,h2,h3,h4,h5⟩:=h
 rw[hm] at h2
 exact⟨r.cells,by rw[h1];exact congrArg _ (h2.trans (by simp[mkV])),h3,h5⟩
def aRK (w w':World) (m:MV) (r:Value) (R:m.t.D) (bl:List Nat):Prop :=
 r=mkV m.ag r.cells.toList/\FrR m.t w.heap.size w'.heap.size w' r.cells.toList R/\(aPP m.t m.fl=true->Un m.t w' r.cells.toList R bl)
def aK9 (w w':World):List MV->List Value->List SV->List Nat->Prop
 | [],rs,_,bl=>rs=[]/\bl=[]
 | m::ms,rs,d::ds,bl=>∃r rs' b1 b2,rs=r::rs'/\bl=b1++b2/\aRK w w' m r (d.as m.t) b1/\aK9 w w' ms rs' ds b2
 | _::_,_,[],_=>False
def cK5 (ms:List MV) (w:World) (ds:List SV) (e:Ending) (w':World):Prop :=
 ∃rs bl,e = .returned (bC0 rs)/\aK9 w w' ms rs ds bl/\bl.Nodup/\(∀b∈bl,w.heap.size<=b/\b<w'.heap.size)/\Below w.heap.size w w'
theorem bKV:(ts:List Ty)->(d:(dI ts).D)->(gA ts d).length=ts.length
 | [],_=>rfl
 | [_],_=>rfl
 | _::u::ts,d=>congrArg (· + 1) (bKV (u::ts) d.2)
theorem aKA.outs {G:Nat->Prop} {w w':World} (hG:∀b,G b->w.heap.size<=b/\b<w'.heap.size):{ms:List MV}->{rs:List Value}->{ds:List SV}->{ob ub:List Nat}->aKA G w' (ms.map .val) rs ds ob ub ->
  (∀b∈ob,w.heap.size<=b/\b<w'.heap.size)->∃bl,aK9 w w' ms rs ds bl/\bl.Perm (ob++ub)
 | [],rs,ds,ob,ub,h,hb=>by
  obtain⟨rfl,rfl,rfl⟩:=h
  exact⟨[],⟨rfl,rfl⟩,.refl _⟩
 | m::ms,rs,ds,ob,ub,h,hb=>by
  obtain⟨v,vs',d,ds',o1,o2,u1,u2,rfl,rfl,rfl,rfl,h1,h2,h3⟩:=h
  obtain⟨b2,q1,q2⟩:=aKA.outs hG h3 (fun b hb'=>hb b (List.mem_append.2 (.inr hb')))
  have hr:FrR m.t w.heap.size w'.heap.size w' v.cells.toList (d.as m.t):=⟨h2.rdg hG (fun b hb'=>hb b (List.mem_append.2 (.inl hb'))),Nat.le_refl _⟩
  have hp:∀{b1:List Nat},b1.Perm (o1++u1)->(b1++b2).Perm (o1++o2++(u1++u2)):=fun h=>by
   refine(h.append q2).trans ?_
   rw[List.append_assoc,List.append_assoc]
   refine List.Perm.append_left o1 ?_
   rw[<-List.append_assoc,<-List.append_assoc]
   exact List.perm_append_comm.append_right u2
  cases hf:aPP m.t m.fl with
  | false=>exact⟨_,⟨v,vs',o1++u1,b2,rfl,rfl,⟨h1,hr,fun h=>by rw[hf] at h;cases h⟩,q1⟩,hp (.refl _)⟩
  | true =>
   obtain⟨b1,p1,p2⟩:=h2.un hf
   exact⟨_,⟨v,vs',b1,b2,rfl,rfl,⟨h1,hr,fun _=>p1⟩,q1⟩,hp p2⟩
theorem Con.Holds.givesL {P:Program} {C:Con} (h:Con.Holds P C) (hal:C.alias=false) {x:C.argTy.D} (hp:C.pre x) (hx:okD C.argTy x) {w:World} {vs:List Value} (ha:iD w C.ams vs (gA (C.ams.map (·.mv.t)) (SV.as _ ⟨C.argTy,x⟩))) (De:C.bx=none:=by rfl) (ht:bNA.p w:=by exact bGH _) :
  Calls P C.f vs.toArray w (cK5 C.rms w (gA (C.rms.map (·.t)) (SV.as _ ⟨C.resTy,C.fn x⟩))):=by
 let X:Cx:=⟨fun _=>False,[],[],w,fun _ h=>h.elim,⟨ht,by simp⟩⟩
 obtain⟨a1,a2,a3⟩:=ha.ams (G:=Gd X [] w false) fun b hb=>⟨hb,by simp,fun h=>h,fun h=>by cases h⟩
 refine Calls.mono' (h.run X vs x [] [] hp hx rfl rfl (by simp) (fun b hb=>by simp at hb) a1) fun e w' ⟨v,he,hg⟩=>?_
 obtain⟨rs,o1,u1,o2,u2,hv,hf,g1,g2,g3,g4,g5⟩:=hg
 rw[a2] at g2
 rw[Con.ras_none De] at g1
 obtain⟨rfl,rfl⟩:=g2
 have hq:∀bs:List MV,bs=[]->List.take C.rms.length (gA (List.map (fun x=>x.t) (C.rms++bs)) (SV.as (dI (List.map (fun x=>x.t) (C.rms++bs))) ⟨C.resTy,C.fn x⟩))=gA (C.rms.map (·.t)) (SV.as _ ⟨C.resTy,C.fn x⟩):=fun bs h=>by
  subst h
  rw[List.append_nil]
  exact List.take_of_length_le (by rw[bKV];simp)
 rw[hq _ a3] at g1
 simp only[List.append_nil] at g1 g3 g4 g5
 rw[hal] at g1
 have hB:∀b,Gd X o1 w' (!false) b->w.heap.size<=b/\b<w'.heap.size:=fun b hb=>by
  have:=hb.2.2.2 rfl
  simp only[Cx.F0,X,List.append_nil,List.not_mem_nil,or_false] at this
  exact⟨this,hb.1⟩
 have hO:∀b∈o1,w.heap.size<=b/\b<w'.heap.size:=fun b hb=>by
  obtain⟨h1,h2,h3⟩:=g4 b hb
  simp only[X,List.not_mem_nil,or_false] at h2
  exact⟨h2,h1⟩
 obtain⟨bl,q1,q2⟩:=g1.outs hB hO
 refine⟨rs,bl,by rw[he,hv],q1,q2.nodup_iff.2 g3,fun b hb=>?_,⟨hf.os,hf.tape,hf.output,hf.size,fun k hk=>hf.block k hk (by simp[X])⟩⟩
 have:=q2.mem_iff.1 hb
 rw[List.mem_append] at this
 rcases this with h1|h1
 ·exact hO b h1
 ·have hg:=g5 b h1
  have h2:=hg.2.2.2 rfl
  simp only[Cx.F0,X,List.append_nil,List.not_mem_nil,or_false] at h2
  exact⟨h2,hg.1⟩
section
variable {w w':World} {r:Value} {bl:List Nat} {fl:List Nat}
theorem aRK.int {k:IntKind} {R:Int} (h:aRK w w' ⟨false,.int k,fl⟩ r R bl):r = .int k R:=by
 have h1:=h.1
 rw[h.2.1.1.1] at h1
 exact h1
theorem aRK.bool {R:Bool} (h:aRK w w' ⟨false,.bool,fl⟩ r R bl):r = .bool R:=by
 have h1:=h.1
 rw[show r.cells.toList=[.bool R] from h.2.1.1] at h1
 exact h1
theorem aRK.str {R:ByteArray} (h:aRK w w' ⟨false,.str,fl⟩ r R bl):r = .string R:=by
 have h1:=h.1
 rw[h.2.1.1.1] at h1
 exact h1
theorem aRK.agR {t:Ty} {R:t.D} (h:aRK w w' ⟨true,t,fl⟩ r R bl):r = .agg r.cells/\FrR t w.heap.size w'.heap.size w' r.cells.toList R:=⟨h.1.trans (by simp[mkV]),h.2.1⟩
theorem aRK.agA {t:Ty} {R:t.D} (h:aRK w w' ⟨true,t,fl⟩ r R bl) (hf:aPP t fl=true) (hn:bl.Nodup) (hb:∀b∈bl,w.heap.size<=b/\b<w'.heap.size):r = .agg r.cells/\FrA t w.heap.size w'.heap.size w' r.cells.toList R :=
 ⟨h.1.trans (by simp[mkV]),bl,h.2.2 hf,hn,hb,Nat.le_refl _⟩
theorem aRK.slR {e:TypeId} {t:Ty} {R:List t.D} (h:aRK w w' ⟨false,.slice e t,fl⟩ r R bl):∃p cap,r = .slice p R.length cap/\FrR (.slice e t) w.heap.size w'.heap.size w' [.slice p R.length cap] R:=by
 have h1:=h.1
 obtain⟨p,len,cap,hc,hs⟩:=h.2.1.rd
 have hl:len=R.length:=hs.lens
 subst hl
 rw[hc] at h1
 refine⟨p,cap,h1,?_⟩
 rw[<-hc]
 exact h.2.1
theorem aRK.slA {e:TypeId} {t:Ty} {R:List t.D} (h:aRK w w' ⟨false,.slice e t,fl⟩ r R bl) (hf:aPP (.slice e t) fl=true) (hn:bl.Nodup) (hb:∀b∈bl,w.heap.size<=b/\b<w'.heap.size):∃p cap,r = .slice p R.length cap/\FrA (.slice e t) w.heap.size w'.heap.size w' [.slice p R.length cap] R:=by
 have h1:=h.1
 obtain⟨p,len,cap,hc,hs⟩:=h.2.1.rd
 have hl:len=R.length:=hs.lens
 subst hl
 rw[hc] at h1
 refine⟨p,cap,h1,?_⟩
 rw[<-hc]
 exact⟨bl,h.2.2 hf,hn,hb,Nat.le_refl _⟩
end
theorem iD.cons {w:World} {m:MV} {ms:List AM} {vs:List Value} {ds:List SV} {v:Value} {y:m.t.D} (hf:(m.fl.any (· != 0))=false) (hv:v=mkV m.ag v.cells.toList) (hr:rd m.t w v.cells.toList y) (hn:iD w ms vs ds) :
 iD w (.val m::ms) (v::vs) (⟨m.t,y⟩::ds):=⟨v,vs,⟨m.t,y⟩,ds,rfl,rfl,hf,hv,by rw[SV.as_self];exact hr,hn⟩
theorem iD.nil {w:World}:iD w [] [] []:=⟨rfl,rfl⟩
theorem aK9.inv {w w':World} {m:MV} {ms:List MV} {rs:List Value} {y:m.t.D} {ds:List SV} {bl:List Nat} (h:aK9 w w' (m::ms) rs (⟨m.t,y⟩::ds) bl) :
  ∃r rs' b1 b2,rs=r::rs'/\bl=b1++b2/\aRK w w' m r y b1/\aK9 w w' ms rs' ds b2:=by
 obtain⟨r,rs',b1,b2,h1,h2,h3,h4⟩:=h
 rw[SV.as_self] at h3
 exact⟨r,rs',b1,b2,h1,h2,h3,h4⟩
def cAU:(t:Ty)->t.D->Prop
 | .slice _ t,l=>List.length l<=1000000000/\∀x∈(l:List t.D),cAU t x
 | .cMV a b,x=>cAU a x.1/\cAU b x.2
 | .int _,_=>True
 | .bool,_=>True
 | .str,_=>True
theorem yJ {e:TypeId} {t:Ty} {l:List t.D} {x:t.D} (h:x∈l):bC t x<=bC (.slice e t) l:=by
 obtain⟨k,hk,rfl⟩:=List.mem_iff_getElem.1 h
 rw[iN]
 have:=bTE (bC t) l k hk
 omega
theorem rT {e:TypeId} {t:Ty} (l:List t.D):List.length l<=bC (.slice e t) l:=by rw[iN];omega
theorem tC.toRd {e:TypeId} {t:Ty} {w:World} {p:Option Addr} {len cap:Nat} {l:List t.D} (h:tC t.n (rd t w) w p len cap l):rd (.slice e t) w [.slice p len cap] l:=⟨p,len,cap,rfl,h⟩
theorem cHO:(t:Ty)->(fl:List Nat)->(fl.any (· != 0))=false->((aCS t fl).any (· != 0))=false:=by
 intro t
 induction t with
 | cMV x y ihx ihy=>intro fl h;exact ihy _ (ihx _ h)
 | _=>intro fl h;cases fl with
  | nil=>rfl
  | cons f fl=>simp only[List.any_cons,Bool.or_eq_false_iff] at h;exact h.2
section
variable {G:Nat->Prop} {w:World}
theorem bT1:{t:Ty}->{fl:List Nat}->{cs:List Value}->{d:t.D}->{ob ub:List Nat}->(fl.any (· != 0))=false->mvR G w t fl cs d ob ub->ob=[]/\ub=[]/\kS G t w cs d:=by
 intro t
 induction t with
 | cMV x y ihx ihy =>
  intro fl cs d ob ub hf h
  obtain⟨c1,c2,o1,o2,u1,u2,rfl,rfl,rfl,h1,h2⟩:=h
  obtain⟨rfl,rfl,r1⟩:=ihx hf h1
  obtain⟨rfl,rfl,r2⟩:=ihy (cHO x fl hf) h2
  exact⟨rfl,rfl,c1,c2,rfl,r1,r2⟩
 | slice e t ih =>
  intro fl cs d ob ub hf h
  rcases fl with _|⟨_|_|_|_|f,fl⟩
  ·exact h
  ·exact h
  ·simp at hf
  ·simp at hf
  ·simp at hf
  ·exact h
 | int k=>intro fl cs d ob ub hf h;cases fl<;>exact h
 | bool=>intro fl cs d ob ub hf h;cases fl<;>exact h
 | str=>intro fl cs d ob ub hf h;cases fl<;>exact h
end
inductive Out where
 | ret (v:SV)
 | ag (d:Nat) (v:SV)
def Out.pop:Out->Option Out
 | .ret v=>some (.ret v)
 | .ag (d+1) v=>some (.ag d v)
 | .ag 0 _=>none
def bAQ {α:Type} (as':SV->α) (R:α->Out->Prop):Nat->α->Out->Prop
 | 0,x,o=>∃o',R x o'/\o'.pop=some o
 | n+1,x,o=>∃v,R x (.ag 0 v)/\bAQ as' R n (as' v) o
def T.out (Cs:List Con):T->List SV->Out->Prop
 | .cMW p a k,env,o=>k.out Cs (env++[⟨p.oty,p.fn ((a.val env).as p.ity)⟩]) o
 | .call c a k,env,o=>match Cs[c]? with
  | some C=>k.out Cs (env++[⟨C.resTy,C.fn ((a.val env).as C.argTy)⟩]) o
  | none=>False
 | .ite a x y,env,o=>((a.val env).as .bool=true/\x.out Cs env o)\/((a.val env).as .bool=false/\y.out Cs env o)
 | .loop t a b,env,o=>∃n,bAQ (fun v:SV=>v.as t) (fun x o=>b.out Cs (env++[⟨t,x⟩]) o) n ((a.val env).as t) o
 | .cMY d a,env,o=>o = .ag d (a.val env)
 | .ret a,env,o=>o = .ret (a.val env)
theorem bJO {α:Type} {as':SV->α} {R:α->Out->Prop} (hR:∀x o1 o2,R x o1->R x o2->o1=o2):(n m:Nat)->{x:α}->{o1 o2:Out}->bAQ as' R n x o1->bAQ as' R m x o2->o1=o2
 | 0,0,x,o1,o2,⟨p,h1,h2⟩,⟨q,k1,k2⟩=>by
  have:=hR _ _ _ h1 k1
  subst this
  rw[h2] at k2
  exact Option.some.inj k2
 | 0,m+1,x,o1,o2,⟨p,h1,h2⟩,⟨v,k1,k2⟩=>by
  have:=hR _ _ _ h1 k1
  subst this
  cases h2
 | n+1,0,x,o1,o2,⟨v,k1,k2⟩,⟨p,h1,h2⟩=>by
  have:=hR _ _ _ h1 k1
  subst this
  cases h2
 | n+1,m+1,x,o1,o2,⟨v,h1,h2⟩,⟨u,k1,k2⟩=>by
  have:=hR _ _ _ h1 k1
  simp only[Out.ag.injEq,true_and] at this
  subst this
  exact bJO hR n m h2 k2
theorem T.out_det (Cs:List Con):(t:T)->{env:List SV}->{o1 o2:Out}->t.out Cs env o1->t.out Cs env o2->o1=o2
 | .cMW p a k,env,o1,o2,h1,h2=>T.out_det Cs k h1 h2
 | .call c a k,env,o1,o2,h1,h2=>by
  simp only[T.out] at h1 h2
  split at h1
  ·exact T.out_det Cs k h1 (by rename_i C hc;rw[hc] at h2;exact h2)
  ·exact h1.elim
 | .ite a x y,env,o1,o2,h1,h2=>by
  rcases h1 with⟨a1,h1⟩|⟨a1,h1⟩<;>rcases h2 with⟨a2,h2⟩|⟨a2,h2⟩
  ·exact T.out_det Cs x h1 h2
  ·rw[a1] at a2;cases a2
  ·rw[a1] at a2;cases a2
  ·exact T.out_det Cs y h1 h2
 | .loop t a b,env,o1,o2,⟨n,h1⟩,⟨m,h2⟩=>bJO (as':=fun v:SV=>v.as t) (R:=fun x o=>b.out Cs (env++[⟨t,x⟩]) o) (fun x o1 o2 k1 k2=>T.out_det Cs b k1 k2) n m h1 h2
 | .cMY d a,env,o1,o2,h1,h2=>h1.trans h2.symm
 | .ret a,env,o1,o2,h1,h2=>h1.trans h2.symm
def Out.sat (L:List (SV->Prop)) (Q:SV->Prop):Out->Prop
 | .ret v=>Q v
 | .ag d v=>∃I,L[d]?=some I/\I v
theorem T.out_of (Cs:List Con) (hC:∀(c:Nat) (C:Con),Cs[c]?=some C->∀x:C.argTy.D,C.pre x->okD C.argTy x->okD C.resTy (C.fn x)):(t:T)->t.okB=true->∀{env:List SV} {L:List (SV->Prop)} {Q:SV->Prop},(∀v∈env,v.okv)->t.wp Cs env L Q ->
  ∃o,t.out Cs env o/\o.sat L Q/\(∀v,o = .ret v->v.okv)/\(∀d v,o = .ag d v->v.okv)
 | .cMW p a k,hb,env,L,Q,he,h=>by
  simp only[T.okB,Bool.and_eq_true] at hb
  have ho:=bD5 p hb.1.2 _ (wZ (Ar.okv he a hb.1.1)) h.1
  refine T.out_of Cs hC k hb.2 (fun v hv=>?_) (h.2 ho)
  rw[List.mem_append,List.mem_singleton] at hv
  rcases hv with hv|rfl
  ·exact he v hv
  ·exact ho
 | .call c a k,hb,env,L,Q,he,h=>by
  simp only[T.okB,Bool.and_eq_true] at hb
  simp only[T.wp] at h
  simp only[T.out]
  split at h
  ·rename_i C hc
   have ho:=hC c C hc _ h.1 (wZ (Ar.okv he a hb.1))
   obtain⟨o,h1,h2⟩:=T.out_of Cs hC k hb.2 (fun v hv=>by
    rw[List.mem_append,List.mem_singleton] at hv
    rcases hv with hv|rfl
    ·exact he v hv
    ·exact ho) (h.2 ho)
   exact⟨o,by rw[hc];exact h1,h2⟩
  ·exact h.elim
 | .ite a x y,hb,env,L,Q,he,h=>by
  simp only[T.okB,Bool.and_eq_true] at hb
  cases hv:(a.val env).as .bool with
  | true =>
   obtain⟨o,h1,h2⟩:=T.out_of Cs hC x hb.1 he (h.1 hv)
   exact⟨o,.inl ⟨hv,h1⟩,h2⟩
  | false =>
   obtain⟨o,h1,h2⟩:=T.out_of Cs hC y hb.2 he (h.2 hv)
   exact⟨o,.inr ⟨hv,h1⟩,h2⟩
 | .loop t a b,hb,env,L,Q,he,h=>by
  simp only[T.okB,Bool.and_eq_true] at hb
  obtain⟨I,μ,hI,hbody⟩:=h
  have key:∀(m:Nat) (x:t.D),μ x=m->okD t x->I x->∃o,(∃n,bAQ (fun v:SV=>v.as t) (fun x o=>b.out Cs (env++[⟨t,x⟩]) o) n x o)/\o.sat L Q/\(∀v,o = .ret v->v.okv)/\(∀d v,o = .ag d v->v.okv):=by
   intro m
   induction m using Nat.strongRecOn with
   | _ m ih =>
    intro x hm hx Di
    obtain⟨o,h1,h2,h3,h4⟩:=T.out_of Cs hC b hb.2 (env:=env++[⟨t,x⟩]) (fun v hv=>by
     rw[List.mem_append,List.mem_singleton] at hv
     rcases hv with hv|rfl
     ·exact he v hv
     ·exact hx) (hbody x hx Di)
    cases o with
    | ret v=>exact⟨.ret v,⟨0,_,h1,rfl⟩,h2,h3,fun d u hu=>(by cases hu)⟩
    | ag d v =>
     cases d with
     | zero =>
      obtain⟨J,e,hJ⟩:=h2
      simp only[List.getElem?_cons_zero,eW] at e
      subst e
      obtain⟨o,⟨n,k1⟩,k2⟩:=ih _ (by rw[<-hm];exact hJ.2) _ rfl (wZ (h4 _ _ rfl)) hJ.1
      exact⟨o,⟨n+1,v,h1,k1⟩,k2⟩
     | succ d =>
      obtain⟨J,e,hJ⟩:=h2
      refine⟨.ag d v,⟨0,_,h1,rfl⟩,⟨J,by simpa using e,hJ⟩,fun u hu=>(by cases hu),fun d' u hu=>?_⟩
      cases hu
      exact h4 _ _ rfl
  exact key _ _ rfl (wZ (Ar.okv he a hb.1)) hI
 | .cMY d a,hb,env,L,Q,he,h=>by
  simp only[T.wp] at h
  split at h
  ·rename_i I hI
   refine⟨.ag d (a.val env),rfl,⟨I,hI,h⟩,fun v hv=>(by cases hv),fun d' v hv=>?_⟩
   cases hv
   exact Ar.okv he a hb
  ·exact h.elim
 | .ret a,hb,env,L,Q,he,h=>⟨.ret (a.val env),rfl,h,fun v hv=>(by cases hv;exact Ar.okv he a hb),fun d v hv=>(by cases hv)⟩
theorem T.wp_out (Cs:List Con) (hC:∀(c:Nat) (C:Con),Cs[c]?=some C->∀x:C.argTy.D,C.pre x->okD C.argTy x->okD C.resTy (C.fn x)):(t:T)->t.okB=true->∀{env:List SV} {L L':List (SV->Prop)} {Q Q':SV->Prop} {o:Out},(∀v∈env,v.okv)->t.wp Cs env L Q->t.out Cs env o->o.sat L' Q'->t.wp Cs env L' Q'
 | .cMW p a k,hb,env,L,L',Q,Q',o,he,h,ho,hs=>by
  simp only[T.okB,Bool.and_eq_true] at hb
  refine⟨h.1,fun hk=>T.wp_out Cs hC k hb.2 (fun v hv=>?_) (h.2 hk) ho hs⟩
  rw[List.mem_append,List.mem_singleton] at hv
  rcases hv with hv|rfl
  ·exact he v hv
  ·exact hk
 | .call c a k,hb,env,L,L',Q,Q',o,he,h,ho,hs=>by
  simp only[T.okB,Bool.and_eq_true] at hb
  simp only[T.wp,T.out] at h ho⊢
  split at h
  ·rename_i C hc
   try rw[hc] at ho
   try rw[hc]
   refine⟨h.1,fun hk=>T.wp_out Cs hC k hb.2 (fun v hv=>?_) (h.2 hk) ho hs⟩
   rw[List.mem_append,List.mem_singleton] at hv
   rcases hv with hv|rfl
   ·exact he v hv
   ·exact hk
  ·exact h.elim
 | .ite a x y,hb,env,L,L',Q,Q',o,he,h,ho,hs=>by
  simp only[T.okB,Bool.and_eq_true] at hb
  rcases ho with⟨a1,ho⟩|⟨a1,ho⟩
  ·exact⟨fun hv=>T.wp_out Cs hC x hb.1 he (h.1 hv) ho hs,fun hv=>(by rw[a1] at hv;cases hv)⟩
  ·exact⟨fun hv=>(by rw[a1] at hv;cases hv),fun hv=>T.wp_out Cs hC y hb.2 he (h.2 hv) ho hs⟩
 | .loop t a b,hb,env,L,L',Q,Q',o,he,h,⟨n,ho⟩,hs=>by
  simp only[T.okB,Bool.and_eq_true] at hb
  obtain⟨I,μ,hI,hbody⟩:=h
  refine⟨fun x=>I x/\∃n,bAQ (fun v:SV=>v.as t) (fun x o=>b.out Cs (env++[⟨t,x⟩]) o) n x o,μ,⟨hI,n,ho⟩,fun x hx ⟨Di,n,hch⟩=>?_⟩
  have hex:∀v∈env++[⟨t,x⟩],v.okv:=fun v hv=>by
   rw[List.mem_append,List.mem_singleton] at hv
   rcases hv with hv|rfl
   ·exact he v hv
   ·exact hx
  cases n with
  | zero =>
   obtain⟨o',h1,h2⟩:=hch
   refine T.wp_out Cs hC b hb.2 hex (hbody x hx Di) h1 ?_
   cases o' with
   | ret v=>simp only[Out.pop,eW] at h2;subst h2;exact hs
   | ag d v =>
    cases d with
    | zero=>cases h2
    | succ d =>
     simp only[Out.pop,eW] at h2
     subst h2
     obtain⟨J,e,hJ⟩:=hs
     exact⟨J,by simpa using e,hJ⟩
  | succ n =>
   obtain⟨v,h1,h2⟩:=hch
   refine T.wp_out Cs hC b hb.2 hex (hbody x hx Di) h1 ?_
   obtain⟨o',k1,k2,_⟩:=T.out_of Cs hC b hb.2 hex (hbody x hx Di)
   have:=T.out_det Cs b h1 k1
   subst this
   obtain⟨J,e,hJ⟩:=k2
   simp only[List.getElem?_cons_zero,eW] at e
   subst e
   exact⟨_,rfl,⟨hJ.1,n,h2⟩,hJ.2⟩
 | .cMY d a,hb,env,L,L',Q,Q',o,he,h,ho,hs=>by
  subst ho
  obtain⟨J,e,hJ⟩:=hs
  simp only[T.wp,e]
  exact hJ
 | .ret a,hb,env,L,L',Q,Q',o,he,h,ho,hs=>by
  subst ho
  exact hs
section
variable {P:Program} {Cs:List Con} {wr:Bool}
theorem cFF {C:Con} {fuel:Nat} {orc:Orc} {T':T} (h:bPY P Cs C wr fuel orc = .ok T'):T'.okB=true:=by
 unfold bPY at h
 simp only at h
 split at h
 ·split at h
  ·split at h
   ·split at h
    ·split at h
     ·rename_i hok
      simp only[Except.ok.injEq] at h
      subst h
      exact hok
     ·cases h
    ·cases h
   ·cases h
  ·cases h
 ·cases h
theorem cK8 (hm:P.follows .mixedOrders=true) {C:Con} {fuel:Nat} {orc:Orc} {T':T} (hC:∀(c:Nat) (C:Con),Cs[c]?=some C->Con.Holds P C) (h:∀f:C.argTy.D->C.resTy.D,bPY P Cs { C with fn:=f } wr fuel orc = .ok T') (post:C.argTy.D->C.resTy.D->Prop)
  (hw:∀x:C.argTy.D,okD C.argTy x->C.pre x->T'.wp Cs [⟨C.argTy,x⟩] [] fun v=>post x (v.as C.resTy)) :
  ∃f:C.argTy.D->C.resTy.D,(∀x,okD C.argTy x->C.pre x->post x (f x))/\Con.Holds P { C with fn:=f }:=by
 have hok:=cFF (h C.fn)
 have Kt:∀(c:Nat) (C:Con),Cs[c]?=some C->∀x:C.argTy.D,C.pre x->okD C.argTy x->okD C.resTy (C.fn x):=fun c C hc=>(hC c C hc).ok
 have hex:∀x:C.argTy.D,∃y:C.resTy.D,okD C.argTy x->C.pre x->post x y/\T'.wp Cs [⟨C.argTy,x⟩] [] fun v=>v.as C.resTy=y:=fun x=>by
  by_cases hx:okD C.argTy x/\C.pre x
  ·have hev:∀v∈([⟨C.argTy,x⟩]:List SV),v.okv:=fun v hv=>by
    rw[List.mem_singleton] at hv
    subst hv;exact hx.1
   obtain⟨o,h1,h2,_⟩:=T.out_of Cs Kt T' hok hev (hw x hx.1 hx.2)
   cases o with
   | ret v=>exact⟨v.as C.resTy,fun _ _=>⟨h2,T.wp_out Cs Kt T' hok hev (hw x hx.1 hx.2) h1 rfl⟩⟩
   | ag d v=>obtain⟨J,e,_⟩:=h2;simp at e
  ·exact⟨aK _,fun h1 h2=>absurd ⟨h1,h2⟩ hx⟩
 refine⟨fun x=>(hex x).choose,fun x h1 h2=>((hex x).choose_spec h1 h2).1,?_⟩
 refine bMD (C:={ C with fn:=fun x=>(hex x).choose }) hm hC (h _) fun x h1 h2=>((hex x).choose_spec h1 h2).2
end
def Rl (k:Con) (o:k.argTy.D->k.resTy.D->Prop):Prop:=∃f:k.argTy.D->k.resTy.D,(∀x,okD k.argTy x->k.pre x->o x (f x))/\Con.Holds Tryz.prog { k with fn:=f }
theorem rk {k:Con} {o:k.argTy.D->k.resTy.D->Prop} {Cs:List Con} (wr:Bool) (orc:Orc) (t:T) (hC:∀(c:Nat) (C:Con),Cs[c]?=some C->Con.Holds Tryz.prog C) (hw:∀x:k.argTy.D,okD k.argTy x->k.pre x->t.wp Cs [⟨k.argTy,x⟩] [] fun v=>o x (v.as k.resTy))
 (h:∀f:k.argTy.D->k.resTy.D,bPY Tryz.prog Cs { k with fn:=f } wr 3000 orc = .ok t:=by intro f;kernel_rfl):Rl k o:=cK8 cFS hC h o hw
theorem Rl.q {k:Con} {o:k.argTy.D->k.resTy.D->Prop} (d:Rl k o) {x:k.argTy.D} (hx:okD k.argTy x) (hp:k.pre x):okD k.resTy (Classical.choose d x)/\o x (Classical.choose d x):=⟨(Classical.choose_spec d).2.ok x hp hx,(Classical.choose_spec d).1 x hx hp⟩
theorem dzx:(∀(n:Nat),((n:Nat):Int).toNat=n)/\(∀(b:Bool),((!b)=true)=(b=false))/\(∀(b:Bool),((!b)=false)=(b=true))/\(∀(a b:Bool),((a&&b)=true)=(a=true/\b=true))/\(∀{x y:Bool},(x&&y)=false↔x=false\/y=false)/\(∀{p:Prop} [inst:Decidable p],(decide p=true)=p)/\(∀{p:Prop} {x:Decidable p},decide p=false↔¬p)/\(∀{a b:Int},¬a<b↔b<=a)/\(∀{a b:Int},¬a<=b↔b<a)/\(∀{α:Type} [LE α] {x y:α},x ≥ y↔y<=x)/\(∀{α:Type} [LT α] {x y:α},x>y↔y<x)/\(∀{α:Type} {a:α} {l:List α},(a::l).length=l.length+1)/\(∀{α:Type},([]:List α).length=0)/\(∀{α:Type} {l m:List α},(l++m).length=l.length+m.length)/\(∀(n:Nat),0+n=n)/\(∀{α:Type} (l:List α),[]++l=l)/\(∀{α:Type} [BEq α] [LawfulBEq α] {a b:α},(a==b)=true↔a=b)/\(∀{α:Type} [BEq α] [LawfulBEq α] {a b:α},(a==b)=false↔a≠b)/\(∀{α:Type} [BEq α] [LawfulBEq α] {a b:α},(a != b)=true↔a≠b)/\(∀{α:Type} [BEq α] [LawfulBEq α] {a b:α},(a != b)=false↔a=b)/\(∀{α:Type} (a b:α),(a≠b)=¬(a=b))/\(∀k:Nat,((k:Int) - 1).toNat=k - 1)/\(∀k:Nat,((k:Int)+1).toNat=k+1)/\(0:Int).toNat=0/\(1:Int).toNat=1 :=
 ⟨@Int.toNat_natCast,@Bool.not_eq_true',@Bool.not_eq_false',@Bool.and_eq_true,@Bool.and_eq_false_iff,@decide_eq_true_eq,@decide_eq_false_iff_not,@Int.not_lt,@Int.not_le,@ge_iff_le,@gt_iff_lt,@List.length_cons,@List.length_nil,@List.length_append,@Nat.zero_add,@List.nil_append,@beq_iff_eq,@beq_eq_false_iff_ne,@bne_iff_ne,@bne_eq_false_iff_eq,@ne_eq,@aL4,@bGR,@bS2,@bSN⟩
theorem szx:(∀(w:World) (o:Obj),(w.alloc o).heap.size=w.heap.size+1)/\(∀w:World,w.drew.heap.size=w.heap.size):=⟨World.size_alloc,World.size_drew⟩
abbrev gO:Ty:=.cMV (.slice 5 (.int .u8)) aU
abbrev aVM:Ty:=.cMV tI (.cMV (.slice 344 aU) (.cMV (.slice 329 bK) (.cMV .bool (.cMV .bool (.cMV (.slice 335 (.cMV tI (.slice 337 aA))) (.cMV (.slice 337 aA) (.cMV aA (.cMV aA (.cMV aA (.cMV aA (.cMV (.slice 337 aA) (.cMV tI .bool))))))))))))
abbrev aB4:Ty:=.cMV tI .bool
abbrev aNA:Ty:=.slice 5 (.int .u8)
abbrev bXR:Ty:=.cMV (.slice 206 aL) (.cMV (.slice 224 aVM) (.cMV (.slice 228 (.cMV tI (.slice 339 aM))) (.slice 228 (.cMV tI (.slice 339 aM)))))
abbrev tP:Ty:=.cMV tI aM
abbrev aE2:Ty:=.cMV aA .bool
abbrev aC4:Ty:=.cMV .str aB4
abbrev aV7:Ty:=.slice 337 aA
abbrev bAN:Ty:=.cMV tI (.slice 339 aM)
abbrev aND:Ty:=.cMV aNA .bool
abbrev aS9:Ty:=.slice 245 aJ
abbrev bAM:Ty:=.cMV aA tI
abbrev aSH:Ty:=.cMV tI gO
abbrev aSN:Ty:=.cMV gO tI
abbrev bB0:Ty:=.cMV tI aV7
abbrev cJ3:Ty:=.cMV bR tI
abbrev cDP:Ty:=.cMV aO gO
abbrev aKY (a b c:Ty):Ty:=.cMV a (.cMV b c)
abbrev jM (a:Prim) (b c:Ty) (d e:Ar) (f:T):T:=.cMW a (.cMX b c d e) f
abbrev aGN (a b:Ty) (c:Nat):Ar:=.p1 a b (.Z c)
abbrev fX (a:Int):Ar:=.ci .i64 a
abbrev dO (a:Ty) (b c:Nat):Ar:=prA a b (.Z c)
abbrev xV (a:Ty) (b c:Nat):Ar:=pjA a b (.Z c)
abbrev aAG (a:Nat) (b c:T):T:=.ite (.Z a) b c
abbrev aTR (a b:Ty) (c d:Nat):Ar:=dO (.cMV a b) c d
abbrev eQ (a:Nat) (b c:Ty) (d e:Ar) (f:T):T:=.call a (.cMX b c d e) f
abbrev aZ5 (a:BinOp) (b:IntKind) (c d:Ty) (e f:Ar) (g:T):T:=jM (.cmp a b) c d e f g
abbrev aAE (a b:Ty):Ty:=aKY a b .bool
abbrev gL (a:TypeId) (b:Ty) (c:Ar) (d:T):T:=.cMW (.cMZ a b) c d
abbrev sY (a:Nat) (b:Ar) (c:T):T:=aAG a (.ret b) c
abbrev lU (a b c:Ty) (d:Nat):Ar:=aGN a (.cMV b c) d
abbrev aV:Ty:=.slice 5 (.int .u8)
abbrev cER (a:BinOp) (b c:Ty) (d e:Ar) (f:T):T:=aZ5 a .i64 b c d e f
abbrev aX:Ar:=.cb false
abbrev bU2 (a:BinOp):Prim:=.ar a .i64
abbrev fM (a:Ty):Ty:=.cMV tI a
abbrev aY:Ty:=aAE .str tI
abbrev pH (a b:Ty):Ty:=aKY tI a b
abbrev aN:Ar:=fX 0
abbrev jT:Prim:=bU2 .add
abbrev cKN (a:Prim) (b c:Ty) (d e:Ar) (f:Nat) (g:Ar):T:=jM a b c d e <| .cMY f g
abbrev bLW (a:TypeId) (b c d:Ty):Ty:=aKY (.slice a b) c d
abbrev bFK (a:Ty) (b:Nat):Ar:=aGN a tI b
abbrev aS:Ty:=.slice 245 aJ
abbrev bF:Ar:=fX 1
abbrev aEQ (a:Prim) (b:Nat) (c:T):T:=.cMW a (.Z b) c
abbrev aAB (a b:Ty) (c d:Nat):Ar:=dO (pH a b) c d
abbrev bN (a b:Nat):Ar:=xV aB a b
abbrev xA (a b:Ty) (c d:Ar) (e:T):T:=cER .lss a b c d e
abbrev jB (a b:Ty) (c d:Ar):T:=.ret (.cMX a b c d)
abbrev eF (a:Prim) (b c:Ty) (d:Ar) (e:Nat) (f:T):T:=jM a b c d (.Z e) f
abbrev aEE (a b:Ty) (c d:Nat):Ar:=xV (pH a b) c d
abbrev aC2 (a:Ty):Ty:=.cMV a aU
abbrev cD (a b:Nat) (c:T):T:=.call a (.Z b) c
abbrev bZ (a:TypeId) (b c:Ty) (d e:Ar) (f:T):T:=jM (.cN0 a b) c tI d e f
abbrev bA:Ar:=.nl 3 tI
abbrev gQ (a:Nat) (b:Ty) (c:List Ar) (d:T):T:=.call a (oH b c) d
abbrev cB (a:Ty) (b:Nat):Ar:=aGN tI a b
abbrev vA (a:Prim) (b:Ty) (c:List Ar) (d:T):T:=.cMW a (oH b c) d
abbrev jL (a:Nat) (b:T) (c:Ar):T:=aAG a b <| .ret c
abbrev cEX (a:TypeId):Ty:=.slice a aM
abbrev bW7 (a:Nat):Ar:=bFK .str a
abbrev cLC (a:Ty) (b c:Nat):Ar:=aTR a tI b c
abbrev cD2 (a:Nat) (b:T):T:=aEQ .not a b
abbrev bDX (a b:Ty) (c:Ar) (d:Nat) (e:T):T:=xA a b c (.Z d) e
abbrev kR:Ty:=.slice 337 aA
abbrev dL (a b:Nat) (c:Ar) (d:T):T:=cD2 a <| sY b c d
abbrev aF0 (a:Ty) (b c:Ar):Ar:=.cMX tI a b c
abbrev bD:Ar:=.cb true
abbrev uR (a:Ty) (b:List Ar):T:=.ret (oH a b)
abbrev cF (a:Nat):T:=.ret (.Z a)
abbrev cH (a:TypeId) (b c:Ty) (d:Ar) (e:Nat) (f:T):T:=bZ a b c d (.Z e) f
abbrev gZ (a b:Ty) (c:Nat):Ar:=lU tI a b c
abbrev cCB:Ar:=bW7 0
abbrev cJM (a:Ty) (b:Nat) (c d:Ty) (e:Nat):Ar:=pjA a b (aGN c d e)
abbrev xM (a:Ty):Ty:=pH .bool a
abbrev sS (a:BinOp) (b c:Ar) (d:T):T:=cER a tI tI b c d
abbrev kM (a b:Ar) (c:Nat):List Ar:=[a,b,.Z c]
abbrev mY:Prim:=bU2 .sub
abbrev dF (a:Nat) (b:Ty) (c d:Ar) (e:T):T:=eQ a b tI c d e
abbrev cJN (a:Nat) (b c:Ar) (d:T):T:=dF a .str b c d
abbrev aAC (a:Ty) (b:Ar) (c:TypeId) (d:Ty) (e:Ar) (f:T):T:=.loop a b <| gL c d e f
abbrev aBJ (a:BinOp) (b c:Ar) (d:Nat) (e:Ar) (f:T):T:=sS a b c <| sY d e f
abbrev bP:Ty:=aC2 aV
abbrev bV:Ty:=.slice 142 aB
abbrev aXV (a b:Ty) (c d:Nat):Ar:=xV (.cMV a b) c d
abbrev aTY (a:Nat):Ar:=bFK aA a
abbrev lH (a:Ty) (b:Nat):Ar:=gZ .bool a b
abbrev vC (a:Prim) (b:Ty) (c d:Ar) (e:T):T:=jM a tI b c d e
abbrev cO:Ar:=.Z 11
abbrev bQ:Ty:=cEX 249
abbrev qC:Ar:=.nl 253 aA
abbrev eK (a:Nat) (b:Ar) (c:Nat) (d:Ar) (e:T):T:=.call a b <| .call c d e
abbrev cL (a:Ty) (b c:Nat):Ar:=xV (fM a) b c
abbrev rZ (a:TypeId) (b:Ty):Prim:=.lit a b 1
abbrev aB8 (a:TypeId) (b:Ty) (c:TypeId) (d e:Ty):Ty:=bLW a b (.slice c d) e
abbrev rL (a:Nat):Ar:=bN a 1
abbrev fR (a:Prim) (b c:Ar) (d:T):T:=vC a tI b c d
abbrev aZ:Ar:=.Z 1
abbrev dK:Ar:=.Z 14
abbrev cBP (a:Prim) (b c:Ar) (d:Nat) (e:Ar):T:=cKN a tI tI b c d e
abbrev aCH (a:Prim) (b:Ar) (c:Nat) (d:Ar):T:=cBP a b bF c d
abbrev bL:Ty:=fM aM
abbrev mM (a:Ty) (b:Nat):Ar:=aGN a .bool b
abbrev uZ (a:Ar) (b:Nat) (c:Ar):T:=aCH jT a b c
abbrev vH (a:BinOp) (b c:Ar) (d:Nat) (e f:T):T:=sS a b c <| aAG d e f
abbrev kT (a b:Ty):Ty:=aKY .bool a b
abbrev aXF:Ar:=fX (-1)
abbrev cKG (a b c d:Ty) (e:Nat):Ar:=.p1 a b (aGN c d e)
abbrev cQ:Ar:=.Z 6
abbrev cU:Ar:=.Z 9
abbrev cI:Ar:=.Z 10
abbrev eL (a:Nat):Ar:=cB .bool a
abbrev bFL (a b c:Ty) (d:List Ar) (e:Ar):Ar:=.cMX a b (oH c d) e
abbrev xF (a b:Ty) (c:List Ar) (d:T):T:=.loop a (oH b c) d
abbrev eG:Ar:=.Z 3
abbrev jZ (a:TypeId) (b c:Ar) (d:T):T:=bZ a tI aA b c d
abbrev gK (a:Ty) (b c:Nat):Ar:=aTR a .bool b c
abbrev bJ:Ar:=.Z 0
abbrev gF (a:Ar) (b:Nat) (c:Ty) (d:List Ar):T:=uZ a b (oH c d)
abbrev bM:Ar:=.Z 2
abbrev aYR (a:Ty) (b c:Nat):Ar:=aAB tI a b c
abbrev jV:Ty:=.int .u8
abbrev dC:Ar:=rL 5
abbrev cDS (a:Ty):Ty:=aAE a tI
abbrev aJL:Ty:=cDS tI
abbrev mF (a:Prim) (b c:Ty) (d e:Nat) (f:T):T:=eF a b c (.Z d) e f
abbrev rO (a b:Ar) (c:Nat) (d:Ar) (e:T):T:=aBJ .neq a b c d e
abbrev gH (a:Nat) (b:Ar) (c d:Nat) (e:Ar) (f:T):T:=.call a b <| dL c d e f
abbrev aL6:Ty:=aC2 .str
abbrev sZ (a:TypeId) (b c:Ty) (d:List Ar) (e:T):T:=vA (.cN3 a b) c d e
abbrev mW (a:Ty) (b:Nat):Ar:=dO a 1 b
abbrev iQ:Ar:=.cs ⟨#[]⟩
abbrev kN (a:Ty) (b c:Nat):Ar:=aAB .bool a b c
abbrev nE (a b:Ar) (c:Nat) (d e:T):T:=vH .eql a b c d e
abbrev aD6 (a:TypeId) (b:Ty):Prim:=.cN2 a b 32
abbrev aBL (a b:Ty):Ty:=aKY a tI b
abbrev cDA (a b:Ty):Ty:=aKY a aA b
abbrev cM:Ar:=.Z 8
abbrev aCX (a:Ar) (b:Nat) (c:Ty) (d e:Ar):T:=uZ a b (aF0 c d e)
abbrev bUH (a:Ty) (b:Nat):Ar:=aGN aA a b
abbrev bTJ (a:Ty) (b:Nat):Ar:=cLC a 1 b
abbrev fY (a:Ty) (b c:Nat):Ar:=aTR tI a b c
abbrev aJO:Ar:=.nl 159 aU
abbrev jO:Ty:=fM kR
abbrev gD (a:TypeId) (b:Ty) (c:Ar) (d:T):T:=.cMW (rZ a b) c d
abbrev iO:Ty:=fM .bool
abbrev xO (a:Ty):Ty:=pH tI a
abbrev aL7:Ar:=.nl 245 aJ
abbrev aER (a:TypeId) (b:Ty) (c:Nat) (d:Ar) (e:T):T:=jZ a (bUH b c) d e
abbrev eM:Ar:=.Z 13
abbrev cW (a:TypeId) (b c:Ty) (d:Ar) (e:Ty) (f:Nat) (g:T):T:=bZ a b c d (cB e f) g
abbrev dG:Ty:=xM aA
abbrev bVQ (a:Prim) (b:Ar) (c:T):T:=fR a b bF c
abbrev wG (a:Ty) (b c:Nat):Ar:=aEE .bool a b c
abbrev aEO (a:Ty) (b c:Ar):Ar:=.cMX a .bool b c
abbrev dN:Ar:=.nl 147 aD
abbrev aHL:Ty:=cEX 339
abbrev lW (a:Ty) (b c:Ar):T:=jB a .bool b c
abbrev cY:Ar:=.Z 7
abbrev fE:Ar:=.Z 12
abbrev aXQ:Ar:=.nl 243 bK
abbrev bEJ:Ty:=cDS kR
abbrev aJQ (a:TypeId) (b c:Ty) (d:List Ar) (e:T):T:=vA (.cN1 a b) (aC2 c) d e
abbrev yV (a:TypeId) (b:Nat):Prim:=.cN2 a tI b
abbrev eJ (a:Ty) (b c:Nat) (d:Ty) (e f:Ar):T:=aCX (cB a b) c d e f
abbrev fC:Ar:=.Z 15
abbrev bLT (a:Ty):Ty:=cDA aA a
abbrev tW:Ty:=bLT (bLT bEJ)
abbrev aOH (a:Ty) (b c:Nat):Ar:=aEE tI a b c
abbrev bLU (a:Nat):Ar:=bTJ .str a
abbrev aIY (a:Ty) (b:Nat):Ar:=gZ aV a b
abbrev dY:Ar:=.Z 4
abbrev cX (a:Ar) (b c:Nat) (d e:T):T:=bDX tI tI a b <| aAG c d e
abbrev dZ (a:Ty) (b:Nat):Ar:=xV a 1 b
abbrev cBQ (a b:Ty) (c d:Ar) (e:T):T:=.loop a (aF0 b c d) e
abbrev kL (a:Nat):Ar:=bFK tI a
abbrev cEW (a b:Ty):Ty:=bLW 142 aB a b
abbrev kX (a:Nat):Ar:=aIY aU a
abbrev aMN:Prim:=.seq true
abbrev gM:Ar:=.Z 16
abbrev aNW (a:TypeId) (b:Ty):Ty:=.slice a (fM b)
abbrev iK:Ty:=fM aU
abbrev fF:Ar:=.Z 5
abbrev bW:Ar:=bTJ aE 0
abbrev iR:Ar:=.Z 17
abbrev aJ6 (a:Ty) (b c:Nat):Ar:=aAB aV a b c
abbrev fK (a:Ty) (b:Nat) (c d e:Ty) (f:Nat):Ar:=pjA a b (lU c d e f)
abbrev bVO (a b:Ar) (c:Int):List Ar:=[a,b,fX c]
abbrev qY (a b:Ar) (c:Nat) (d:Ar) (e:T):T:=xA tI tI a b <| sY c d e
abbrev aAJ (a:Nat):Ar:=mW aU a
abbrev aTD (a:TypeId) (b c:Ty) (d e:Ar) (f:Nat) (g:T):T:=aJQ a b c (kM d e f) g
abbrev aGL (a:Ty):Ty:=aKY a aV aU
abbrev aQF:Ty:=aGL aO
abbrev bS (a b:Ty):Ar:=aGN a b 0
abbrev aCB (a b:Nat):Ar:=aJ6 aU a b
abbrev iL (a:Ar) (b:Int) (c:Nat) (d e:T):T:=nE a (fX b) c d e
abbrev cF3 (a b:Ty) (c:Nat):Ar:=aTR a b 1 c
abbrev tH (a:TypeId) (b c d:Ty) (e:Ar) (f:Nat) (g:T):T:=eF (aD6 a b) c d e f g
abbrev wP (a:Nat):Ar:=cB bZR a
abbrev aLP (a:Ty) (b:List Ar) (c:T):T:=vA .ssub a b c
abbrev bM2:Ar:=bLU 0
abbrev eD:Ty:=cEW aI aI
abbrev gS (a:Ty) (b:Nat) (c:Ty) (d:Nat):Ar:=pjA a b (bFK c d)
abbrev bUG (a:Ty) (b:Nat):Ar:=aYR a 2 b
abbrev lI (a:Ar) (b:Nat) (c:Ty) (d e:Ar) (f:Nat):T:=gF a b c (kM d e f)
abbrev bD7 (a:Ar) (b:T):T:=.cMW .not a b
abbrev bT5 (a:Prim) (b c:Nat) (d:T):T:=mF a .str .str b c d
abbrev pY:Prim:=bU2 .mul
abbrev nF (a:Ty) (b c:Nat) (d e:T):T:=.ite (gK a b c) d e
abbrev rX (a:BinOp) (b c:Ar) (d:Nat) (e:T) (f:Ar):T:=sS a b c <| jL d e f
abbrev kA:Ar:=.Z 19
abbrev uS (a:Nat) (b c:Ty) (d:T):T:=.call a (bS b c) d
abbrev aBO (a b:Ar):List Ar:=[aN,a,b]
abbrev lL (a:Ar) (b:T):T:=bVQ mY a b
abbrev pM:Ty:=xM aF
abbrev cK0:Ty:=xO aG
abbrev jF:Ty:=.cMV aV .bool
abbrev aA7 (a b c:Ty) (d:List Ar) (e:Ar):T:=jB a b (oH c d) e
abbrev fS:Ar:=wP 1
abbrev fW:Ar:=rL 1
abbrev fT:Ar:=rL 2
abbrev fU:Ar:=rL 3
abbrev fV:Ar:=rL 4
abbrev dU (a b:Nat) (c:T):T:=dL a b aX c
abbrev sV:Ar:=fX 7
abbrev oQ (a b:Ty) (c d:Ar) (e:T):T:=xF a b (aBO c d) e
abbrev mT (a:Nat) (b:Ty) (c d:Ar) (e:T):T:=eQ a b aA c d e
abbrev oY (a b:Ty) (c:Nat):Ar:=lU a b .bool c
abbrev kB:Ar:=rL 10
abbrev jX:Ar:=rL 11
abbrev mK (a:Ty) (b:Nat):Ar:=cF3 a aY b
abbrev mL (a:Prim) (b:Ar) (c:Int) (d:T):T:=fR a b (fX c) d
abbrev gB (a:Ar) (b c:Nat) (d:T) (e:Ar):T:=bDX tI tI a b <| jL c d e
abbrev eV (a:Ty) (b:Nat) (c d:Ty):Ar:=cJM a b c d 0
abbrev wJ (a:Ty) (b:Ar):Ar:=aF0 a aN b
abbrev gW (a b:Ty) (c:Ar) (d:TypeId) (e:Ty) (f:Ar) (g:T):T:=aAC a (wJ b c) d e f g
abbrev dJ:Ty:=aKY aI aI aY
abbrev aEH (a:Ar) (b:Nat) (c:Ar) (d:T):T:=qY a aN b c d
abbrev uA (a b c d e:Ty):Ty:=aB8 344 a 329 b (kT .bool (bLW 335 c d e))
abbrev iP (a:Ty) (b:Nat) (c d:Ty):Ar:=prA a b (bS c d)
abbrev bV0 (a:Ty):Ty:=aBL aV a
abbrev iW:Ty:=bV0 aM
abbrev cC7 (a:Nat) (b:Ty):Ar:=eV aB a aB b
abbrev lN (a b:Ar) (c:Nat) (d:Ar) (e:T):T:=aBJ .gtr a b c d e
abbrev nJ:Ar:=.Z 18
abbrev yW (a:Nat) (b c d:Ty) (e:List Ar) (f:Ar) (g:T):T:=sY a (bFL b c d e f) g
abbrev cF9 (a:Nat):Ar:=dZ aE a
abbrev gT:Ar:=cF9 1
abbrev kO (a:TypeId) (b:Ty) (c:Nat) (d:T):T:=aEQ (rZ a b) c d
abbrev gG (a:Nat):Ar:=mW aJ a
abbrev mU (a:Nat) (b:Ty) (c:Ar) (d:Int) (e:T):T:=dF a b c (fX d) e
abbrev iH:Ar:=rL 6
abbrev pZ (a:Ty) (b:Nat):Ar:=gZ tI a b
abbrev dP (a:Nat):Ar:=bN a 0
abbrev mI (a:Nat) (b:Ty) (c d:Ar) (e:Int) (f:T):T:=gQ a b (bVO c d e) f
abbrev iS:Ar:=rL 9
abbrev aEV (a:Ty):Ty:=aAE a aA
abbrev mV:Ty:=aEV aA
abbrev mZ:Ar:=.nl 138 aL
abbrev kK (a:Ar) (b:TypeId) (c d:Ty) (e:Ar) (f:Nat) (g:T):T:=lL a <| cH b c d e f g
abbrev iF (a:Nat):Ar:=lH aA a
abbrev jA:Ty:=.slice 9 .str
abbrev bTT (a b:Ty) (c:Nat):Ar:=lU a b aU c
abbrev iT (a:Ty) (b:Nat):Ar:=bTT a aV b
abbrev cC4 (a:TypeId) (b:Nat) (c:Ar) (d:T):T:=aER a aY b c d
abbrev nC (a:Ar) (b:T):T:=.call 0 a b
abbrev jU:Ar:=rL 8
abbrev jW (a:Ar) (b:T):T:=bVQ jT a b
abbrev aCV:Ar:=fX 5
abbrev mH (a:Ty) (b c d:Nat) (e f:T):T:=cX (cB a b) c d e f
abbrev dW (a b:Ar) (c:Nat) (d:T):T:=rO a b c aX d
abbrev fB (a:List Ar):T:=uR aB a
abbrev qJ:Ar:=.Z 20
abbrev kE (a b:Ty):Ar:=cF3 a b 0
abbrev wE (a:Ty) (b:Nat):Prim:=.cN2 253 a b
abbrev sX (a:Nat) (b c:Ty) (d:List Ar) (e:T):T:=gQ a (.cMV b c) d e
abbrev qS:Ar:=.Z 22
abbrev qK:Ty:=xO aV
abbrev lS (a:TypeId) (b:Nat) (c d:Ty) (e:Ar) (f:Nat) (g:T):T:=eF (yV a b) c d e f g
abbrev aEY (a b:Ty) (c d:Ar) (e:Nat) (f g:T):T:=xA a b c d <| aAG e f g
abbrev aPB (a:Nat) (b:Ty) (c:List Ar) (d:Prim) (e f:Nat) (g:T):T:=gQ a b c <| bT5 d e f g
abbrev aDA:Prim:=.rem .i64
abbrev xB (a:Prim) (b:Ty) (c:Ar) (d:Nat) (e:T):T:=eF a tI b c d e
abbrev uJ:Ar:=fX 6
abbrev aCK:Ty:=xO aO
abbrev bVC:Ty:=aC2 bR
abbrev lE (a:TypeId) (b:Nat) (c:Ar) (d:TypeId) (e:Nat) (f:Ar) (g:T):T:=cC4 a b c <| cC4 d e f g
abbrev cK (a:Ar) (b:T):T:=gL 3 tI a b
abbrev aBT (a:Ty) (b:Ar) (c:T):T:=gL 245 a b c
abbrev rY:Ty:=aEV aF
abbrev sB (a:Nat):Ar:=cC7 a aM
abbrev rI:Ty:=xM aV
abbrev rM:Ty:=fM aHL
abbrev oM (a:Ar) (b c:Nat):T:=uZ a b (.Z c)
abbrev qE (a:Ty):Ar:=dZ a 0
abbrev nL (a:Nat):Ar:=mW aD a
abbrev tK:Prim:=.cN2 159 aU 16
abbrev gE (a:Nat):Ar:=mK aA a
abbrev aA2:Ar:=fX 2
abbrev nH:Ar:=dP 2
abbrev oJ (a:Ty) (b c d:Nat) (e:T) (f:Ar):T:=gB (cB a b) c d e f
abbrev uM (a:Ty) (b:Nat):Ar:=gZ a .bool b
abbrev iE (a:Ar) (b:T):T:=gL 243 bK a b
abbrev fQ (a:Ty):Ar:=bFK a 0
abbrev qH:Ar:=kX 3
abbrev tF:Ar:=kX 4
abbrev nW:Ar:=sB 2
abbrev nZ:Ar:=kL 4
abbrev tJ:Ar:=.Z 26
abbrev uI (a:Ty) (b c:Nat):Ar:=aEE aV a b c
abbrev sC:Prim:=rZ 245 aJ
abbrev aIS:Ar:=qE bVC
abbrev iG (a:Ty) (b c d:Ar):T:=uR a [b,c,d]
abbrev wK (a:Nat):Ar:=mW aL a
abbrev cB0 (a:Ty):Ty:=aBL a aL
abbrev qI:Ty:=cB0 aB
abbrev fN (a:Nat) (b c:Ar) (d:T):T:=mT a aA b c d
abbrev zY (a:Ar) (b:T):T:=.loop tI a b
abbrev rA (a:Ty) (b:Nat):Ar:=xV a 2 b
abbrev iA (a:Nat):Ar:=mW aM a
abbrev uK:Ar:=rL 12
abbrev aNO (a:Ty):Ty:=cDA a tI
abbrev aEJ:Ty:=aNO aG
abbrev uG:Ty:=.slice 206 aL
abbrev pI:Ar:=wK 0
abbrev eT (a:Ty) (b:Nat):Ar:=fY a 1 b
abbrev qR (a:Nat):Ar:=rA bK a
abbrev aB7 (a b c:Ty):Ar:=.p1 a b (fQ c)
abbrev sR (a:Nat):Ar:=eT .str a
abbrev aME (a:Ar) (b:T):T:=.cMW .slen a b
abbrev qP (a:Ar) (b:Nat) (c d:T):T:=bD7 a <| aAG b c d
abbrev mQ (a:Nat):Ar:=aCB 1 a
abbrev zG:Ar:=mQ 4
abbrev uY (a b:Ar) (c:Ty) (d e:Nat) (f:Ar):List Ar:=[a,b,cL c d e,f]
abbrev wB:Ar:=cF9 0
abbrev qZ:Ar:=aAJ 4
abbrev xU (a:Prim) (b:Ty) (c d:Ar) (e:T):T:=jM a .str b c d e
abbrev eI (a b:Ty) (c:Nat):Ar:=aXV a b c 0
abbrev aBG (a:Nat):Ar:=bUH aA a
abbrev oZ:Ar:=aBG 0
abbrev jE (a:Nat):Ar:=mM aA a
abbrev wL:Ar:=gG 19
abbrev wX:Ar:=.Z 21
abbrev wN (a:TypeId) (b:Nat):Prim:=.lit a tI b
abbrev wM:Ar:=qE qI
abbrev sT (a b:Ty):Ty:=bV0 (pH a b)
abbrev wO:Ty:=fM aY
abbrev iU (a:Nat):Ar:=bUH aY a
abbrev nU (a:Nat) (b:T):T:=cD 0 a b
abbrev lR (a:Prim) (b:Ar) (c:Nat) (d:T):T:=xB a tI b c d
abbrev xY (a:Ty) (b c:Nat) (d e:T):T:=.ite (wG a b c) d e
abbrev qD (a b:Ar) (c:T):T:=bZ 142 aB bV a b c
abbrev rN:Ar:=dP 5
abbrev tO (a:Ty):Ar:=kE a aA
abbrev gV (a:Ty) (b c:Nat):Ar:=aAB a aY b c
abbrev uD (a b:Ar) (c:Nat) (d:Ar) (e:T):T:=aBJ .eql a b c d e
abbrev wV:Ar:=qE bK
abbrev sF (a:Ty) (b c:Nat):Ar:=aEE .str a b c
abbrev qX (a:Ty) (b:Ar) (c:Ty) (d e:Nat):T:=lW a b (wG c d e)
abbrev pW (a:Ar) (b:Nat) (c:T):T:=aTD 245 aJ aS dC a b c
abbrev rB (a:Ty) (b c:Ar) (d:Nat) (e:T):T:=aBT a b <| pW c d e
abbrev aOZ (a b:Ty):Ty:=aKY a aF b
abbrev bEQ:Prim:=.mx .i64
abbrev dT (a b c d:Ty):Ar:=cKG a b c d 0
abbrev bHJ (a b c:Ty):Ar:=dT .str a b c
abbrev wH (a:Ar) (b c d:Ty) (e f:Ar):List Ar:=[a,bHJ b c d,e,f]
abbrev aEL:Ar:=.Z 35
abbrev jD (a b:Nat):Ar:=dO aE a b
abbrev kV (a:Nat):Ar:=cB aA a
abbrev xQ (a:Ty) (b:Nat) (c:Ty):Ar:=prA a b (fQ c)
abbrev cD8 (a:Ty):Ty:=aBL bI a
abbrev tG:Ty:=cD8 aJL
abbrev aH4:Prim:=.seq false
abbrev uO:Ar:=iF 1
abbrev tY:Ar:=nL 0
abbrev aJB:Ar:=kL 1
abbrev aA6:Ar:=tO bK
abbrev sA (a:Ty):Ty:=pH a aY
abbrev tL (a b:Nat) (c:Ar) (d:Nat) (e:Ar):T:=dU a b <| uZ c d e
abbrev wI (a:Ar) (b:T):T:=.call 1 a b
abbrev aGJ (a:Ar) (b:Nat) (c:T):T:=aEH a b aXF c
abbrev oK (a:Nat) (b:Ty) (c d e:Ar) (f:Nat) (g:T):T:=dF a b c d <| aGJ e f g
abbrev aJA:T:=.ret bD
abbrev xR (a b:Ar):List Ar:=[a,aN,b]
abbrev cBE (a:Ty):Ty:=aOZ a aA
abbrev vV:Ty:=cBE aA
abbrev wF (a:Nat):Ar:=mM aF a
abbrev aGX (a b:IntKind) (c:Nat) (d:T):T:=aEQ (.conv a b) c d
abbrev aIM (a:TypeId) (b:Ty):Prim:=.cN2 a b 48
abbrev aJF:Ty:=fM .str
abbrev dA (a:Ty) (b:Nat):Ar:=aEE a aY 1 b
abbrev nV (a b:Ty) (c:Ar) (d:Nat) (e:T):T:=cH 253 a b c d e
abbrev aMO (a:Bool):Prim:=.eqv a .bool
abbrev pS (a:Ty) (b:Ar) (c:T):T:=gL 249 a b c
abbrev vB (a:Ty) (b:Ar) (c:T):T:=gL 138 a b c
abbrev sE (a b c:Ty) (d:Ar) (e:Nat) (f:T):T:=tH 245 a b c d e f
abbrev uN (a:Nat) (b c:Ar) (d:T):T:=jW (wP a) <| qD b c d
abbrev bDU:Ar:=fX (-2147483647)
abbrev aCW:Ty:=cBE aG
abbrev aSZ:Ar:=qE aEJ
abbrev bMA (a:Ty):Ar:=kE a .str
abbrev aBQ:Ty:=xO aE
abbrev tA:Ty:=aNW 228 aHL
abbrev aBK (a:Ar) (b:T):T:=.call 2 a b
abbrev aJ7:Ar:=aAJ 1
abbrev lK (a b:Nat):Ar:=kN aA a b
abbrev nS (a b:Ty) (c:Ar) (d:Nat) (e:T):T:=cH 245 a b c d e
abbrev iY:Ty:=fM (uA aU bK jO kR tW)
abbrev bE2 (a:Ar) (b:TypeId) (c:Ty) (d:Ar) (e:T):T:=aAC tI a b c d e
abbrev aEP (a:TypeId) (b:Ty) (c d:Nat) (e:T):T:=aEQ (.rep a b c) d e
abbrev xD (a b:Ar) (c:T):T:=fR (rZ 159 aU) a b c
abbrev aEM:Ar:=.Z 31
abbrev iX (a:Ty):Ar:=bTJ a 0
abbrev qV (a b:Nat):Ar:=uI aU a b
abbrev aBU (a:Nat):Ar:=rA aE a
abbrev aLC:Ar:=.Z 34
abbrev aD9:Ar:=.Z 23
abbrev aDD:Ty:=cD8 aU
abbrev aAN:Ty:=.cMV aA (pH mG aL)
abbrev aMH (a:Nat) (b:Ty):Ar:=eV bR a bR b
abbrev nG (a:Nat):Ar:=lH aV a
abbrev aCF:Ar:=bMA bP
abbrev jK (a:Nat) (b c:Ar) (d:T):T:=dF a tI b c d
abbrev jY (a:TypeId) (b:Ty) (c:Ar) (d:T):T:=bE2 aN a b c d
abbrev tN (a:Ty) (b:Ar) (c:T):T:=gL 142 a b c
abbrev pE (a:Ar) (b:Ty) (c d:Ar):List Ar:=[a,.nl 142 b,c,d]
abbrev hZ (a:T):T:=nU 0 a
abbrev aD7:T:=cF 4
abbrev zZ (a:Ty):Ty:=pH aV a
abbrev aBI:Ty:=zZ cK0
abbrev bTO:Prim:=.neg .i64
abbrev yZ:Ar:=aAJ 0
abbrev aMI:Ar:=fX 4
abbrev fG (a:Ty) (b:Nat):Ar:=dO a b 0
abbrev yY:Ar:=dP 1
abbrev zH:Ar:=aBU 1
abbrev fA (a b:Ty) (c:Nat):Ar:=aTR a b c 0
abbrev oN (a:Nat):Ar:=cC7 a aB
abbrev aL2:Ar:=.Z 32
abbrev aG9:Ar:=.Z 29
abbrev nA (a:Ty) (b:Ar):Ar:=aEO a b aX
abbrev aEX:Ar:=iX bP
abbrev aGH:Ty:=aGL aA
abbrev aTW:Ty:=aAE bI .bool
abbrev aET:Ty:=sA aS
abbrev mX (a:Ty) (b:Nat):Ar:=aGN a aY b
abbrev aEW:Ty:=fM dJ
abbrev nX (a:Ar) (b:T):T:=gL 253 aA a b
abbrev aAI:Ar:=eL 8
abbrev aAL:Ar:=qR 0
abbrev aP7:Ar:=fX 3
abbrev bGJ (a b:Ty) (c:List Ar):Ar:=oH (.cMV a b) c
abbrev zA (a:Nat):Ar:=aMH a aO
abbrev wA (a:Ty) (b:Ar) (c:T):T:=gL 159 a b c
abbrev aOE (a:Ty):Ty:=.cMV .bool a
abbrev aD8 (a b:Ar) (c:Nat) (d:T) (e:Ar):T:=rX .gtr a b c d e
abbrev qF (a b c:Ty) (d:List Ar) (e:T):T:=sZ 142 a (cEW b c) d e
abbrev aCU (a b:Nat) (c:T):T:=bT5 .sadd a b c
abbrev bMF:Prim:=.mn .i64
abbrev pV:Ty:=aAE tI aF
abbrev bTI (a:Ty) (b:Nat):Ar:=eI aB a b
abbrev pG (a:Nat):Ar:=bTI aB a
abbrev aQC:Ar:=.Z 33
abbrev bMH (a:Ty):Ar:=kE a aO
abbrev aYM:Ar:=bMH aG
abbrev aGU:Ty:=fM iW
abbrev aHA:Ar:=wF 18
abbrev aYV (a:Nat):Ar:=aOH aJL a 0
abbrev aSR:Ar:=aYV 1
abbrev aZH:Ar:=aYV 2
abbrev aX9:Ar:=bMH bR
abbrev nT:Ar:=aGN aO eD 1
abbrev bH0 (a:Int):Ar:=.ci .u8 a
abbrev aB9:Ar:=kL 0
abbrev pX (a b:Ty) (c:Ar) (d:T):T:=cBQ a b aN c d
abbrev cL9:Ar:=mQ 2
abbrev aBM:Ar:=aAJ 6
abbrev xN (a:Ar) (b:Nat) (c:T):T:=eF .sadd .str .str a b c
end Go.Proofs.YtfmfeplebgbpmaaGreat
