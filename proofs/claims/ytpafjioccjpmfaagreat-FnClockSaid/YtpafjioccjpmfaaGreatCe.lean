/- Ce: lemmas. No conditions. -/
import Derived.Test.YtpafjioccjpmfaaGreatCd
import Derived.Orders
import Derived.OrdersHeld
import Derived.Test.YtpafjioccjpmfaaGreatProg
import Derived.Test.YtpafjioccjpmfaaGreatCa
import Derived.Outline
import Derived.Deep.RegionHeld3
namespace Go.Proofs.YtpafjioccjpmfaaGreat
open Go.ChangeShapes Go.WideShapes Go.ChangeAt Go.RowKit Go.Deep
set_option linter.unusedVariables false
set_option linter.unusedSimpArgs false
section
variable {P:Program} {Cs:List Con} {X:Cx} {g0 γ γ':Gh} {β β':Bt} {e env:List SV} {ops:Array Oper} {clo:Array Nat} {wrt:List (Nat × Nat)} {N:Nat} {tm0:Tm} {es0 fx:Es} {n0:Nat} {pre rs x y:List Rc} {r:Rc} {S:Nat→Bool} {a:Act} {w w':World} {σ:St} {wr:Bool} {D:List Nat}
theorem aI3.op {i:Nat} {o:Oper} (hi:ops[i]?=some o) {K:Act→World→Prop} {Q:Exit→Act→World→Prop} (h:aI3 P ops o a w fun v w'=>K (a.put o.dst v) w'):wpOp P ops Q i K a w:=by
 unfold wpOp
 simp only[hi]
 rcases h with ⟨h1,h2⟩|⟨h1,h2⟩
 ·rw[h1];exact h2
 ·rw[h1]
  simp only[if_true]
  exact .inl (h2.upon fun v w' h=>h)
theorem aPT:(l:List Rc)→(∃ r∈l,S r.i=false)→∃ x r y,l=x++r :: y∧S r.i=false∧∀ q∈x,S q.i=true
 | [],⟨r,h,_⟩=>by simp at h
 | q :: l,⟨r,h1,h2⟩=>by
  cases hq:S q.i
  ·exact ⟨[],q,l,rfl,hq,fun _ h=>by simp at h⟩
  ·have:∃ r∈l,S r.i=false:=by
    rw[List.mem_cons] at h1
    rcases h1 with rfl|h1
    ·rw[hq] at h2;cases h2
    ·exact ⟨r,h1,h2⟩
   obtain ⟨x,r',y,e1,e2,e3⟩:=aPT l this
   refine ⟨q :: x,r',y,by rw[e1];rfl,e2,fun z hz=>?_⟩
   rw[List.mem_cons] at hz
   rcases hz with rfl|hz
   ·exact hq
   ·exact e3 z hz
theorem aDR {clo:Array Nat}:(l:List Edge)→(s:Nat)→∀ j,((l.foldl (fun s e=>if Region.binds .any e then s ||| (2 ^ e.on ||| clo.getD e.on 0) else s) s).testBit j=true↔s.testBit j=true∨∃ e∈l,Region.binds .any e=true∧(j=e.on∨(clo.getD e.on 0).testBit j=true))
 | [],s,j=>by simp
 | e :: l,s,j=>by
  rw[List.foldl_cons,aDR l]
  cases hb:Region.binds .any e
  ·simp only[Bool.false_eq_true,if_false,List.mem_cons,exists_eq_or_imp,hb,false_and,false_or]
  ·simp only[if_true,List.mem_cons,exists_eq_or_imp,hb,true_and,Nat.testBit_or,Bool.or_eq_true,Nat.testBit_two_pow,decide_eq_true_eq]
   constructor
   ·rintro ((h|h|h)|h)
    ·exact .inl h
    ·exact .inr (.inl (.inl h.symm))
    ·exact .inr (.inl (.inr h))
    ·exact .inr (.inr h)
   ·rintro (h|(h|h)|h)
    ·exact .inl (.inl h)
    ·exact .inl (.inr (.inl h.symm))
    ·exact .inl (.inr (.inr h))
    ·exact .inr h
theorem bNT (h:OrdOK P X e ops clo wrt N tm0 es0 fx n0 rs) (hcov:∀ i,i<ops.size→∃ r∈rs,r.i=i) (hah:∀ i o,ops[i]?=some o→clo.getD i 0=aRC clo o) {Q:Exit→Act→World→Prop}
  (hQ:∀ (S:Nat→Bool) γ β a w,(∀ r∈rs,S r.i=true)→Dyn X g0 e clo N tm0 es0 fx n0 rs S γ β a w→Q .normal a w) :
  ∀ (fuel:Nat) (listed:Array Bool) (γ:Gh) (β:Bt) (a:Act) (w:World),listed.size=ops.size→(rs.filter fun r=>!listed.getD r.i false).length≤fuel→Dyn X g0 e clo N tm0 es0 fx n0 rs (fun j=>listed.getD j false) γ β a w→wpAny P .any ops Q fuel listed a w:=by
 have lt:∀ r∈rs,r.i<ops.size:=fun r hr=>by
  obtain ⟨x,y,he⟩:=List.append_of_mem hr
  exact (Array.getElem?_eq_some_iff.1 (h.at' he).1).1
 have all:∀ (listed:Array Bool),listed.size=ops.size→Region.ready .any ops listed=[]→∀ r∈rs,listed.getD r.i false=true:=fun listed hsz hr=>by
  refine Classical.byContradiction fun hno=>?_
  have:∃ r∈rs,(fun j=>listed.getD j false) r.i=false:=by
   refine Classical.byContradiction fun h1=>hno fun r hr=>?_
   cases hb:listed.getD r.i false
   ·exact absurd ⟨r,hr,hb⟩ h1
   ·rfl
  obtain ⟨x,r,y,e1,e2,e3⟩:=aPT (S:=fun j=>listed.getD j false) rs this
  have hr0:r∈rs:=by rw[e1];simp
  have hi:=(h.at' e1).1
  have:r.i∈Region.ready .any ops listed:=by
   rw[mem_ready]
   have hl:=lt r hr0
   refine ⟨?_,r.o,hi,fun ed he hb=>?_⟩
   ·simp only[Array.getD_eq_getD_getElem?] at e2 ⊢
    rw[Array.getElem?_eq_getElem (by omega)] at e2 ⊢
    simpa using e2
   ·have hbit:(clo.getD r.i 0).testBit ed.on=true:=by
     rw[hah r.i r.o hi]
     exact (aDR r.o.after.toList 0 ed.on).2 (.inr ⟨ed,by simpa using he,hb,.inl rfl⟩)
    obtain ⟨q,q1,q2⟩:=h.lin x r y e1 ed.on hbit
    rw[← q2]
    exact e3 q q1
  rw[hr] at this
  cases this
 intro fuel
 induction fuel with
 | zero =>
  intro listed γ β a w hsz hf hd
  have hall:∀ r∈rs,listed.getD r.i false=true:=fun r hr=>by
   have h0:(rs.filter fun r=>!listed.getD r.i false)=[]:=List.eq_nil_of_length_eq_zero (by omega)
   rw[List.filter_eq_nil_iff] at h0
   have:=h0 r hr
   simpa using this
  refine ⟨?_,hQ _ _ _ _ _ hall hd⟩
  rw[List.eq_nil_iff_forall_not_mem]
  intro i hi
  rw[mem_ready] at hi
  obtain ⟨h1,o,h2,_⟩:=hi
  have hl:=(Array.getElem?_eq_some_iff.1 h2).1
  obtain ⟨r,hr,rfl⟩:=hcov i hl
  have:=hall r hr
  simp only[Array.getD_eq_getD_getElem?] at h1 this
  rw[Array.getElem?_eq_getElem (by omega)] at h1 this
  simp only[Option.getD_some] at h1 this
  rw[h1] at this;cases this
 | succ fuel ih =>
  intro listed γ β a w hsz hf hd
  refine ⟨fun hr=>hQ _ _ _ _ _ (all listed hsz hr) hd,fun i hi=>?_⟩
  obtain ⟨h1,o,h2,h3⟩:=mem_ready.1 hi
  have hl:=(Array.getElem?_eq_some_iff.1 h2).1
  obtain ⟨r,hr,rfl⟩:=hcov i hl
  obtain ⟨x,y,hs⟩:=List.append_of_mem hr
  have ho:=(h.at' hs).1
  rw[h2] at ho
  simp only[cX] at ho
  subst ho
  have hS:(fun j=>listed.getD j false) r.i=false:=by
   simp only[Array.getD_eq_getD_getElem?] at h1 ⊢
   rw[Array.getElem?_eq_getElem (by omega)] at h1 ⊢
   simpa using h1
  refine aI3.op h2 ((hd.step h hs hS fun j hj=>?_).mono fun v w' ⟨γ',β',hd'⟩=>?_)
  ·rw[hah r.i r.o h2] at hj
   rcases (aDR r.o.after.toList 0 j).1 hj with h4|⟨ed,e1,e2,e3⟩
   ·simp at h4
   ·have hon:=h3 ed (by simpa using e1) e2
    rcases e3 with rfl|e3
    ·exact hon
    ·have hlt:ed.on<ops.size:=by
      rcases Nat.lt_or_ge ed.on listed.size with h'|h'
      ·omega
      ·simp[Array.getElem?_eq_none h'] at hon
     obtain ⟨q,hq,hqe⟩:=hcov ed.on hlt
     exact hd.closed q hq (by rw[hqe];exact hon) j (by rw[hqe];exact e3)
  ·have hset:(fun j=>(listed.setIfInBounds r.i true).getD j false)=nG (fun j=>listed.getD j false) r.i:=by
    funext j
    simp only[nG,Array.getD_eq_getD_getElem?]
    by_cases hj:j=r.i
    ·subst hj
     rw[Array.getElem?_setIfInBounds_self]
     simp[hsz,hl]
    ·rw[Array.getElem?_setIfInBounds_ne (fun h=>hj h.symm)]
     simp[hj]
   refine ih _ γ' β' _ _ (by simpa using hsz) ?_ (by rw[hset];exact hd')
   have hcnt:(rs.filter fun q=>!(listed.setIfInBounds r.i true).getD q.i false).length<(rs.filter fun q=>!listed.getD q.i false).length:=by
    have e0:∀ q:Rc,(listed.setIfInBounds r.i true).getD q.i false=nG (fun j=>listed.getD j false) r.i q.i:=fun q=>congrFun hset q.i
    simp only[e0]
    rw[hs]
    simp only[List.filter_append,List.filter_cons,List.length_append]
    have hr1:(!nG (fun j=>listed.getD j false) r.i r.i)=false:=by simp[nG]
    have hr2:(!listed.getD r.i false)=true:=by simpa using hS
    rw[hr1,hr2]
    simp only[Bool.false_eq_true,if_false,if_true,List.length_cons]
    have mono:∀ l:List Rc,(l.filter fun q=>!nG (fun j=>listed.getD j false) r.i q.i).length≤(l.filter fun q=>!listed.getD q.i false).length:=fun l=>by
     rw[← List.countP_eq_length_filter,← List.countP_eq_length_filter]
     refine List.countP_mono_left fun q _ hq=>?_
     simp only[nG,Bool.not_or,Bool.and_eq_true] at hq
     exact hq.1
    have m1:=mono x
    have m2:=mono y
    omega
   omega
theorem aU6 {clo:Array Nat}:(n:Nat)→(done:Nat)→(l:List (Nat × Oper))→∀ p∈aJ6 clo n done l,p∈l
 | 0,done,l,p,hp=>hp
 | n+1,done,l,p,hp=>by
  have pick:∀ (c:Nat) (l:List (Nat × Oper)) (q:Nat × Oper),yK done clo c l=some q→q∈l:=by
   intro c l
   induction l with
   | nil=>intro q h;simp[yK] at h
   | cons z l ih =>
    intro q h
    simp only[yK] at h
    split at h
    ·simp only[cX] at h;subst h;simp
    ·exact List.mem_cons_of_mem _ (ih q h)
  simp only[aJ6] at hp
  split at hp
  ·rename_i q hq
   rw[List.mem_cons] at hp
   rcases hp with rfl|hp
   ·simp only[Option.or_eq_some_iff] at hq
    rcases hq with h|⟨_,h|⟨_,h|⟨_,h|⟨_,h⟩⟩⟩⟩ <;> exact pick _ _ _ h
   ·exact (List.mem_filter.1 (aU6 n _ _ p hp)).1
  ·exact hp
theorem bCP:(l:List Oper)→(l.filterMap (·.dst)).Nodup→∀ {i j:Nat} {o o':Oper} {t:Nat},l[i]?=some o→l[j]?=some o'→o.dst=some t→o'.dst=some t→i=j
 | [],_,i,j,o,o',t,h1,_,_,_=>by simp at h1
 | z :: l,hn,i,j,o,o',t,h1,h2,h3,h4=>by
  have mem:∀ {k:Nat} {u:Oper},l[k]?=some u→u.dst=some t→t∈l.filterMap (·.dst):=fun {k u} hk hu=>by
   rw[List.mem_filterMap]
   exact ⟨u,List.mem_of_getElem? hk,hu⟩
  have hl:(l.filterMap (·.dst)).Nodup:=by
   cases hz:z.dst with
   | none=>simpa [List.filterMap_cons,hz] using hn
   | some t=>rw[List.filterMap_cons,hz] at hn;exact (List.nodup_cons.1 hn).2
  have hzt:z.dst=some t→t ∉ l.filterMap (·.dst):=fun hz=>by
   rw[List.filterMap_cons,hz] at hn;exact (List.nodup_cons.1 hn).1
  cases i with
  | zero =>
   simp only[List.getElem?_cons_zero,cX] at h1
   subst h1
   cases j with
   | zero=>rfl
   | succ j=>exact absurd (mem (by simpa using h2) h4) (hzt h3)
  | succ i =>
   cases j with
   | zero =>
    simp only[List.getElem?_cons_zero,cX] at h2
    subst h2
    exact absurd (mem (by simpa using h1) h3) (hzt h4)
   | succ j=>exact congrArg Nat.succ (bCP l hl (i:=i) (j:=j) (by simpa using h1) (by simpa using h2) h3 h4)
end
section
variable {P:Program} {Cs:List Con} {X:Cx} {g0 γ γ':Gh} {β β':Bt} {e env:List SV} {ops:Array Oper} {a:Act} {w w':World} {σ σF:St} {wr:Bool} {D:List Nat} {R:RT} {N0:Nat}
theorem bB3 (hst:StOK X g0 γ β e w σ a) (hp:RTPath Cs R env σF e) (hn:env.length=σ.nx) (h:aQ7 N0 σ R=true) (h0:∀ r v,g0 r=some v→r<N0):∃ γ' β',StOK X g0 γ' β' e w σF a:=by
 unfold aQ7 at h
 split at h
 ·simp only[Bool.and_eq_true,List.all_eq_true,List.mem_range,beq_iff_eq] at h
  obtain ⟨⟨⟨⟨h1,h2⟩,h3⟩,h4⟩,h5⟩:=h
  cases hp with
  | bPX p a k env σ e q1 q2 q3 q4 =>
   cases q4
   obtain ⟨β1,hs⟩:=hst.sealed
   have hlen:(env++[(⟨Prim.not.oty,Prim.not.fn (((Ar.cb true).val env).as Prim.not.ity)⟩:SV)]).length=env.length+1:=by simp
   have hH:=StOK.head (n:=env.length) (t0:=.bool) (q:=.Z env.length) (σh:=σF) (l:=xD σF.tm σ.tm σF.es (iI σ.es)) hs (by simp) (by rw[hn];exact h1) (by rw[beq_iff_eq];exact h2) (by rw[hn];exact h3)
    (fun r v hr=>h4 r (h0 r v hr)) (fun p hp=>by
     have h6:=h5 p hp
     rw[List.any_eq_true] at h6
     obtain ⟨g1,z,z1,z2⟩:=h6
     rw[Bool.and_eq_true,beq_iff_eq] at z2
     have e1:=Ar.beq_eq z2.1
     have hz:=(hst.facts z z1).2
     rw[← hn] at g1
     refine ⟨g1,?_⟩
     rw[List.take_left]
     rw[e1,z2.2] at hz
     rw[← hz,Ar.val_ext _ g1])
   obtain ⟨γ',β',hF⟩:=hH
   refine ⟨γ',β',?_⟩
   have e1:(env++[(⟨Prim.not.oty,Prim.not.fn (((Ar.cb true).val env).as Prim.not.ity)⟩:SV)]).take env.length=env:=List.take_left
   have e2:((Ar.Z env.length).val (env++[(⟨Prim.not.oty,Prim.not.fn (((Ar.cb true).val env).as Prim.not.ity)⟩:SV)]))=⟨Prim.not.oty,Prim.not.fn (((Ar.cb true).val env).as Prim.not.ity)⟩:=by
    show aCP _ _=_
    unfold aCP
    rw[List.getElem?_append_right (Nat.le_refl _)];simp
   rw[e1,e2] at hF
   generalize (Prim.not.fn (((Ar.cb true).val env).as Prim.not.ity))=z at hF ⊢
   change Bool at z
   have hF':StOK X g0 γ' β' (env++[⟨Ty.bool,SV.as Ty.bool ⟨Ty.bool,z⟩⟩]) w σF a:=hF
   rw[SV.as_self] at hF'
   exact hF'
 ·cases h
theorem bJJ {done i j:Nat}:(done ||| 2 ^ i).testBit j=(done.testBit j || decide (i=j)):=by
 rw[Nat.testBit_or,Nat.testBit_two_pow]
theorem aRR:(l:List Oper)→(n j:Nat)→(o:Oper)→l[j]?=some o→(n+j,o)∈kL n l
 | [],n,j,o,h=>by simp at h
 | z :: l,n,j,o,h=>by
  cases j with
  | zero=>simp at h;subst h;simp[kL]
  | succ j =>
   have:=aRR l (n+1) j o (by simpa using h)
   rw[show n+(j+1)=n+1+j by omega]
   exact List.mem_cons_of_mem _ this
theorem aUI {done:Nat} {listed:Array Bool} (hsz:listed.size=ops.size) (hl:∀ j,j<ops.size→listed.getD j false=done.testBit j) (hdn:∀ j,done.testBit j=true→j<ops.size) {p:Nat × Oper} (hp:p∈(kL 0 ops.toList).filter (rL done)) :
  ops[p.1]?=some p.2∧p.1∈Region.ready .any ops listed:=by
 obtain ⟨hp1,hp2⟩:=List.mem_filter.1 hp
 obtain ⟨_,hp3⟩:=aF7 hp1
 have hpo:ops[p.1]?=some p.2:=by simpa using hp3
 have hlt:=(Array.getElem?_eq_some_iff.1 hpo).1
 unfold rL at hp2
 simp only[Bool.and_eq_true,Bool.not_eq_true',List.all_eq_true,Bool.or_eq_true] at hp2
 refine ⟨hpo,?_⟩
 rw[mem_ready]
 refine ⟨?_,p.2,hpo,fun ed he hb=>?_⟩
 ·have h5:=hl p.1 hlt
  rw[hp2.1] at h5
  simp only[Array.getD_eq_getD_getElem?] at h5 ⊢
  rw[Array.getElem?_eq_getElem (by omega)] at h5 ⊢
  simpa using h5
 ·rcases hp2.2 ed (by simpa using he) with h6|h6
  ·rw[hb] at h6;cases h6
  ·rw[hl _ (hdn _ h6)];exact h6
theorem bCJ {Q:Exit→Act→World→Prop}:(n:Nat)→(listed:Array Bool)→(a:Act)→(w:World)→wpAny P .any ops Q n listed a w→wpAnyH P .any ops Q (fun _=>True) n listed a w
 | 0,_,_,_,h=>h
 | n+1,_,_,_,h=>⟨h.1,fun i hi=>wpOp_mono (fun a' w' h'=>⟨trivial,bCJ n _ a' w' h'⟩) (h.2 i hi)⟩
theorem bOS (hC:∀ (c:Nat) (C:Con),Cs[c]?=some C→Con.Holds P C) (hgd:∀ (i:Nat) (o:Oper),ops[i]?=some o→o.guard=none) (hsel:Region.noSelect ops=true) (h0:∀ r v,g0 r=some v→r<N0) :
  ∀ (n:Nat) (done:Nat) (listed:Array Bool) (σ:St) (R:RT) (env:List SV) (γ:Gh) (β:Bt) (a:Act) (w:World),listed.size=ops.size→(∀ j,j<ops.size→listed.getD j false=done.testBit j)→(∀ j,done.testBit j=true→j<ops.size) →
   bFO P Cs wr D ops N0 n done σ R=true→RTPath Cs R env σF e→env.length=σ.nx→StOK X g0 γ β e w σ a→wpAny P .any ops (aC7 X g0 e σF) n listed a w:=by
 have rdy:∀ (done:Nat) (listed:Array Bool),listed.size=ops.size→(∀ j,j<ops.size→listed.getD j false=done.testBit j)→∀ i,i∈Region.ready .any ops listed→∃ o,ops[i]?=some o∧(i,o)∈(kL 0 ops.toList).filter (rL done):=fun done listed hsz hl i hi=>by
  obtain ⟨h1,o,h2,h3⟩:=mem_ready.1 hi
  have hlt:=(Array.getElem?_eq_some_iff.1 h2).1
  refine ⟨o,h2,List.mem_filter.2 ⟨?_,?_⟩⟩
  ·have:=aRR ops.toList 0 i o (by simpa using h2)
   simpa using this
  ·unfold rL
   simp only[Bool.and_eq_true,Bool.not_eq_true',List.all_eq_true,Bool.or_eq_true]
   refine ⟨?_,fun ed he=>?_⟩
   ·rw[← hl i hlt]
    simp only[Array.getD_eq_getD_getElem?] at h1 ⊢
    rw[Array.getElem?_eq_getElem (by omega)] at h1 ⊢
    simpa using h1
   ·cases hb:Region.binds .any ed
    ·exact .inl rfl
    ·right
     have h4:=h3 ed (by simpa using he) hb
     have hlt2:ed.on<ops.size:=by
      rcases Nat.lt_or_ge ed.on listed.size with h'|h'
      ·omega
      ·simp[Array.getElem?_eq_none h'] at h4
     rw[← hl _ hlt2];exact h4
 intro n
 induction n with
 | zero =>
  intro done listed σ R env γ β a w hsz hl hdn h hp hn hst
  simp only[bFO,Bool.and_eq_true,List.isEmpty_iff] at h
  obtain ⟨γ',β',hF⟩:=bB3 hst hp hn h.2 h0
  refine ⟨?_,rfl,γ',β',hF⟩
  rw[List.eq_nil_iff_forall_not_mem]
  intro i hi
  obtain ⟨o,_,hm⟩:=rdy done listed hsz hl i hi
  rw[h.1] at hm;cases hm
 | succ n ih =>
  intro done listed σ R env γ β a w hsz hl hdn h hp hn hst
  have nxt:∀ (i:Nat) (o:Oper),ops[i]?=some o→(∀ j,j<ops.size→(listed.setIfInBounds i true).getD j false=(done ||| 2 ^ i).testBit j)∧∀ j,(done ||| 2 ^ i).testBit j=true→j<ops.size:=fun i o ho=>by
   have hi:=(Array.getElem?_eq_some_iff.1 ho).1
   refine ⟨fun j hj=>?_,fun j hj=>?_⟩
   ·rw[bJJ,← hl j hj]
    simp only[Array.getD_eq_getD_getElem?]
    by_cases hij:i=j
    ·subst hij
     rw[Array.getElem?_setIfInBounds_self]
     simp[hsz,hj]
    ·rw[Array.getElem?_setIfInBounds_ne hij]
     simp[hij]
   ·rw[bJJ,Bool.or_eq_true] at hj
    rcases hj with hj|hj
    ·exact hdn j hj
    ·have:=of_decide_eq_true hj
     subst this
     exact hi
  simp only[bFO] at h
  split at h
  ·rename_i p hf
   have hpm:=List.mem_of_find?_eq_some hf
   have hpb:=List.find?_some hf
   obtain ⟨hpo,hrd⟩:=aUI hsz hl hdn hpm
   unfold bJW at hpb
   rw[Bool.and_eq_true] at hpb
   obtain ⟨hm1,hm2⟩:=hpb
   rw[List.all_eq_true] at hm2
   split at h
   ·rename_i ls σ' d' hx
    split at h
    ·rename_i R' hR
     have e1:=aDQ ls hR
     subst e1
     obtain ⟨q1,env',q2,q3,_⟩:=pE ls hp
     rw[hn] at q1
     obtain ⟨g1,g2⟩:=aG8 hC hst ⟨rfl,rfl⟩ hx q1
     split at hm1
     case h_2=>cases hm1
     rename_i x hop
     have hrun:∀ w,(execOp a.eval p.2).run P w = .ok (.value (a.eval x)) w:=fun w=>by simp[execOp,hop]
     have hst':∃ γ' β',StOK X g0 γ' β' e w σ' (a.put p.2.dst (a.eval x)):=by
      rcases g2 with ⟨v,w1,e1,e2⟩|⟨w1,e1,_⟩|⟨f,args,e1,_⟩
      ·rw[hrun] at e1
       cases e1
       exact e2
      ·rw[hrun] at e1;cases e1
      ·rw[hrun] at e1;cases e1
     obtain ⟨γ',β',h'⟩:=hst'
     obtain ⟨n1,n2⟩:=nxt p.1 p.2 hpo
     have hih:=ih _ _ σ' _ env' γ' β' _ w (by simpa using hsz) n1 n2 h q2 (by rw[q3,aCK hx,hn]) h'
     refine wpAny_of_held (n+1) listed a w (wpAnyH_first (S:=fun _=>True) hpo (Region.noSelect_spec hsel) (fun c a w hq=>by cases hq.1) n listed a w (fun j oj hj hji _ hno=>?_) hrd
      (.inl ⟨by simp[Region.wanted,hgd _ _ hpo],fun w _=>hrun w⟩) trivial (bCJ n _ _ w hih))
     have hmem:(j,oj)∈kL 0 ops.toList:=by
      have:=aRR ops.toList 0 j oj (by simpa using hj)
      simpa using this
     have h7:=hm2 _ hmem
     rw[Bool.or_eq_true,Bool.or_eq_true] at h7
     rcases h7 with (h7|h7)|h7
     ·exact absurd (by simpa using h7) hji
     ·rw[List.any_eq_true] at h7
      obtain ⟨ed,k1,k2⟩:=h7
      rw[Bool.and_eq_true,beq_iff_eq] at k2
      exact absurd k2.2 (hno ed (by simpa using k1) k2.1)
     ·exact h7
    ·cases h
   ·cases h
  ·simp only[Bool.and_eq_true,Bool.or_eq_true,List.all_eq_true] at h
   obtain ⟨h1,h2⟩:=h
   refine ⟨fun hr=>?_,fun i hi=>?_⟩
   ·have hemp:(!((kL 0 ops.toList).filter (rL done)).isEmpty)=true→False:=fun hne=>by
     rw[Bool.not_eq_true',List.isEmpty_eq_false_iff] at hne
     obtain ⟨p,hp⟩:=List.exists_mem_of_ne_nil _ hne
     have:=(aUI hsz hl hdn hp).2
     rw[hr] at this;cases this
    obtain ⟨γ',β',hF⟩:=bB3 hst hp hn (h1.resolve_left hemp) h0
    exact ⟨rfl,γ',β',hF⟩
   ·obtain ⟨o,ho,hm⟩:=rdy done listed hsz hl i hi
    have hs:=h2 (i,o) hm
    split at hs
    ·rename_i ls σ' d' hx
     split at hs
     ·rename_i R' hR
      have e1:=aDQ ls hR
      subst e1
      obtain ⟨q1,env',q2,q3,_⟩:=pE ls hp
      rw[hn] at q1
      obtain ⟨g1,g2⟩:=aG8 hC hst ⟨rfl,rfl⟩ hx q1
      unfold wpOp
      simp only[ho]
      rw[if_pos (by simp[Region.wanted,hgd i o ho])]
      obtain ⟨n1,n2⟩:=nxt i o ho
      refine .inl (g2.upon fun v w' ⟨γ',β',h'⟩=>?_)
      exact ih _ _ _ _ env' γ' β' _ _ (by simpa using hsz) n1 n2 hs q2 (by rw[q3,aCK hx,hn]) h'
     ·cases hs
    ·cases hs
theorem bIR (hm:P.follows .mixedOrders=true) (hC:∀ (c:Nat) (C:Con),Cs[c]?=some C→Con.Holds P C) {id:Nat} (h:aFM P Cs wr D ops σ = .ok R) (hp:RTPath Cs R env σF e) (hn:env.length=σ.nx) (hst:StOK X g0 γ β e w σ a):(Code.region id ops true).wp P (aC7 X g0 e σF) a w:=by
 unfold aFM at h
 split at h
 ·rename_i hg
  rw[Bool.and_eq_true] at hg
  obtain ⟨hg,hsel⟩:=hg
  split at h
  ·split at h
   ·rename_i rt hrt hb
    simp only[Except.ok.injEq] at h
    subst h
    have hgd:∀ (i:Nat) (o:Oper),ops[i]?=some o→o.guard=none:=fun i o ho=>by
     rw[List.all_eq_true] at hg
     have:=hg o (by simpa using Array.mem_of_getElem? ho)
     simpa using this
    have h0:∀ r v,g0 r=some v→r<σ.nr:=fun r v hr=>by
     rcases Nat.lt_or_ge r σ.nr with h'|h'
     ·exact h'
     ·have h1:=hst.base r v hr
      rw[hst.fresh r h'] at h1;cases h1
    have hlat:Later X γ (Os γ σ.es) e w γ (Os γ σ.es) e { w with drawn:=w.drawn+1 }:=⟨fun _ _ h=>h,⟨[],by simp⟩,Nat.le_refl _,fun b _ h _=>⟨rfl,h⟩⟩
    have hst':StOK X g0 γ β e { w with drawn:=w.drawn+1 } σ a :=
     ⟨⟨hst.mem.nd,hst.mem.at',fun b hb=>(hlat.gd (hst.mem.good b hb)).1,fun p hp=>dT.later hlat rfl (fun _ _=>rfl) (fun _ _=>rfl) (hst.mem.ent p hp)⟩,hst.keys,
      ⟨hst.frame.os,hst.frame.tape,hst.frame.output,hst.frame.size,hst.frame.block⟩,hst.gh,hst.len,fun t=>bH.later hlat (hst.vals t),hst.facts,hst.fresh,hst.nodef,hst.base⟩
    refine wp_region_any hm (bOS hC hgd hsel h0 ops.size 0 _ σ _ env γ β a _ (by simp) (fun j hj=>?_) (fun j hj=>?_) hb hp hn hst')
    ·rw[Array.getD_eq_getD_getElem?,Array.getElem?_replicate,if_pos hj];simp
    ·simp at hj
   ·cases h
  ·cases h
 ·cases h
theorem aZ1 {er:Err} {x:RT} (h:bGV P Cs wr D ops σ er = .ok x):aFM P Cs wr D ops σ = .ok x:=by
 unfold bGV at h
 split at h
 ·exact h
 ·cases h
end
section
variable {P:Program} {Cs:List Con} {X:Cx} {g0 γ γ':Gh} {β β':Bt} {e env:List SV} {ops:Array Oper} {clo:Array Nat} {wrt:List (Nat × Nat)} {N:Nat} {tm0:Tm} {es0:Es} {n0:Nat} {pre rs x y:List Rc} {r:Rc} {S:Nat→Bool} {a:Act} {w w':World} {σ:St} {wr:Bool} {D:List Nat} {C:Con}
theorem aUB {l:List Oper} {t:Nat}:(((l.zipIdx.filterMap fun p=>p.1.dst.map fun t=>(t,p.2)).find? fun p=>p.1==t)=none→∀ (j:Nat) (o:Oper),l[j]?=some o→o.dst≠some t) ∧
  ∀ p,((l.zipIdx.filterMap fun p=>p.1.dst.map fun t=>(t,p.2)).find? fun p=>p.1==t)=some p→∃ o,l[p.2]?=some o∧o.dst=some t:=by
 refine ⟨fun h j o hj hd=>?_,fun p h=>?_⟩
 ·rw[List.find?_eq_none] at h
  have:(t,j)∈l.zipIdx.filterMap fun p=>p.1.dst.map fun t=>(t,p.2):=by
   rw[List.mem_filterMap]
   exact ⟨(o,j),List.mem_zipIdx_iff_getElem?.2 hj,by simp[hd]⟩
  exact h _ this (by simp)
 ·have h1:=List.mem_of_find?_eq_some h
  have h2:=List.find?_some h
  simp only[beq_iff_eq] at h2
  rw[List.mem_filterMap] at h1
  obtain ⟨⟨o,j⟩,h3,h4⟩:=h1
  simp only[Option.map_eq_some_iff] at h4
  obtain ⟨t',h5,rfl⟩:=h4
  simp only at h2
  subst h2
  exact ⟨o,List.mem_zipIdx_iff_getElem?.1 h3,h5⟩
theorem aTQ (ops:Array Oper):(Region.before ops).size=ops.size:=by
 have key:∀ (f:Array Nat→Oper→Nat) (l:List Oper) (acc:Array Nat),(l.foldl (fun a o=>a.push (f a o)) acc).size=acc.size+l.length:=by
  intro f l
  induction l with
  | nil=>intro acc;rfl
  | cons o l ih=>intro acc;rw[List.foldl_cons,ih,Array.size_push,List.length_cons];omega
 unfold Region.before
 rw[← Array.foldl_toList,key]
 simp
theorem bID (hm:P.follows .mixedOrders=true) (hC:∀ (c:Nat) (C:Con),Cs[c]?=some C→Con.Holds P C) {σF:St} {rt:RT} {id:Nat} (hk:aS8 ops (Region.before ops) (tK ops true)=true)
  {fx:Es} (hfs:∀ p∈fx,p∈σ.es) (h:iJ P Cs wr D ops (tK ops true) σ (aNC ops true fx) = .ok rt) (hp:RTPath Cs rt env σF e) (hn:env.length=σ.nx) (hst:StOK X g0 γ β e w σ a):(Code.region id ops true).wp P (aC7 X g0 e σF) a w:=by
 simp only[aS8,Bool.and_eq_true,decide_eq_true_eq,List.all_eq_true,beq_iff_eq,List.mem_range,List.contains_iff_mem] at hk
 obtain ⟨⟨⟨⟨⟨k1,k2⟩,k3⟩,k4⟩,k5⟩,k6⟩:=hk
 have hmem:∀ p∈tK ops true,ops[p.1]?=some p.2:=fun p hp=>by
  simp only[tK,if_true] at hp
  obtain ⟨_,h2⟩:=aF7 (aU6 _ _ _ p hp)
  simpa using h2
 have hrel:RelD (Region.before ops) (ops.toList.zipIdx.filterMap fun p=>p.1.dst.map fun t=>(t,p.2)) σ.n σ.tm σ.es fx σ.nr [] σ (aNC ops true fx):=⟨rfl,rfl,rfl,rfl,rfl,fun r hr=>(by simp at hr),rfl,rfl,rfl,rfl,rfl,fun _=>hfs⟩
 obtain ⟨rs,q1,q2,q0,q3,q4,q5,q6⟩:=aG4 (X:=X) hC (tK ops true) h hp hn hrel hst.facts hmem
 simp only[List.nil_append] at q3 q4 q5
 have hi:rs.map (·.i)=(tK ops true).map (·.1):=by rw[← q1];simp
 have hlen:rs.length=ops.size:=by rw[← k2,← q1];simp
 have hop:∀ r∈rs,ops[r.i]?=some r.o:=fun r hr=>hmem (r.i,r.o) (by rw[← q1];exact List.mem_map.2 ⟨r,hr,rfl⟩)
 have hnd:(rs.map (·.i)).Nodup:=by rw[hi];exact k3
 have hcov:∀ i,i<ops.size→∃ r∈rs,r.i=i:=fun i hlt=>by
  have:=k4 i hlt
  rw[← hi,List.mem_map] at this
  exact this
 have hord:OrdOK P X e ops (Region.before ops) (ops.toList.zipIdx.filterMap fun p=>p.1.dst.map fun t=>(t,p.2)) σ.n σ.tm σ.es fx σ.nr rs:=by
  refine ⟨q2,hnd,fun x r y hs j hj=>?_,fun r hr r' hr' t h1 h2=>?_,hfs,fun r hr=>by rw[aTQ];exact (Array.getElem?_eq_some_iff.1 (hop r hr)).1,fun t hf r hr=>?_,fun t p hf=>?_⟩
  ·rcases bHU (tK ops true) k5 (x:=x.map fun r=>(r.i,r.o)) (y:=y.map fun r=>(r.i,r.o)) (p:=(r.i,r.o)) (by rw[← q1,hs];simp) j hj with h1|⟨q,h1,h2⟩
   ·simp at h1
   ·rw[List.mem_map] at h1
    obtain ⟨q',h3,rfl⟩:=h1
    exact ⟨q',h3,h2⟩
  ·have:=bCP ops.toList (by simpa [aWB] using k1) (by simpa using hop r hr) (by simpa using hop r' hr') h1 h2
   exact aBZ hnd hr hr' this
  ·exact aUB.1 hf r.i r.o (by simpa using hop r hr)
  ·obtain ⟨o,h1,h2⟩:=aUB.2 p hf
   have hlt:p.2<ops.size:=by
    have:=(List.getElem?_eq_some_iff.1 h1).1
    simpa using this
   obtain ⟨r,hr,he⟩:=hcov p.2 hlt
   refine ⟨r,hr,he,?_⟩
   have h3:=hop r hr
   rw[he] at h3
   have h4:ops[p.2]?=some o:=by simpa using h1
   rw[h3] at h4
   simp only[cX] at h4
   rw[h4];exact h2
 have hah:∀ i o,ops[i]?=some o→(Region.before ops).getD i 0=aRC (Region.before ops) o:=fun i o ho=>by
  have:(i,o)∈kL 0 ops.toList:=by
   have key:∀ (l:List Oper) (n j:Nat) (o:Oper),l[j]?=some o→(n+j,o)∈kL n l:=by
    intro l
    induction l with
    | nil=>intro n j o h;simp at h
    | cons z l ih =>
     intro n j o h
     cases j with
     | zero=>simp at h;subst h;simp[kL]
     | succ j =>
      have:=ih (n+1) j o (by simpa using h)
      rw[show n+(j+1)=n+1+j by omega]
      exact List.mem_cons_of_mem _ this
   have:=key ops.toList 0 i o (by simpa using ho)
   simpa using this
  exact k6 (i,o) this
 have hnone:∀ j,(Array.replicate ops.size false).getD j false=false:=fun j=>by
  rw[Array.getD_eq_getD_getElem?,Array.getElem?_replicate]
  split <;> rfl
 have hnr:σ.nr≤sM σ.nr rs∧∀ r∈rs,σ.nr≤r.nr:=by
  obtain ⟨n1,n2⟩:=cU.nums rs q2
  simp only[List.nil_append] at n1 n2
  have e1:sM σ.nr []=σ.nr:=rfl
  rw[e1] at n1 n2
  exact ⟨n1,fun r hr=>(n2 r hr).1⟩
 refine wp_region_any hm (bNT (g0:=g0) hord hcov hah (fun S γ' β' a' w' hall hd=>⟨rfl,?_⟩) ops.size _ γ β a _ (by simp) (by
  rw[List.filter_eq_self.2 (fun r _=>by rw[hnone];rfl)]
  omega) ?_)
 ·have hfl:rs.filter (fun r=>(Array.replicate ops.size false).getD r.i false)=[]:=List.filter_eq_nil_iff.2 fun r _=>by rw[hnone];simp
  have ht:oX σ.es (fun j=>(Array.replicate ops.size false).getD j false) rs=σ.es:=by unfold oX;rw[hfl];rfl
  have htm:tmS σ.n σ.tm (fun j=>(Array.replicate ops.size false).getD j false) rs=σ.tm:=by unfold tmS;rw[hfl];rfl
  have hlat:Later X γ (Os γ σ.es) e w γ (Os γ σ.es) e { w with drawn:=w.drawn+1 }:=⟨fun _ _ h=>h,⟨[],by simp⟩,Nat.le_refl _,fun b _ h _=>⟨rfl,h⟩⟩
  refine ⟨fun r hr h=>(by rw[hnone] at h;cases h),?_,by rw[ht];exact hst.keys,⟨hst.frame.os,hst.frame.tape,hst.frame.output,hst.frame.size,hst.frame.block⟩,hst.gh,hst.len,fun t=>?_,fun r hr _ q h1 h2=>hst.fresh q (by have:=hnr.2 r hr;omega),fun q hq=>hst.fresh q (by have:=hnr.1;omega),hst.nodef,hst.base⟩
  ·rw[ht]
   exact ⟨hst.mem.nd,hst.mem.at',fun b hb=>(hlat.gd (hst.mem.good b hb)).1,fun p hp=>dT.later hlat rfl (fun _ _=>rfl) (fun _ _=>rfl) (hst.mem.ent p hp)⟩
  ·rw[ht,htm]
   exact bH.later hlat (hst.vals t)
 ·have hfl:rs.filter (fun r=>S r.i)=rs:=List.filter_eq_self.2 fun r hr=>hall r hr
  have ht:oX σ.es S rs=gD σ.es rs:=by unfold oX;rw[hfl]
  have htm:tmS σ.n σ.tm S rs=σF.tm:=by unfold tmS;rw[hfl,q3]
  have hs1:StOK X g0 γ' β' e w' { σF with es:=gD σ.es rs } a':=by
   refine ⟨by rw[← ht];exact hd.mem,by rw[← ht];exact hd.keys,hd.frame,hd.gh,?_,fun t=>?_,q6,fun r hr=>hd.top r (by rw[← q5];exact hr),hd.nodef,hd.base⟩
   ·show σF.n=_
    rw[q0];exact hd.len
   ·have:=hd.vals t
    rw[htm,ht] at this
    exact this
  obtain ⟨β2,hs2⟩:=hs1.sealed
  refine ⟨γ',β2,?_⟩
  have e1:({ σF with es:=gD σ.es rs }:St).upd (iI ({ σF with es:=gD σ.es rs }:St).es) σF.nx σF.nr σF.cr=σF:=by
   cases σF
   simp only at q4
   rw[q4]
   rfl
  have hs2:StOK X g0 γ' β2 e w' (({ σF with es:=gD σ.es rs }:St).upd (iI ({ σF with es:=gD σ.es rs }:St).es) σF.nx σF.nr σF.cr) a':=hs2
  rw[e1] at hs2
  exact hs2
theorem vS {draw:Bool} {x:RT}:(n:Nat)→{D:List Nat}→{σ:St}→{γ:Gh}→{β:Bt}→tP P Cs wr ops draw n D σ = .ok x→StOK X g0 γ β e w σ a →
  (∃ D' σ' β' fx,(draw=true→aS8 ops (Region.before ops) (tK ops draw)=true)∧iJ P Cs wr D' ops (tK ops draw) σ' (aNC ops draw fx) = .ok x∧StOK X g0 γ β' e w σ' a∧σ'.nx=σ.nx∧(draw=false→fx=[])∧∀ p∈fx,p∈σ'.es) ∨
   (draw=true∧∃ D' σ' β',aFM P Cs wr D' ops σ' = .ok x∧StOK X g0 γ β' e w σ' a∧σ'.nx=σ.nx)
 | 0,D,σ,γ,β,h,hst=>by simp[tP] at h
 | n+1,D,σ,γ,β,h,hst=>by
  simp only[tP] at h
  split at h
  ·cases h
  ·rename_i hk
   split at h
   ·rename_i x' hx
    simp only[Except.ok.injEq] at h
    subst h
    refine .inl ⟨D,σ,β,[],fun hd=>?_,hx,hst,rfl,fun _=>rfl,fun p hp=>(by simp at hp)⟩
    subst hd
    simpa using hk
   ·split at h
    ·rename_i x' hx
     split at hx
     ·rename_i hdr
      simp only[Except.ok.injEq] at h
      subst h
      rcases bH2 hx with hx2|hx2
      ·refine .inl ⟨D,σ,β,bAJ ops σ,fun hd=>?_,hx2,hst,rfl,fun hd=>(by rw[hdr] at hd;cases hd),fun p hp=>(List.mem_filter.1 hp).1⟩
       subst hd
       simpa using hk
      ·refine .inl ⟨D,σ,β,bJT ops σ,fun hd=>?_,hx2,hst,rfl,fun hd=>(by rw[hdr] at hd;cases hd),fun p hp=>(List.mem_append.1 hp).elim (fun h=>(List.mem_filter.1 h).1) fun h=>(List.mem_filter.1 h).1⟩
       subst hd
       simpa using hk
     ·cases hx
    ·rename_i err2 hx
     split at h
     ·rename_i x' hx2
      split at hx2
      ·rename_i hdr
       simp only[Except.ok.injEq] at h
       subst h
       exact .inr ⟨hdr,D,σ,β,aZ1 hx2,hst,rfl⟩
      ·cases hx2
     ·split at h
      ·split at h
       ·split at h
        ·rename_i σ' hz
         obtain ⟨β1,f1,f2,f3⟩:=hst.frz hz
         rcases vS n h f1 with ⟨D',σ2,β2,fx,g1,g2,g3,g4,g5⟩|⟨g1,D',σ2,β2,g2,g3,g4⟩
         ·exact .inl ⟨D',σ2,β2,fx,g1,g2,g3,g4.trans f2,g5⟩
         ·exact .inr ⟨g1,D',σ2,β2,g2,g3,g4.trans f2⟩
        ·cases h
       ·split at h
        ·cases h
        ·exact vS n h hst
      ·cases h
theorem bNQ (hm:P.follows .mixedOrders=true) (hC:∀ (c:Nat) (C:Con),Cs[c]?=some C→Con.Holds P C) (X:Cx) (g0:Gh):bC6 P Cs wr X g0:=by
 intro id ops draw D σ rt env e σF γ β w a h hp hn hst
 rcases vS 12 h hst with ⟨D',σ',β',fx,h1,h2,h3,h4,h5,h6⟩|⟨hd,D',σ',β',h2,h3,h4⟩
 rotate_left
 ·subst hd
  exact bIR hm hC h2 hp (by rw[h4];exact hn) h3
 cases draw with
 | true=>exact bID hm hC (h1 rfl) h6 h2 hp (by rw[h4];exact hn) h3
 | false=>exact bEE hC (by rw[h5 rfl] at h2;simpa [tK] using h2) hp (by rw[h4];exact hn) h3
theorem aX (hm:P.follows .mixedOrders=true) {fuel:Nat} {orc:Orc} {T':T} (hC:∀ (c:Nat) (C:Con),Cs[c]?=some C→Con.Holds P C) (h:bW P Cs C wr fuel orc = .ok T')
 (hw:∀ x:C.argTy.D,okD C.argTy x→C.pre x→T'.wp Cs [⟨C.argTy,x⟩] [] fun v=>v.as C.resTy=C.fn x):Con.Holds P C:=bKZ hC (fun X g0=>bNQ hm hC X g0) h hw
end
#print axioms aX
theorem aZ:Tryz.prog.follows .mixedOrders=true:=by kernel_rfl
theorem aT {P:Program}:∀ (c:Nat) (C:Con),([]:List Con)[c]?=some C→Con.Holds P C:=fun c C h=>by simp at h
theorem aG {P:Program} {C0:Con} {Cs:List Con} (h0:Con.Holds P C0) (h:∀ (c:Nat) (C:Con),Cs[c]?=some C→Con.Holds P C):∀ (c:Nat) (C:Con),(C0 :: Cs)[c]?=some C→Con.Holds P C:=fun c C hc=>by
 cases c with
 | zero=>simp only[List.getElem?_cons_zero,cX] at hc;subst hc;exact h0
 | succ c=>exact h c C (by simpa using hc)
theorem bP2 (k:IntKind) (x y:Int):@LE.le (Ty.D (.int k)) Int.instLEInt x y = @LE.le Int Int.instLEInt x y:=rfl
theorem bOW (k:IntKind) (x y:Int):@LT.lt (Ty.D (.int k)) Int.instLTInt x y = @LT.lt Int Int.instLTInt x y:=rfl
theorem bOY (k:IntKind) (x y:Int):@Ne (Ty.D (.int k)) x y = @Ne Int x y:=rfl
theorem bOX (k:IntKind) (x y:Int):@Eq (Ty.D (.int k)) x y = @Eq Int x y:=rfl
theorem bLK (k:IntKind):(@OfNat.ofNat (Ty.D (.int k)) 0 (@instOfNat 0))=(0:Int):=rfl
theorem bGU (b:Bool):okD .bool b=True:=rfl
theorem aW {α:Type} {l:List α} {k:Nat} (h:k<l.length) {d:α}:l.getD k d=l[k]:=by simp[h]
theorem mC {α:Type} {l:List α} {k:Nat} (h:k<l.length):l.take k++[l[k]]=l.take (k+1):=by rw[List.take_succ_eq_append_getElem h]
def iK (x:Int):Int:=min (max x (-2147483647)) 2147483647
def aWO (x:Int):Int × Bool:=(iK x,decide (x≠iK x))
def fD (a b:Int):Int × Bool:=aWO (iK a+iK b)
theorem zB (k:Nat):((k:Int) - 1).toNat=k - 1:=by omega
theorem aMO (k:Nat):((k:Int)+1).toNat=k+1:=by omega
theorem aWW:Int.toNat 0=0:=rfl
theorem aVT:Int.toNat 1=1:=rfl
theorem dY {t:T} {Cs:List Con} {env:List SV} {L:List (SV→Prop)} {Q:SV→Prop} {P:Prop} (p:P) (h:t.wp Cs env L Q↔P:=by dsimp only [T.wp,aH,aS,bP,zF,aBA,Ar.val,aCP,Prim.cond,Prim.fn,Prim.ity,Prim.oty,List.getElem?_cons_succ,List.getElem?_cons_zero,Option.getD_some,List.cons_append,List.nil_append,inK,arI,bLM,maxI,minI,negI];(try simp only[SV.as_self,true_and,forall_const,bGU,bP2,bOW,bOY,bOX,bLK]);exact Iff.rfl):t.wp Cs env L Q:=h.mpr p
theorem eD {P Q:Prop} (q:Q) (h:P↔Q:=by (try simp only[Int.toNat_natCast,Bool.not_eq_true',Bool.not_eq_false',Bool.and_eq_true,Bool.and_eq_false_iff,decide_eq_true_eq,decide_eq_false_iff_not,Int.not_lt,Int.not_le,ge_iff_le,gt_iff_lt,List.length_cons,List.length_nil,List.length_append,Nat.zero_add,List.nil_append,beq_iff_eq,beq_eq_false_iff_ne,bne_iff_ne,bne_eq_false_iff_eq,ne_eq,zB,aMO,aWW,aVT]);exact Iff.rfl):P:=h.mpr q
section
variable {t:Ty} {e:TypeId} {w:World} {v:Value} {l:List t.D} {bl:List Nat}
end
structure Only (bl:List Nat) (w w':World):Prop where
 os:w'.os=w.os
 tape:w'.tape=w.tape
 output:w'.output=w.output
 size:w.heap.size≤w'.heap.size
 block:∀ q,q ∉ bl→q<w.heap.size→w'.heap[q]?=w.heap[q]?
section
variable {bl bl':List Nat} {w w' w'':World}
theorem Only.refl (bl:List Nat) (w:World):Only bl w w:=⟨rfl,rfl,rfl,Nat.le_refl _,fun _ _ _=>rfl⟩
theorem Only.trans (h:Only bl w w') (k:Only bl w' w''):Only bl w w'' :=
 ⟨k.os.trans h.os,k.tape.trans h.tape,k.output.trans h.output,Nat.le_trans h.size k.size,fun q hq hz=>(k.block q hq (Nat.lt_of_lt_of_le hz h.size)).trans (h.block q hq hz)⟩
theorem Only.mono (h:Only bl w w') (hb:∀ q∈bl,q∈bl'):Only bl' w w':=⟨h.os,h.tape,h.output,h.size,fun q hq hz=>h.block q (fun hm=>hq (hb q hm)) hz⟩
theorem Only.setCell (h:Only bl w w') {p:Addr} (hp:p.block∈bl) (u:Value):Only bl w (w'.setCell p u) :=
 h.trans ⟨rfl,rfl,rfl,by simp[World.setCell],fun q hq _=>Below.heap_setCell _ _ _ _ (fun e=>hq (e ▸ hp))⟩
theorem Only.alloc (h:Only bl w w') (o:Obj):Only bl w (w'.alloc o) :=
 h.trans ⟨rfl,rfl,rfl,by simp,fun q hq hz=>Below.heap_alloc _ _ _ hz⟩
theorem Only.drew (h:Only bl w w'):Only bl w w'.drew:=⟨h.os,h.tape,h.output,h.size,h.block⟩
theorem Only.below {B:Nat} (h:Only bl w w') (hb:∀ q∈bl,B≤q) (hB:B≤w.heap.size):Below B w w' :=
 ⟨h.os,h.tape,h.output,h.size,fun k hk=>h.block k (fun hm=>by have:=hb k hm;omega) (by omega)⟩
end
def bS:(t:Ty)→t.D→Nat
 | .int _,_=>0
 | .bool,_=>0
 | .str,_=>0
 | .slice _ t,l=>List.length l+(l.map (bS t)).sum
 | .bPW a b,x=>bS a x.1+bS b x.2
theorem dK (e:TypeId) (t:Ty) (l:List t.D):bS (.slice e t) l=l.length+(l.map (bS t)).sum:=rfl
theorem aM9 {α:Type} (f:α→Nat) (l:List α) (h:∀ x,f x=0):(l.map f).sum=0:=by
 induction l with
 | nil=>rfl
 | cons a m ih=>rw[List.map_cons,List.sum_cons,ih,h]
theorem mO {α:Type} (f:α→Nat) (l:List α) (k:Nat) (h:k<l.length):((l.take (k+1)).map f).sum=((l.take k).map f).sum+f l[k]:=by
 rw[List.take_succ_eq_append_getElem h,List.map_append,List.sum_append];simp only[List.map_cons,List.map_nil,List.sum_cons,List.sum_nil,Nat.add_zero]
theorem aVN {α:Type} (f:α→Nat) (l:List α) (k:Nat):((l.take k).map f).sum≤(l.map f).sum:=by
 conv=>rhs;rw[← List.take_append_drop k l,List.map_append,List.sum_append]
 omega
theorem aX9 {α:Type} (f:α→Nat) (l:List α) (k:Nat) (h:k<l.length):f l[k]≤(l.map f).sum:=by
 have h1:=mO f l k h
 have h2:=aVN f l (k+1)
 omega
def cnt:(t:Ty)→t.D→Nat
 | .int _,_=>1
 | .bool,_=>1
 | .str,_=>1
 | .slice _ t,l=>(l.map (cnt t)).sum
 | .bPW a b,x=>cnt a x.1+cnt b x.2
def bIQ {α:Type} (f:α→Int→α) (c:α→Nat):List α→Int→List α
 | [],_=>[]
 | x :: l,k=>f x k :: bIQ f c l (k+(c x:Int))
def mk:(t:Ty)→t.D→Int→t.D
 | .int _,_,k=>k
 | .bool,_,k=>decide (k % 3=0)
 | .str,s,_=>s
 | .slice _ t,l,k=>bIQ (mk t) (cnt t) l k
 | .bPW a b,x,k=>(mk a x.1 k,mk b x.2 (k+(cnt a x.1:Int)))
theorem rK.below {t:Ty} {w w':World} {p:Option Addr} {len cap:Nat} {l:List t.D} (h:rK t.n (rd t w) w p len cap l) (hb:Below w.heap.size w w'):rK t.n (rd t w') w' p len cap l :=
 h.mono (Below.keeps hb) (fun cs x hx=>bMC (Below.keeps hb) t cs x hx)
theorem bPL {e:TypeId} {t:Ty} {lo hi:Nat} {w:World} {p:Option Addr} {len cap:Nat} {l:List t.D} (h:fK (.slice e t) lo hi w [.slice p len cap] l):rK t.n (rd t w) w p len cap l:=by
 obtain ⟨p',len',cap',hv,hs⟩:=h.rd
 simp only[List.cons.injEq,Value.slice.injEq,and_true] at hv
 obtain ⟨rfl,rfl,rfl⟩:=hv
 exact hs
theorem fK.set1 {t:Ty} {lo hi:Nat} {w:World} {cs:List Value} {d:t.D} (h:fK t lo hi w cs d) {a:Addr} (ha:a.block<lo∨hi≤a.block) (v:Value):fK t lo hi (w.setCell a v) cs d :=
 h.keep (fun b h1 h2=>Below.heap_setCell _ _ _ _ (by omega)) (by simp[World.setCell])
theorem fK.alloc {t:Ty} {lo hi:Nat} {w:World} {cs:List Value} {d:t.D} (h:fK t lo hi w cs d) (o:Obj):fK t lo hi (w.alloc o) cs d :=
 h.keep (fun b h1 h2=>Below.heap_alloc _ _ _ (by have:=h.hi_le;omega)) (by simp)
theorem rK.lens {α:Type} {n:Nat} {R:List Value→α→Prop} {w:World} {p:Option Addr} {len cap:Nat} {l:List α} (h:rK n R w p len cap l):len=l.length:=h.1
theorem gN (l:List Int):bS aB l=l.length:=by
 rw[dK,aM9 (bS bPQ) l (fun _=>rfl)];rfl
section
variable {t:Ty} {e:TypeId} {w:World} {v:Value} {l:List t.D} {bl:List Nat}
end
theorem Only.setCells {bl:List Nat} {w w':World}:{vs:List Value}→{b off:Nat}→Only bl w w'→b∈bl→Only bl w (setCells w' b off vs)
 | [],b,off,h,hb=>h
 | v :: vs,b,off,h,hb=>Only.setCells (vs:=vs) (h.setCell (p:=⟨b,off,none⟩) hb v) hb
theorem fK.only {t:Ty} {lo hi:Nat} {w w':World} {cs:List Value} {d:t.D} {bl:List Nat} (h:fK t lo hi w cs d) (hw:Only bl w w') (hb:∀ b∈bl,b<lo∨hi≤b):fK t lo hi w' cs d :=
 h.keep (fun b h1 h2=>hw.block b (fun hm=>by have:=hb b hm;omega) (by have:=h.hi_le;omega)) hw.size
theorem fK.of_rep {t:Ty} {lo hi:Nat} {w:World} {cs:List Value} {d:t.D} {bl:List Nat} (h:rep t w cs d bl) (hn:bl.Nodup) (hb:∀ b∈bl,lo≤b∧b<hi) (hz:hi≤w.heap.size):fK t lo hi w cs d :=
 ⟨bl,h,hn,hb,hz⟩
theorem Only.cell {bl:List Nat} {w w':World} (h:Only bl w w') {a:Addr} (ha:a.block ∉ bl) (hz:a.block<w.heap.size):w'.cell? a=w.cell? a :=
 World.cell?_of_block (h.block a.block ha hz)
theorem bOT:(t:Ty)→(w:World)→(cs:List Value)→(d:t.D)→(bl:List Nat)→Un t w cs d bl→∀ b∈bl,b<w.heap.size:=by
 intro t
 induction t with
 | int k=>intro w cs d bl h;simp[h.2.2]
 | bool=>intro w cs d bl h;simp[h.2]
 | str=>intro w cs d bl h;simp[h.2.2]
 | slice e t ih =>
  intro w cs d bl h
  rcases h with ⟨p,_,_,rfl⟩|⟨b,off,cap,cur,xs,bl',_,hv,hh,h1,_,h3,h4,hr,rfl⟩
  ·simp
  ·intro q hq
   rw[List.mem_cons] at hq
   rcases hq with rfl|hq
   ·exact (Array.getElem?_eq_some_iff.1 hh).1
   ·clear hh h1 h3 h4 hv
    induction d generalizing xs bl' with
    | nil=>have h2:=hr.2;rw[h2] at hq;simp at hq
    | cons x l ihl =>
     obtain ⟨c,xs',b1,b2,hc,rfl,rfl,h1,hr⟩:=hr
     rw[List.mem_append] at hq
     rcases hq with hq|hq
     ·exact ih w _ _ _ h1 q hq
     ·exact ihl _ _ hr hq
 | bPW a b iha ihb =>
  intro w cs d bl h
  obtain ⟨c1,c2,b1,b2,_,rfl,h1,h2⟩:=h
  intro q hq
  rw[List.mem_append] at hq
  rcases hq with hq|hq
  ·exact iha w c1 d.1 b1 h1 q hq
  ·exact ihb w c2 d.2 b2 h2 q hq
section
variable {t:Ty} {e:TypeId} {w:World} {v:Value} {l:List t.D} {bl:List Nat}
end
theorem fK.own {e:TypeId} {t:Ty} {lo mid:Nat} {w:World} {v:Value} {l:List t.D} (h:fK (.slice e t) lo mid w [v] l):∀ g,v.ownBlock=some g→lo≤g∧g<mid:=by
 obtain ⟨bl,⟨v0,xs,bl',hv,_,_,rfl⟩,_,hin,_⟩:=h
 obtain rfl:v=v0:=by simpa using hv
 exact fun g hg=>hin g (by simp[hg])
theorem fK.slen {e:TypeId} {t:Ty} {lo mid:Nat} {w:World} {p:Option Addr} {len cap:Nat} {l:List t.D} (h:fK (.slice e t) lo mid w [.slice p len cap] l):len=l.length:=(bPL h).lens
section
variable {P:Program}
end
section
variable {P:Program} (w:World)
end
section
variable {P:Program}
end
def Kp (lo hi:Nat) (w w':World):Prop:=(∀ b,lo≤b→b<hi→w'.heap[b]?=w.heap[b]?)∧w.heap.size≤w'.heap.size
theorem Kp.refl (lo hi:Nat) (w:World):Kp lo hi w w:=⟨fun _ _ _=>rfl,Nat.le_refl _⟩
theorem Kp.trans {lo hi:Nat} {a b c:World} (h:Kp lo hi a b) (k:Kp lo hi b c):Kp lo hi a c:=⟨fun q h1 h2=>(k.1 q h1 h2).trans (h.1 q h1 h2),Nat.le_trans h.2 k.2⟩
theorem Kp.drew {lo hi:Nat} {a w:World} (h:Kp lo hi a w):Kp lo hi a w.drew:=h
theorem Kp.alloc {lo hi:Nat} {a w:World} (h:Kp lo hi a w) (hs:hi≤w.heap.size) (o:Obj):Kp lo hi a (w.alloc o) :=
 h.trans ⟨fun b h1 h2=>Below.heap_alloc _ _ _ (by omega),by simp⟩
theorem Kp.setCell {lo hi:Nat} {a w:World} (h:Kp lo hi a w) {p:Addr} (hp:p.block<lo∨hi≤p.block) (v:Value):Kp lo hi a (w.setCell p v) :=
 h.trans ⟨fun b h1 h2=>Below.heap_setCell _ _ _ _ (by omega),by simp[World.setCell]⟩
theorem Kp.below {lo hi B:Nat} {a w w':World} (h:Kp lo hi a w) (hb:Below B w w') (hB:hi≤B):Kp lo hi a w' :=
 h.trans ⟨fun b h1 h2=>hb.block b (by omega),hb.size⟩
theorem Kp.only {lo hi:Nat} {bl:List Nat} {a w w':World} (h:Kp lo hi a w) (hb:Only bl w w') (hB:∀ b∈bl,b<lo∨hi≤b) (hs:hi≤w.heap.size):Kp lo hi a w' :=
 h.trans ⟨fun b h1 h2=>hb.block b (fun hm=>by have:=hB b hm;omega) (by omega),hb.size⟩
theorem fK.kp {t:Ty} {lo hi:Nat} {w w':World} {cs:List Value} {d:t.D} (h:fK t lo hi w cs d) (k:Kp lo hi w w'):fK t lo hi w' cs d:=h.keep k.1 k.2
theorem Only.bel {bl:List Nat} {B:Nat} {w w' w'':World} (h:Only bl w w') (k:Below B w' w'') (hB:w.heap.size≤B):Only bl w w'' :=
 ⟨k.os.trans h.os,k.tape.trans h.tape,k.output.trans h.output,Nat.le_trans h.size k.size,fun q hq hz=>(k.block q (by omega)).trans (h.block q hq hz)⟩
theorem uQ {e:TypeId} {t:Ty} {l1 l2:List t.D} (h:l1.Sublist l2):bS (.slice e t) l1≤bS (.slice e t) l2:=by
 rw[dK,dK]
 induction h with
 | slnil=>simp
 | cons a _ ih=>simp only[List.map_cons,List.sum_cons,List.length_cons];omega
 | cons_cons a _ ih=>simp only[List.map_cons,List.sum_cons,List.length_cons];omega
theorem aE5 {α:Type} (f:α→Nat) (S:Nat):(l:List α)→(∀ x∈l,f x≤S)→(l.map f).sum≤l.length * S
 | [],_=>by simp
 | a :: l,h=>by
  have h1:=h a (by simp)
  have h2:=aE5 f S l (fun x hx=>h x (by simp[hx]))
  simp only[List.map_cons,List.sum_cons,List.length_cons,Nat.add_mul];omega
def FrA (t:Ty) (lo hi:Nat) (w:World) (cs:List Value) (d:t.D):Prop :=
 ∃ bl,Un t w cs d bl∧bl.Nodup∧(∀ b∈bl,lo≤b∧b<hi)∧hi≤w.heap.size
def FrR (t:Ty) (lo hi:Nat) (w:World) (cs:List Value) (d:t.D):Prop :=
 fM (fun b=>lo≤b∧b<hi) t w cs d∧hi≤w.heap.size
theorem bHL {e:TypeId} {t:Ty} {w:World} {p:Option Addr} {len cap:Nat} {l:List t.D} (h:rd (.slice e t) w [.slice p len cap] l):rK t.n (rd t w) w p len cap l:=by
 obtain ⟨p',len',cap',hv,hs⟩:=h
 simp only[List.cons.injEq,Value.slice.injEq,and_true] at hv
 obtain ⟨rfl,rfl,rfl⟩:=hv
 exact hs
section
variable {t:Ty} {lo hi lo' hi':Nat} {w w':World} {cs:List Value} {d:t.D} {bl:List Nat}
theorem FrA.rd (h:FrA t lo hi w cs d):rd t w cs d:=by
 obtain ⟨bl,h,_⟩:=h
 exact fM.rd (fun b hb=>bOT _ _ _ _ _ h b hb) (Un.rdg _ _ _ _ h)
theorem FrA.mono (h:FrA t lo hi w cs d) (h1:lo'≤lo) (h2:hi≤hi') (h3:hi'≤w.heap.size):FrA t lo' hi' w cs d:=by
 obtain ⟨bl,h,hn,hb,hs⟩:=h
 exact ⟨bl,h,hn,fun b hb'=>by have:=hb b hb';omega,h3⟩
theorem FrA.keep (h:FrA t lo hi w cs d) (hw:∀ b,lo≤b→b<hi→w'.heap[b]?=w.heap[b]?) (hs:w.heap.size≤w'.heap.size):FrA t lo hi w' cs d:=by
 obtain ⟨bl,h,hn,hb,hz⟩:=h
 exact ⟨bl,Un.keep _ _ _ _ (fun b hb'=>hw b (hb b hb').1 (hb b hb').2) h,hn,hb,by omega⟩
theorem FrA.hi_le (h:FrA t lo hi w cs d):hi≤w.heap.size:=h.choose_spec.2.2.2
theorem FrA.below {B:Nat} (h:FrA t lo hi w cs d) (hw:Below B w w') (hB:hi≤B):FrA t lo hi w' cs d:=h.keep (fun b _ h2=>hw.block b (by omega)) hw.size
theorem FrA.set1 (h:FrA t lo hi w cs d) {a:Addr} (ha:a.block<lo∨hi≤a.block) (v:Value):FrA t lo hi (w.setCell a v) cs d:=h.keep (fun b h1 h2=>Below.heap_setCell _ _ _ _ (by omega)) (by simp[World.setCell])
theorem FrA.alloc (h:FrA t lo hi w cs d) (o:Obj):FrA t lo hi (w.alloc o) cs d:=h.keep (fun b h1 h2=>Below.heap_alloc _ _ _ (by have:=h.hi_le;omega)) (by simp)
theorem FrA.only (h:FrA t lo hi w cs d) (hw:Only bl w w') (hb:∀ b∈bl,b<lo∨hi≤b):FrA t lo hi w' cs d :=
 h.keep (fun b h1 h2=>hw.block b (fun hm=>by have:=hb b hm;omega) (by have:=h.hi_le;omega)) hw.size
theorem FrA.kp (h:FrA t lo hi w cs d) (k:Kp lo hi w w'):FrA t lo hi w' cs d:=h.keep k.1 k.2
theorem FrA.un (h:FrA t lo hi w cs d):∃ bl,Un t w cs d bl∧bl.Nodup∧(∀ b∈bl,lo≤b∧b<hi):=by
 obtain ⟨bl,h1,h2,h3,_⟩:=h
 exact ⟨bl,h1,h2,h3⟩
theorem fK.toA (h:fK t lo hi w cs d):FrA t lo hi w cs d:=by
 obtain ⟨bl,h,hn,hb,hs⟩:=h
 exact ⟨bl,Un.of_rep _ _ _ _ h,hn,hb,hs⟩
theorem fK.un (h:fK t lo hi w cs d):∃ bl,Un t w cs d bl∧bl.Nodup∧(∀ b∈bl,lo≤b∧b<hi):=h.toA.un
theorem FrR.rd (h:FrR t lo hi w cs d):rd t w cs d:=fM.rd (fun b hb=>by have:=h.2;omega) h.1
theorem FrR.mono (h:FrR t lo hi w cs d) (h1:lo'≤lo) (h2:hi≤hi') (h3:hi'≤w.heap.size):FrR t lo' hi' w cs d:=⟨h.1.mono (fun b hb=>by omega) (fun _ _=>rfl),h3⟩
theorem FrR.keep (h:FrR t lo hi w cs d) (hw:∀ b,lo≤b→b<hi→w'.heap[b]?=w.heap[b]?) (hs:w.heap.size≤w'.heap.size):FrR t lo hi w' cs d :=
 ⟨h.1.mono (fun b hb=>hb) (fun b hb=>hw b hb.1 hb.2),Nat.le_trans h.2 hs⟩
theorem FrR.hi_le (h:FrR t lo hi w cs d):hi≤w.heap.size:=h.2
theorem FrR.below {B:Nat} (h:FrR t lo hi w cs d) (hw:Below B w w') (hB:hi≤B):FrR t lo hi w' cs d:=h.keep (fun b _ h2=>hw.block b (by omega)) hw.size
theorem FrR.set1 (h:FrR t lo hi w cs d) {a:Addr} (ha:a.block<lo∨hi≤a.block) (v:Value):FrR t lo hi (w.setCell a v) cs d:=h.keep (fun b h1 h2=>Below.heap_setCell _ _ _ _ (by omega)) (by simp[World.setCell])
theorem FrR.alloc (h:FrR t lo hi w cs d) (o:Obj):FrR t lo hi (w.alloc o) cs d:=h.keep (fun b h1 h2=>Below.heap_alloc _ _ _ (by have:=h.hi_le;omega)) (by simp)
theorem FrR.only (h:FrR t lo hi w cs d) (hw:Only bl w w') (hb:∀ b∈bl,b<lo∨hi≤b):FrR t lo hi w' cs d :=
 h.keep (fun b h1 h2=>hw.block b (fun hm=>by have:=hb b hm;omega) (by have:=h.hi_le;omega)) hw.size
theorem FrR.kp (h:FrR t lo hi w cs d) (k:Kp lo hi w w'):FrR t lo hi w' cs d:=h.keep k.1 k.2
end
section
variable {e:TypeId} {t:Ty} {lo hi:Nat} {w:World} {p:Option Addr} {len cap:Nat} {l:List t.D}
theorem fK.sl (h:fK (.slice e t) lo hi w [.slice p len cap] l):rK t.n (Go.Proofs.YtpafjioccjpmfaaGreat.rd t w) w p len cap l:=bHL h.rd
theorem FrA.sl (h:FrA (.slice e t) lo hi w [.slice p len cap] l):rK t.n (Go.Proofs.YtpafjioccjpmfaaGreat.rd t w) w p len cap l:=bHL h.rd
theorem FrR.sl (h:FrR (.slice e t) lo hi w [.slice p len cap] l):rK t.n (Go.Proofs.YtpafjioccjpmfaaGreat.rd t w) w p len cap l:=bHL h.rd
end
def aFQ:Ty→List Nat→Bool
 | .slice _ _,2 :: _=>true
 | .slice _ _,1 :: _=>true
 | .slice _ _,_=>false
 | .bPW a b,fl=>aFQ a fl&&aFQ b (pC a fl)
 | _,_=>true
section
variable {G G':Nat→Prop} {w w':World}
theorem mvR.rdg (hG:∀ b,G b→G' b):{t:Ty}→{fl:List Nat}→{cs:List Value}→{d:t.D}→{ob ub:List Nat}→mvR G w t fl cs d ob ub→(∀ b∈ob,G' b)→fM G' t w cs d:=by
 intro t
 induction t with
 | bPW x y ihx ihy =>
  intro fl cs d ob ub h hb
  obtain ⟨c1,c2,o1,o2,u1,u2,rfl,rfl,rfl,h1,h2⟩:=h
  exact ⟨c1,c2,rfl,ihx h1 fun b h=>hb b (by simp[h]),ihy h2 fun b h=>hb b (by simp[h])⟩
 | slice e t ih =>
  intro fl cs d ob ub h hb
  rcases fl with _|⟨_|_|_|_|f,fl⟩
  ·exact h.2.2.mono hG (fun _ _=>rfl)
  ·exact h.2.2.mono hG (fun _ _=>rfl)
  ·exact h.2.2.mono hG (fun _ _=>rfl)
  ·obtain ⟨v,rfl,_,h1,h2,rfl⟩:=h
   refine h1.rd hG fun b n c h0 hv=>hb b ?_
   subst hv
   simp only[eI]
   rw[if_neg (by omega)]
   simp
  ·obtain ⟨v,rfl,_,h1,_,rfl⟩:=h
   refine h1.rd hG fun b n c h0 hv=>hb b ?_
   subst hv
   simp only[eI]
   rw[if_neg (by omega)]
   simp
  ·exact h.2.2.mono hG (fun _ _=>rfl)
 | int k=>intro fl cs d ob ub h hb;cases fl <;> exact h.2.2.mono hG (fun _ _=>rfl)
 | bool=>intro fl cs d ob ub h hb;cases fl <;> exact h.2.2.mono hG (fun _ _=>rfl)
 | str=>intro fl cs d ob ub h hb;cases fl <;> exact h.2.2.mono hG (fun _ _=>rfl)
theorem mvR.un : {t : Ty} → {fl : List Nat} → {cs : List Value} → {d : t.D} → {ob ub : List Nat} → aFQ t fl = true → mvR G w t fl cs d ob ub → ∃ bl, Un t w cs d bl ∧ bl.Perm (ob ++ ub) := by
  intro t
  induction t with
  | bPW x y ihx ihy =>
    intro fl cs d ob ub hf h
    simp only [aFQ, Bool.and_eq_true] at hf
    obtain ⟨c1, c2, o1, o2, u1, u2, rfl, rfl, rfl, h1, h2⟩ := h
    obtain ⟨b1, p1, q1⟩ := ihx hf.1 h1
    obtain ⟨b2, p2, q2⟩ := ihy hf.2 h2
    refine ⟨b1 ++ b2, ⟨c1, c2, b1, b2, rfl, rfl, p1, p2⟩, (q1.append q2).trans ?_⟩
    rw [List.append_assoc, List.append_assoc]
    refine List.Perm.append_left o1 ?_
    rw [← List.append_assoc, ← List.append_assoc]
    exact List.perm_append_comm.append_right u2
  | slice e t ih =>
    intro fl cs d ob ub hf h
    rcases fl with _ | ⟨_ | _ | _ | f, fl⟩
    · cases hf
    · cases hf
    · obtain ⟨rfl, h1, _⟩ := h
      exact ⟨ub, h1, by simp⟩
    · obtain ⟨v, rfl, _, h1, h2, rfl⟩ := h
      rcases h1 with ⟨p, rfl, rfl⟩ | ⟨b, cap, cur, rfl, h0, hh, k1, k2, k3, k4⟩
      · rcases h2 with ⟨p', _, rfl⟩ | ⟨b, n, cap, cur, hv, h0, _⟩
        · exact ⟨[], .inl ⟨p, rfl, rfl, rfl⟩, by cases p <;> simp [eI]⟩
        · simp only [Value.slice.injEq] at hv; omega
      · rcases h2 with ⟨p', hv, rfl⟩ | ⟨b', n, cap', cur', hv, _, hh', hr⟩
        · simp only [Value.slice.injEq] at hv; omega
        · simp only [Value.slice.injEq, cX, Addr.mk.injEq, and_true] at hv
          obtain ⟨rfl, rfl, rfl⟩ := hv
          rw [hh] at hh'
          simp only [cX, Obj.cells.injEq, true_and, and_true] at hh'
          subst hh'
          refine ⟨b :: ub, .inr ⟨b, 0, cap, cur, _, ub, rfl, rfl, hh, k1, k2, ?_, by rw [List.drop_zero], hr, rfl⟩, ?_⟩
          · rw [Nat.zero_add, k3]; exact Nat.mul_le_mul_right _ k1
          · simp only [eI]
            rw [if_neg (by omega)]
            exact .refl _
    · cases hf
  | int k => intro fl cs d ob ub hf h; obtain ⟨rfl, rfl, h'⟩ : ob = [] ∧ ub = [] ∧ fM G (.int k) w cs d := by cases fl <;> exact h
             exact ⟨[], ⟨h'.1, h'.2, rfl⟩, .refl _⟩
  | bool => intro fl cs d ob ub hf h; obtain ⟨rfl, rfl, h'⟩ : ob = [] ∧ ub = [] ∧ fM G .bool w cs d := by cases fl <;> exact h
            exact ⟨[], ⟨h', rfl⟩, .refl _⟩
  | str => intro fl cs d ob ub hf h; obtain ⟨rfl, rfl, h'⟩ : ob = [] ∧ ub = [] ∧ fM G .str w cs d := by cases fl <;> exact h
           exact ⟨[], ⟨h'.1, h'.2, rfl⟩, .refl _⟩
end
def mH (w:World):List AM→List Value→List SV→Prop
 | [],vs,ds=>vs=[]∧ds=[]
 | .val m :: ms,vs,ds=>∃ v vs' d ds',vs=v :: vs'∧ds=d :: ds'∧(m.fl.any (· != 0))=false∧v=zL m.ag v.cells.toList∧rd m.t w v.cells.toList (d.as m.t)∧mH w ms vs' ds'
 | .box _ _ :: _,_,_=>False
theorem mH.ams {w:World} {G:Nat→Prop} (hG:∀ b,b<w.heap.size→G b):{ms:List AM}→{vs:List Value}→{ds:List SV}→mH w ms vs ds→wT G w ms vs ds [] []∧mX ms vs=[]∧oA ms=[]
 | [],_,_,⟨h1,h2⟩=>⟨⟨h1,rfl,rfl⟩,rfl,rfl⟩
 | .val m :: ms,_,_,⟨v,vs',d,ds',rfl,rfl,hf,hv,hr,h⟩=>by
  obtain ⟨i1,i2,i3⟩:=mH.ams hG h
  exact ⟨⟨v,vs',d,ds',[],[],[],[],rfl,rfl,rfl,rfl,hv,aRJ hf ((fM.of_rd hr).mono hG (fun _ _=>rfl)),i1⟩,i2,i3⟩
 | .box _ _ :: _,_,_,h=>h.elim
def bCH (m:MV) (w:World) (R:m.t.D) (e:Ending) (w':World):Prop :=
 ∃ r:Value,e = .returned r∧r=zL m.ag r.cells.toList∧FrR m.t w.heap.size w'.heap.size w' r.cells.toList R∧(aFQ m.t m.fl=true→FrA m.t w.heap.size w'.heap.size w' r.cells.toList R)∧Below w.heap.size w w'
def bN7 (t:Ty) (w:World) (d:t.D) (r:Ending) (w':World):Prop:=∃ cs:Array Value,r = .returned (.agg cs)∧FrA t w.heap.size w'.heap.size w' cs.toList d∧Below w.heap.size w w'
def bN0 (t:Ty) (w:World) (d:t.D) (r:Ending) (w':World):Prop:=∃ cs:Array Value,r = .returned (.agg cs)∧FrR t w.heap.size w'.heap.size w' cs.toList d∧Below w.heap.size w w'
theorem bCH.agA {m:MV} (hm:m.ag=true) (hf:aFQ m.t m.fl=true) {w w':World} {R:m.t.D} {e:Ending} (h:bCH m w R e w'):bN7 m.t w R e w':=by
 obtain ⟨r,h1,h2,h3,h4,h5⟩:=h
 rw[hm] at h2
 exact ⟨r.cells,by rw[h1];exact congrArg _ (h2.trans (by simp[zL])),h4 hf,h5⟩
theorem bCH.agR {m:MV} (hm:m.ag=true) {w w':World} {R:m.t.D} {e:Ending} (h:bCH m w R e w'):bN0 m.t w R e w':=by
 obtain ⟨r,h1,h2,h3,h4,h5⟩:=h
 rw[hm] at h2
 exact ⟨r.cells,by rw[h1];exact congrArg _ (h2.trans (by simp[zL])),h3,h5⟩
def aIS (w w':World) (m:MV) (r:Value) (R:m.t.D) (bl:List Nat):Prop :=
 r=zL m.ag r.cells.toList∧FrR m.t w.heap.size w'.heap.size w' r.cells.toList R∧(aFQ m.t m.fl=true→Un m.t w' r.cells.toList R bl)
def aIB (w w':World):List MV→List Value→List SV→List Nat→Prop
 | [],rs,_,bl=>rs=[]∧bl=[]
 | m :: ms,rs,d :: ds,bl=>∃ r rs' b1 b2,rs=r :: rs'∧bl=b1++b2∧aIS w w' m r (d.as m.t) b1∧aIB w w' ms rs' ds b2
 | _ :: _,_,[],_=>False
def bOK (ms:List MV) (w:World) (ds:List SV) (e:Ending) (w':World):Prop :=
 ∃ rs bl,e = .returned (aY0 rs)∧aIB w w' ms rs ds bl∧bl.Nodup∧(∀ b∈bl,w.heap.size≤b∧b<w'.heap.size)∧Below w.heap.size w w'
theorem aPG:(ts:List Ty)→(d:(cL ts).D)→(dE ts d).length=ts.length
 | [],_=>rfl
 | [_],_=>rfl
 | _ :: u :: ts,d=>congrArg (· + 1) (aPG (u :: ts) d.2)
theorem wT.outs {G:Nat→Prop} {w w':World} (hG:∀ b,G b→w.heap.size≤b∧b<w'.heap.size):{ms:List MV}→{rs:List Value}→{ds:List SV}→{ob ub:List Nat}→wT G w' (ms.map .val) rs ds ob ub →
  (∀ b∈ob,w.heap.size≤b∧b<w'.heap.size)→∃ bl,aIB w w' ms rs ds bl∧bl.Perm (ob++ub)
 | [],rs,ds,ob,ub,h,hb=>by
  obtain ⟨rfl,rfl,rfl⟩:=h
  exact ⟨[],⟨rfl,rfl⟩,.refl _⟩
 | m :: ms,rs,ds,ob,ub,h,hb=>by
  obtain ⟨v,vs',d,ds',o1,o2,u1,u2,rfl,rfl,rfl,rfl,h1,h2,h3⟩:=h
  obtain ⟨b2,q1,q2⟩:=wT.outs hG h3 (fun b hb'=>hb b (List.mem_append.2 (.inr hb')))
  have hr:FrR m.t w.heap.size w'.heap.size w' v.cells.toList (d.as m.t):=⟨h2.rdg hG (fun b hb'=>hb b (List.mem_append.2 (.inl hb'))),Nat.le_refl _⟩
  have hp:∀ {b1:List Nat},b1.Perm (o1++u1)→(b1++b2).Perm (o1++o2++(u1++u2)):=fun h=>by
   refine (h.append q2).trans ?_
   rw[List.append_assoc,List.append_assoc]
   refine List.Perm.append_left o1 ?_
   rw[← List.append_assoc,← List.append_assoc]
   exact List.perm_append_comm.append_right u2
  cases hf:aFQ m.t m.fl with
  | false=>exact ⟨_,⟨v,vs',o1++u1,b2,rfl,rfl,⟨h1,hr,fun h=>by rw[hf] at h;cases h⟩,q1⟩,hp (.refl _)⟩
  | true =>
   obtain ⟨b1,p1,p2⟩:=h2.un hf
   exact ⟨_,⟨v,vs',b1,b2,rfl,rfl,⟨h1,hr,fun _=>p1⟩,q1⟩,hp p2⟩
theorem Con.Holds.givesL {P:Program} {C:Con} (h:Con.Holds P C) (hal:C.alias=false) {x:C.argTy.D} (hp:C.pre x) (hx:okD C.argTy x) {w:World} {vs:List Value} (ha:mH w C.ams vs (dE (C.ams.map (·.mv.t)) (SV.as _ ⟨C.argTy,x⟩))) (hbx:C.bx=none:=by rfl) (ht:aUF.p w:=by exact aKO _) :
  Calls P C.f vs.toArray w (bOK C.rms w (dE (C.rms.map (·.t)) (SV.as _ ⟨C.resTy,C.fn x⟩))):=by
 let X:Cx:=⟨fun _=>False,[],[],w,fun _ h=>h.elim,⟨ht,by simp⟩⟩
 obtain ⟨a1,a2,a3⟩:=ha.ams (G:=Gd X [] w false) fun b hb=>⟨hb,by simp,fun h=>h,fun h=>by cases h⟩
 refine Calls.mono' (h.run X vs x [] [] hp hx rfl rfl (by simp) (fun b hb=>by simp at hb) a1) fun e w' ⟨v,he,hg⟩=>?_
 obtain ⟨rs,o1,u1,o2,u2,hv,hf,g1,g2,g3,g4,g5⟩:=hg
 rw[a2] at g2
 rw[Con.ras_none hbx] at g1
 obtain ⟨rfl,rfl⟩:=g2
 have hq:∀ bs:List MV,bs=[]→List.take C.rms.length (dE (List.map (fun x=>x.t) (C.rms++bs)) (SV.as (cL (List.map (fun x=>x.t) (C.rms++bs))) ⟨C.resTy,C.fn x⟩))=dE (C.rms.map (·.t)) (SV.as _ ⟨C.resTy,C.fn x⟩):=fun bs h=>by
  subst h
  rw[List.append_nil]
  exact List.take_of_length_le (by rw[aPG];simp)
 rw[hq _ a3] at g1
 simp only[List.append_nil] at g1 g3 g4 g5
 rw[hal] at g1
 have hB:∀ b,Gd X o1 w' (!false) b→w.heap.size≤b∧b<w'.heap.size:=fun b hb=>by
  have:=hb.2.2.2 rfl
  simp only[Cx.F0,X,List.append_nil,List.not_mem_nil,or_false] at this
  exact ⟨this,hb.1⟩
 have hO:∀ b∈o1,w.heap.size≤b∧b<w'.heap.size:=fun b hb=>by
  obtain ⟨h1,h2,h3⟩:=g4 b hb
  simp only[X,List.not_mem_nil,or_false] at h2
  exact ⟨h2,h1⟩
 obtain ⟨bl,q1,q2⟩:=g1.outs hB hO
 refine ⟨rs,bl,by rw[he,hv],q1,q2.nodup_iff.2 g3,fun b hb=>?_,⟨hf.os,hf.tape,hf.output,hf.size,fun k hk=>hf.block k hk (by simp[X])⟩⟩
 have:=q2.mem_iff.1 hb
 rw[List.mem_append] at this
 rcases this with h1|h1
 ·exact hO b h1
 ·have hg:=g5 b h1
  have h2:=hg.2.2.2 rfl
  simp only[Cx.F0,X,List.append_nil,List.not_mem_nil,or_false] at h2
  exact ⟨h2,hg.1⟩
section
variable {w w':World} {r:Value} {bl:List Nat} {fl:List Nat}
theorem aIS.int {k:IntKind} {R:Int} (h:aIS w w' ⟨false,.int k,fl⟩ r R bl):r = .int k R:=by
 have h1:=h.1
 rw[h.2.1.1.1] at h1
 exact h1
theorem aIS.bool {R:Bool} (h:aIS w w' ⟨false,.bool,fl⟩ r R bl):r = .bool R:=by
 have h1:=h.1
 rw[show r.cells.toList=[.bool R] from h.2.1.1] at h1
 exact h1
theorem aIS.str {R:ByteArray} (h:aIS w w' ⟨false,.str,fl⟩ r R bl):r = .string R:=by
 have h1:=h.1
 rw[h.2.1.1.1] at h1
 exact h1
theorem aIS.agR {t:Ty} {R:t.D} (h:aIS w w' ⟨true,t,fl⟩ r R bl):r = .agg r.cells∧FrR t w.heap.size w'.heap.size w' r.cells.toList R:=⟨h.1.trans (by simp[zL]),h.2.1⟩
theorem aIS.agA {t:Ty} {R:t.D} (h:aIS w w' ⟨true,t,fl⟩ r R bl) (hf:aFQ t fl=true) (hn:bl.Nodup) (hb:∀ b∈bl,w.heap.size≤b∧b<w'.heap.size):r = .agg r.cells∧FrA t w.heap.size w'.heap.size w' r.cells.toList R :=
 ⟨h.1.trans (by simp[zL]),bl,h.2.2 hf,hn,hb,Nat.le_refl _⟩
end
theorem mH.cons {w:World} {m:MV} {ms:List AM} {vs:List Value} {ds:List SV} {v:Value} {y:m.t.D} (hf:(m.fl.any (· != 0))=false) (hv:v=zL m.ag v.cells.toList) (hr:rd m.t w v.cells.toList y) (hn:mH w ms vs ds) :
 mH w (.val m :: ms) (v :: vs) (⟨m.t,y⟩ :: ds):=⟨v,vs,⟨m.t,y⟩,ds,rfl,rfl,hf,hv,by rw[SV.as_self];exact hr,hn⟩
theorem mH.nil {w:World}:mH w [] [] []:=⟨rfl,rfl⟩
theorem aIB.inv {w w':World} {m:MV} {ms:List MV} {rs:List Value} {y:m.t.D} {ds:List SV} {bl:List Nat} (h:aIB w w' (m :: ms) rs (⟨m.t,y⟩ :: ds) bl) :
  ∃ r rs' b1 b2,rs=r :: rs'∧bl=b1++b2∧aIS w w' m r y b1∧aIB w w' ms rs' ds b2:=by
 obtain ⟨r,rs',b1,b2,h1,h2,h3,h4⟩:=h
 rw[SV.as_self] at h3
 exact ⟨r,rs',b1,b2,h1,h2,h3,h4⟩
def bE5:(t:Ty)→t.D→Prop
 | .slice _ t,l=>List.length l≤1000000000∧∀ x∈(l:List t.D),bE5 t x
 | .bPW a b,x=>bE5 a x.1∧bE5 b x.2
 | .int _,_=>True
 | .bool,_=>True
 | .str,_=>True
theorem rN {e:TypeId} {t:Ty} {l:List t.D} {x:t.D} (h:x∈l):bS t x≤bS (.slice e t) l:=by
 obtain ⟨k,hk,rfl⟩:=List.mem_iff_getElem.1 h
 rw[dK]
 have:=aX9 (bS t) l k hk
 omega
theorem pN {e:TypeId} {t:Ty} (l:List t.D):List.length l≤bS (.slice e t) l:=by rw[dK];omega
theorem rK.toRd {e:TypeId} {t:Ty} {w:World} {p:Option Addr} {len cap:Nat} {l:List t.D} (h:rK t.n (rd t w) w p len cap l):rd (.slice e t) w [.slice p len cap] l:=⟨p,len,cap,rfl,h⟩
theorem bKJ:(t:Ty)→(fl:List Nat)→(fl.any (· != 0))=false→((pC t fl).any (· != 0))=false:=by
 intro t
 induction t with
 | bPW x y ihx ihy=>intro fl h;exact ihy _ (ihx _ h)
 | _=>intro fl h;cases fl with
  | nil=>rfl
  | cons f fl=>simp only[List.any_cons,Bool.or_eq_false_iff] at h;exact h.2
section
variable {G:Nat→Prop} {w:World}
theorem aZ5:{t:Ty}→{fl:List Nat}→{cs:List Value}→{d:t.D}→{ob ub:List Nat}→(fl.any (· != 0))=false→mvR G w t fl cs d ob ub→ob=[]∧ub=[]∧fM G t w cs d:=by
 intro t
 induction t with
 | bPW x y ihx ihy =>
  intro fl cs d ob ub hf h
  obtain ⟨c1,c2,o1,o2,u1,u2,rfl,rfl,rfl,h1,h2⟩:=h
  obtain ⟨rfl,rfl,r1⟩:=ihx hf h1
  obtain ⟨rfl,rfl,r2⟩:=ihy (bKJ x fl hf) h2
  exact ⟨rfl,rfl,c1,c2,rfl,r1,r2⟩
 | slice e t ih =>
  intro fl cs d ob ub hf h
  rcases fl with _|⟨_|_|_|_|f,fl⟩
  ·exact h
  ·exact h
  ·simp at hf
  ·simp at hf
  ·simp at hf
  ·exact h
 | int k=>intro fl cs d ob ub hf h;cases fl <;> exact h
 | bool=>intro fl cs d ob ub hf h;cases fl <;> exact h
 | str=>intro fl cs d ob ub hf h;cases fl <;> exact h
end
inductive Out where
 | ret (v:SV)
 | ag (d:Nat) (v:SV)
def Out.pop:Out→Option Out
 | .ret v=>some (.ret v)
 | .ag (d+1) v=>some (.ag d v)
 | .ag 0 _=>none
def aIK {α:Type} (as':SV→α) (R:α→Out→Prop):Nat→α→Out→Prop
 | 0,x,o=>∃ o',R x o'∧o'.pop=some o
 | n+1,x,o=>∃ v,R x (.ag 0 v)∧aIK as' R n (as' v) o
def T.out (Cs:List Con):T→List SV→Out→Prop
 | .bPX p a k,env,o=>k.out Cs (env++[⟨p.oty,p.fn ((a.val env).as p.ity)⟩]) o
 | .call c a k,env,o=>match Cs[c]? with
  | some C=>k.out Cs (env++[⟨C.resTy,C.fn ((a.val env).as C.argTy)⟩]) o
  | none=>False
 | .ite a x y,env,o=>((a.val env).as .bool=true∧x.out Cs env o)∨((a.val env).as .bool=false∧y.out Cs env o)
 | .loop t a b,env,o=>∃ n,aIK (fun v:SV=>v.as t) (fun x o=>b.out Cs (env++[⟨t,x⟩]) o) n ((a.val env).as t) o
 | .bPZ d a,env,o=>o = .ag d (a.val env)
 | .ret a,env,o=>o = .ret (a.val env)
theorem aPY {α:Type} {as':SV→α} {R:α→Out→Prop} (hR:∀ x o1 o2,R x o1→R x o2→o1=o2):(n m:Nat)→{x:α}→{o1 o2:Out}→aIK as' R n x o1→aIK as' R m x o2→o1=o2
 | 0,0,x,o1,o2,⟨p,h1,h2⟩,⟨q,k1,k2⟩=>by
  have:=hR _ _ _ h1 k1
  subst this
  rw[h2] at k2
  exact Option.some.inj k2
 | 0,m+1,x,o1,o2,⟨p,h1,h2⟩,⟨v,k1,k2⟩=>by
  have:=hR _ _ _ h1 k1
  subst this
  cases h2
 | n+1,0,x,o1,o2,⟨v,k1,k2⟩,⟨p,h1,h2⟩=>by
  have:=hR _ _ _ h1 k1
  subst this
  cases h2
 | n+1,m+1,x,o1,o2,⟨v,h1,h2⟩,⟨u,k1,k2⟩=>by
  have:=hR _ _ _ h1 k1
  simp only[Out.ag.injEq,true_and] at this
  subst this
  exact aPY hR n m h2 k2
theorem T.out_det (Cs:List Con):(t:T)→{env:List SV}→{o1 o2:Out}→t.out Cs env o1→t.out Cs env o2→o1=o2
 | .bPX p a k,env,o1,o2,h1,h2=>T.out_det Cs k h1 h2
 | .call c a k,env,o1,o2,h1,h2=>by
  simp only[T.out] at h1 h2
  split at h1
  ·exact T.out_det Cs k h1 (by rename_i C hc;rw[hc] at h2;exact h2)
  ·exact h1.elim
 | .ite a x y,env,o1,o2,h1,h2=>by
  rcases h1 with ⟨a1,h1⟩|⟨a1,h1⟩ <;> rcases h2 with ⟨a2,h2⟩|⟨a2,h2⟩
  ·exact T.out_det Cs x h1 h2
  ·rw[a1] at a2;cases a2
  ·rw[a1] at a2;cases a2
  ·exact T.out_det Cs y h1 h2
 | .loop t a b,env,o1,o2,⟨n,h1⟩,⟨m,h2⟩=>aPY (as':=fun v:SV=>v.as t) (R:=fun x o=>b.out Cs (env++[⟨t,x⟩]) o) (fun x o1 o2 k1 k2=>T.out_det Cs b k1 k2) n m h1 h2
 | .bPZ d a,env,o1,o2,h1,h2=>h1.trans h2.symm
 | .ret a,env,o1,o2,h1,h2=>h1.trans h2.symm
def Out.sat (L:List (SV→Prop)) (Q:SV→Prop):Out→Prop
 | .ret v=>Q v
 | .ag d v=>∃ I,L[d]?=some I∧I v
theorem T.out_of (Cs:List Con) (hC:∀ (c:Nat) (C:Con),Cs[c]?=some C→∀ x:C.argTy.D,C.pre x→okD C.argTy x→okD C.resTy (C.fn x)):(t:T)→t.okB=true→∀ {env:List SV} {L:List (SV→Prop)} {Q:SV→Prop},(∀ v∈env,v.okv)→t.wp Cs env L Q →
  ∃ o,t.out Cs env o∧o.sat L Q∧(∀ v,o = .ret v→v.okv)∧(∀ d v,o = .ag d v→v.okv)
 | .bPX p a k,hb,env,L,Q,he,h=>by
  simp only[T.okB,Bool.and_eq_true] at hb
  have ho:=aN7 p hb.1.2 _ (lC (Ar.okv he a hb.1.1)) h.1
  refine T.out_of Cs hC k hb.2 (fun v hv=>?_) (h.2 ho)
  rw[List.mem_append,List.mem_singleton] at hv
  rcases hv with hv|rfl
  ·exact he v hv
  ·exact ho
 | .call c a k,hb,env,L,Q,he,h=>by
  simp only[T.okB,Bool.and_eq_true] at hb
  simp only[T.wp] at h
  simp only[T.out]
  split at h
  ·rename_i C hc
   have ho:=hC c C hc _ h.1 (lC (Ar.okv he a hb.1))
   obtain ⟨o,h1,h2⟩:=T.out_of Cs hC k hb.2 (fun v hv=>by
    rw[List.mem_append,List.mem_singleton] at hv
    rcases hv with hv|rfl
    ·exact he v hv
    ·exact ho) (h.2 ho)
   exact ⟨o,by rw[hc];exact h1,h2⟩
  ·exact h.elim
 | .ite a x y,hb,env,L,Q,he,h=>by
  simp only[T.okB,Bool.and_eq_true] at hb
  cases hv:(a.val env).as .bool with
  | true =>
   obtain ⟨o,h1,h2⟩:=T.out_of Cs hC x hb.1 he (h.1 hv)
   exact ⟨o,.inl ⟨hv,h1⟩,h2⟩
  | false =>
   obtain ⟨o,h1,h2⟩:=T.out_of Cs hC y hb.2 he (h.2 hv)
   exact ⟨o,.inr ⟨hv,h1⟩,h2⟩
 | .loop t a b,hb,env,L,Q,he,h=>by
  simp only[T.okB,Bool.and_eq_true] at hb
  obtain ⟨I,μ,hI,hbody⟩:=h
  have key:∀ (m:Nat) (x:t.D),μ x=m→okD t x→I x→∃ o,(∃ n,aIK (fun v:SV=>v.as t) (fun x o=>b.out Cs (env++[⟨t,x⟩]) o) n x o)∧o.sat L Q∧(∀ v,o = .ret v→v.okv)∧(∀ d v,o = .ag d v→v.okv):=by
   intro m
   induction m using Nat.strongRecOn with
   | _ m ih =>
    intro x hm hx hIx
    obtain ⟨o,h1,h2,h3,h4⟩:=T.out_of Cs hC b hb.2 (env:=env++[⟨t,x⟩]) (fun v hv=>by
     rw[List.mem_append,List.mem_singleton] at hv
     rcases hv with hv|rfl
     ·exact he v hv
     ·exact hx) (hbody x hx hIx)
    cases o with
    | ret v=>exact ⟨.ret v,⟨0,_,h1,rfl⟩,h2,h3,fun d u hu=>(by cases hu)⟩
    | ag d v =>
     cases d with
     | zero =>
      obtain ⟨J,e,hJ⟩:=h2
      simp only[List.getElem?_cons_zero,cX] at e
      subst e
      obtain ⟨o,⟨n,k1⟩,k2⟩:=ih _ (by rw[← hm];exact hJ.2) _ rfl (lC (h4 _ _ rfl)) hJ.1
      exact ⟨o,⟨n+1,v,h1,k1⟩,k2⟩
     | succ d =>
      obtain ⟨J,e,hJ⟩:=h2
      refine ⟨.ag d v,⟨0,_,h1,rfl⟩,⟨J,by simpa using e,hJ⟩,fun u hu=>(by cases hu),fun d' u hu=>?_⟩
      cases hu
      exact h4 _ _ rfl
  exact key _ _ rfl (lC (Ar.okv he a hb.1)) hI
 | .bPZ d a,hb,env,L,Q,he,h=>by
  simp only[T.wp] at h
  split at h
  ·rename_i I hI
   refine ⟨.ag d (a.val env),rfl,⟨I,hI,h⟩,fun v hv=>(by cases hv),fun d' v hv=>?_⟩
   cases hv
   exact Ar.okv he a hb
  ·exact h.elim
 | .ret a,hb,env,L,Q,he,h=>⟨.ret (a.val env),rfl,h,fun v hv=>(by cases hv;exact Ar.okv he a hb),fun d v hv=>(by cases hv)⟩
theorem T.wp_out (Cs:List Con) (hC:∀ (c:Nat) (C:Con),Cs[c]?=some C→∀ x:C.argTy.D,C.pre x→okD C.argTy x→okD C.resTy (C.fn x)):(t:T)→t.okB=true→∀ {env:List SV} {L L':List (SV→Prop)} {Q Q':SV→Prop} {o:Out},(∀ v∈env,v.okv)→t.wp Cs env L Q→t.out Cs env o→o.sat L' Q'→t.wp Cs env L' Q'
 | .bPX p a k,hb,env,L,L',Q,Q',o,he,h,ho,hs=>by
  simp only[T.okB,Bool.and_eq_true] at hb
  refine ⟨h.1,fun hk=>T.wp_out Cs hC k hb.2 (fun v hv=>?_) (h.2 hk) ho hs⟩
  rw[List.mem_append,List.mem_singleton] at hv
  rcases hv with hv|rfl
  ·exact he v hv
  ·exact hk
 | .call c a k,hb,env,L,L',Q,Q',o,he,h,ho,hs=>by
  simp only[T.okB,Bool.and_eq_true] at hb
  simp only[T.wp,T.out] at h ho ⊢
  split at h
  ·rename_i C hc
   try rw[hc] at ho
   try rw[hc]
   refine ⟨h.1,fun hk=>T.wp_out Cs hC k hb.2 (fun v hv=>?_) (h.2 hk) ho hs⟩
   rw[List.mem_append,List.mem_singleton] at hv
   rcases hv with hv|rfl
   ·exact he v hv
   ·exact hk
  ·exact h.elim
 | .ite a x y,hb,env,L,L',Q,Q',o,he,h,ho,hs=>by
  simp only[T.okB,Bool.and_eq_true] at hb
  rcases ho with ⟨a1,ho⟩|⟨a1,ho⟩
  ·exact ⟨fun hv=>T.wp_out Cs hC x hb.1 he (h.1 hv) ho hs,fun hv=>(by rw[a1] at hv;cases hv)⟩
  ·exact ⟨fun hv=>(by rw[a1] at hv;cases hv),fun hv=>T.wp_out Cs hC y hb.2 he (h.2 hv) ho hs⟩
 | .loop t a b,hb,env,L,L',Q,Q',o,he,h,⟨n,ho⟩,hs=>by
  simp only[T.okB,Bool.and_eq_true] at hb
  obtain ⟨I,μ,hI,hbody⟩:=h
  refine ⟨fun x=>I x∧∃ n,aIK (fun v:SV=>v.as t) (fun x o=>b.out Cs (env++[⟨t,x⟩]) o) n x o,μ,⟨hI,n,ho⟩,fun x hx ⟨hIx,n,hch⟩=>?_⟩
  have hex:∀ v∈env++[⟨t,x⟩],v.okv:=fun v hv=>by
   rw[List.mem_append,List.mem_singleton] at hv
   rcases hv with hv|rfl
   ·exact he v hv
   ·exact hx
  cases n with
  | zero =>
   obtain ⟨o',h1,h2⟩:=hch
   refine T.wp_out Cs hC b hb.2 hex (hbody x hx hIx) h1 ?_
   cases o' with
   | ret v=>simp only[Out.pop,cX] at h2;subst h2;exact hs
   | ag d v =>
    cases d with
    | zero=>cases h2
    | succ d =>
     simp only[Out.pop,cX] at h2
     subst h2
     obtain ⟨J,e,hJ⟩:=hs
     exact ⟨J,by simpa using e,hJ⟩
  | succ n =>
   obtain ⟨v,h1,h2⟩:=hch
   refine T.wp_out Cs hC b hb.2 hex (hbody x hx hIx) h1 ?_
   obtain ⟨o',k1,k2,_⟩:=T.out_of Cs hC b hb.2 hex (hbody x hx hIx)
   have:=T.out_det Cs b h1 k1
   subst this
   obtain ⟨J,e,hJ⟩:=k2
   simp only[List.getElem?_cons_zero,cX] at e
   subst e
   exact ⟨_,rfl,⟨hJ.1,n,h2⟩,hJ.2⟩
 | .bPZ d a,hb,env,L,L',Q,Q',o,he,h,ho,hs=>by
  subst ho
  obtain ⟨J,e,hJ⟩:=hs
  simp only[T.wp,e]
  exact hJ
 | .ret a,hb,env,L,L',Q,Q',o,he,h,ho,hs=>by
  subst ho
  exact hs
section
variable {P:Program} {Cs:List Con} {wr:Bool}
theorem bJ0 {C:Con} {fuel:Nat} {orc:Orc} {T':T} (h:bW P Cs C wr fuel orc = .ok T'):T'.okB=true:=by
 unfold bW at h
 simp only at h
 split at h
 ·split at h
  ·split at h
   ·split at h
    ·split at h
     ·rename_i hok
      simp only[Except.ok.injEq] at h
      subst h
      exact hok
     ·cases h
    ·cases h
   ·cases h
  ·cases h
 ·cases h
theorem iX (hm:P.follows .mixedOrders=true) {C:Con} {fuel:Nat} {orc:Orc} {T':T} (hC:∀ (c:Nat) (C:Con),Cs[c]?=some C→Con.Holds P C) (h:∀ f:C.argTy.D→C.resTy.D,bW P Cs { C with fn:=f } wr fuel orc = .ok T') (post:C.argTy.D→C.resTy.D→Prop)
  (hw:∀ x:C.argTy.D,okD C.argTy x→C.pre x→T'.wp Cs [⟨C.argTy,x⟩] [] fun v=>post x (v.as C.resTy)) :
  ∃ f:C.argTy.D→C.resTy.D,(∀ x,okD C.argTy x→C.pre x→post x (f x))∧Con.Holds P { C with fn:=f }:=by
 have hok:=bJ0 (h C.fn)
 have hC2:∀ (c:Nat) (C:Con),Cs[c]?=some C→∀ x:C.argTy.D,C.pre x→okD C.argTy x→okD C.resTy (C.fn x):=fun c C hc=>(hC c C hc).ok
 have hex:∀ x:C.argTy.D,∃ y:C.resTy.D,okD C.argTy x→C.pre x→post x y∧T'.wp Cs [⟨C.argTy,x⟩] [] fun v=>v.as C.resTy=y:=fun x=>by
  by_cases hx:okD C.argTy x∧C.pre x
  ·have hev:∀ v∈([⟨C.argTy,x⟩]:List SV),v.okv:=fun v hv=>by
    rw[List.mem_singleton] at hv
    subst hv;exact hx.1
   obtain ⟨o,h1,h2,_⟩:=T.out_of Cs hC2 T' hok hev (hw x hx.1 hx.2)
   cases o with
   | ret v=>exact ⟨v.as C.resTy,fun _ _=>⟨h2,T.wp_out Cs hC2 T' hok hev (hw x hx.1 hx.2) h1 rfl⟩⟩
   | ag d v=>obtain ⟨J,e,_⟩:=h2;simp at e
  ·exact ⟨aP _,fun h1 h2=>absurd ⟨h1,h2⟩ hx⟩
 refine ⟨fun x=>(hex x).choose,fun x h1 h2=>((hex x).choose_spec h1 h2).1,?_⟩
 refine aX (C:={ C with fn:=fun x=>(hex x).choose }) hm hC (h _) fun x h1 h2=>((hex x).choose_spec h1 h2).2
end
theorem uP:(∀ (n:Nat),((n:Nat):Int).toNat=n)∧(∀ (b:Bool),((!b)=true)=(b=false))∧(∀ (b:Bool),((!b)=false)=(b=true))∧(∀ (a b:Bool),((a&&b)=true)=(a=true∧b=true))∧(∀ {x y:Bool},(x&&y)=false↔x=false∨y=false)∧(∀ {p:Prop} [inst:Decidable p],(decide p=true)=p)∧(∀ {p:Prop} {x:Decidable p},decide p=false↔¬ p)∧(∀ {a b:Int},¬ a<b↔b≤a)∧(∀ {a b:Int},¬ a≤b↔b<a)∧(∀ {α:Type} [LE α] {x y:α},x ≥ y↔y≤x)∧(∀ {α:Type} [LT α] {x y:α},x>y↔y<x)∧(∀ {α:Type} {a:α} {l:List α},(a :: l).length=l.length+1)∧(∀ {α:Type},([]:List α).length=0)∧(∀ {α:Type} {l m:List α},(l++m).length=l.length+m.length)∧(∀ (n:Nat),0+n=n)∧(∀ {α:Type} (l:List α),[]++l=l)∧(∀ {α:Type} [BEq α] [LawfulBEq α] {a b:α},(a==b)=true↔a=b)∧(∀ {α:Type} [BEq α] [LawfulBEq α] {a b:α},(a==b)=false↔a≠b)∧(∀ {α:Type} [BEq α] [LawfulBEq α] {a b:α},(a != b)=true↔a≠b)∧(∀ {α:Type} [BEq α] [LawfulBEq α] {a b:α},(a != b)=false↔a=b)∧(∀ {α:Type} (a b:α),(a≠b)=¬ (a=b))∧(∀ k:Nat,((k:Int) - 1).toNat=k - 1)∧(∀ k:Nat,((k:Int)+1).toNat=k+1)∧(0:Int).toNat=0∧(1:Int).toNat=1 :=
 ⟨@Int.toNat_natCast,@Bool.not_eq_true',@Bool.not_eq_false',@Bool.and_eq_true,@Bool.and_eq_false_iff,@decide_eq_true_eq,@decide_eq_false_iff_not,@Int.not_lt,@Int.not_le,@ge_iff_le,@gt_iff_lt,@List.length_cons,@List.length_nil,@List.length_append,@Nat.zero_add,@List.nil_append,@beq_iff_eq,@beq_eq_false_iff_ne,@bne_iff_ne,@bne_eq_false_iff_eq,@ne_eq,@zB,@aMO,@aWW,@aVT⟩
end Go.Proofs.YtpafjioccjpmfaaGreat
