/- Cc: lemmas. No conditions. -/
import Derived.Test.YtfmfeplebgbpmaaGreatCb
namespace Go.Proofs.YtfmfeplebgbpmaaGreat
open Go.ChangeShapes Go.WideShapes Go.ChangeAt Go.RowKit Go.Deep
set_option linter.unusedVariables false
set_option linter.unusedSimpArgs false
def dB (es:Es):Prop:=(es.map (·.1)).Nodup
section
variable {P:Program} {Cs:List Con} {X:Cx} {γ γ':Gh} {β β':Bt} {O O':List Nat} {env:List SV} {w w':World} {es es':Es}
theorem Later.shrink (h:∀b,b ∉ O->b ∉ O'):Later X γ O env w γ O' env w:=⟨fun _ _ h=>h,⟨[],by simp⟩,Nat.le_refl _,fun b _ h2 _=>⟨rfl,h b h2⟩⟩
theorem aHP {α δ:Type} {f:α->List δ}:{l l':List α}->l'.Sublist l->(l'.flatMap f).Sublist (l.flatMap f)
 | _,_,.slnil=>.slnil
 | _,_,.cons a h=>by
  simp only[List.flatMap_cons]
  exact(aHP h).trans (List.sublist_append_right _ _)
 | _,_,.cons_cons a h=>by
  simp only[List.flatMap_cons]
  exact(List.Sublist.refl _).append (aHP h)
theorem bUM (hs:es'.Sublist es):(Os γ es').Sublist (Os γ es):=aHP hs
theorem cFN (hs:es'.Sublist es):(Us β es').Sublist (Us β es):=aHP hs
theorem MemOK.sub (h:MemOK X γ β env w es) (hs:es'.Sublist es):MemOK X γ β env w es'/\Later X γ (Os γ es) env w γ (Os γ es') env w:=by
 have hl:Later X γ (Os γ es) env w γ (Os γ es') env w:=Later.shrink fun b hb hb'=>hb ((bUM hs).subset hb')
 refine⟨⟨h.nd.sublist ((bUM hs).append (cFN hs)),fun b hb=>h.at' b ((bUM hs).subset hb),fun b hb=>(hl.gd (h.good b ((cFN hs).subset hb))).1,fun p hp=>?_⟩,hl⟩
 exact jS.later hl rfl (fun _ _=>rfl) (fun _ _=>rfl) (h.ent p (hs.subset hp))
theorem MemOK.perm (h:MemOK X γ β env w es) (hs:es'.Perm es):MemOK X γ β env w es'/\Later X γ (Os γ es) env w γ (Os γ es') env w:=by
 have pO:(Os γ es').Perm (Os γ es):=hs.flatMap_right _
 have pU:(Us β es').Perm (Us β es):=hs.flatMap_right _
 have hl:Later X γ (Os γ es) env w γ (Os γ es') env w:=Later.shrink fun b hb hb'=>hb (pO.mem_iff.1 hb')
 refine⟨⟨(pO.append pU).nodup_iff.2 h.nd,fun b hb=>h.at' b (pO.mem_iff.1 hb),fun b hb=>(hl.gd (h.good b (pU.mem_iff.1 hb))).1,fun p hp=>?_⟩,hl⟩
 exact jS.later hl rfl (fun _ _=>rfl) (fun _ _=>rfl) (h.ent p (hs.mem_iff.1 hp))
theorem mN {r:Nat} {e:Ent} (h:fL es r=some e):(r,e)∈es:=by
 unfold fL at h
 simp only[Option.map_eq_some_iff] at h
 obtain⟨⟨q,e'⟩,h1,h2⟩:=h
 simp only at h2
 subst h2
 have:=List.find?_some h1
 simp only[beq_iff_eq] at this
 subst this
 exact List.mem_of_find?_eq_some h1
theorem dB.perm (h:dB es) (hp:es'.Perm es):dB es':=(hp.map _).nodup_iff.2 h
theorem dB.sub (h:dB es) (hp:es'.Sublist es):dB es':=h.sublist (hp.map _)
theorem oP (es:Es) (rs:List Nat):(cV es rs).Sublist es:=List.filter_sublist
theorem tV:{es:Es}->{r:Nat}->{e:Ent}->dB es->fL es r=some e->es.Perm ((r,e)::cV es [r])/\∀p∈cV es [r],p.1≠r
 | [],r,e,_,h=>by simp[fL] at h
 | p::es,r,e,hk,h=>by
  have hk':dB es:=(List.nodup_cons.1 hk).2
  have hp:p.1 ∉ es.map (·.1):=(List.nodup_cons.1 hk).1
  have hne:∀q∈cV (p::es) [r],q.1≠r:=fun q hq=>by
   simp only[cV,List.mem_filter] at hq
   simpa using hq.2
  refine⟨?_,hne⟩
  by_cases he:p.1=r
  ·have h1:p=(r,e):=by
    have:fL (p::es) r=some p.2:=by simp[fL,List.find?_cons,he]
    rw[this] at h
    simp only[eW] at h
    exact Prod.ext he h
   have h2:cV (p::es) [r]=es:=by
    simp only[cV]
    rw[List.filter_cons_of_neg (by simp[he])]
    rw[List.filter_eq_self]
    intro q hq
    have:q.1≠r:=fun h=>hp (by rw[he,<-h];exact List.mem_map_of_mem hq)
    simpa using this
   rw[h2,h1]
  ·have h1:fL es r=some e:=by
    have:fL (p::es) r=fL es r:=by
     simp only[fL,List.find?_cons]
     rw[show(p.1==r)=false by simpa using he]
    rw[<-this];exact h
   obtain⟨i1,i2⟩:=tV hk' h1
   have h2:cV (p::es) [r]=p::cV es [r]:=by
    simp only[cV]
    rw[List.filter_cons_of_pos (by simpa using he)]
   rw[h2]
   exact(i1.cons p).trans (List.Perm.swap _ _ _)
theorem aDX:{es:Es}->{r:Nat}->{e e':Ent}->dB es->fL es r=some e->(tE es r e').Perm ((r,e')::cV es [r])
 | [],r,e,e',_,h=>by simp[fL] at h
 | p::es,r,e,e',hk,h=>by
  have hk':dB es:=(List.nodup_cons.1 hk).2
  have hp:p.1 ∉ es.map (·.1):=(List.nodup_cons.1 hk).1
  by_cases he:p.1=r
  ·have hne:∀q∈es,q.1≠r:=fun q hq h=>hp (by rw[he,<-h];exact List.mem_map_of_mem hq)
   have h2:cV (p::es) [r]=es:=by
    simp only[cV]
    rw[List.filter_cons_of_neg (by simp[he])]
    rw[List.filter_eq_self]
    intro q hq
    simpa using hne q hq
   have h3:tE (p::es) r e'=(r,e')::es:=by
    simp only[tE,List.map_cons,he,if_true]
    congr 1
    rw[List.map_congr_left (g:=id) (fun q hq=>by simp[hne q hq])]
    simp
   rw[h2,h3]
  ·have h1:fL es r=some e:=by
    have:fL (p::es) r=fL es r:=by
     simp only[fL,List.find?_cons]
     rw[show(p.1==r)=false by simpa using he]
    rw[<-this];exact h
   have i1:=aDX (e':=e') hk' h1
   have h2:cV (p::es) [r]=p::cV es [r]:=by
    simp only[cV]
    rw[List.filter_cons_of_pos (by simpa using he)]
   have h3:tE (p::es) r e'=p::tE es r e':=by
    simp[tE,he]
   rw[h2,h3]
   exact(i1.cons p).trans (List.Perm.swap _ _ _)
theorem aI5 {r:Nat} {e:Ent}:(tE es r e).map (·.1)=es.map (·.1):=by
 simp only[tE,List.map_map]
 apply List.map_congr_left
 intro p hp
 simp only[Function.comp]
 split
 ·rename_i h;exact h.symm
 ·rfl
theorem wU.un {e:TypeId} {t:Ty} {G:Nat->Prop} {v:Value} {l:List t.D} {bl:List Nat} (h:wU G w e t v l) (hu:aWI w e t v l bl):Un (.slice e t) w [v] l (lY v++bl):=by
 rcases hu with⟨p,rfl,rfl⟩|⟨b,n,cap,cur,rfl,hc,hh,hr⟩
 ·rcases h with⟨q,h1,rfl⟩|⟨b,cap,cur,h1,h2,_⟩
  ·refine .inl ⟨p,rfl,rfl,?_⟩
   cases p<;>simp[lY]
  ·simp only[Value.slice.injEq] at h1
   omega
 ·rcases h with⟨q,h1,rfl⟩|⟨b',cap',cur',h1,h2,h3,h4,h5,h6,h7⟩
  ·simp only[Value.slice.injEq] at h1
   omega
  ·simp only[Value.slice.injEq,eW,Addr.mk.injEq,and_true] at h1
   obtain⟨rfl,rfl,rfl⟩:=h1
   rw[hh] at h3
   simp only[eW,Obj.cells.injEq,and_true] at h3
   subst h3
   refine .inr ⟨b,0,cap,cur,_,bl,rfl,rfl,hh,h4,h5,?_,rfl,by simpa using hr,?_⟩
   ·rw[h6,Nat.zero_add];exact Nat.mul_le_mul_right _ h4
   ·have:cap≠0:=by omega
    simp[lY,this]
theorem bS7 {r:Nat} {E:Ent} (h:MemOK X γ β env w ((r,E)::es)) (hk:∀p∈es,p.1≠r) {e:TypeId} {t:Ty} {a:Ar} {fr uq:Bool}
  (hE:E = .sl e t a fr uq\/(∃ls,E = .arr e t a fr ls)/\uq=t.flat) :
  ∃β' v,γ r=some v/\(∀q,q≠r->β' q=β q)/\MemOK X γ β' env w (if uq then(r,.uq (.slice e t) a fr)::es else es) /\
   Later X γ (Os γ ((r,E)::es)) env w γ (Os γ es) env w/\kJ X γ (Os γ es) env w (.d a (.slice e t) fr (if uq then r else 0)) v:=by
 obtain⟨hs,hlat⟩:=h.sub (List.sublist_cons_self (r,E) es)
 have he:=h.ent (r,E) (by simp)
 have hrow:a.bd env.length=true/\∃v,γ r=some v/\wU (Gd X (Os γ ((r,E)::es)) w fr) w e t v ((a.val env).as (.slice e t))/\(uq=true->aWI w e t v ((a.val env).as (.slice e t)) (β r))/\oC γ (r,E)=(match γ r with|some v=>lY v|none=>[]):=by
  rcases hE with rfl|⟨⟨ls,rfl⟩,rfl⟩
  ·obtain⟨h1,v,h2,h3,h4,h5⟩:=he
   exact⟨h1,v,h2,h3,h4,rfl⟩
  ·obtain⟨h1,v,h2,h3,h4,b,n,cap,cur,h5,h6,h7,h8⟩:=he
   refine⟨h1,v,h2,h3,fun hf=>?_,rfl⟩
   rw[h4]
   rcases h3 with⟨p,h9,_⟩|⟨b',cap',cur',g1,g2,g3,g4,g5,g6,g7⟩
   ·rw[h5] at h9
    simp only[Value.slice.injEq] at h9
    omega
   ·refine .inr ⟨b',_,cap',cur',g1,g2,g3,aFV (G:=Gd X (Os γ ((r,Ent.arr e t a fr ls)::es)) w fr) hf (by simp only[List.length_take,Array.length_toList];rw[g6];exact Nat.min_eq_left (Nat.mul_le_mul_right _ g4)) (fun k hk'=>?_)⟩
    have hle:(k+1) * t.n<=((a.val env).as (.slice e t)).length * t.n:=Nat.mul_le_mul_right _ (by omega)
    rw[List.drop_take,List.take_take,Nat.min_eq_left (by rw[Nat.add_mul] at hle;omega)]
    exact g7 k hk'
 obtain⟨ha,v,hv,hr,hu,hb⟩:=hrow
 rw[hv] at hb
 have Bd:Os γ ((r,E)::es)=lY v++Os γ es:=by
  show oC γ (r,E)++Os γ es=_
  rw[hb]
 have hnd:=h.nd
 have Dp:∀b∈lY v,Gd X (Os γ es) w true b:=fun b hb'=>by
  obtain⟨a1,a2,a3⟩:=h.at' b (by rw[Bd];simp[hb'])
  refine⟨a1,fun Bq=>?_,a3,fun _=>a2.imp id fun h=>by simp[Cx.F0,h]⟩
  rw[Bd] at hnd
  exact(List.nodup_append.1 (List.nodup_append.1 hnd).1).2.2 b hb' b Bq rfl
 have Dl:∀k,(k≠0->γ k=some v)->kJ X γ (Os γ es) env w (.d a (.slice e t) fr k) v:=fun k hk=>⟨ha,wU.rd (fun b hb=>(hlat.gd hb).1) (fun b n c hc hv'=>(Dp b (by rw[hv'];simp[lY];omega)).mono (fun _=>rfl)) hr,hk⟩
 cases uq with
 | false=>exact⟨β,v,hv,fun _ _=>rfl,hs,hlat,Dl _ (fun h=>absurd rfl h)⟩
 | true =>
  refine⟨β.upd r (lY v++β r),v,hv,fun q hq=>by simp[Bt.upd,hq],?_,hlat,Dl _ (fun _=>hv)⟩
  have hU:Us (β.upd r (lY v++β r)) es=Us β es:=aLG fun p hp=>by simp[Bt.upd,hk p hp]
  have Br:Us (β.upd r (lY v++β r)) ((r,Ent.uq (.slice e t) a fr)::es)=(lY v++β r)++Us β es:=by
   show β.upd r (lY v++β r) r++Us _ es=_
   rw[hU]
   simp[Bt.upd]
  have Dh:Os γ ((r,Ent.uq (.slice e t) a fr)::es)=Os γ es:=rfl
  simp only[if_true]
  refine⟨?_,?_,?_,?_⟩
  ·rw[Br,Dh]
   rw[Bd] at hnd
   have hnd':((lY v++Os γ es)++(β r++Us β es)).Nodup:=hnd
   refine(List.Perm.nodup_iff ?_).1 hnd'
   simp only[List.append_assoc]
   rw[<-List.append_assoc,<-List.append_assoc (Os γ es)]
   exact(List.perm_append_comm).append_right _
  ·rw[Dh];exact hs.at'
  ·rw[Br,Dh]
   intro b hb'
   simp only[List.mem_append] at hb'
   rcases hb' with(hb'|hb')|hb'
   ·exact Dp b hb'
   ·exact(hlat.gd (h.good b (by show b∈β r++Us β es;simp[hb']))).1
   ·exact hs.good b hb'
  ·intro p hp
   rw[Dh]
   simp only[List.mem_cons] at hp
   rcases hp with rfl|hp
   ·exact⟨ha,v,hv,by simpa [Bt.upd] using wU.un hr (hu rfl)⟩
   ·exact jS.later .refl (by simp[Bt.upd,hk p hp]) (fun _ _=>rfl) (fun _ _=>rfl) (hs.ent p hp)
end
section
variable {P:Program} {Cs:List Con} {X:Cx} {γ γ':Gh} {β β':Bt} {O O':List Nat} {env:List SV} {w w':World} {es es':Es}
theorem bHA {r:Nat} {a:Ar} {t:Ty} {fr:Bool} {k:Nat} {v:Value} (hl:Later X γ O env w γ O' env w) (hv:γ r=some v) (hd:kJ X γ O' env w (.d a t fr k) v) {l:Leaf} {u:Value}
  (h:kJ X γ O env w l u):kJ X γ O' env w (aMW r a t fr k l) u:=by
 cases l with
 | own q =>
  simp only[aMW]
  have h':γ q=some u:=h
  split
  ·rename_i hq
   subst hq
   rw[hv] at h'
   simp only[eW] at h'
   subst h'
   exact hd
  ·exact h'
 | d b s f j=>exact kJ.later hl h
 | nl e s=>exact h
theorem aFE {r:Nat} {a:Ar} {t:Ty} {fr:Bool} {k:Nat} {v:Value} (hl:Later X γ O env w γ O' env w) (hv:γ r=some v) (hd:kJ X γ O' env w (.d a t fr k) v) :
  {ls:List Leaf}->{cs:List Value}->bG X γ O env w ls cs->bG X γ O' env w (ls.map (aMW r a t fr k)) cs
 | [],_,h=>h
 | l::ls,_,⟨c,cs',hc,h1,h2⟩=>⟨c,cs',hc,bHA hl hv hd h1,aFE hl hv hd h2⟩
theorem aCJ {r:Nat} {a:Ar} {t:Ty} {fr:Bool} {k:Nat} {v:Value} (hl:Later X γ O env w γ O' env w) (hv:γ r=some v) (hd:kJ X γ O' env w (.d a t fr k) v) {s:Sh} {u:Value}
  (h:uQ X γ O env w s u):uQ X γ O' env w (bOD r a t fr k s) u:=by
 cases s with
 | one l=>exact bHA hl hv hd h
 | agg ls=>obtain⟨cs,hc,h⟩:=h;exact⟨cs,hc,aFE hl hv hd h⟩
 | _=>exact uQ.later hl h
theorem bL8 {r:Nat} {a:Ar} {t:Ty} {fr:Bool} {k:Nat} {v:Value} (hl:Later X γ O env w γ O' env w) (hv:γ r=some v) (hd:kJ X γ O' env w (.d a t fr k) v) :
  {ss:List Sh}->{us:List Value}->xW X γ O env w ss us->xW X γ O' env w (ss.map (bOD r a t fr k)) us
 | [],_,h=>h
 | s::ss,_,⟨c,cs',hc,h1,h2⟩=>⟨c,cs',hc,aCJ hl hv hd h1,bL8 hl hv hd h2⟩
theorem bSJ {r:Nat} {a:Ar} {t:Ty} {fr:Bool} {k:Nat} {v:Value} (hl:Later X γ O env w γ O' env w) (hv:γ r=some v) (hd:kJ X γ O' env w (.d a t fr k) v) {s:Sh} {u:Value}
  (h:bU X γ O env w s u):bU X γ O' env w (bKY r a t fr k s) u:=by
 cases s with
 | tup ss=>obtain⟨cs,hc,h⟩:=h;exact⟨cs,hc,bL8 hl hv hd h⟩
 | one l=>exact yQ (aCJ hl hv hd (s:=.one l) h)
 | agg l=>exact yQ (aCJ hl hv hd (s:=.agg l) h)
 | no=>trivial
 | nilS=>exact h
 | pbox r o=>exact yQ (aCJ hl hv hd (s:=.pbox r o) h)
 | pelem r e t i o=>exact yQ (aCJ hl hv hd (s:=.pelem r e t i o) h)
 | cut r e t i o=>exact yQ (aCJ hl hv hd (s:=.cut r e t i o) h)
 | pro ls=>exact yQ (aCJ hl hv hd (s:=.pro ls) h)
 | fn f=>exact h
 | und=>exact h
theorem bZ3 {p:Nat×Ent} (h:dB (p::es)):∀q∈es,q.1≠p.1:=fun q hq he=>(List.nodup_cons.1 h).1 (by show p.1∈_;rw[<-he];exact List.mem_map_of_mem hq)
theorem aR8:(new:Es)->(s:Sh)->(kept:Es)->{β:Bt}->{v:Value}->MemOK X γ β env w (new++(kept++es))->dB (new++(kept++es))->bU X γ (Os γ (new++(kept++es))) env w s v ->
  ∃β',(∀q,(∀p∈new,q≠p.1)->β' q=β q)/\MemOK X γ β' env w ((oL new s kept).2++es)/\dB ((oL new s kept).2++es) /\
   Later X γ (Os γ (new++(kept++es))) env w γ (Os γ ((oL new s kept).2++es)) env w/\bU X γ (Os γ ((oL new s kept).2++es)) env w (oL new s kept).1 v /\
   ∀p∈(oL new s kept).2,∃q∈new++kept,p.1=q.1
 | [],s,kept,β,v,h,hk,hv=>⟨β,fun _ _=>rfl,h,hk,.refl,hv,fun p hp=>⟨p,hp,rfl⟩⟩
 | (r,E)::new,s,kept,β,v,h,hk,hv=>by
  have hne:=bZ3 hk
  have plain:∀E',(∀p∈(r,E')::kept,p.1=r\/p∈kept)->MemOK X γ β env w ((r,E)::(new++(kept++es)))->oL ((r,E)::new) s kept=oL new s ((r,E)::kept) ->
    ∃β',(∀q,(∀p∈(r,E)::new,q≠p.1)->β' q=β q)/\MemOK X γ β' env w ((oL ((r,E)::new) s kept).2++es)/\dB ((oL ((r,E)::new) s kept).2++es) /\
     Later X γ (Os γ ((r,E)::new++(kept++es))) env w γ (Os γ ((oL ((r,E)::new) s kept).2++es)) env w/\bU X γ (Os γ ((oL ((r,E)::new) s kept).2++es)) env w (oL ((r,E)::new) s kept).1 v /\
     ∀p∈(oL ((r,E)::new) s kept).2,∃q∈(r,E)::new++kept,p.1=q.1:=fun E' _ h he=>by
   rw[he]
   have hp:(new++(((r,E)::kept)++es)).Perm ((r,E)::(new++(kept++es))):=by
    simp only[List.cons_append]
    exact List.perm_middle
   obtain⟨h1,A0⟩:=h.perm hp
   obtain⟨β',i1,i2,i3,i4,i5,i6⟩:=aR8 new s ((r,E)::kept) h1 (hk.perm hp) (bU.later A0 hv)
   refine⟨β',fun q hq=>i1 q fun p hp=>hq p (by simp[hp]),i2,i3,A0.trans i4,i5,fun p hp=>?_⟩
   obtain⟨q,hq,he⟩:=i6 p hp
   refine⟨q,?_,he⟩
   simp only[List.mem_append,List.mem_cons,List.cons_append] at hq⊢
   rcases hq with hq|hq|hq
   ·exact .inr (.inl hq)
   ·exact .inl hq
   ·exact .inr (.inr hq)
  have frz:∀(e:TypeId) (t:Ty) (a:Ar) (fr uq:Bool),(E = .sl e t a fr uq\/(∃ls,E = .arr e t a fr ls)/\uq=t.flat) ->
    oL ((r,E)::new) s kept=oL new (bKY r a (.slice e t) fr (if uq then r else 0) s) (if uq then(r,.uq (.slice e t) a fr)::kept else kept) ->
    ∃β',(∀q,(∀p∈(r,E)::new,q≠p.1)->β' q=β q)/\MemOK X γ β' env w ((oL ((r,E)::new) s kept).2++es)/\dB ((oL ((r,E)::new) s kept).2++es) /\
     Later X γ (Os γ ((r,E)::new++(kept++es))) env w γ (Os γ ((oL ((r,E)::new) s kept).2++es)) env w/\bU X γ (Os γ ((oL ((r,E)::new) s kept).2++es)) env w (oL ((r,E)::new) s kept).1 v /\
     ∀p∈(oL ((r,E)::new) s kept).2,∃q∈(r,E)::new++kept,p.1=q.1:=fun e t a fr uq hE he=>by
   rw[he]
   obtain⟨β1,v1,f1,f2,f3,f4,f5⟩:=bS7 h hne hE
   have hv1:=bSJ f4 f1 f5 hv
   cases uq with
   | false =>
    simp only[Bool.false_eq_true,if_false] at f3 hv1⊢
    obtain⟨β',i1,i2,i3,i4,i5,i6⟩:=aR8 new _ kept f3 (List.nodup_cons.1 hk).2 hv1
    refine⟨β',fun q hq=>(i1 q fun p hp=>hq p (by simp[hp])).trans (f2 q (hq (r,E) (by simp))),i2,i3,f4.trans i4,i5,fun p hp=>?_⟩
    obtain⟨q,hq,he⟩:=i6 p hp
    exact⟨q,by simp only[List.cons_append,List.mem_cons];exact .inr hq,he⟩
   | true =>
    simp only[if_true] at f3 hv1⊢
    have hp:(new++(((r,Ent.uq (.slice e t) a fr)::kept)++es)).Perm ((r,Ent.uq (.slice e t) a fr)::(new++(kept++es))):=by
     simp only[List.cons_append]
     exact List.perm_middle
    have hk':dB ((r,Ent.uq (.slice e t) a fr)::(new++(kept++es))):=hk
    obtain⟨h1,A0⟩:=f3.perm hp
    have hl0:Later X γ (Os γ ((r,E)::new++(kept++es))) env w γ (Os γ ((r,Ent.uq (.slice e t) a fr)::(new++(kept++es)))) env w:=f4
    obtain⟨β',i1,i2,i3,i4,i5,i6⟩:=aR8 new _ ((r,.uq (.slice e t) a fr)::kept) h1 (hk'.perm hp) (bU.later A0 (show bU X γ (Os γ ((r,Ent.uq (.slice e t) a fr)::(new++(kept++es)))) env w _ v from hv1))
    refine⟨β',fun q hq=>(i1 q fun p hp=>hq p (by simp[hp])).trans (f2 q (hq (r,E) (by simp))),i2,i3,(hl0.trans A0).trans i4,i5,fun p hp=>?_⟩
    obtain⟨q,hq,he⟩:=i6 p hp
    simp only[List.mem_append,List.mem_cons] at hq
    rcases hq with hq|rfl|hq
    ·exact⟨q,by simp[hq],he⟩
    ·exact⟨(r,E),by simp,he⟩
    ·exact⟨q,by simp[hq],he⟩
  cases E with
  | sl e t a fr uq=>exact frz e t a fr uq (.inl rfl) rfl
  | arr e t a fr ls=>exact frz e t a fr t.flat (.inr ⟨⟨ls,rfl⟩,rfl⟩) rfl
  | box T ls=>exact plain (.box T ls) (fun p hp=>by simp only[List.mem_cons] at hp;exact hp.imp (fun h=>by rw[h]) id) h rfl
  | uq t a fr=>exact plain (.uq t a fr) (fun p hp=>by simp only[List.mem_cons] at hp;exact hp.imp (fun h=>by rw[h]) id) h rfl
variable {wr:Bool} {D:List Nat} {nx nr n:Nat} {ls:List Let} {s:Sh} {new:Es} {ρ:Operand->Value} {sh:Operand->Sh} {o:Oper} {lk:Lk}
theorem bTU (hC:∀(c:Nat) (C:Con),Cs[c]?=some C->Con.Holds P C) (hm:MemOK X γ β env w es) (hf:FrameOK X w) (hg:lF γ) (hs:∀x,bU X γ (Os γ es) env w (sh x) (ρ x))
  (hlk:∀r e,lk r=some e->(r,e)∈es) (h:sM P Cs o sh lk nx nr=some (ls,s,new)) (hl:iV Cs env nx ls) (Aa:∀r,nr<=r->r<nr+new.length->γ r=none) :
  aFA P ρ o w fun v w'=>∃γ' β',Grew X γ β env w es new nr s v γ' β' w':=by
 have Fd:∀r e,lk r=some e->jS X γ β (Os γ es) env w r e/\∀b∈oC γ (r,e),b<w.heap.size:=fun r e hr =>
  ⟨hm.ent _ (hlk r e hr),fun b hb=>(hm.at' b (xS.2 ⟨_,hlk r e hr,hb⟩)).1⟩
 have mk:bKW P X γ β env w es new nr s ρ o->aFA P ρ o w fun v w'=>∃γ' β',Grew X γ β env w es new nr s v γ' β' w':=fun⟨v,w',γ',β',h1,h2⟩=>.inl ⟨v,w',h1,γ',β',h2⟩
 cases hop:o.op with
 | alloc T=>exact mk (cEE hm hf hg hop h Aa)
 | box T x=>exact mk (cBD hm hf hg hs hop h Aa)
 | makeSlice T x y=>exact mk (cG5 hm hf hg hs hop h hl Aa)
 | buildSlice T len gA=>exact mk (bIP hm hf hg hs hop h hl Aa)
 | call c =>
  obtain⟨callee,args,tys⟩:=c
  cases callee with
  | builtin b =>
   cases b with
   | append=>exact mk (bV9 hm hf hg hs hop Fd h hl Aa)
   | _=>simp[sM,hop] at h
  | value f=>exact cDZ hC hm hf hg hs hop Fd h hl Aa
  | _=>simp[sM,hop] at h
 | _=>simp[sM,hop] at h
structure Still (X:Cx) (γ:Gh) (β:Bt) (env:List SV) (w:World) (es new:Es) (nr n:Nat) (s:Sh) (v:Value) (γ':Gh) (β':Bt) (w':World):Prop where
 mem:MemOK X γ' β' env w' (new++es)
 keys:dB (new++es)
 later:Later X γ (Os γ es) env w γ' (Os γ' (new++es)) env w'
 frame:FrameOK X w'
 gh:lF γ'
 same:∀r,(r<nr\/n<=r)->γ' r=γ r/\β' r=β r
 ids:∀p∈new,nr<=p.1/\p.1<n
 le:nr<=n
 val:bU X γ' (Os γ' (new++es)) env w' s v
theorem cAA (b:Nat):((⟨b,0,none⟩:Addr).add 0)=⟨b,0,none⟩:=by simp only[Addr.add];split<;>simp_all
theorem cCF (hg:lF γ) (hlk:∀r e,lk r=some e->jS X γ β O env w r e) (h:cC8 P D o sh lk nx=some (ls,s)) (hl:iV Cs env nx ls) (hs:∀x,bU X γ O env w (sh x) (ρ x)):Yld P X γ O env w ρ o s:=by
 unfold cC8 at h
 split at h
 ·rename_i T x y hop
  have hx:=hs x
  have hy:=hs y
  split at h
  ·split at h
   ·rename_i e r b fr k hT hsx hsy
    rw[hsx] at hx
    rw[hsy] at hy
    split at h
    ·rename_i e' t a fr' uq hr
     split at h
     ·rename_i hc
      obtain⟨rfl,hc⟩:=hc
      simp only[eW,nB] at h
      obtain⟨rfl,rfl⟩:=h
      obtain⟨ha,v,g1,g2,_⟩:=hlk r _ hr
      have hxv:ρ x=v:=by
       have:γ r=some (ρ x):=hx
       rw[g1] at this
       simpa using this.symm
      obtain⟨hv2,hw2⟩:=jR hy
      obtain⟨l1,l2,l3,l4,_⟩:=gC hl
      simp only[Prim.cond,Prim.ity,cZ] at l2
      have hib:b.bd env.length=true:=hy.1
      obtain⟨z,hz⟩:∃z:Int,SV.as tI (Ar.val env b)=z:=⟨_,rfl⟩
      obtain⟨ll,hll⟩:∃ll:List t.D,SV.as (.slice e' t) (Ar.val env a)=ll:=⟨_,rfl⟩
      rw[hz,hll] at l2
      rw[hz] at hv2
      rw[hll] at g2
      have l21:(0:Int)<=z:=l2.1
      have l22:z<(ll.length:Int):=l2.2
      rcases g2 with⟨p,hv,hnil⟩|⟨b',cap',cur,hv,hcap,hh,q1,q2,q3,q4⟩
      ·subst hnil;simp at l22;omega
      ·have hr2:=aFP (w:=w) hT hc (Ty.n_pos t) (some ⟨b',0,none⟩) ll.length cap' q1 0 z (by omega) l21 (by omega) none (some (ρ y)) (.inr ⟨rfl,rfl⟩) (.inl (by rw[hv2]))
       refine .of (r:=.slice (some ⟨b',0,none⟩) z.toNat cap') ?_ ⟨hib,b',ll.length,cap',by rw[g1,hv],by rw[hz];exact l21,by rw[hz];exact Int.le_of_lt l22,by rw[hz];rfl⟩
       simp only[execOp,hop,hxv,hv,Option.map_none,Option.map_some,Sem.run_bind,hr2,Result.andThen_ok,Sem.run_pure]
       have hc0:¬cap'=0:=by omega
       simp only[Int.toNat_zero,Nat.zero_mul,hc0,if_false,cAA,Nat.sub_zero]
     ·cases h
    ·cases h
   ·cases h
  ·cases h
 ·rename_i T x y hop
  have hx:=hs x
  have hy:=hs y
  split at h
  ·split at h
   ·rename_i e r b fr k hT hsx hsy
    rw[hsx] at hx
    rw[hsy] at hy
    split at h
    ·rename_i e' t a fr' uq hr
     split at h
     ·rename_i hc
      obtain⟨rfl,hc⟩:=hc
      simp only[eW,nB] at h
      obtain⟨rfl,rfl⟩:=h
      obtain⟨ha,v,g1,g2,_⟩:=hlk r _ hr
      have hxv:ρ x=v:=by
       have:γ r=some (ρ x):=hx
       rw[g1] at this
       simpa using this.symm
      obtain⟨hv2,hw2⟩:=jR hy
      obtain⟨l1,l2,l3,l4,l5⟩:=gC hl
      obtain⟨m1,m2,m3,m4,m5⟩:=gC l5
      obtain⟨n1,n2,n3,n4,_⟩:=gC m5
      have e1:(SV.as tI ((Ar.Z (nx+1)).val env):Int)=((SV.as (.slice e' t) (Ar.val env a):List t.D).length:Int):=by rw[uC (t:=tI) m4];rfl
      simp only[Prim.cond,Prim.ity,cZ] at l2
      simp only[Prim.cond,Prim.ity,cZ,e1] at n2
      have hib:b.bd env.length=true:=hy.1
      obtain⟨z,hz⟩:∃z:Int,SV.as tI (Ar.val env b)=z:=⟨_,rfl⟩
      obtain⟨ll,hll⟩:∃ll:List t.D,SV.as (.slice e' t) (Ar.val env a)=ll:=⟨_,rfl⟩
      rw[hll] at l2
      rw[hz,hll] at n2
      rw[hz] at hv2
      rw[hll] at g2
      have n21:(0:Int)<=z:=n2.1
      have n22:z<=(ll.length:Int):=n2.2.1
      have hpos:(0:Int)<(ll.length:Int):=Int.lt_of_le_of_lt l2.1 l2.2
      rcases g2 with⟨p,hv,hnil⟩|⟨b',cap',cur,hv,hcap,hh,q1,q2,q3,q4⟩
      ·subst hnil;simp at hpos
      ·have hr2:=aFP (w:=w) hT hc (Ty.n_pos t) (some ⟨b',0,none⟩) ll.length cap' q1 z ll.length n21 n22 (by omega) (some (ρ y)) none (.inl (by rw[hv2])) (.inr ⟨rfl,rfl⟩)
       refine .of (r:=.slice (if cap'=z.toNat then some ⟨b',0,none⟩ else some ⟨b',z.toNat * t.n,none⟩) (ll.length - z.toNat) (cap' - z.toNat)) ?_ ⟨hib,b',ll.length,cap',by rw[g1,hv],by rw[hz];exact n21,by rw[hz];exact n22,by rw[hz];rfl⟩
       simp only[execOp,hop,hxv,hv,Option.map_none,Option.map_some,Sem.run_bind,hr2,Result.andThen_ok,Sem.run_pure,Int.toNat_natCast]
       have he:(Addr.add ⟨b',0,none⟩ (z.toNat * t.n))=⟨b',z.toNat * t.n,none⟩:=by simp only[Addr.add];split<;>simp_all
       rw[he]
     ·cases h
    ·cases h
   ·cases h
  ·cases h
 ·cases h
theorem aUD (hC:∀(c:Nat) (C:Con),Cs[c]?=some C->Con.Holds P C) (hm:MemOK X γ β env w es) (hk:dB es) (hf:FrameOK X w) (hg:lF γ) (hs:∀x,bU X γ (Os γ es) env w (sh x) (ρ x))
  (hlk:∀r e,lk r=some e->(r,e)∈es) (h:aWG P Cs D o sh lk nx nr=some (ls,s,new,n)) (hl:iV Cs env nx ls) (Aa:∀r,nr<=r->r<n->γ r=none) :
  aFA P ρ o w fun v w'=>∃γ' β',Still X γ β env w es new nr n s v γ' β' w':=by
 unfold aWG at h
 split at h
 ·rename_i ls' s' hr
  simp only[eW,nB] at h
  obtain⟨rfl,rfl,rfl,rfl⟩:=h
  obtain⟨r,h1,h2⟩:=bJ0 (P:=P) (Cs:=Cs) (X:=X) (γ:=γ) (β:=β) (O:=Os γ es) (env:=env) (w:=w) hg (fun b hb=>(hm.at' b hb).1) (fun r e hr=>⟨hm.ent _ (hlk r e hr),fun b hb=>(hm.at' b (xS.2 ⟨_,hlk r e hr,hb⟩)).1⟩) hr hl hs
  exact .inl ⟨r,w,h1,γ,β,⟨hm,hk,.refl,hf,hg,fun _ _=>⟨rfl,rfl⟩,fun p hp=>by simp at hp,Nat.le_refl _,h2⟩⟩
 ·split at h
  ·rename_i ls' s' new' ha
   split at h
   ·rename_i hnd
    have hnd':(new'.map (·.1)).Nodup:=of_decide_eq_true hnd
    have hls:ls'=ls/\n=nr+new'.length:=by
     split at h<;>simp only[eW,nB] at h<;>exact⟨h.1,h.2.2.2.symm⟩
    obtain⟨rfl,rfl⟩:=hls
    refine(bTU hC hm hf hg hs hlk ha hl Aa).mono fun v w' ⟨γ',β',hgr⟩=>?_
    have J4:dB (new'++es):=by
     unfold dB
     rw[List.map_append,List.nodup_append]
     refine⟨hnd',hk,fun x hx y hy he=>?_⟩
     subst he
     simp only[List.mem_map] at hx hy
     obtain⟨p,hp,rfl⟩:=hx
     obtain⟨q,hq,he⟩:=hy
     obtain⟨u,hu⟩:=(hm.ent q hq).gh
     have:=hgr.ids p hp
     rw[he,Aa p.1 this.1 this.2] at hu
     cases hu
    split at h
    ·simp only[eW,nB] at h
     obtain⟨_,rfl,rfl,_⟩:=h
     obtain⟨β2,i1,i2,i3,i4,i5,i6⟩:=aR8 new' s' [] (es:=es) (by simpa using hgr.mem) (by simpa using J4) (by simpa using hgr.val)
     simp only[List.nil_append] at i4
     refine⟨γ',β2,⟨i2,i3,hgr.later.trans i4,hgr.frame,hgr.gh,fun r hr=>?_,fun p hp=>?_,Nat.le_add_right _ _,i5⟩⟩
     ·obtain⟨a1,a2⟩:=hgr.same r hr
      exact⟨a1,(i1 r fun p hp=>by have:=hgr.ids p hp;omega).trans a2⟩
     ·obtain⟨q,hq,he⟩:=i6 p hp
      rw[he]
      exact hgr.ids q (by simpa using hq)
    ·simp only[eW,nB] at h
     obtain⟨_,rfl,rfl,_⟩:=h
     exact⟨γ',β',⟨hgr.mem,J4,hgr.later,hgr.frame,hgr.gh,hgr.same,hgr.ids,Nat.le_add_right _ _,hgr.val⟩⟩
   ·cases h
  ·split at h
   ·rename_i ls' s' hr
    simp only[eW,nB] at h
    obtain⟨rfl,rfl,rfl,rfl⟩:=h
    obtain⟨r,h1,h2⟩:=cCF (P:=P) (Cs:=Cs) (X:=X) (γ:=γ) (β:=β) (O:=Os γ es) (env:=env) (w:=w) hg (fun r e hr=>hm.ent _ (hlk r e hr)) hr hl hs
    exact .inl ⟨r,w,h1,γ,β,⟨hm,hk,.refl,hf,hg,fun _ _=>⟨rfl,rfl⟩,fun p hp=>by simp at hp,Nat.le_refl _,h2⟩⟩
   ·cases h
end
section
variable {P:Program} {Cs:List Con} {X:Cx} {γ γ':Gh} {β β':Bt} {O O':List Nat} {env:List SV} {w w':World} {es es':Es}
theorem MemOK.turn {old new:Es} (h:MemOK X γ β env w (old++es)) (hf:X.B<=w.heap.size) (hw:∀b,b<w.heap.size->b ∉ Os γ old->w'.heap[b]?=w.heap[b]?) (hsz:w.heap.size<=w'.heap.size)
  (hγ:∀r v,γ r=some v->γ' r=some v) (hβ:∀p∈es,β' p.1=β p.1) (hnd:(Os γ' new++Us β' new).Nodup)
  (hO:∀b∈Os γ' new,b∈Os γ old\/(w.heap.size<=b/\b<w'.heap.size)) (hU:∀b∈Us β' new,b∈Os γ old\/b∈Us β old\/(w.heap.size<=b/\b<w'.heap.size))
  (hent:Later X γ (Os γ (old++es)) env w γ' (Os γ' (new++es)) env w'->∀p∈new,jS X γ' β' (Os γ' (new++es)) env w' p.1 p.2) :
  MemOK X γ' β' env w' (new++es)/\Later X γ (Os γ (old++es)) env w γ' (Os γ' (new++es)) env w':=by
 have hp:∀p∈es,∃v,γ p.1=some v:=fun p hp=>(h.ent p (by simp[hp])).gh
 have eO:Os γ' (new++es)=Os γ' new++Os γ es:=by rw[fJ,aJP hγ hp]
 have eU:Us β' (new++es)=Us β' new++Us β es:=by rw[iJ,aLG hβ]
 have oO:Os γ (old++es)=Os γ old++Os γ es:=fJ _ _
 have oU:Us β (old++es)=Us β old++Us β es:=iJ _ _
 have hA:∀b,w.heap.size<=b->¬X.A b:=fun b hb ha=>by have:=X.hA b ha;unfold Cx.B at hf;omega
 have h1:=h.nd
 rw[oO,oU,List.nodup_append] at h1
 obtain⟨n1,n2,n3⟩:=h1
 rw[List.nodup_append] at n1 n2
 have sO:∀b∈Os γ old,b<w.heap.size:=fun b hb=>(h.at' b (by rw[oO];simp[hb])).1
 have sOe:∀b∈Os γ es,b<w.heap.size:=fun b hb=>(h.at' b (by rw[oO];simp[hb])).1
 have sU:∀b∈Us β old,b<w.heap.size:=fun b hb=>(h.good b (by rw[oU];simp[hb])).1
 have sUe:∀b∈Us β es,b<w.heap.size:=fun b hb=>(h.good b (by rw[oU];simp[hb])).1
 have Kq:∀b∈Os γ' new,b ∉ Os γ es/\b ∉ Us β es:=fun b hb=>by
  rcases hO b hb with hb|hb
  ·exact⟨fun h=>n1.2.2 b hb b h rfl,fun h=>n3 b (by simp[hb]) b (by simp[h]) rfl⟩
  ·exact⟨fun h=>by have:=sOe b h;omega,fun h=>by have:=sUe b h;omega⟩
 have Kn:∀b∈Us β' new,b ∉ Os γ es/\b ∉ Us β es:=fun b hb=>by
  rcases hU b hb with hb|hb|hb
  ·exact⟨fun h=>n1.2.2 b hb b h rfl,fun h=>n3 b (by simp[hb]) b (by simp[h]) rfl⟩
  ·exact⟨fun h=>n3 b (by simp[h]) b (by simp[hb]) rfl,fun h=>n2.2.2 b hb b h rfl⟩
  ·exact⟨fun h=>by have:=sOe b h;omega,fun h=>by have:=sUe b h;omega⟩
 have Al:Later X γ (Os γ (old++es)) env w γ' (Os γ' (new++es)) env w':=⟨hγ,⟨[],by simp⟩,hsz,fun b b1 b2 b3=>by
  rw[oO,List.mem_append] at b2
  refine⟨hw b b1 fun h=>b2 (.inl h),?_⟩
  rw[eO,List.mem_append]
  rintro(h4|h4)
  ·rcases hO b h4 with h5|h5
   ·exact b2 (.inl h5)
   ·omega
  ·exact b2 (.inr h4)⟩
 have Az:(Os γ' (new++es)++Us β' (new++es)).Nodup:=by
  rw[eO,eU]
  rw[List.nodup_append] at hnd
  obtain⟨m1,m2,m3⟩:=hnd
  rw[List.nodup_append]
  refine⟨List.nodup_append.2 ⟨m1,n1.2.1,fun x hx y hy e=>(Kq x hx).1 (e ▸ hy)⟩,List.nodup_append.2 ⟨m2,n2.2.1,fun x hx y hy e=>(Kn x hx).2 (e ▸ hy)⟩,fun x hx y hy e=>?_⟩
  rw[List.mem_append] at hx hy
  rcases hx with hx|hx<;>rcases hy with hy|hy
  ·exact m3 x hx y hy e
  ·exact(Kq x hx).2 (e ▸ hy)
  ·exact(Kn y hy).1 (e ▸ hx)
  ·exact n3 x (by simp[hx]) y (by simp[hy]) e
 refine⟨⟨Az,fun b hb=>?_,fun b hb=>?_,fun p A6=>?_⟩,Al⟩
 ·rw[eO,List.mem_append] at hb
  rcases hb with hb|hb
  ·rcases hO b hb with hb|hb
   ·obtain⟨h1,h2,h3⟩:=h.at' b (by rw[oO];simp[hb])
    exact⟨by omega,h2,h3⟩
   ·exact⟨hb.2,.inl (by omega),hA b hb.1⟩
  ·obtain⟨h1,h2,h3⟩:=h.at' b (by rw[oO];simp[hb])
   exact⟨by omega,h2,h3⟩
 ·have hno:b ∉ Os γ' (new++es):=fun Bq=>(List.nodup_append.1 Az).2.2 b Bq b hb rfl
  rw[eU,List.mem_append] at hb
  rcases hb with hb|hb
  ·rcases hU b hb with hb|hb|hb
   ·obtain⟨h1,h2,h3⟩:=h.at' b (by rw[oO];simp[hb])
    exact⟨by omega,hno,h3,fun _=>h2.imp id fun h=>by simp[Cx.F0,h]⟩
   ·obtain⟨h1,h2,h3,h4⟩:=h.good b (by rw[oU];simp[hb])
    exact⟨by omega,hno,h3,h4⟩
   ·exact⟨hb.2,hno,hA b hb.1,fun _=>.inl (by omega)⟩
  ·obtain⟨h1,h2,h3,h4⟩:=h.good b (by rw[oU];simp[hb])
   exact⟨by omega,hno,h3,h4⟩
 ·rw[List.mem_append] at A6
  rcases A6 with A6|A6
  ·exact hent Al p A6
  ·refine jS.later Al (hβ p A6) (fun b hb=>?_) (fun b hb=>?_) (h.ent p (by simp[A6]))
   ·have Ei:b∈Os γ es:=xS.2 ⟨p,A6,hb⟩
    exact hw b (sOe b Ei) fun h=>n1.2.2 b h b Ei rfl
   ·have Ei:b∈Us β es:=bFU.2 ⟨p,A6,hb⟩
    exact hw b (sUe b Ei) fun h=>n3 b (by simp[h]) b (by simp[Ei]) rfl
def bQG (es:Es) (ks:List (Nat×Ty)):Prop:=∀k∈ks,k.1≠0/\∃a fr,(k.1,Ent.uq k.2 a fr)∈es
def kU (β:Bt) (ks:List (Nat×Ty)):List Nat:=ks.flatMap fun k=>β k.1
theorem aJ4 {β:Bt} (p:Nat×Ent) (es:Es):Us β (p::es)=β p.1++Us β es:=rfl
theorem aGR {γ:Gh} (p:Nat×Ent) (es:Es):Os γ (p::es)=oC γ p++Os γ es:=rfl
theorem bSC {t:Ty} {e:Option Ent} (h:cF2 t e=true):∃a fr,e=some (.uq t a fr):=by
 unfold cF2 at h
 split at h
 ·rename_i u a fr
  simp only[decide_eq_true_eq] at h
  subst h
  exact⟨a,fr,rfl⟩
 ·cases h
theorem bX8:(ks:List (Nat×Ty))->{es:Es}->dB es->(ks.map (·.1)).Nodup->(∀k∈ks,∃a fr,fL es k.1=some (.uq k.2 a fr)) ->
  ∃gone:Es,es.Perm (gone++cV es (ks.map (·.1)))/\(∀γ:Gh,Os γ gone=[])/\∀β:Bt,Us β gone=kU β ks
 | [],es,_,_,_=>⟨[],(by show es.Perm (es.filter fun _=>true);rw[List.filter_eq_self.2 (fun _ _=>rfl)]),fun _=>rfl,fun _=>rfl⟩
 | k::ks,es,hk,hn,h=>by
  obtain⟨a,fr,h1⟩:=h k (by simp)
  obtain⟨p1,p2⟩:=tV hk h1
  have hn':=List.nodup_cons.1 hn
  have hk1:dB (cV es [k.1]):=hk.sub (oP _ _)
  have hl:∀q∈ks,fL (cV es [k.1]) q.1=fL es q.1:=fun q hq=>by
   have hne:q.1≠k.1:=fun he=>hn'.1 (by show k.1∈_;rw[<-he];exact List.mem_map_of_mem hq)
   simp only[fL,cV]
   congr 1
   rw[List.find?_filter]
   congr 1
   funext p
   by_cases hp:p.1=q.1
   ·have:p.1≠k.1:=by rw[hp];exact hne
    simp[hp,this,hne]
   ·simp[hp]
  obtain⟨gone,i1,i2,i3⟩:=bX8 ks hk1 hn'.2 (fun q hq=>by rw[hl q hq];exact h q (by simp[hq]))
  have hd:cV (cV es [k.1]) (ks.map (·.1))=cV es ((k::ks).map (·.1)):=by
   simp only[cV,List.filter_filter,List.map_cons]
   congr 1
   funext p
   simp only[List.contains_cons,List.contains_nil,Bool.or_false,Bool.not_or]
   exact Bool.and_comm _ _
  rw[hd] at i1
  refine⟨(k.1,.uq k.2 a fr)::gone,p1.trans (i1.cons _),fun γ=>?_,fun β=>?_⟩
  ·rw[aGR,i2];rfl
  ·rw[aJ4,i3];rfl
theorem aQH {ks:List (Nat×Ty)} {b:Bool} (hk:dB es) (h:oG es ks=(b,es')) :
  ∃gone:Es,es.Perm (gone++es')/\(∀γ:Gh,Os γ gone=[])/\es'.Sublist es/\(b=true->bQG es ks/\∀β:Bt,Us β gone=kU β ks)/\(b=false->gone=[]):=by
 unfold oG at h
 split at h
 ·rename_i hc
  simp only[nB] at h
  obtain⟨rfl,rfl⟩:=h
  simp only[Bool.and_eq_true,List.all_eq_true,decide_eq_true_eq,bne_iff_ne,ne_eq] at hc
  obtain⟨hc,hn⟩:=hc
  obtain⟨gone,i1,i2,i3⟩:=bX8 ks hk hn (fun k hk'=>bSC (hc k hk').2)
  refine⟨gone,i1,i2,oP _ _,fun _=>⟨fun k hk'=>⟨(hc k hk').1,?_⟩,i3⟩,(fun h=>by cases h)⟩
  obtain⟨a,fr,h1⟩:=bSC (hc k hk').2
  exact⟨a,fr,mN h1⟩
 ·simp only[nB] at h
  obtain⟨rfl,rfl⟩:=h
  exact⟨[],.refl _,fun _=>rfl,.refl _,(fun h=>by cases h),fun _=>rfl⟩
theorem bJ3 {β:Bt} (a b:List (Nat×Ty)):kU β (a++b)=kU β a++kU β b:=by simp[kU]
theorem cJG {G:Nat->Prop}:{t:Ty}->{c1 c2:List Value}->{d:t.D}->{ls rest:List Leaf}->{ks:List (Nat×Ty)}->kS G t w c1 d->bG X γ O env w ls (c1++c2)->aTM t ls=some (ks,rest)->bQG es ks ->
  (∀p∈es,jS X γ β O' env w p.1 p.2)->Un t w c1 d (kU β ks)/\bG X γ O env w rest c2:=by
 intro t
 have flat1:∀(t:Ty) {c1 c2:List Value} {d:t.D} {ls rest:List Leaf} {ks:List (Nat×Ty)},t.flat=true->t.n=1->kS G t w c1 d->bG X γ O env w ls (c1++c2)->(∀l ls',ls=l::ls'->some (([]:List (Nat×Ty)),ls')=some (ks,rest)) ->
   Un t w c1 d (kU β ks)/\bG X γ O env w rest c2:=by
  intro t c1 c2 d ls rest ks hf hn h hl hh
  have hlen:=h.length
  rw[hn] at hlen
  obtain⟨v,rfl⟩:=List.length_eq_one_iff.1 hlen
  cases ls with
  | nil=>have h':[v]++c2=[]:=hl;simp at h'
  | cons l ls =>
   obtain⟨c,cs',hc,h1,h2⟩:=hl
   simp only[List.cons_append,List.nil_append,List.cons.injEq] at hc
   obtain⟨rfl,rfl⟩:=hc
   have:=hh l ls rfl
   simp only[eW,nB] at this
   obtain⟨rfl,rfl⟩:=this
   exact⟨Un.flat hf h,h2⟩
 induction t with
 | int k =>
  intro c1 c2 d ls rest ks h hl ht hk he
  refine flat1 (.int k) rfl rfl h hl (fun l ls' hls=>?_)
  subst hls
  cases l<;>exact ht
 | bool =>
  intro c1 c2 d ls rest ks h hl ht hk he
  refine flat1 .bool rfl rfl h hl (fun l ls' hls=>?_)
  subst hls
  cases l<;>exact ht
 | str =>
  intro c1 c2 d ls rest ks h hl ht hk he
  refine flat1 .str rfl rfl h hl (fun l ls' hls=>?_)
  subst hls
  cases l<;>exact ht
 | slice e t ih =>
  intro c1 c2 d ls rest ks h hl ht hk he
  have hlen:=h.length
  obtain⟨v,rfl⟩:=List.length_eq_one_iff.1 (show c1.length=1 from hlen)
  cases ls with
  | nil=>have h':[v]++c2=[]:=hl;simp at h'
  | cons l ls =>
   obtain⟨c,cs',hc,h1,h2⟩:=hl
   simp only[List.cons_append,List.nil_append,List.cons.injEq] at hc
   obtain⟨rfl,rfl⟩:=hc
   cases l with
   | d a t' fr k =>
    simp only[aTM] at ht
    split at ht
    ·rename_i hty
     subst hty
     simp only[eW,nB] at ht
     obtain⟨rfl,rfl⟩:=ht
     obtain⟨Ch,a',fr',hmem⟩:=hk (k,.slice e t) (by simp)
     obtain⟨e1,v',e2,e3⟩:=he _ hmem
     have hv:=h1.2.2 Ch
     simp only at e2
     rw[e2] at hv
     simp only[eW] at hv
     subst hv
     have hd:d=(a'.val env).as (.slice e t):=kS.det h (Un.rdg _ _ _ _ e3)
     refine⟨?_,h2⟩
     rw[hd]
     simpa [kU] using e3
    ·cases ht
   | nl e' t' =>
    simp only[aTM,eW,nB] at ht
    obtain⟨rfl,rfl⟩:=ht
    obtain⟨p,rfl⟩:=h1
    obtain⟨p',len,cap,hv,hs⟩:=h
    simp only[List.cons.injEq,Value.slice.injEq,and_true] at hv
    obtain⟨rfl,rfl,rfl⟩:=hv
    have:d=[]:=List.eq_nil_of_length_eq_zero hs.1.symm
    exact⟨.inl ⟨p,rfl,this,rfl⟩,h2⟩
   | own r=>simp[aTM] at ht
 | cMV x y ihx ihy =>
  intro c1 c2 d ls rest ks h hl ht hk he
  obtain⟨c3,c4,rfl,h1,h2⟩:=h
  simp only[aTM] at ht
  split at ht
  ·rename_i k1 ls1 ht1
   split at ht
   ·rename_i k2 ls2 ht2
    simp only[eW,nB] at ht
    obtain⟨rfl,rfl⟩:=ht
    rw[List.append_assoc] at hl
    obtain⟨i1,i2⟩:=ihx h1 hl ht1 (fun k hk'=>hk k (by simp[hk'])) he
    obtain⟨j1,j2⟩:=ihy h2 i2 ht2 (fun k hk'=>hk k (by simp[hk'])) he
    exact⟨⟨c3,c4,_,_,rfl,bJ3 _ _,i1,j1⟩,j2⟩
   ·cases ht
  ·cases ht
theorem bUW {G:Nat->Prop} {t:Ty}:(n:Nat)->{l:List t.D}->{cs:List Value}->{ls:List Leaf}->{ks:List (Nat×Ty)}->cs.length=l.length * t.n->(∀k (hk:k<l.length),kS G t w ((cs.drop (k * t.n)).take t.n) l[k]) ->
  bG X γ O env w ls cs->aDT t n ls=some ks->bQG es ks->(∀p∈es,jS X γ β O' env w p.1 p.2)->pC t.n (Un t w) cs l (kU β ks)
 | n,[],cs,ls,ks,hc,hr,hl,ht,hk,he=>by
  have:cs=[]:=List.eq_nil_of_length_eq_zero (by simpa using hc)
  subst this
  cases ls with
  | nil =>
   cases n<;>simp[aDT] at ht<;>subst ht<;>exact⟨rfl,rfl⟩
  | cons l ls=>obtain⟨c,cs',h,_⟩:=hl;cases h
 | n,x::l,cs,ls,ks,hc,hr,hl,ht,hk,he=>by
  have hn:=Ty.n_pos t
  simp only[List.length_cons,Nat.add_mul,Nat.one_mul] at hc
  have h0:=hr 0 (by simp)
  simp only[Nat.zero_mul,List.drop_zero,List.getElem_cons_zero] at h0
  have hcs:cs=cs.take t.n++cs.drop t.n:=(List.take_append_drop _ _).symm
  cases ls with
  | nil =>
   have h':cs=[]:=hl
   subst h'
   simp at hc
   omega
  | cons l0 ls =>
   cases n with
   | zero=>simp[aDT] at ht
   | succ n =>
    simp only[aDT] at ht
    split at ht
    ·rename_i k ls' ht1
     simp only[Option.map_eq_some_iff] at ht
     obtain⟨k2,ht2,rfl⟩:=ht
     rw[hcs] at hl
     obtain⟨i1,i2⟩:=cJG h0 hl ht1 (fun q hq=>hk q (by simp[hq])) he
     refine⟨cs.take t.n,cs.drop t.n,kU β k,kU β k2,by simp;omega,hcs,bJ3 _ _,i1,bUW (G:=G) n (by simp;omega) (fun j hj=>?_) i2 ht2 (fun q hq=>hk q (by simp[hq])) he⟩
     have:=hr (j+1) (by simpa using hj)
     simp only[List.getElem_cons_succ] at this
     rw[List.drop_drop]
     rw[show t.n+j * t.n=(j+1) * t.n by rw[Nat.add_mul];omega]
     exact this
    ·cases ht
end
section
variable {P:Program} {Cs:List Con} {X:Cx} {γ γ':Gh} {β β':Bt} {O O':List Nat} {env:List SV} {w w':World} {es es':Es}
structure Turned (X:Cx) (γ:Gh) (β:Bt) (env:List SV) (w:World) (es es':Es) (nr n:Nat) (s:Sh) (v:Value) (γ':Gh) (β':Bt) (w':World):Prop where
 mem:MemOK X γ' β' env w' es'
 keys:dB es'
 later:Later X γ (Os γ es) env w γ' (Os γ' es') env w'
 frame:FrameOK X w'
 gh:lF γ'
 same:∀r,(r<nr\/n<=r)->γ' r=γ r
 le:nr<=n
 val:bU X γ' (Os γ' es') env w' s v
theorem FrameOK.write (h:FrameOK X w) {b:Nat} {c:Array Value} (hb:X.B<=b\/b∈X.O0):FrameOK X (w.setRow b c) :=
 ⟨h.os,h.tape,h.output,by simpa using h.size,fun k hk hko=>by
  have:k≠b:=fun he=>by
   subst he
   rcases hb with hb|hb
   ·omega
   ·exact hko hb
  rw[setRow_other w b k c this]
  exact h.block k hk hko⟩
theorem FrameOK.more (h:FrameOK X w) {obj:Obj} (hw:OneMore w w' obj):FrameOK X w':=h.grow hw.os hw.tape hw.output (by rw[hw.size];omega) hw.old
theorem aN2 {T T0:TypeId} {b off:Nat} {c:Array Value} {v:Value} (hh:w.heap[b]?=some (.cells c T0 (0,0))) (hi:(P.info? T).map (·.size)=some v.cells.size) (hfit:off+v.cells.size<=c.size) (h1:∀u∈v.cells.toList,u.oneCell'=true) :
  (Instr.storeAt T (.pointer (some ⟨b,off,none⟩)) v).run P w = .ok () (w.setRow b (c.toList.take off++v.cells.toList++c.toList.drop (off+v.cells.size)).toArray):=by
 obtain⟨i,hi1,hi2⟩:=Option.map_eq_some_iff.1 hi
 have hst:=run_storeCells_at P b off T0 v.cells.toList 0 c w hh (by simpa using hfit) h1
 simp only[Nat.add_zero,Array.length_toList] at hst
 simp[Instr.storeAt,Instr.sureAddr,storeVar,sizeOf,typeInfo,hi1,hi2,hst]
theorem cDX (hL:∀p∈es,jS X γ β O' env w p.1 p.2) {l:Leaf} {v:Value} (hl:bI1 es [l]=true) (h:kJ X γ O env w l v):v.oneCell'=true:=by
 cases l with
 | d a t fr k=>exact kS.one h.2.1 v (by simp)
 | nl e t=>obtain⟨p,rfl⟩:=h;rfl
 | own r =>
  simp only[bI1,List.all_cons,List.all_nil,Bool.and_true] at hl
  obtain⟨⟨e,t,a,fr⟩,hs⟩:=Option.isSome_iff_exists.1 hl
  obtain⟨e1,hre,hent⟩:=bCH (X:=X) (γ:=γ) (β:=β) (O:=O') (env:=env) (w:=w) (r:=r) hs
  obtain⟨_,u,g1,g2⟩:=hent (hL _ (mN hre))
  have h':γ r=some v:=h
  rw[g1] at h'
  simp only[eW] at h'
  subst h'
  rcases g2 with⟨p,rfl,_⟩|⟨b,cap,cur,rfl,_⟩<;>rfl
theorem aTZ (hL:∀p∈es,jS X γ β O' env w p.1 p.2):{ls:List Leaf}->{cs:List Value}->bI1 es ls=true->bG X γ O env w ls cs->∀u∈cs,u.oneCell'=true
 | [],_,_,h,u,hu=>by have h':_=[]:=h;subst h';simp at hu
 | l::ls,_,hl,⟨c,cs',hc,h1,h2⟩,u,hu=>by
  subst hc
  simp only[bI1,List.all_cons,Bool.and_eq_true] at hl
  simp only[List.mem_cons] at hu
  rcases hu with rfl|hu
  ·exact cDX hL (by simp only[bI1,List.all_cons,List.all_nil,Bool.and_true];exact hl.1) h1
  ·exact aTZ hL hl.2 h2 u hu
theorem aSC {T:TypeId} {n:Nat} (h:n=P.cellsOf T) (h0:0<n):(P.info? T).map (·.size)=some n:=by
 unfold Program.cellsOf at h
 cases hi:(P.info? T).map (·.size) with
 | none=>rw[hi] at h;simp at h;omega
 | some m=>rw[hi] at h;simp at h;rw[h]
theorem aNV:(ls:List Leaf)->(nr:Nat)->(cG ls nr).2.2=nr+(cG ls nr).2.1.length/\(∀p∈(cG ls nr).2.1,nr<=p.1/\p.1<nr+(cG ls nr).2.1.length)/\((cG ls nr).2.1.map (·.1)).Nodup
 | [],nr=>⟨rfl,fun p hp=>by simp[cG] at hp,by simp[cG]⟩
 | l::ls,nr=>by
  by_cases hn:∃e t,l = .nl e t
  ·obtain⟨e,t,rfl⟩:=hn
   obtain⟨i1,i2,i3⟩:=aNV ls (nr+1)
   have he:cG (.nl e t::ls) nr=(.own nr::(cG ls (nr+1)).1,(nr,.sl e t (.nl e t) true true)::(cG ls (nr+1)).2.1,(cG ls (nr+1)).2.2):=rfl
   rw[he]
   simp only[List.length_cons,List.map_cons,List.mem_cons]
   refine⟨by rw[i1];omega,fun p hp=>?_,List.nodup_cons.2 ⟨fun h=>?_,i3⟩⟩
   ·rcases hp with rfl|hp
    ·simp only;omega
    ·have:=i2 p hp;omega
   ·simp only[List.mem_map] at h
    obtain⟨p,hp,he⟩:=h
    have:=i2 p hp
    omega
  ·have plain:cG (l::ls) nr=(l::(cG ls nr).1,(cG ls nr).2.1,(cG ls nr).2.2):=by
    cases l with
    | nl e t=>exact absurd ⟨e,t,rfl⟩ hn
    | _=>rfl
   rw[plain]
   exact aNV ls nr
theorem bKN {new:Es} (h:∀p∈new,(∃q,γ p.1=some (.slice q 0 0))/\∃e t,p.2 = .sl e t (.nl e t) true true) (hβ:∀p∈new,β p.1=[]):Os γ new=[]/\Us β new=[]:=by
 constructor
 ·rw[List.eq_nil_iff_forall_not_mem]
  intro b hb
  obtain⟨p,hp,hb⟩:=xS.1 hb
  obtain⟨⟨q,hq⟩,e,t,he⟩:=h p hp
  obtain⟨r,en⟩:=p
  simp only at hq he
  subst he
  simp only[oC,hq] at hb
  cases q<;>simp[lY] at hb
 ·rw[List.eq_nil_iff_forall_not_mem]
  intro b hb
  obtain⟨p,hp,hb⟩:=bFU.1 hb
  rw[hβ p hp] at hb
  cases hb
variable {wr:Bool} {D:List Nat} {nx nr n:Nat} {ls:List Let} {s:Sh} {new:Es} {ρ:Operand->Value} {sh:Operand->Sh} {o:Oper} {lk:Lk}
theorem bOG (hm:MemOK X γ β env w es) (hk:dB es) (hf:FrameOK X w) (hg:lF γ) {T T0:TypeId} {x v:Operand} {r off:Nat} {l0 ls0:List Leaf} (hop:o.op = .store T x v)
  (hx:bU X γ (Os γ es) env w (.pbox r off) (ρ x)) (hv:bG X γ (Os γ es) env w l0 (ρ v).cells.toList) (hlen:l0.length=P.cellsOf T/\0<l0.length/\bI1 es l0=true)
  (hr:fL es r=some (.box T0 ls0)) (hoff:off+l0.length<=ls0.length) (Aa:∀q,nr<=q->q<(cG l0 nr).2.2->γ q=none) :
  aFA P ρ o w fun u w'=>∃γ' β',Turned X γ β env w es ((cG l0 nr).2.1++tE es r (.box T0 (aD3 ls0 off (cG l0 nr).1))) nr (cG l0 nr).2.2 .no u γ' β' w':=by
 have hmem:=mN hr
 obtain⟨b,c,hb,hh,hls,hβ⟩:=hm.ent _ hmem
 simp only at hb
 obtain⟨b',hb',hxv⟩:=hx
 rw[hb] at hb'
 simp only[eW,Value.pointer.injEq,Addr.mk.injEq,and_true] at hb'
 subst hb'
 have hone:=aTZ hm.ent hlen.2.2 hv
 have hl0:=mC hv
 have hlc:=mC hls
 simp only[Array.length_toList] at hl0 hlc
 have hinfo:(P.info? T).map (·.size)=some (ρ v).cells.size:=by rw[hl0];exact aSC hlen.1 hlen.2.1
 have hrun:=aN2 (P:=P) (T:=T) hh hinfo (off:=off) (by omega) hone
 obtain⟨k1,k2,k3⟩:=aNV l0 nr
 rw[k1] at Aa⊢
 obtain⟨q1,q2,γ',q3,q4,q5,q6,q7⟩:=aMP l0 (nr:=nr) (γ:=γ) hg hv Aa
 obtain⟨p1,p2⟩:=tV hk hr
 have p3:=aDX (e':=.box T0 (aD3 ls0 off (cG l0 nr).1)) hk hr
 obtain⟨As,A0⟩:=hm.perm p1.symm
 let β':Bt:=fun q=>if nr<=q/\q<nr+(cG l0 nr).2.1.length then [] else β q
 have hold:∀p∈es,¬(nr<=p.1/\p.1<nr+(cG l0 nr).2.1.length):=fun p hp hh=>by
  obtain⟨v,hv⟩:=(hm.ent p hp).gh
  rw[Aa p.1 hh.1 hh.2] at hv;cases hv
 have hβo:∀p∈es,β' p.1=β p.1:=fun p hp=>by simp only[β'];rw[if_neg (hold p hp)]
 have hbr:β' r=[]:=by rw[hβo _ hmem];exact hβ
 have hgr:γ' r=some (.pointer (some ⟨b,0,none⟩)):=q4 _ _ hb
 obtain⟨z1,z2⟩:=bKN q7 (β:=β') (fun p hp=>by have:=q2 p hp;simp only[β'];rw[if_pos (by omega)])
 have Ck:Os γ [(r,Ent.box T0 ls0)]=[b]:=by simp[Os,oC,hb,lY]
 have Av:Os γ' ((cG l0 nr).2.1++[(r,Ent.box T0 (aD3 ls0 off (cG l0 nr).1))])=[b]:=by
  rw[fJ,z1];simp[Os,oC,hgr,lY]
 have A2:Us β' ((cG l0 nr).2.1++[(r,Ent.box T0 (aD3 ls0 off (cG l0 nr).1))])=[]:=by
  rw[iJ,z2];simp[Us,hbr]
 have hbs:=hm.at' b (xS.2 ⟨_,hmem,by simp[oC,hb,lY]⟩)
 let c':Array Value:=(c.toList.take off++(ρ v).cells.toList++c.toList.drop (off+(ρ v).cells.size)).toArray
 have hh':(w.setRow b c').heap[b]?=some (.cells c' T0 (0,0)):=setRow_heap w b c c' T0 (0,0) hh
 have hdel:∀p∈cV es [r],p∈es:=fun p hp=>(oP es [r]).subset hp
 obtain⟨t1,t2⟩:=MemOK.turn (γ':=γ') (β':=β') (w':=w.setRow b c') (old:=[(r,Ent.box T0 ls0)]) (es:=cV es [r]) (new:=(cG l0 nr).2.1++[(r,Ent.box T0 (aD3 ls0 off (cG l0 nr).1))]) As hf.B_le
  (fun k hk' hko=>setRow_other w b k c' (fun he=>hko (by rw[Ck];simp[he]))) (by simp) q4 (fun p hp=>hβo p (hdel p hp)) (by rw[Av,A2];simp) (fun k hk'=>by rw[Av] at hk';rw[Ck];exact .inl hk') (fun k hk'=>by rw[A2] at hk';simp at hk') (fun hlat p hp=>by
   rw[List.mem_append,List.mem_singleton] at hp
   rcases hp with hp|rfl
   ·obtain⟨⟨q,hq⟩,e,t,he⟩:=q7 p hp
    have:=q2 p hp
    obtain⟨p1,en⟩:=p
    simp only at hq he this⊢
    subst he
    exact bNT hq (by simp only[β'];rw[if_pos (by omega)])
   ·refine⟨b,c',hgr,hh',?_,hbr⟩
    have Cq:Later X γ' (Os γ es) env w γ' (Os γ' ((cG l0 nr).2.1++[(r,Ent.box T0 (aD3 ls0 off (cG l0 nr).1))]++cV es [r])) env (w.setRow b c'):=⟨fun _ _ h=>h,⟨[],by simp⟩,by simp,fun k h1 h2 h3=>(A0.trans hlat).block k h1 h2 h3⟩
    have Fg:Later X γ (Os γ es) env w γ' (Os γ es) env w:=⟨q4,⟨[],by simp⟩,Nat.le_refl _,fun b _ h _=>⟨rfl,h⟩⟩
    have:=aEN (off:=off) (bG.later Fg hls) q6
    have e:c'.toList=c.toList.take off++((ρ v).cells.toList++c.toList.drop (off+(ρ v).cells.toList.length)):=by simp[c',List.append_assoc]
    rw[e]
    exact bG.later Cq this)
 have pp:((cG l0 nr).2.1++tE es r (.box T0 (aD3 ls0 off (cG l0 nr).1))).Perm ((cG l0 nr).2.1++[(r,Ent.box T0 (aD3 ls0 off (cG l0 nr).1))]++cV es [r]):=by
  rw[List.append_assoc]
  exact p3.append_left _
 obtain⟨m1,m2⟩:=t1.perm pp
 refine .inr (.inl ⟨w.setRow b c',?_,γ',β',⟨m1,?_,(A0.trans t2).trans m2,hf.write hbs.2.1,q3,fun q hq=>q5 q hq,Nat.le_add_right _ _,trivial⟩⟩)
 ·rw[<-hxv] at hrun
  simp only[execOp,hop,Sem.run_bind]
  rw[hrun]
  simp[c']
 ·unfold dB
  rw[List.map_append,aI5,List.nodup_append]
  refine⟨k3,hk,fun x hx y hy he=>?_⟩
  subst he
  simp only[List.mem_map] at hx hy
  obtain⟨p,hp,rfl⟩:=hx
  obtain⟨q,hq,he⟩:=hy
  exact hold q hq (by rw[he];exact k2 p hp)
end
section
variable {P:Program} {Cs:List Con} {X:Cx} {γ γ':Gh} {β β':Bt} {O O':List Nat} {env:List SV} {w w':World} {es es':Es}
theorem bHY:{es:Es}->dB es->{r:Nat}->{e:Ent}->(r,e)∈es->fL es r=some e
 | p::es,hk,r,e,h=>by
  simp only[List.mem_cons] at h
  rcases h with rfl|h
  ·simp[fL]
  ·have hne:p.1≠r:=fun he=>(List.nodup_cons.1 hk).1 (by show p.1∈_;rw[he];exact List.mem_map_of_mem (f:=(·.1)) h)
   have:=bHY (List.nodup_cons.1 hk).2 h
   simp only[fL,List.find?_cons] at this⊢
   rw[show(p.1==r)=false by simpa using hne]
   exact this
def cJ6 (es:Es) (ks:List (Nat×Ty)) (b:Bool) (es2:Es):Prop :=
 ∃gone:Es,es.Perm (gone++es2)/\(∀γ:Gh,Os γ gone=[])/\es2.Sublist es/\(b=true->bQG es ks/\∀β:Bt,Us β gone=kU β ks)/\(b=false->gone=[])
theorem bR0 {ks:List (Nat×Ty)} {uq b:Bool} {es2:Es} (hk:dB es) (h:(if uq then oG es ks else(false,es))=(b,es2)):cJ6 es ks b es2/\(b=true->uq=true):=by
 cases uq with
 | true=>exact⟨aQH hk h,fun _=>rfl⟩
 | false =>
  simp only[Bool.false_eq_true,if_false,nB] at h
  obtain⟨rfl,rfl⟩:=h
  exact⟨⟨[],.refl _,fun _=>rfl,.refl _,(fun h=>by cases h),fun _=>rfl⟩,fun h=>by cases h⟩
theorem bWQ {gone:Es} (h:∀γ:Gh,Os γ gone=[]) {p:Nat×Ent} (hp:p∈gone):∃t a fr,p.2 = .uq t a fr:=by
 obtain⟨r,e⟩:=p
 have h1:=h (fun _=>some (.slice (some ⟨0,0,none⟩) 1 1))
 rw[List.eq_nil_iff_forall_not_mem] at h1
 cases e with
 | uq t a fr=>exact⟨t,a,fr,rfl⟩
 | _=>exact absurd (xS.2 ⟨_,hp,by simp[oC,lY]⟩) (h1 0)
theorem bZ2 {n i len:Nat} {cur c':List Value} (hl:c'.length=n) (hi:i<len) (hc:len * n<=cur.length) (k:Nat) (hk:k<len) :
  ((cur.take (i * n)++(c'++cur.drop ((i+1) * n))).drop (k * n)).take n=if k=i then c' else(cur.drop (k * n)).take n:=by
 have hin:(i+1) * n<=len * n:=Nat.mul_le_mul_right _ hi
 have hkn:(k+1) * n<=len * n:=Nat.mul_le_mul_right _ hk
 rw[Nat.add_mul,Nat.one_mul] at hin hkn
 have e1:(cur.take (i * n)).length=i * n:=by simp;omega
 split
 ·rename_i h
  subst h
  rw[List.drop_left' e1]
  exact List.take_left' hl
 ·rename_i h
  by_cases hlt:k<i
  ·have h2:(k+1) * n<=i * n:=Nat.mul_le_mul_right _ hlt
   rw[Nat.add_mul,Nat.one_mul] at h2
   rw[List.drop_append_of_le_length (by omega),List.take_append_of_le_length (by simp;omega),List.drop_take,List.take_take,Nat.min_eq_left (by omega)]
  ·have h2:(i+1) * n<=k * n:=Nat.mul_le_mul_right _ (by omega)
   have h3:(i+1) * n=i * n+n:=by rw[Nat.add_mul,Nat.one_mul]
   rw[<-List.append_assoc,List.drop_append,List.drop_of_length_le (by rw[List.length_append,e1,hl];omega),List.nil_append,List.length_append,e1,hl,List.drop_drop,h3]
   congr 2
   omega
theorem bVH {A B C:List Value} {n m:Nat} (h:n=A.length+(B.length+m)):(A++(B++C)).take n=A++(B++C.take m):=by
 subst h
 rw[List.take_length_add_append,List.take_length_add_append]
variable {wr:Bool} {D:List Nat} {nx nr n:Nat} {ls:List Let} {s:Sh} {new:Es} {ρ:Operand->Value} {sh:Operand->Sh} {o:Oper} {lk:Lk}
theorem aX4 (hm:MemOK X γ β env w es) (hk:dB es) (hf:FrameOK X w) (hg:lF γ) {T e:TypeId} {x v:Operand} {r off:Nat} {t:Ty} {ix a a2:Ar} {fr f uq b2:Bool} {ks:List (Nat×Ty)} {es2:Es} (hop:o.op = .store T x v)
  (hx:bU X γ (Os γ es) env w (.pelem r e t ix off) (ρ x)) (hinfo:(P.info? T).map (·.size)=some (ρ v).cells.size) (hone:∀u∈(ρ v).cells.toList,u.oneCell'=true) (hoff:off+(ρ v).cells.size<=t.n)
  (hr:fL es r=some (.sl e t a fr uq)) (hk2:cJ6 es ks b2 es2) (Mh:b2=true->uq=true) (x':t.D)
  (hnew:∀c:List Value,kS (Gd X (Os γ es) w fr) t w c (((a.val env).as (.slice e t)).getD ((ix.val env).as tI).toNat (aK t))->kS (Gd X (Os γ es) w f) t w (c.take off++((ρ v).cells.toList++c.drop (off+(ρ v).cells.size))) x' /\
   (b2=true->Un t w (c.take off++((ρ v).cells.toList++c.drop (off+(ρ v).cells.size))) x' (kU β ks)))
  (ha2:a2.bd env.length=true) (hd2:(a2.val env).as (.slice e t)=((a.val env).as (.slice e t)).set ((ix.val env).as tI).toNat x') :
  aFA P ρ o w fun u w'=>∃γ' β',Turned X γ β env w es (tE es2 r (.sl e t a2 ((fr&&f)||t.flat) b2)) nr nr .no u γ' β' w':=by
 have hmem:=mN hr
 obtain⟨ha,Z,Ey,hrow,E3,M6⟩:=hm.ent _ hmem
 simp only at Ey
 obtain⟨_,b,len,cap,hb,hi0,hi1,hxv⟩:=hx
 rw[Ey] at hb
 simp only[eW] at hb
 subst hb
 obtain⟨ll,hll⟩:∃ll:List t.D,(a.val env).as (.slice e t)=ll:=⟨_,rfl⟩
 obtain⟨z,hz⟩:∃z:Int,(ix.val env).as tI=z:=⟨_,rfl⟩
 rw[hz] at hi0 hi1 hxv hd2
 rw[hll] at hrow E3 hd2
 rw[hz,hll] at hnew
 obtain⟨i,rfl⟩:∃i:Nat,z=(i:Int):=⟨z.toNat,(Int.toNat_of_nonneg hi0).symm⟩
 simp only[Int.toNat_natCast] at hxv hd2 hnew
 rcases hrow with⟨p,h1,rfl⟩|⟨b',cap',cur,h1,hc0,hh,h2,h3,h4,h5⟩
 ·simp only[Value.slice.injEq] at h1
  have:(i:Int)<((0:Nat):Int):=by rw[<-h1.2.1];exact hi1
  omega
 ·simp only[Value.slice.injEq,eW,Addr.mk.injEq,and_true] at h1
  obtain⟨rfl,rfl,rfl⟩:=h1
  have hi:i<ll.length:=by
   have:(i:Int)<(ll.length:Int):=hi1
   omega
  have hn:=Ty.n_pos t
  have hle:ll.length * t.n<=cap * t.n:=Nat.mul_le_mul_right _ h2
  have hin:(i+1) * t.n<=ll.length * t.n:=Nat.mul_le_mul_right _ hi
  have Fi:(i+1) * t.n=i * t.n+t.n:=by rw[Nat.add_mul,Nat.one_mul]
  obtain⟨c,Io⟩:∃c,(cur.toList.drop (i * t.n)).take t.n=c:=⟨_,rfl⟩
  have hcr:=h5 i hi
  rw[Io] at hcr
  have hcl:c.length=t.n:=hcr.length
  obtain⟨n1,n2⟩:=hnew c (by rw[List.getD_eq_getElem?_getD,List.getElem?_eq_getElem hi];exact hcr)
  obtain⟨vs,hvs⟩:∃vs,(ρ v).cells.toList=vs:=⟨_,rfl⟩
  have hvl:(ρ v).cells.size=vs.length:=by rw[<-hvs];simp
  rw[hvs,hvl] at n1 n2
  rw[hvl] at hoff
  have Cy:(c.take off++(vs++c.drop (off+vs.length))).length=t.n:=n1.length
  have hrun:=aN2 (P:=P) (T:=T) hh hinfo (off:=i * t.n+off) (by rw[h4,hvl];omega) hone
  have Ee:cur.toList.take (i * t.n+off)++vs++cur.toList.drop (i * t.n+off+vs.length)=cur.toList.take (i * t.n)++((c.take off++(vs++c.drop (off+vs.length)))++cur.toList.drop ((i+1) * t.n)):=by
   have e1:cur.toList.take (i * t.n+off)=cur.toList.take (i * t.n)++c.take off:=by
    rw[<-Io,List.take_take,Nat.min_eq_left (by omega),List.take_add]
   have e2:cur.toList.drop (i * t.n+off+vs.length)=c.drop (off+vs.length)++cur.toList.drop ((i+1) * t.n):=by
    rw[<-Io,List.drop_take,List.drop_drop,Fi,<-List.drop_drop (i:=t.n)]
    have:(cur.toList.drop (i * t.n)).drop t.n=((cur.toList.drop (i * t.n+(off+vs.length))).drop (t.n - (off+vs.length))):=by
     rw[List.drop_drop,List.drop_drop]
     congr 1
     omega
    rw[this,List.take_append_drop,Nat.add_assoc]
   rw[e1,e2]
   simp only[List.append_assoc]
  obtain⟨cur',Bz⟩:∃cur':Array Value,cur'.toList=cur.toList.take (i * t.n)++((c.take off++(vs++c.drop (off+vs.length)))++cur.toList.drop ((i+1) * t.n)):=⟨(cur.toList.take (i * t.n)++((c.take off++(vs++c.drop (off+vs.length)))++cur.toList.drop ((i+1) * t.n))).toArray,rfl⟩
  have hrun':(Instr.storeAt T (ρ x) (ρ v)).run P w = .ok () (w.setRow b cur'):=by
   rw[hxv,hrun]
   congr 2
   apply Array.ext'
   rw[Bz]
   simp only[hvs,hvl]
   exact Ee
  have hsz':cur'.size=cap * t.n:=by
   rw[<-Array.length_toList,Bz]
   simp only[List.length_append,Cy,List.length_take,List.length_drop,Array.length_toList,h4]
   simp only[List.length_append,List.length_take,List.length_drop] at Cy
   omega
  have hh':(w.setRow b cur').heap[b]?=some (.cells cur' e (0,0)):=setRow_heap w b cur cur' e (0,0) hh
  have hcell:∀k (hk:k<ll.length),(cur'.toList.drop (k * t.n)).take t.n=if k=i then c.take off++(vs++c.drop (off+vs.length)) else(cur.toList.drop (k * t.n)).take t.n:=fun k hk=>by
   rw[Bz]
   exact bZ2 Cy hi (by simp[h4];exact hle) k hk
  have Gc:oC γ (r,Ent.sl e t a fr uq)=[b]:=by
   have:cap≠0:=by omega
   simp[oC,Ey,lY,this]
  obtain⟨gone,g1,g2,g3,g4,g5⟩:=hk2
  have Db:dB es2:=hk.sub g3
  have hr2:(r,Ent.sl e t a fr uq)∈es2:=by
   have:=(g1.mem_iff).1 hmem
   rw[List.mem_append] at this
   rcases this with h|h
   ·obtain⟨_,_,_,h'⟩:=bWQ g2 h
    cases h'
   ·exact h
  have hl2:=bHY Db hr2
  obtain⟨p1,p2⟩:=tV Db hl2
  have p3:=aDX (e':=.sl e t a2 ((fr&&f)||t.flat) b2) Db hl2
  have pe:((r,Ent.sl e t a fr uq)::gone++cV es2 [r]).Perm es:=by
   refine List.Perm.symm (g1.trans ?_)
   refine(p1.append_left gone).trans ?_
   rw[List.cons_append]
   exact List.perm_middle
  obtain⟨As,A0⟩:=hm.perm pe
  have Ck:Os γ ((r,Ent.sl e t a fr uq)::gone)=[b]:=by rw[aGR,g2,Gc];rfl
  have Bj:Us β ((r,Ent.sl e t a fr uq)::gone)=β r++Us β gone:=rfl
  have hnd:=As.nd
  rw[fJ,iJ,Ck,Bj] at hnd
  obtain⟨bl,It,Is,Mp⟩:∃bl:List Nat,(b2=true->pC t.n (Un t w) (cur'.toList.take (ll.length * t.n)) (ll.set i x') bl)/\(b2=false->bl=[])/\(bl.Nodup/\b ∉ bl/\∀q∈bl,q∈β r++Us β gone):=by
   cases hb2:b2 with
   | false=>exact⟨[],(fun h=>by cases h),(fun _=>rfl),List.nodup_nil,(fun h=>by cases h),fun q hq=>by cases hq⟩
   | true =>
    obtain⟨_,gU⟩:=g4 hb2
    rcases E3 (Mh hb2) with⟨p,h6,_⟩|⟨b',n',cap',cur0,h6,_,h7,h8⟩
    ·simp only[Value.slice.injEq] at h6
     omega
    ·simp only[Value.slice.injEq,eW,Addr.mk.injEq,and_true] at h6
     obtain⟨rfl,rfl,rfl⟩:=h6
     rw[hh] at h7
     simp only[eW,Obj.cells.injEq,and_true] at h7
     subst h7
     obtain⟨xs1,c0,xs2,d1,dk,d2,he,hl,F1,Il,r1,r2,r3⟩:=h8.split i hi
     have C9:((b::[])++(β r++kU β ks)).Nodup:=by
      rw[gU] at hnd
      exact hnd.sublist ((List.Sublist.append (List.sublist_append_left _ _) (List.sublist_append_left _ _)))
     have Ha:xs1=cur.toList.take (i * t.n):=by
      have:=congrArg (List.take (i * t.n)) he
      rw[List.take_take,Nat.min_eq_left (by omega),List.take_left' hl] at this
      exact this.symm
     have G9:xs2=(cur.toList.take (ll.length * t.n)).drop ((i+1) * t.n):=by
      have:=congrArg (List.drop ((i+1) * t.n)) he
      rw[<-List.append_assoc,List.drop_left' (by rw[List.length_append,hl,F1,Fi])] at this
      exact this.symm
     refine⟨d1++(kU β ks++d2),fun _=>?_,(fun h=>by cases h),?_⟩
     ·have hj:=pC.join (R:=Un t w) hi Cy r1 (n2 hb2) r3
      have:cur'.toList.take (ll.length * t.n)=xs1++((c.take off++(vs++c.drop (off+vs.length)))++xs2):=by
       rw[Bz,Ha,G9,List.drop_take]
       have e3:(cur.toList.take (i * t.n)).length=i * t.n:=List.length_take_of_le (by rw[Array.length_toList,h4];omega)
       exact bVH (by rw[e3,Cy];omega)
      rw[this]
      exact hj
     ·rw[Il] at C9
      have hsub:(b::(d1++(kU β ks++d2))).Nodup:=by
       refine List.Nodup.sublist (l₂:=b::(d1++(kU β ks++(dk++d2)))) ?_ ?_
       ·exact .cons_cons _ ((List.Sublist.refl _).append ((List.Sublist.refl _).append (List.sublist_append_right _ _)))
       ·refine(List.Perm.nodup_iff ?_).1 C9
        simp only[List.cons_append,List.nil_append,List.append_assoc]
        refine List.Perm.cons _ (List.Perm.append_left _ ?_)
        rw[<-List.append_assoc]
        exact List.perm_append_comm
      have:=List.nodup_cons.1 hsub
      refine⟨this.2,this.1,fun q hq=>?_⟩
      rw[Il,gU]
      simp only[List.mem_append] at hq⊢
      rcases hq with hq|hq|hq
      ·exact .inl (.inl hq)
      ·exact .inr hq
      ·exact .inl (.inr (.inr hq))
  have Av:Os γ [(r,Ent.sl e t a2 ((fr&&f)||t.flat) b2)]=[b]:=by
   have:cap≠0:=by omega
   simp[Os,oC,Ey,lY,this]
  have A2:Us (β.upd r bl) [(r,Ent.sl e t a2 ((fr&&f)||t.flat) b2)]=bl:=by simp[Us,Bt.upd]
  obtain⟨t1,t2⟩:=MemOK.turn (γ':=γ) (β':=β.upd r bl) (w':=w.setRow b cur') (old:=(r,Ent.sl e t a fr uq)::gone) (es:=cV es2 [r]) (new:=[(r,Ent.sl e t a2 ((fr&&f)||t.flat) b2)]) As hf.B_le
   (fun k hk' hko=>setRow_other w b k cur' (fun he=>hko (by rw[Ck];simp[he]))) (by simp) (fun _ _ h=>h) (fun p hp=>by simp[Bt.upd,p2 p hp]) (by rw[Av,A2];simp only[List.cons_append,List.nil_append,List.nodup_cons];exact⟨Mp.2.1,Mp.1⟩)
   (fun k hk'=>by rw[Av] at hk';rw[Ck];exact .inl hk') (fun k hk'=>by
    rw[A2] at hk'
    rw[Bj]
    exact .inr (.inl (Mp.2.2 k hk'))) (fun hlat p hp=>by
    simp only[List.mem_singleton] at hp
    subst hp
    have Fh:=A0.trans hlat
    have Ab:(ll.set i x').length=ll.length:=by simp
    refine⟨ha2,_,Ey,?_,fun hu=>?_,fun hu=>?_⟩
    ·rw[hd2]
     refine .inr ⟨b,cap,cur',by rw[Ab],hc0,hh',by rw[Ab];exact h2,h3,hsz',fun k hk'=>?_⟩
     rw[Ab] at hk'
     rw[hcell k hk',List.getElem_set]
     by_cases H6:k=i
     ·subst H6
      simp only[if_true]
      cases hfl:t.flat
      ·exact(Fh.rdg n1).mono (fun b hb=>hb.mono (fun h=>by simp at h;exact h.2)) (fun _ _=>rfl)
      ·exact(Fh.rdg n1).flat hfl
     ·rw[if_neg H6,if_neg (fun h=>H6 h.symm)]
      cases hfl:t.flat
      ·exact(Fh.rdg (h5 k hk')).mono (fun b hb=>hb.mono (fun h=>by simp at h;exact h.1)) (fun _ _=>rfl)
      ·exact(Fh.rdg (h5 k hk')).flat hfl
    ·rw[hd2]
     refine .inr ⟨b,_,cap,cur',rfl,hc0,hh',?_⟩
     rw[Ab]
     have:=It hu
     simp only[Bt.upd,if_true]
     refine this.mono (fun c x b' hb' hx=>Un.keep _ _ _ _ (fun q hq=>setRow_other w b q cur' (fun he=>?_)) hx)
     exact Mp.2.1 (by rw[<-he];exact hb' q hq)
    ·simp only[Bt.upd,if_true]
     exact Is hu)
  have hbs:=hm.at' b (xS.2 ⟨_,hmem,by rw[Gc];simp⟩)
  obtain⟨m1,m2⟩:=t1.perm p3
  refine .inr (.inl ⟨w.setRow b cur',?_,γ,β.upd r bl,⟨m1,?_,(A0.trans t2).trans m2,hf.write hbs.2.1,hg,fun _ _=>rfl,Nat.le_refl _,trivial⟩⟩)
  ·simp only[execOp,hop,Sem.run_bind]
   rw[hrun']
   simp
  ·unfold dB
   rw[aI5]
   exact Db
end
section
variable {P:Program} {Cs:List Con} {X:Cx} {γ γ':Gh} {β β':Bt} {O O':List Nat} {env:List SV} {w w':World} {es es':Es}
theorem aM3:(t:Ty)->{ls:List Leaf}->{a:Ar}->{f:Bool}->{ks:List (Nat×Ty)}->{rest:List Leaf}->fZ (fun _=>none) t ls=some (a,f,ks,rest)->aTM t ls=some (ks,rest)
 | .cMV x y,ls,a,f,ks,rest,h=>by
  simp only[fZ] at h
  split at h
  ·rename_i a1 f1 k1 ls1 h1
   split at h
   ·rename_i a2 f2 k2 ls2 h2
    simp only[eW,nB] at h
    obtain⟨rfl,rfl,rfl,rfl⟩:=h
    simp only[aTM,aM3 x h1,aM3 y h2]
   ·cases h
  ·cases h
 | .slice e t,[],a,f,ks,rest,h=>by simp[fZ] at h
 | .slice e t,.d b t' fr k::ls,a,f,ks,rest,h=>by
  simp only[fZ] at h
  split at h
  ·rename_i ht
   subst ht
   simp only[eW,nB,bC1,if_true] at h
   obtain⟨rfl,rfl,rfl,rfl⟩:=h
   simp[aTM]
  ·cases h
 | .slice e t,.nl e' t'::ls,a,f,ks,rest,h=>by
  simp only[fZ] at h
  split at h
  ·simp only[eW,nB] at h
   obtain⟨rfl,rfl,rfl,rfl⟩:=h
   simp[aTM]
  ·cases h
 | .slice e t,.own r::ls,a,f,ks,rest,h=>by simp[fZ] at h
 | .int k,ls,a,f,ks,rest,h=>by
  rcases ls with _|⟨_|_|_,ls⟩<;>simp[fZ,bC1] at h<;>simp_all[aTM]
 | .bool,ls,a,f,ks,rest,h=>by
  rcases ls with _|⟨_|_|_,ls⟩<;>simp[fZ,bC1] at h<;>simp_all[aTM]
 | .str,ls,a,f,ks,rest,h=>by
  rcases ls with _|⟨_|_|_,ls⟩<;>simp[fZ,bC1] at h<;>simp_all[aTM]
theorem aZK (hL:∀p∈es,jS X γ β O' env w p.1 p.2) {t:Ty} {ls:List Leaf} {cs:List Value} {a:Ar} {f:Bool} {ks:List (Nat×Ty)} (hl:bG X γ O env w ls cs) (h:fZ (fun _=>none) t ls=some (a,f,ks,[])) :
  a.bd env.length=true/\kS (Gd X O w f) t w cs ((a.val env).as t)/\(bQG es ks->Un t w cs ((a.val env).as t) (kU β ks)):=by
 obtain⟨c1,c2,rfl,g1,g2,g3⟩:=aGF t hl h
 have h2:c2=[]:=g3
 subst h2
 rw[List.append_nil] at hl⊢
 refine⟨g1,g2,fun hk=>?_⟩
 exact(cJG (c2:=[]) g2 (by rw[List.append_nil];exact hl) (aM3 t h) hk hL).1
variable {wr:Bool} {D:List Nat} {nx nr n:Nat} {ls:List Let} {s:Sh} {new:Es} {ρ:Operand->Value} {sh:Operand->Sh} {o:Oper} {lk:Lk}
theorem bUN (hm:MemOK X γ β env w es) (hk:dB es) (hf:FrameOK X w) (hg:lF γ) (hs:∀x,bU X γ (Os γ es) env w (sh x) (ρ x)) {T:TypeId} {x v:Operand} (hop:o.op = .store T x v)
  (h:aP2 P Cs o sh es nx nr=some (ls,s,es',n)) (hl:iV Cs env nx ls) (Aa:∀r,nr<=r->r<n->γ r=none) :
  aFA P ρ o w fun u w'=>∃γ' β',Turned X γ β env w es es' nr n s u γ' β' w':=by
 have hx:=hs x
 have hv:=hs v
 simp only[aP2,hop] at h
 split at h
 ·rename_i s' hc
  split at h
  ·rename_i l0 hl0
   have hlv:=aQE hg hl0 (aKN hc hv)
   have hlen:=mC hlv
   simp only[Array.length_toList] at hlen
   split at h
   ·rename_i hcond
    have hinfo:(P.info? T).map (·.size)=some (ρ v).cells.size:=by rw[hlen];exact aSC hcond.1 hcond.2.1
    have hone:=aTZ hm.ent hcond.2.2 hlv
    split at h
    ·rename_i r off hsx
     rw[hsx] at hx
     split at h
     ·rename_i T0 ls0 hr
      split at h
      ·rename_i hoff
       simp only[eW,nB] at h
       obtain⟨rfl,rfl,rfl,rfl⟩:=h
       exact bOG hm hk hf hg hop hx hlv hcond hr hoff Aa
      ·cases h
     ·cases h
    ·rename_i r e t ix off hsx
     rw[hsx] at hx
     split at h
     ·rename_i e' t' a fr uq hr
      split at h
      ·rename_i hty
       obtain⟨rfl,rfl,hoff⟩:=hty
       obtain⟨ha,_⟩:=hm.ent _ (mN hr)
       split at h
       ·rename_i M5
        split at h
        ·rename_i b f ks hi
         simp only[eW,nB] at h
         obtain⟨rfl,rfl,rfl,rfl⟩:=h
         obtain⟨k1,k2⟩:=bR0 (b:=(if uq then oG es ks else(false,es)).1) (es2:=(if uq then oG es ks else(false,es)).2) hk rfl
         obtain⟨l1,l2,l3,l4,_⟩:=gC hl
         obtain⟨g1,g2,g3⟩:=aZK hm.ent hlv hi
         refine aX4 hm hk hf hg hop hx hinfo hone (by rw[hlen];exact hoff) hr k1 k2 (f:=f) ((b.val env).as t') (fun c hc=>?_) (aF7 l4) ?_
         ·have e1:c.take off++((ρ v).cells.toList++c.drop (off+(ρ v).cells.size))=(ρ v).cells.toList:=by
           have:off=0:=by omega
           subst this
           rw[List.take_zero,List.nil_append,List.drop_of_length_le (by rw[hc.length,hlen];omega),List.append_nil]
          rw[e1]
          refine⟨g2,fun hb=>g3 ?_⟩
          obtain⟨_,_,_,_,q,_⟩:=k1
          exact(q hb).1
         ·rw[uC (t:=.slice e' t') l4]
          simp only[Prim.fn,Prim.ity,cZ]
        ·cases h
       ·split at h
        ·rename_i b f ks hi
         simp only[eW,nB] at h
         obtain⟨rfl,rfl,rfl,rfl⟩:=h
         obtain⟨k1,k2⟩:=bR0 (b:=(if uq then oG es ks else(false,es)).1) (es2:=(if uq then oG es ks else(false,es)).2) hk rfl
         obtain⟨l1,l2,l3,l4,l5⟩:=gC hl
         obtain⟨m1,m2,m3,m4,_⟩:=gC l5
         have hsp:∀c:List Value,kS (Gd X (Os γ es) w fr) t' w c (((a.val env).as (.slice e' t')).getD ((ix.val env).as tI).toNat (aK t'))->bG X γ (Os γ es) env w (aD3 (aLH t' (.Z nx) fr) off l0) (c.take off++((ρ v).cells.toList++c.drop (off+(ρ v).cells.size))):=fun c hc=>by
          have hex:=aGS (X:=X) (γ:=γ) (O:=Os γ es) (env:=env) (w:=w) t' (a:=.Z nx) (fr:=fr) (cs:=c) (aF7 l4) (by
           rw[uC (t:=t') l4]
           simp only[Prim.fn,Prim.ity,cZ]
           exact hc)
          have:=aEN (off:=off) hex hlv
          simpa using this
         refine aX4 hm hk hf hg hop hx hinfo hone (by rw[hlen];exact hoff) hr k1 k2 (f:=f) ((b.val env).as t') (fun c hc=>?_) (aF7 m4) ?_
         ·obtain⟨g1,g2,g3⟩:=aZK hm.ent (hsp c hc) hi
          refine⟨g2,fun hb=>g3 ?_⟩
          obtain⟨_,_,_,_,q,_⟩:=k1
          exact(q hb).1
         ·rw[uC (t:=.slice e' t') m4]
          simp only[Prim.fn,Prim.ity,cZ]
        ·cases h
      ·cases h
     ·cases h
    ·cases h
   ·cases h
  ·cases h
 ·cases h
end
section
variable {P:Program} {Cs:List Con} {X:Cx} {γ γ':Gh} {β β':Bt} {O O':List Nat} {env:List SV} {w w':World} {es es':Es}
theorem wU.cells {G:Nat->Prop} {T e:TypeId} {t:Ty} (hT:P.underlying T=some (.slice e)) {v:Value} {l:List t.D} (h:wU G w e t v l) :
  ∃news:List Value,news.length=l.length * t.n/\(∀k (hk:k<l.length),kS G t w ((news.drop (k * t.n)).take t.n) l[k])/\(∀bl,aWI w e t v l bl->pC t.n (Un t w) news l bl) /\
   ((∃p,v = .slice p 0 0/\l.length=0/\news=[])\/∃b cap cur,v = .slice (some ⟨b,0,none⟩) l.length cap/\0<cap/\w.heap[b]?=some (.cells cur e (0,0))/\l.length<=cap/\cap<=maxLen/\cur.size=cap * t.n/\news=cur.toList.take (l.length * t.n)) /\
   Src P t.n T v l.length news w:=by
 rcases h with⟨p,rfl,rfl⟩|⟨b,cap,cur,rfl,hc,hh,h1,h2,h3,h4⟩
 ·refine⟨[],by simp,fun k hk=>by simp at hk,fun bl hu=>?_,.inl ⟨p,rfl,rfl,rfl⟩,?_⟩
  ·rcases hu with⟨q,_,rfl⟩|⟨b,n,cap,cur,hv,hc,_⟩
   ·exact⟨rfl,rfl⟩
   ·simp only[Value.slice.injEq] at hv
    omega
  ·cases p with
   | none=>exact Src.ofNil w hT 0
   | some a=>exact Src.ofSlice w hT a 0 0 [] (by simp) (fun j u hj=>by simp at hj) (fun u hu=>by simp at hu)
 ·have hle:l.length * t.n<=cap * t.n:=Nat.mul_le_mul_right _ h1
  have hlen:(cur.toList.take (l.length * t.n)).length=l.length * t.n:=List.length_take_of_le (by rw[Array.length_toList (xs:=cur),h3];exact hle)
  have hel:∀k (hk:k<l.length),((cur.toList.take (l.length * t.n)).drop (k * t.n)).take t.n=(cur.toList.drop (k * t.n)).take t.n:=fun k hk=>by
   have:(k+1) * t.n<=l.length * t.n:=Nat.mul_le_mul_right _ hk
   rw[Nat.add_mul,Nat.one_mul] at this
   rw[List.drop_take,List.take_take,Nat.min_eq_left (by omega)]
  refine⟨_,hlen,fun k hk=>by rw[hel k hk];exact h4 k hk,fun bl hu=>?_,.inr ⟨b,cap,cur,rfl,hc,hh,h1,h2,h3,rfl⟩,?_⟩
  ·rcases hu with⟨q,hv,_⟩|⟨b',n,cap',cur',hv,_,hh',hr⟩
   ·simp only[Value.slice.injEq] at hv
    omega
   ·simp only[Value.slice.injEq,eW,Addr.mk.injEq,and_true] at hv
    obtain⟨rfl,rfl,rfl⟩:=hv
    rw[hh] at hh'
    simp only[eW,Obj.cells.injEq,and_true] at hh'
    subst hh'
    exact hr
  ·refine Src.ofSlice w hT _ _ _ _ hlen (fun j u hj=>?_) (fun u hu=>?_)
   ·rw[List.getElem?_take] at hj
    split at hj
    ·have hadd:((⟨b,0,none⟩:Addr).add j)=⟨b,j,none⟩:=by
      simp only[Addr.add];split<;>simp_all
     rw[hadd]
     simp only[World.cell?,hh,Option.isSome_none,Bool.false_eq_true,if_false]
     simpa using hj
    ·cases hj
   ·obtain⟨j,hj,rfl⟩:=List.mem_iff_getElem.1 hu
    have hn:=Ty.n_pos t
    have hjl:j<l.length * t.n:=by omega
    have hk:j / t.n<l.length:=(Nat.div_lt_iff_lt_mul hn).2 hjl
    have Fu:=Nat.div_add_mod j t.n
    rw[Nat.mul_comm] at Fu
    have hm:j % t.n<t.n:=Nat.mod_lt _ hn
    have h6:=(h4 _ hk)
    have h7:((cur.toList.drop (j / t.n * t.n)).take t.n)[j % t.n]?=some ((cur.toList.take (l.length * t.n))[j]):=by
     rw[<-hel _ hk,List.getElem?_take,if_pos hm,List.getElem?_drop,Fu,List.getElem?_eq_getElem hj]
    exact h6.one _ (List.mem_of_getElem? h7)
theorem Un.src {T e:TypeId} {t:Ty} (hT:P.underlying T=some (.slice e)) {v:Value} {l:List t.D} {bl:List Nat} (h:Un (.slice e t) w [v] l bl) :
  ∃(news:List Value) (bl':List Nat),Src P t.n T v l.length news w/\news.length=l.length * t.n/\pC t.n (Un t w) news l bl'/\bl'.Sublist bl/\∃p len cap,v = .slice p len cap:=by
 rcases h with⟨p,hv,rfl,rfl⟩|⟨b,off,cap,cur,xs,bl',_,hv,hh,h1,h2,h3,rfl,h4,rfl⟩
 ·simp only[List.cons.injEq,and_true] at hv
  subst hv
  refine⟨[],[],?_,by simp,⟨rfl,rfl⟩,.refl _,_,_,_,rfl⟩
  cases p with
  | none=>exact Src.ofNil w hT 0
  | some a=>exact Src.ofSlice w hT a 0 0 [] (by simp) (fun j u hj=>by simp at hj) (fun u hu=>by simp at hu)
 ·simp only[List.cons.injEq,and_true] at hv
  subst hv
  have hlen:=h4.len
  refine⟨_,bl',?_,hlen,h4,List.sublist_cons_self _ _,_,_,_,rfl⟩
  refine Src.ofSlice w hT _ _ _ _ hlen (fun j u hj=>?_) (fun u hu=>?_)
  ·rw[List.getElem?_take] at hj
   split at hj
   ·have hadd:((⟨b,off,none⟩:Addr).add j)=⟨b,off+j,none⟩:=by
     simp only[Addr.add];split<;>simp_all
    rw[hadd]
    simp only[World.cell?,hh,Option.isSome_none,Bool.false_eq_true,if_false]
    simpa using hj
   ·cases hj
  ·have:∀{l:List t.D} {xs:List Value} {bl:List Nat},pC t.n (Un t w) xs l bl->∀u∈xs,u.oneCell'=true:=by
    intro l
    induction l with
    | nil=>intro xs bl h u hu;rw[h.1] at hu;cases hu
    | cons x l ih =>
     intro xs bl h u hu
     obtain⟨c,xs',b1,b2,hc,rfl,rfl,h1,hr⟩:=h
     rw[List.mem_append] at hu
     rcases hu with hu|hu
     ·exact(Un.rdg _ _ _ _ h1).one u hu
     ·exact ih hr u hu
   exact this h4 u hu
theorem bJL {es0:Es} (hm:MemOK X γ β env w es0) (hsub:es.Sublist es0) (hk:dB es) {e:TypeId} {t:Ty} {s:Sh} {a:Ar} {fr uq:Bool} {rs:List Nat} {es1:Es} (h:aZ1 es e t s=some (a,fr,uq,rs,es1)) {v:Value} (hv:bU X γ (Os γ es0) env w s v) :
  ∃(gone:Es) (bl:List Nat),es.Perm (gone++es1)/\es1.Sublist es/\a.bd env.length=true/\wU (Gd X (Os γ es0) w fr) w e t v ((a.val env).as (.slice e t))/\(uq=true->aWI w e t v ((a.val env).as (.slice e t)) bl) /\
   (uq=false->bl=[])/\bl.Sublist (Us β gone)/\∀b∈lY v,b∈Os γ gone:=by
 have nilc:∀p,v = .slice p 0 0->∃(gone:Es) (bl:List Nat),es.Perm (gone++es)/\es.Sublist es/\(Ar.nl e t).bd env.length=true/\wU (Gd X (Os γ es0) w true) w e t v (((Ar.nl e t).val env).as (.slice e t))/\(true=true->aWI w e t v (((Ar.nl e t).val env).as (.slice e t)) bl) /\
   (true=false->bl=[])/\bl.Sublist (Us β gone)/\∀b∈lY v,b∈Os γ gone:=fun p hp=>by
  subst hp
  have hnil:SV.as (.slice e t) (Ar.val env (.nl e t))=([]:List t.D):=by simp only[Ar.val,SV.as_self]
  refine⟨[],[],.refl _,.refl _,rfl,.inl ⟨p,rfl,hnil⟩,fun _=>.inl ⟨p,rfl,rfl⟩,fun _=>rfl,.refl _,fun b hb=>?_⟩
  cases p<;>simp[lY] at hb
 unfold aZ1 at h
 split at h
 ·simp only[eW,nB] at h
  obtain⟨rfl,rfl,rfl,rfl,rfl⟩:=h
  exact nilc none hv
 ·split at h
  ·simp only[eW,nB] at h
   obtain⟨rfl,rfl,rfl,rfl,rfl⟩:=h
   obtain⟨p,hp⟩:=hv
   exact nilc p hp
  ·cases h
 ·rename_i r
  have hv':γ r=some v:=hv
  split at h
  ·rename_i e' t' a' fr' uq' hr
   split at h
   ·rename_i hty
    obtain⟨rfl,rfl⟩:=hty
    simp only[eW,nB] at h
    obtain⟨rfl,rfl,rfl,rfl,rfl⟩:=h
    obtain⟨p1,_⟩:=tV hk hr
    obtain⟨h0,u,h1,h2,h3,h4⟩:=hm.ent _ (hsub.subset (mN hr))
    simp only at h1
    rw[hv'] at h1
    simp only[eW] at h1
    subst h1
    refine⟨[_],β r,p1,oP _ _,h0,h2,h3,h4,by simp[Us],fun b hb=>?_⟩
    simp[Os,oC,hv',hb]
   ·cases h
  ·rename_i e' t' a' fr' ls hr
   split at h
   ·rename_i hty
    obtain⟨rfl,rfl⟩:=hty
    simp only[eW,nB] at h
    obtain⟨rfl,rfl,rfl,rfl,rfl⟩:=h
    obtain⟨p1,_⟩:=tV hk hr
    obtain⟨gone,g1,g2,g3,g4,g5⟩:=aQH (hk.sub (oP es [r])) (rfl:oG (cV es [r]) (rR t' ls)=(_,_))
    obtain⟨h0,u,h1,h2,h3,b,n,cap,cur,h4,h5,h6,h7⟩:=hm.ent _ (hsub.subset (mN hr))
    simp only at h1
    rw[hv'] at h1
    simp only[eW] at h1
    subst h1
    refine⟨(r,.arr e' t' a' fr' ls)::gone,if(oG (cV es [r]) (rR t' ls)).1=true then kU β (rR t' ls) else [],?_,g3.trans (oP _ _),h0,h2,fun hu=>?_,fun hu=>by rw[hu];rfl,?_,fun b hb=>?_⟩
    ·exact p1.trans (g1.cons _)
    ·rw[hu]
     simp only[if_true]
     obtain⟨g6,g7⟩:=g4 hu
     have htk:aDT t' ls.length ls=some (rR t' ls):=by
      unfold rR
      cases ht:aDT t' ls.length ls with
      | some ks=>rfl
      | none =>
       unfold rR at g6
       rw[ht] at g6
       have:=(g6 (0,.bool) (by simp)).1
       exact absurd rfl this
     rcases h2 with⟨p,hp,_⟩|⟨b',cap',cur',hp,c0,c1,c2,c3,c4,c5⟩
     ·rw[h4] at hp
      simp only[Value.slice.injEq] at hp
      omega
     ·rw[h4] at hp
      simp only[Value.slice.injEq,eW,Addr.mk.injEq,and_true] at hp
      obtain⟨rfl,rfl,rfl⟩:=hp
      rw[c1] at h6
      simp only[eW,Obj.cells.injEq,and_true] at h6
      subst h6
      refine .inr ⟨b,_,cap,cur',h4,h5,c1,?_⟩
      have hle:=Nat.mul_le_mul_right t'.n c2
      refine bUW (es:=es0) (G:=Gd X (Os γ es0) w fr') ls.length (List.length_take_of_le (by rw[Array.length_toList (xs:=cur'),c4];exact hle)) (fun k hk'=>?_) h7 htk (fun k hk'=>?_) hm.ent
      ·have:(k+1) * t'.n<=((a'.val env).as (.slice e' t')).length * t'.n:=Nat.mul_le_mul_right _ hk'
       rw[Nat.add_mul,Nat.one_mul] at this
       rw[List.drop_take,List.take_take,Nat.min_eq_left (by omega)]
       exact c5 k hk'
      ·obtain⟨q1,a1,f1,q2⟩:=g6 k hk'
       exact⟨q1,a1,f1,hsub.subset ((oP _ _).subset q2)⟩
    ·split
     ·rename_i hu
      obtain⟨_,g7⟩:=g4 hu
      rw[aJ4,g7]
      exact List.sublist_append_right _ _
     ·exact List.nil_sublist _
    ·rw[aGR,List.mem_append]
     left
     simp[oC,hv',hb]
   ·cases h
  ·cases h
 ·cases h
end
def cC0 (P:Program) (X:Cx) (γ:Gh) (β:Bt) (env:List SV) (w:World) (es0 es:Es) (T e:TypeId) (t:Ty) (v:Value) (a:Ar) (fr uq:Bool) (es2:Es):Prop :=
 ∃(gone:Es) (bl:List Nat) (news:List Value),es.Perm (gone++es2)/\es2.Sublist es/\a.bd env.length=true/\Src P t.n T v ((a.val env).as (.slice e t)).length news w/\news.length=((a.val env).as (.slice e t)).length * t.n /\
  (∀k (hk:k<((a.val env).as (.slice e t)).length),kS (Gd X (Os γ es0) w (fr||t.flat)) t w ((news.drop (k * t.n)).take t.n) (((a.val env).as (.slice e t))[k])) /\
  (uq=true->pC t.n (Un t w) news ((a.val env).as (.slice e t)) bl)/\(uq=false->bl=[])/\bl.Sublist (Us β gone)
section
variable {P:Program} {Cs:List Con} {X:Cx} {γ γ':Gh} {β β':Bt} {O O':List Nat} {env:List SV} {w w':World} {es es':Es}
theorem bZX {es0:Es} (hm:MemOK X γ β env w es0) (hsub:es.Sublist es0) (hk:dB es) {T e:TypeId} {t:Ty} (hT:P.underlying T=some (.slice e)) {l:Leaf} {a:Ar} {fr uq:Bool} {es2:Es}
  (h:bH5 es e t l=some (a,fr,uq,es2)) {v:Value} (hv:kJ X γ (Os γ es0) env w l v) :
  cC0 P X γ β env w es0 es T e t v a fr uq es2:=by
 have fin:∀{gone:Es} {bl:List Nat} {a:Ar} {fr uq:Bool} {es2:Es},es.Perm (gone++es2)->es2.Sublist es->a.bd env.length=true->wU (Gd X (Os γ es0) w fr) w e t v ((a.val env).as (.slice e t))->(uq=true->aWI w e t v ((a.val env).as (.slice e t)) bl) ->
   (uq=false->bl=[])->bl.Sublist (Us β gone)->cC0 P X γ β env w es0 es T e t v a fr uq es2:=by
  intro gone bl a fr uq es2 h1 h2 h3 h4 h5 h6 h7
  obtain⟨news,n1,n2,n3,n4,n5⟩:=h4.cells hT
  refine⟨gone,bl,news,h1,h2,h3,n5,n1,fun k hk=>?_,fun hu=>n3 bl (h5 hu),h6,h7⟩
  cases hfl:t.flat
  ·rw[Bool.or_false];exact n2 k hk
  ·exact(n2 k hk).flat hfl
 cases l with
 | nl e' t' =>
  simp only[bH5] at h
  split at h
  ·rename_i hty
   obtain⟨rfl,rfl⟩:=hty
   simp only[eW,nB] at h
   obtain⟨rfl,rfl,rfl,rfl⟩:=h
   obtain⟨p,rfl⟩:=hv
   have hnil:SV.as (.slice e' t') (Ar.val env (.nl e' t'))=([]:List t'.D):=by simp only[Ar.val,SV.as_self]
   exact fin (gone:=[]) (bl:=[]) (.refl _) (.refl _) rfl (.inl ⟨p,rfl,hnil⟩) (fun _=>.inl ⟨p,rfl,rfl⟩) (fun _=>rfl) (.refl _)
  ·cases h
 | own r =>
  have hv':γ r=some v:=hv
  have viaS:∀{rs:List Nat},aZ1 es e t (.one (.own r))=some (a,fr,uq,rs,es2)->cC0 P X γ β env w es0 es T e t v a fr uq es2:=fun {rs} hs=>by
   obtain⟨gone,bl,q1,q2,q3,q4,q5,q6,q7,_⟩:=bJL hm hsub hk hs (show bU X γ (Os γ es0) env w (.one (.own r)) v from hv)
   exact fin q1 q2 q3 q4 q5 q6 q7
  simp only[bH5] at h
  split at h
  ·rename_i e' t' a' fr' uq' hr
   split at h
   ·rename_i hty
    obtain⟨rfl,rfl⟩:=hty
    cases hfl:t'.flat
    ·rw[hfl] at h
     simp only[Bool.false_eq_true,if_false,eW,nB] at h
     obtain⟨rfl,rfl,rfl,rfl⟩:=h
     exact viaS (rs:=[r]) (by simp[aZ1,hr])
    ·rw[hfl] at h
     simp only[if_true,eW,nB] at h
     obtain⟨rfl,rfl,rfl,rfl⟩:=h
     obtain⟨h0,u,h1,h2,h3,h4⟩:=hm.ent _ (hsub.subset (mN hr))
     simp only at h1
     rw[hv'] at h1
     simp only[eW] at h1
     subst h1
     obtain⟨news,n1,n2,n3,n4,n5⟩:=h2.cells hT
     exact⟨[],[],news,.refl _,.refl _,h0,n5,n1,fun k hk=>(n2 k hk).flat hfl,fun _=>aFV hfl n1 n2,fun _=>rfl,.refl _⟩
   ·cases h
  ·rename_i e' t' a' fr' ls hr
   split at h
   ·rename_i hty
    obtain⟨rfl,rfl⟩:=hty
    simp only[eW,nB] at h
    obtain⟨rfl,rfl,rfl,rfl⟩:=h
    exact viaS (rs:=[r]) (by simp[aZ1,hr])
   ·cases h
  ·cases h
 | d b u f k =>
  simp only[bH5] at h
  split at h
  ·rename_i hu
   subst hu
   obtain⟨hb,D6,Ma⟩:=hv
   have He:=D6
   obtain⟨p,len,cap,hvv,hsl⟩:=D6
   simp only[List.cons.injEq,and_true] at hvv
   obtain⟨news,s1,s2,s3⟩:=hsl.src hT
   rw[<-hvv] at s1
   cases hfl:t.flat
   ·rw[hfl] at h
    simp only[Bool.false_eq_true,if_false,eW,nB] at h
    obtain⟨rfl,rfl,rfl,rfl⟩:=h
    obtain⟨gone,g1,g2,g3,g4,g5⟩:=aQH hk (rfl:oG es [(k,.slice e t)]=(_,_))
    cases hq:(oG es [(k,Ty.slice e t)]).1 with
    | true =>
     obtain⟨g6,g7⟩:=g4 hq
     obtain⟨k0,a',f',hmem⟩:=g6 (k,.slice e t) (by simp)
     obtain⟨_,u,e1,e2⟩:=hm.ent _ (hsub.subset hmem)
     simp only at e1
     rw[Ma k0] at e1
     simp only[eW] at e1
     subst e1
     have hd:=kS.det He (Un.rdg _ _ _ _ e2)
     rw[<-hd] at e2
     obtain⟨news',bl',r1,r2,r3,r4,_⟩:=Un.src (P:=P) hT e2
     have L7:Us β gone=β k:=by rw[g7];simp[kU]
     refine⟨gone,bl',news',g1,g3,hb,r1,r2,fun j hj=>?_,fun _=>r3,(fun h=>by cases h),by rw[L7];exact r4⟩
     obtain⟨xs1,c,xs2,b1,bk,b2,he,hl,hcl,hbl,_,hR,_⟩:=r3.split j hj
     rw[he,List.drop_append,List.drop_of_length_le (by omega),show j * t.n - xs1.length=0 by omega,List.drop_zero,List.nil_append,List.take_left' hcl]
     refine(Un.rdg _ _ _ _ hR).mono (fun q hq'=>?_) (fun _ _=>rfl)
     have h1:q∈β k:=r4.subset (by rw[hbl];simp[hq'])
     exact(hm.good q (bFU.2 ⟨_,hsub.subset hmem,h1⟩)).mono (fun _=>rfl)
    | false =>
     have:=g5 hq
     subst this
     refine⟨[],[],news,g1,g3,hb,s1,s2,fun j hj=>?_,fun h=>?_,fun _=>rfl,.refl _⟩
     ·rw[hfl,Bool.or_false];exact s3 j hj
     ·cases h
   ·rw[hfl] at h
    simp only[if_true,eW,nB] at h
    obtain⟨rfl,rfl,rfl,rfl⟩:=h
    exact⟨[],[],news,.refl _,.refl _,hb,s1,s2,fun j hj=>(s3 j hj).flat hfl,fun _=>aFV hfl s2 s3,fun _=>rfl,.refl _⟩
  ·cases h
end
section
variable {P:Program} {Cs:List Con} {X:Cx} {γ γ':Gh} {β β':Bt} {O O':List Nat} {env:List SV} {w w':World} {es es':Es}
variable {wr:Bool} {D:List Nat} {nx nr n:Nat} {ls:List Let} {s:Sh} {new:Es} {ρ:Operand->Value} {sh:Operand->Sh} {o:Oper} {lk:Lk}
theorem aX2 (hm:MemOK X γ β env w es) (hk:dB es) (hf:FrameOK X w) (hg:lF γ) (Aa:γ nr=none) {T T2 ty e:TypeId} {i:TI} (hT:P.underlying T=some (.slice e)) (hi:aI4 P e=some i)
  {v x:Value} {c:Ar} {fr f uq uq2:Bool} {gone1 gone2 es1 es2:Es} {bl1 bl2:List Nat} {news:List Value} {l1 l2:List i.t.D}
  (p1:es.Perm (gone1++es1)) (s1:es1.Sublist es) (hrow:wU (Gd X (Os γ es) w fr) w e i.t v l1) (hu1:uq=true->aWI w e i.t v l1 bl1) (G3:∀b∈lY v,b∈Os γ gone1)
  (p2:es1.Perm (gone2++es2)) (s2:es2.Sublist es1) (hsrc:Src P i.t.n T2 x l2.length news w) (hnl:news.length=l2.length * i.t.n)
  (hnew:∀k (hk:k<l2.length),kS (Gd X (Os γ es) w (f||i.t.flat)) i.t w ((news.drop (k * i.t.n)).take i.t.n) l2[k]) (hu2:uq2=true->pC i.t.n (Un i.t w) news l2 bl2) (hbs:(bl1++bl2).Sublist (Us β (gone1++gone2)))
  (hby:(l1.length+l2.length) * i.bytes<=140737488355328) (hmx:l1.length+l2.length<=maxLen) (hc:c.bd env.length=true) (hd:(c.val env).as (.slice e i.t)=l1++l2) :
  ∃v' w',(Builtin.append_ #[T,T2] ty #[v,x]).run P w = .ok v' w'/\∃γ' β',Turned X γ β env w es ((nr,.sl e i.t c ((fr&&f)||i.t.flat) (uq&&uq2))::es2) nr (nr+1) (.one (.own nr)) v' γ' β' w':=by
 obtain⟨olds,o1,o2,o3,o4,_⟩:=hrow.cells (P:=P) hT
 obtain⟨fi,Ae,hf2,hf3,zz,Ed,Eu⟩:=(uH hi).inf
 have hzs:zz.cells.size=fi.size:=by
  rw[<-Array.length_toList,Eu,hf2];exact sQ i.t
 obtain⟨v',w',hr,hA⟩:=aPJ (P:=P) (w:=w) T T2 ty e fi zz hT Ae Ed hzs (by rw[hf2];exact Ty.n_pos _) (v:=v) (len:=l1.length) (olds:=olds) (by rw[hf2];exact o4) (by rw[hf2];exact hsrc) (by rw[hf3];exact hby) hmx
 rw[hf2] at hA
 refine⟨v',w',hr,?_⟩
 have hn:=Ty.n_pos i.t
 have pe:(gone1++gone2++es2).Perm es:=by
  rw[List.append_assoc]
  exact((p2.append_left gone1).symm).trans p1.symm
 obtain⟨As,A0⟩:=hm.perm pe
 have s3:es2.Sublist es:=s2.trans s1
 have hnd:=As.nd
 rw[fJ,iJ] at hnd
 have hbl:((Os γ (gone1++gone2))++(bl1++bl2)).Nodup:=hnd.sublist ((List.sublist_append_left _ _).append (hbs.trans (List.sublist_append_left _ _)))
 have hold:∀p∈es2,p.1≠nr:=fun p hp h=>by
  obtain⟨u,hu⟩:=(hm.ent p (s3.subset hp)).gh
  rw[h,Aa] at hu;cases hu
 have Ft:∀k (hk:k<l1.length),kS (Gd X (Os γ es) w ((fr&&f)||i.t.flat)) i.t w ((olds.drop (k * i.t.n)).take i.t.n) l1[k]:=fun k hk=>by
  cases hfl:i.t.flat
  ·rw[Bool.or_false];exact(o2 k hk).mono (fun b hb=>hb.mono (fun h=>by simp at h;exact h.1)) (fun _ _=>rfl)
  ·exact(o2 k hk).flat hfl
 have Fs:∀k (hk:k<l2.length),kS (Gd X (Os γ es) w ((fr&&f)||i.t.flat)) i.t w ((news.drop (k * i.t.n)).take i.t.n) l2[k]:=fun k hk=>by
  cases hfl:i.t.flat
  ·have:=hnew k hk
   rw[hfl,Bool.or_false] at this
   rw[Bool.or_false];exact this.mono (fun b hb=>hb.mono (fun h=>by simp at h;exact h.2)) (fun _ _=>rfl)
  ·exact(hnew k hk).flat hfl
 have D5:(uq&&uq2)=true->pC i.t.n (Un i.t w) (olds++news) (l1++l2) (bl1++bl2):=fun h=>by
  simp only[Bool.and_eq_true] at h
  exact(o3 bl1 (hu1 h.1)).append (hu2 h.2)
 let bl:List Nat:=if(uq&&uq2)=true then bl1++bl2 else []
 have Eg:bl.Sublist (bl1++bl2):=by
  simp only[bl]
  split
  ·exact .refl _
  ·exact List.nil_sublist _
 have Eh:∀q∈bl,q∈Us β (gone1++gone2):=fun q hq=>hbs.subset (Eg.subset hq)
 have Gb:∀q∈bl,q<w.heap.size:=fun q hq=>(As.good q (by rw[iJ];simp[Eh q hq])).1
 have fin:∀(γv:γ.upd nr v' nr=some v') (C2:v'.cells = #[v']) (hw:∀k,k<w.heap.size->k ∉ Os γ (gone1++gone2)->w'.heap[k]?=w.heap[k]?) (hsz:w.heap.size<=w'.heap.size) (hfw:FrameOK X w')
   (hv':(∀k∈lY v',k∈Os γ (gone1++gone2)\/(w.heap.size<=k/\k<w'.heap.size))) (Jk:(lY v').length<=1)
   (hrow':Later X γ (Os γ es) env w (γ.upd nr v') (Os (γ.upd nr v') ((nr,Ent.sl e i.t c ((fr&&f)||i.t.flat) (uq&&uq2))::es2)) env w' ->
    wU (Gd X (Os (γ.upd nr v') ((nr,Ent.sl e i.t c ((fr&&f)||i.t.flat) (uq&&uq2))::es2)) w' ((fr&&f)||i.t.flat)) w' e i.t v' (l1++l2))
   (E8:(uq&&uq2)=true->aWI w' e i.t v' (l1++l2) (bl1++bl2)),∃γ' β',Turned X γ β env w es ((nr,.sl e i.t c ((fr&&f)||i.t.flat) (uq&&uq2))::es2) nr (nr+1) (.one (.own nr)) v' γ' β' w':=by
  intro γv C2 hw hsz hfw hv' Jk hrow' E8
  have Av:Os (γ.upd nr v') [(nr,Ent.sl e i.t c ((fr&&f)||i.t.flat) (uq&&uq2))]=lY v':=by simp[Os,oC]
  have A2:Us (β.upd nr bl) [(nr,Ent.sl e i.t c ((fr&&f)||i.t.flat) (uq&&uq2))]=bl:=by simp[Us,Bt.upd]
  obtain⟨t1,t2⟩:=MemOK.turn (γ':=γ.upd nr v') (β':=β.upd nr bl) (w':=w') (old:=gone1++gone2) (es:=es2) (new:=[(nr,Ent.sl e i.t c ((fr&&f)||i.t.flat) (uq&&uq2))]) As hf.B_le hw hsz (Gh.upd_mono Aa) (fun p hp=>by simp[Bt.upd,hold p hp])
   (by
    rw[Av,A2,List.nodup_append]
    refine⟨?_,(List.nodup_append.1 hbl).2.1.sublist Eg,fun q hq q' hq' he=>?_⟩
    ·match Bi:lY v',Jk with
     | [],_=>exact List.nodup_nil
     | [q],_=>simp
     | q::q'::l,h=>simp at h
    ·subst he
     rcases hv' q hq with h|h
     ·exact(List.nodup_append.1 hbl).2.2 q h q (Eg.subset hq') rfl
     ·have:=Gb q hq';omega)
   (fun k hk=>by rw[Av] at hk;exact hv' k hk) (fun k hk=>by rw[A2] at hk;exact .inr (.inl (Eh k hk))) (fun hlat p hp=>by
    simp only[List.mem_singleton] at hp
    subst hp
    refine⟨hc,v',γv,by rw[hd];exact hrow' (A0.trans hlat),fun hu=>?_,fun hu=>?_⟩
    ·rw[hd]
     simp only[Bt.upd,if_true,bl,hu]
     exact E8 hu
    ·simp only[Bt.upd,if_true,bl,hu]
     rfl)
  refine⟨_,_,⟨t1,?_,A0.trans t2,hfw,hg.upd C2,fun r hr=>Gh.upd_other (by omega),Nat.le_succ _,γv⟩⟩
  unfold dB
  rw[List.map_cons,List.nodup_cons]
  refine⟨fun h=>?_,hk.sub s3⟩
  simp only[List.mem_map] at h
  obtain⟨p,hp,he⟩:=h
  exact hold p hp he
 rcases hA with⟨h0,rfl,rfl⟩|⟨bb,cap,cur,cur',q1,rfl,q3,q4,q5,q6,rfl,q8,q9⟩|⟨cap,cur',rfl,q2,q3,q4,q5,q6,q7⟩
 ·
  have hl2:l2=[]:=List.eq_nil_of_length_eq_zero h0
  subst hl2
  have hnn:news=[]:=List.eq_nil_of_length_eq_zero (by simpa using hnl)
  have C2:v'.cells = #[v']:=by rcases hrow with⟨p,rfl,_⟩|⟨b',cap',cur',rfl,_⟩<;>rfl
  refine fin (by simp) C2 (fun _ _ _=>rfl) (Nat.le_refl _) hf (fun k hk=>.inl (by rw[fJ];simp[G3 k hk])) ?_ (fun hlat=>?_) (fun hu=>?_)
  ·rcases hrow with⟨p,rfl,_⟩|⟨b',cap',cur',rfl,_⟩
   ·cases p<;>simp[lY]
   ·simp only[lY];split<;>simp
  ·rw[List.append_nil]
   rcases hrow with⟨p,rfl,h⟩|⟨b',cap',cur',rfl,h1,h2,h3,h4,h5,h6⟩
   ·exact .inl ⟨p,rfl,h⟩
   ·refine .inr ⟨b',cap',cur',rfl,h1,h2,h3,h4,h5,fun k hk=>?_⟩
    cases hfl:i.t.flat
    ·exact(hlat.rdg (h6 k hk)).mono (fun b hb=>by rw[hfl] at hb;exact hb.mono (fun h=>by simp at h;exact h.1)) (fun _ _=>rfl)
    ·exact(hlat.rdg (h6 k hk)).flat hfl
  ·simp only[Bool.and_eq_true] at hu
   have h2:=hu2 hu.2
   have Iv:bl2=[]:=h2.2
   rw[List.append_nil,Iv,List.append_nil]
   exact hu1 hu.1
 ·
  have Bi:lY v=[bb]:=by
   rw[q1]
   have:cap≠0:=by omega
   simp[lY,this]
  have Gx:bb∈Os γ (gone1++gone2):=by rw[fJ];simp[G3 bb (by rw[Bi];simp)]
  have hb0:=As.at' bb (by rw[fJ];simp[Gx])
  have hh':=setRow_heap w bb cur cur' e (0,0) q6
  have hcells:=aXG (w:=w) (t:=i.t) (G:=Gd X (Os γ es) w ((fr&&f)||i.t.flat)) (cur:=cur'.toList) q9 o1 hnl Ft Fs
  refine fin (by simp) rfl (fun k hk hko=>setRow_other w bb k cur' (fun he=>hko (by rw[he];exact Gx))) (by simp) (hf.write hb0.2.1) (fun k hk=>?_) (by simp only[lY];split<;>simp) (fun hlat=>?_) (fun hu=>?_)
  ·simp only[lY] at hk
   split at hk
   ·simp at hk
   ·simp only[List.mem_singleton] at hk
    subst hk
    exact .inl Gx
  ·refine .inr ⟨bb,cap,cur',by rw[List.length_append],q3,hh',by rw[List.length_append];exact q4,q5,q8,fun k hk=>hlat.rdg (hcells k hk)⟩
  ·refine .inr ⟨bb,_,cap,cur',rfl,q3,hh',?_⟩
   rw[List.length_append,q9]
   refine(D5 hu).mono (fun cc xx b' hb' hx=>Un.keep _ _ _ _ (fun q hq=>setRow_other w bb q cur' (fun he=>?_)) hx)
   exact(List.nodup_append.1 hbl).2.2 bb Gx q (hb' q hq) he.symm
 ·
  have hcells:=aXG (w:=w) (t:=i.t) (G:=Gd X (Os γ es) w ((fr&&f)||i.t.flat)) (cur:=cur'.toList) q7 o1 hnl Ft Fs
  refine fin (by simp) rfl (fun k hk hko=>q5.old k hk) (by rw[q5.size];omega) (hf.more q5) (fun k hk=>?_) (by simp only[lY];split<;>simp) (fun hlat=>?_) (fun hu=>?_)
  ·simp only[lY] at hk
   split at hk
   ·simp at hk
   ·simp only[List.mem_singleton] at hk
    subst hk
    exact .inr ⟨Nat.le_refl _,by rw[q5.size];omega⟩
  ·exact .inr ⟨w.heap.size,cap,cur',by rw[List.length_append],q2,q5.new,by rw[List.length_append];exact q3,q4,q6,fun k hk=>hlat.rdg (hcells k hk)⟩
  ·refine .inr ⟨w.heap.size,_,cap,cur',rfl,q2,q5.new,?_⟩
   rw[List.length_append,q7]
   refine(D5 hu).mono (fun cc xx b' hb' hx=>Un.keep _ _ _ _ (fun q hq=>q5.old q ?_) hx)
   have:q∈Us β (gone1++gone2):=hbs.subset (hb' q hq)
   exact(As.good q (by rw[iJ];simp[this])).1
theorem bAH (hm:MemOK X γ β env w es) (hk:dB es) (hf:FrameOK X w) (hg:lF γ) (Aa:γ nr=none) {T T2 ty e:TypeId} {i:TI} (hT:P.underlying T=some (.slice e)) (hi:aI4 P e=some i)
  {v x:Value} {c:Ar} {fr f uq uq2:Bool} {gone1 gone2 es1 es2:Es} {bl1 bl2:List Nat} {news:List Value} {l1 l2:List i.t.D}
  (p1:es.Perm (gone1++es1)) (s1:es1.Sublist es) (hrow:wU (Gd X (Os γ es) w fr) w e i.t v l1) (hu1:uq=true->aWI w e i.t v l1 bl1) (hb1:bl1.Sublist (Us β gone1)) (G3:∀b∈lY v,b∈Os γ gone1)
  (p2:es1.Perm (gone2++es2)) (s2:es2.Sublist es1) (hsrc:Src P i.t.n T2 x l2.length news w) (hnl:news.length=l2.length * i.t.n)
  (hnew:∀k (hk:k<l2.length),kS (Gd X (Os γ es) w (f||i.t.flat)) i.t w ((news.drop (k * i.t.n)).take i.t.n) l2[k]) (hu2:uq2=true->pC i.t.n (Un i.t w) news l2 bl2) (hb2:bl2.Sublist (Us β gone2))
  (hby:(l1.length+l2.length) * i.bytes<=140737488355328) (hmx:l1.length+l2.length<=maxLen) (hc:c.bd env.length=true) (hd:(c.val env).as (.slice e i.t)=l1++l2) :
  ∃v' w',(Builtin.append_ #[T,T2] ty #[v,x]).run P w = .ok v' w'/\∃γ' β',Turned X γ β env w es ((nr,.sl e i.t c ((fr&&f)||i.t.flat) (uq&&uq2))::es2) nr (nr+1) (.one (.own nr)) v' γ' β' w' :=
 aX2 hm hk hf hg Aa hT hi p1 s1 hrow hu1 G3 p2 s2 hsrc hnl hnew hu2 (by rw[iJ];exact hb1.append hb2) hby hmx hc hd
end
section
variable {P:Program} {Cs:List Con} {X:Cx} {γ γ':Gh} {β β':Bt} {O O':List Nat} {env:List SV} {w w':World} {es es':Es}
variable {wr:Bool} {D:List Nat} {nx nr n:Nat} {ls:List Let} {s:Sh} {new:Es} {ρ:Operand->Value} {sh:Operand->Sh} {o:Oper} {lk:Lk}
theorem bVE (G:Nat->Prop) (s:ByteArray):(byteCells s).length=(lM s).length * (Ty.int .u8).n/\∀k (hk:k<(lM s).length),kS G (.int .u8) w (((byteCells s).drop (k * (Ty.int .u8).n)).take (Ty.int .u8).n) (lM s)[k]:=by
 have hl:(byteCells s).length=(lM s).length:=by simp[byteCells,lM]
 refine⟨by simp[Ty.n,hl],fun k hk=>?_⟩
 have hk':k<(byteCells s).length:=by omega
 have h1:((byteCells s).drop (k * (Ty.int .u8).n)).take (Ty.int .u8).n=[(byteCells s)[k]]:=by
  simp only[Ty.n,Nat.mul_one]
  rw[List.drop_eq_getElem_cons hk']
  rfl
 rw[h1]
 have h2:(byteCells s)[k]=Value.int .u8 ((lM s)[k]):=by simp[byteCells,lM]
 rw[h2]
 refine⟨rfl,?_⟩
 simp only[lM,List.getElem_map,Lit.wf,decide_eq_true_eq,Bool.and_eq_true,IntKind.min,IntKind.max,IntKind.signed,IntKind.bits]
 have:=(s.data.toList[k]'(by simpa [lM] using hk)).toNat_lt
 simp only[Array.getElem_toList] at this⊢
 simp
 omega
theorem bSA (hm:MemOK X γ β env w es) (hk:dB es) (hf:FrameOK X w) (hg:lF γ) (hs:∀x,bU X γ (Os γ es) env w (sh x) (ρ x)) {args:Array Operand} {tys:Array TypeId} (hop:o.op = .call { callee:=.builtin .append,args:=args,argTypes:=tys })
  (h:aP2 P Cs o sh es nx nr=some (ls,s,es',n)) (hl:iV Cs env nx ls) (Aa:∀r,nr<=r->r<n->γ r=none) :
  aFA P ρ o w fun u w'=>∃γ' β',Turned X γ β env w es es' nr n s u γ' β' w':=by
 simp only[aP2,hop] at h
 split at h
 ·rename_i x y T T2 ha ht
  have hx:=hs x
  have hy:=hs y
  have ha':args = #[x,y]:=by cases args;simp_all
  have ht':tys = #[T,T2]:=by cases tys;simp_all
  subst ha' ht'
  have ex:∀{v':Value} {w':World},(Builtin.append_ #[T,T2] o.type #[ρ x,ρ y]).run P w = .ok v' w'->(execOp ρ o).run P w = .ok (.value v') w':=fun {v' w'} hr=>by
   simp[execOp,hop,resolve,invoke,builtin,hr]
  split at h
  ·rename_i e hT
   split at h
   ·rename_i i hi
    split at h
    ·rename_i a fr uq rs es1 Bu
     obtain⟨gone1,bl1,p1,s1,b1,hrow,u1,v1,sub1,o1⟩:=bJL (es0:=es) hm (.refl _) hk Bu hx
     split at h
     ·rename_i b fr2 k2 hT2 hsy
      rw[hsy] at hy
      obtain⟨hyv,Dx⟩:=aGB hy
      split at h
      ·rename_i K7
       obtain⟨Jt,Gy⟩:=K7
       simp only[eW,nB] at h
       obtain⟨rfl,rfl,rfl,rfl⟩:=h
       obtain⟨l1,l2,l3,l4,_⟩:=gC hl
       obtain⟨t,ag,bytes⟩:=i
       simp only at Jt Gy Bu hrow u1
       subst Jt Gy
       obtain⟨ll,hll⟩:∃ll:List Int,SV.as (.slice e (.int .u8)) (Ar.val env a)=ll:=⟨_,rfl⟩
       obtain⟨sv,E7⟩:∃sv:ByteArray,SV.as .str (Ar.val env b)=sv:=⟨_,rfl⟩
       simp only[Prim.cond,Prim.ity,cZ] at l2
       rw[hll,E7] at l2
       rw[hll] at hrow u1
       rw[E7] at hyv Dx
       obtain⟨c1,c2⟩:=bVE (w:=w) (Gd X (Os γ es) w true) sv
       have hbl:(lM sv).length=sv.size:=by simp only[lM,List.length_map,Array.length_toList];rfl
       have l2':ll.length+sv.size<=140737488355328:=l2
       obtain⟨v',w',hr,γ',β',E5⟩:=bAH (P:=P) (i:=⟨.int .u8,ag,1⟩) hm hk hf hg (Aa nr (Nat.le_refl _) (by omega)) (T2:=T2) (ty:=o.type) hT hi (v:=ρ x) (x:=ρ y) (c:=.Z nx) (fr:=fr) (f:=true) (uq:=uq) (uq2:=true) (gone2:=[]) (bl2:=[]) (es2:=es1) (news:=byteCells sv) (l1:=ll) (l2:=lM sv)
        p1 s1 hrow u1 sub1 o1 (.refl _) (.refl _) (by rw[hyv,hbl];exact Src.ofString w hT2 sv) c1 (fun k hk=>by simpa using c2 k hk) (fun _=>aFV rfl c1 c2) (List.nil_sublist _) (by rw[hbl];simp only[Nat.mul_one];exact l2') (by rw[hbl];unfold maxLen;omega) (aF7 l4) (by
         rw[uC (t:=.slice e (.int .u8)) l4]
         simp only[Prim.fn,Prim.ity,cZ]
         rw[hll,E7])
       refine .inl ⟨v',w',ex hr,γ',β',?_⟩
       have hfl:Ty.flat (.int .u8)=true:=rfl
       simpa [hfl] using E5
      ·cases h
     ·rename_i e2 l hT2 hsy
      rw[hsy] at hy
      split at h
      ·rename_i h22
       subst h22
       split at h
       ·rename_i b f uq2 es2 hnw
        simp only[eW,nB] at h
        obtain⟨rfl,rfl,rfl,rfl⟩:=h
        obtain⟨gone2,bl2,news,p2,s2,b2,src,nl,el,u2,v2,sub2⟩:=bZX (P:=P) (es0:=es) hm s1 (hk.sub s1) hT hnw (show kJ X γ (Os γ es) env w l (ρ y) from hy)
        obtain⟨l1,l2,l3,l4,_⟩:=gC hl
        simp only[Prim.cond,Prim.ity,cZ] at l2
        obtain⟨v',w',hr,γ',β',E5⟩:=bAH (P:=P) hm hk hf hg (Aa nr (Nat.le_refl _) (by omega)) (T2:=T2) (ty:=o.type) hT hi (v:=ρ x) (x:=ρ y) (c:=.Z nx) p1 s1 hrow u1 sub1 o1 p2 s2 src nl el u2 sub2 l2.1 l2.2 (aF7 l4) (by
         rw[uC (t:=.slice e i.t) l4]
         simp only[Prim.fn,Prim.ity,cZ])
        exact .inl ⟨v',w',ex hr,γ',β',E5⟩
       ·cases h
      ·cases h
     ·cases h
    ·cases h
   ·cases h
  ·cases h
 ·cases h
end
section
variable {P:Program} {Cs:List Con} {X:Cx} {γ γ':Gh} {β β':Bt} {O O':List Nat} {env:List SV} {w w':World} {es es':Es} {G:Nat->Prop}
def oB (γ:Gh) (os:List (Nat×Option Ty)):List Nat:=os.flatMap fun r=>match r.2,γ r.1 with
 | none,some v=>lY v
 | _,_=>[]
def uB (β:Bt) (os:List (Nat×Option Ty)):List Nat:=os.flatMap fun r=>β r.1
theorem aRA (a b:List (Nat×Option Ty)):oB γ (a++b)=oB γ a++oB γ b:=by simp[oB]
theorem aZF (a b:List (Nat×Option Ty)):uB β (a++b)=uB β a++uB β b:=by simp[uB]
def aQV (es:Es) (os:List (Nat×Option Ty)):Prop:=∀r∈os,match r.2 with
 | none=>∃e t a fr,fL es r.1=some (.sl e t a fr true)
 | some t=>∃a fr,fL es r.1=some (.uq t a fr)
theorem bRF {lk:Lk} {t:Ty} (ht:∀x y,t ≠ .cMV x y) {l:Leaf} {ls:List Leaf} {a:Ar} {f:Bool} {ks:List (Nat×Ty)} {rest:List Leaf} (h:fZ lk t (l::ls)=some (a,f,ks,rest)):rest=ls:=by
 cases l with
 | d b t' fr k =>
  have h':(if t'=t then some (b,fr||t.flat,if bC1 t then [(k,t)] else [],ls) else none)=some (a,f,ks,rest):=by
   cases t<;>first|exact h|exact absurd rfl (ht _ _)
  split at h'
  ·simp only[eW,nB] at h'
   exact h'.2.2.2.symm
  ·cases h'
 | nl e t' =>
  have h':(if t = .slice e t' then some (Ar.nl e t',true,([]:List (Nat×Ty)),ls) else none)=some (a,f,ks,rest):=by
   cases t<;>first|exact h|exact absurd rfl (ht _ _)
  split at h'
  ·simp only[eW,nB] at h'
   exact h'.2.2.2.symm
  ·cases h'
 | own r =>
  have h':(match lk r with
   | some (.sl e t' a fr _)=>if t = .slice e t' then some (a,fr,[(0,t)],ls) else none
   | some (.arr e t' a fr _)=>if t = .slice e t' then some (a,fr,[(0,t)],ls) else none
   | _=>none)=some (a,f,ks,rest):=by
   cases t<;>first|exact h|exact absurd rfl (ht _ _)
  split at h'
  ·split at h'
   ·simp only[eW,nB] at h'
    exact h'.2.2.2.symm
   ·cases h'
  ·split at h'
   ·simp only[eW,nB] at h'
    exact h'.2.2.2.symm
   ·cases h'
  ·cases h'
theorem aQ3:{t:Ty}->(∀x y,t ≠ .cMV x y)->bC1 t=false->{cs:List Value}->{d:t.D}->{bl:List Nat}->Un t w cs d bl->bl=[]
 | .int k,_,_,_,_,_,h=>h.2.2
 | .bool,_,_,_,_,_,h=>h.2
 | .str,_,_,_,_,_,h=>h.2.2
 | .slice e t,_,h,_,_,_,_=>by cases h
 | .cMV a b,h,_,_,_,_,_=>absurd rfl (h _ _)
theorem bRP (hm:MemOK X γ β env w es) (hg:lF γ) (hG:∀fr b,Gd X (Os γ es) w fr b->G b):(t:Ty)->{ls:List Leaf}->{cs:List Value}->{fl:List Nat}->{os:List (Nat×Option Ty)}->{a:Ar}->{f:Bool}->{ks:List (Nat×Ty)}->{rest:List Leaf} ->
  bG X γ (Os γ es) env w ls cs->fZ (fL es) t ls=some (a,f,ks,rest)->oF ls fl=some os->aQV es os ->
  ∃os1 os2 c1 c2,os=os1++os2/\oF rest (aCS t fl)=some os2/\cs=c1++c2/\bG X γ (Os γ es) env w rest c2/\a.bd env.length=true/\mvR G w t fl c1 ((a.val env).as t) (oB γ os1) (uB β os1):=by
 intro t
 have base:∀(t:Ty),(∀x y,t ≠ .cMV x y)->∀{ls:List Leaf} {cs:List Value} {fl:List Nat} {os:List (Nat×Option Ty)} {a:Ar} {f:Bool} {ks:List (Nat×Ty)} {rest:List Leaf},
   bG X γ (Os γ es) env w ls cs->fZ (fL es) t ls=some (a,f,ks,rest)->oF ls fl=some os->aQV es os ->
   ∃os1 os2 c1 c2,os=os1++os2/\oF rest fl.tail=some os2/\cs=c1++c2/\bG X γ (Os γ es) env w rest c2/\a.bd env.length=true/\mvR G w t fl c1 ((a.val env).as t) (oB γ os1) (uB β os1):=by
  intro t ht ls cs fl os a f ks rest hl hi ho Bc
  cases ls with
  | nil=>cases t<;>simp[fZ] at hi;exact absurd rfl (ht _ _)
  | cons l ls =>
   have hrest:=bRF ht hi
   subst hrest
   obtain⟨c,cs',rfl,hc,hl'⟩:=hl
   have ro:(∀r,l ≠ .own r)->a.bd env.length=true/\kS G t w [c] ((a.val env).as t):=fun hno=>by
    have hi':fZ (fun _=>none) t [l]=some (a,f,ks,[]):=by
     cases l with
     | own r=>exact absurd rfl (hno r)
     | d b t' fr k =>
      have h':(if t'=t then some (b,fr||t.flat,if bC1 t then [(k,t)] else [],rest) else none)=some (a,f,ks,rest):=by
       cases t<;>first|exact hi|exact absurd rfl (ht _ _)
      have g':fZ (fun _=>none) t [.d b t' fr k]=(if t'=t then some (b,fr||t.flat,if bC1 t then [(k,t)] else [],[]) else none):=by
       cases t<;>first|rfl|exact absurd rfl (ht _ _)
      rw[g']
      split at h'
      ·rename_i he
       rw[if_pos he]
       simp only[eW,nB] at h'⊢
       exact⟨h'.1,h'.2.1,h'.2.2.1,trivial⟩
      ·cases h'
     | nl e t' =>
      have h':(if t = .slice e t' then some (Ar.nl e t',true,([]:List (Nat×Ty)),rest) else none)=some (a,f,ks,rest):=by
       cases t<;>first|exact hi|exact absurd rfl (ht _ _)
      have g':fZ (fun _=>none) t [.nl e t']=(if t = .slice e t' then some (Ar.nl e t',true,([]:List (Nat×Ty)),[]) else none):=by
       cases t<;>first|rfl|exact absurd rfl (ht _ _)
      rw[g']
      split at h'
      ·rename_i he
       rw[if_pos he]
       simp only[eW,nB] at h'⊢
       exact⟨h'.1,h'.2.1,h'.2.2.1,trivial⟩
      ·cases h'
    obtain⟨d1,d2,hcs,g1,g2,g3⟩:=aGF (X:=X) (γ:=γ) (O:=Os γ es) (env:=env) (w:=w) t (ls:=[l]) (cs:=[c]) ⟨c,[],rfl,hc,rfl⟩ hi'
    have hd2:d2=[]:=g3
    subst hd2
    have hd1:d1=[c]:=by simpa using hcs.symm
    subst hd1
    exact⟨g1,g2.mono (hG f) (fun _ _=>rfl)⟩
   have roR:(∀r,l ≠ .own r)->(∀fl',fl≠2::fl')->(∀fl',fl≠1::fl')->(∀fl',fl≠3::fl')->oF rest fl.tail=some os ->
     ∃os1 os2 c1 c2,os=os1++os2/\oF rest fl.tail=some os2/\c::cs'=c1++c2/\bG X γ (Os γ es) env w rest c2/\a.bd env.length=true/\mvR G w t fl c1 ((a.val env).as t) (oB γ os1) (uB β os1):=fun hno h2 h1 h3 ho'=>by
    obtain⟨g1,g2⟩:=ro hno
    refine⟨[],os,[c],cs',rfl,ho',rfl,hl',g1,?_⟩
    have:oB γ []=[]/\uB β []=[]/\kS G t w [c] ((a.val env).as t):=⟨rfl,rfl,g2⟩
    cases t with
    | cMV x y=>exact absurd rfl (ht _ _)
    | slice e u =>
     rcases fl with _|⟨_|_|_|_|n,fl⟩
     ·exact this
     ·exact this
     ·exact absurd rfl (h1 _)
     ·exact absurd rfl (h2 _)
     ·exact absurd rfl (h3 _)
     ·exact this
    | int k=>cases fl<;>exact this
    | bool=>cases fl<;>exact this
    | str=>cases fl<;>exact this
   cases l with
   | own r =>
    have h2:∃fl',fl=2::fl':=by
     rcases fl with _|⟨_|_|_|_|n,fl⟩
     ·simp[oF] at ho
     ·simp[oF] at ho
     ·simp[oF] at ho
     ·exact⟨fl,rfl⟩
     ·simp[oF] at ho
     ·simp[oF] at ho
    obtain⟨fl',rfl⟩:=h2
    simp only[oF,Option.map_eq_some_iff] at ho
    obtain⟨os2,Hr,rfl⟩:=ho
    obtain⟨e,t',a',fr,hr⟩:=Bc (r,none) (by simp)
    simp only at hr
    have h':(if t = .slice e t' then some (a',fr,[(0,t)],rest) else none)=some (a,f,ks,rest):=by
     cases t<;>first|(simp only[fZ,hr] at hi;exact hi)|exact absurd rfl (ht _ _)
    split at h'
    ·rename_i hte
     subst hte
     simp only[eW,nB] at h'
     obtain⟨rfl,rfl,rfl,-⟩:=h'
     obtain⟨e1,v,e2,e3,e4,e5⟩:=hm.ent _ (mN hr)
     have hcv:γ r=some c:=hc
     simp only at e2
     rw[e2] at hcv
     simp only[eW] at hcv
     subst hcv
     refine⟨[(r,none)],os2,[v],cs',rfl,Hr,rfl,hl',e1,v,rfl,hg _ _ e2,wU.mono (hG fr) (fun _ _=>rfl) (fun _ _ _ _ _=>rfl) e3,?_,?_⟩
     ·have:uB β [(r,none)]=β r:=by simp[uB]
      rw[this]
      exact e4 rfl
     ·simp[oB,e2]
    ·cases h'
   | nl e t' =>
    have Js:t = .slice e t'/\a = .nl e t':=by
     have h':(if t = .slice e t' then some (Ar.nl e t',true,([]:List (Nat×Ty)),rest) else none)=some (a,f,ks,rest):=by
      cases t<;>first|exact hi|exact absurd rfl (ht _ _)
     split at h'
     ·rename_i he
      simp only[eW,nB] at h'
      exact⟨he,h'.1.symm⟩
     ·cases h'
    obtain⟨g1,g2⟩:=ro (fun r h=>by cases h)
    rcases fl with _|⟨_|_|_|_|n,fl⟩
    ·exact roR (fun r h=>by cases h) (fun fl' h=>by cases h) (fun fl' h=>by cases h) (fun fl' h=>by cases h) ho
    ·exact roR (fun r h=>by cases h) (fun fl' h=>by cases h) (fun fl' h=>by cases h) (fun fl' h=>by cases h) ho
    ·obtain⟨rfl,rfl⟩:=Js
     obtain⟨p,rfl⟩:=hc
     have hv:((Ar.nl e t').val env).as (.slice e t')=([]:List t'.D):=SV.as_self _ _
     refine⟨[],os,[.slice p 0 0],cs',rfl,ho,rfl,hl',g1,rfl,.inl ⟨p,rfl,hv,rfl⟩,g2⟩
    ·obtain⟨rfl,rfl⟩:=Js
     obtain⟨p,rfl⟩:=hc
     have hv:((Ar.nl e t').val env).as (.slice e t')=([]:List t'.D):=SV.as_self _ _
     refine⟨[],os,[.slice p 0 0],cs',rfl,ho,rfl,hl',g1,.slice p 0 0,rfl,rfl,.inl ⟨p,rfl,hv⟩,.inl ⟨p,rfl,rfl⟩,?_⟩
     cases p<;>simp[lY,oB]
    ·simp[oF] at ho
    ·exact roR (fun r h=>by cases h) (fun fl' h=>by cases h) (fun fl' h=>by cases h) (fun fl' h=>by cases h) ho
   | d b t' fr k =>
    by_cases h1:∃fl',fl=1::fl'
    ·obtain⟨fl',rfl⟩:=h1
     simp only[oF] at ho
     split at ho
     ·cases ho
     ·rename_i Ch
      simp only[Option.map_eq_some_iff] at ho
      obtain⟨os2,Hr,rfl⟩:=ho
      obtain⟨g1,g2⟩:=ro (fun r h=>by cases h)
      obtain⟨a',fr',hr⟩:=Bc (k,some t') (by simp)
      simp only at hr
      have Ba:t'=t:=by
       have h':(if t'=t then some (b,fr||t.flat,if bC1 t then [(k,t)] else [],rest) else none)=some (a,f,ks,rest):=by
        cases t<;>first|exact hi|exact absurd rfl (ht _ _)
       split at h'
       ·assumption
       ·cases h'
      subst Ba
      obtain⟨e1,v,e2,e3⟩:=hm.ent _ (mN hr)
      have hcv:=hc.2.2 Ch
      simp only at e2
      rw[e2] at hcv
      simp only[eW] at hcv
      subst hcv
      have hd:=kS.det g2 (Un.rdg _ _ _ _ e3)
      have huB:uB β [(k,some t')]=β k:=by simp[uB]
      have Lr:oB γ [(k,some t')]=[]:=by simp[oB]
      refine⟨[(k,some t')],os2,[v],cs',rfl,Hr,rfl,hl',g1,?_⟩
      rw[huB,Lr]
      rw[<-hd] at e3
      cases t' with
      | slice e u=>exact⟨rfl,e3,g2⟩
      | cMV x y=>exact absurd rfl (ht _ _)
      | int kk=>exact⟨rfl,aQ3 ht rfl e3,g2⟩
      | bool=>exact⟨rfl,aQ3 ht rfl e3,g2⟩
      | str=>exact⟨rfl,aQ3 ht rfl e3,g2⟩
    ·refine roR (fun r h=>by cases h) (fun fl' h=>?_) (fun fl' h=>h1 ⟨fl',h⟩) (fun fl' h=>?_) ?_
     ·subst h;simp[oF] at ho
     ·subst h;simp[oF] at ho
     ·rcases fl with _|⟨_|_|_|_|n,fl⟩
      ·exact ho
      ·exact ho
      ·exact absurd ⟨_,rfl⟩ h1
      ·simp[oF] at ho
      ·simp[oF] at ho
      ·exact ho
 induction t with
 | cMV x y ihx ihy =>
  intro ls cs fl os a f ks rest hl hi ho Bc
  simp only[fZ] at hi
  split at hi
  ·rename_i a1 f1 k1 ls1 h1
   split at hi
   ·rename_i a2 f2 k2 ls2 h2
    simp only[eW,nB] at hi
    obtain⟨rfl,rfl,rfl,rfl⟩:=hi
    obtain⟨os1,os2,c1,c2,rfl,i2,rfl,i4,i5,i6⟩:=ihx hl h1 ho Bc
    obtain⟨os3,os4,c3,c4,rfl,j2,rfl,j4,j5,j6⟩:=ihy i4 h2 i2 (fun r hr=>Bc r (by simp[hr]))
    refine⟨os1++os3,os4,c1++c3,c4,by simp,j2,by simp,j4,bLK _ _ _ _ _ i5 j5,c1,c3,_,_,_,_,rfl,aRA _ _,aZF _ _,?_,?_⟩
    ·rw[zS];exact i6
    ·rw[zS];exact j6
   ·cases hi
  ·cases hi
 | slice e t ih=>exact base _ (fun _ _ h=>by cases h)
 | int k=>exact base _ (fun _ _ h=>by cases h)
 | bool=>exact base _ (fun _ _ h=>by cases h)
 | str=>exact base _ (fun _ _ h=>by cases h)
end
section
variable {P:Program} {Cs:List Con} {X:Cx} {γ γ':Gh} {β β':Bt} {O O':List Nat} {env:List SV} {w w':World} {es es':Es} {G:Nat->Prop}
def aKE (γ:Gh) (r:Nat):Nat:=match γ r with
 | some (.pointer (some a))=>a.block
 | _=>0
theorem wU.okD {e:TypeId} {t:Ty} {v:Value} {l:List t.D} (h:wU G w e t v l):okD (.slice e t) l :=
 kS.okD (wU.rd (G':=fun _=>True) (fun _ _=>trivial) (fun _ _ _ _ _=>trivial) h)
theorem mvR.okD:{t:Ty}->{fl:List Nat}->{cs:List Value}->{d:t.D}->{ob ub:List Nat}->mvR G w t fl cs d ob ub->okD t d
 | .cMV x y,fl,cs,d,ob,ub,⟨c1,c2,o1,o2,u1,u2,_,_,_,h1,h2⟩=>⟨mvR.okD h1,mvR.okD h2⟩
 | .slice e t,[],cs,d,ob,ub,h=>h.2.2.okD
 | .slice e t,0::fl,cs,d,ob,ub,h=>h.2.2.okD
 | .slice e t,1::fl,cs,d,ob,ub,h=>h.2.2.okD
 | .slice e t,2::fl,cs,d,ob,ub,⟨v,_,_,h,_⟩=>h.okD
 | .slice e t,3::fl,cs,d,ob,ub,⟨v,_,_,h,_⟩=>h.okD
 | .slice e t,(_+4)::fl,cs,d,ob,ub,h=>h.2.2.okD
 | .int k,[],cs,d,ob,ub,h=>h.2.2.okD
 | .int k,_::_,cs,d,ob,ub,h=>h.2.2.okD
 | .bool,[],cs,d,ob,ub,h=>h.2.2.okD
 | .bool,_::_,cs,d,ob,ub,h=>h.2.2.okD
 | .str,[],cs,d,ob,ub,h=>h.2.2.okD
 | .str,_::_,cs,d,ob,ub,h=>h.2.2.okD
theorem bPA {lk:Lk} (hg:lF γ) {m:MV} {s:Sh} {a:Ar} {f:Bool} {ks:List (Nat×Ty)} (h:bAE lk m s=some (a,f,ks)) {ls:List Leaf} (hls:uP s=some ls) {v:Value} (hv:bU X γ O env w s v) :
  fZ lk m.t ls=some (a,f,ks,[])/\v=mkV m.ag v.cells.toList:=by
 unfold bAE at h
 split at h
 ·simp[uP] at hls
 ·rename_i l
  simp only[uP,eW] at hls
  subst hls
  split at h
  ·cases h
  ·rename_i hag
   split at h
   ·rename_i a' f' ks' hi
    simp only[eW,nB] at h
    obtain⟨rfl,rfl,rfl⟩:=h
    refine⟨hi,?_⟩
    rw[aGP hv hg]
    simp[mkV,hag]
   ·cases h
 ·rename_i l
  simp only[uP,eW] at hls
  subst hls
  split at h
  ·rename_i hag
   split at h
   ·rename_i a' f' ks' hi
    simp only[eW,nB] at h
    obtain⟨rfl,rfl,rfl⟩:=h
    obtain⟨cs,rfl,_⟩:=hv
    exact⟨hi,by simp[mkV,hag,Value.cells]⟩
   ·cases h
  ·cases h
 ·cases h
structure MutOK (X:Cx) (γ:Gh) (β:Bt) (env:List SV) (w:World) (es:Es) (G:Nat->Prop) (ms:List AM) (vs:List Value) (ars:List (Ty×Ar)) (rs:List (Nat×Option Ty)) (bs:List (Nat×TypeId×MV)) (ob ub:List Nat):Prop where
 am:aKA G w ms vs (ars.map fun p=>⟨p.1,(p.2.val env).as p.1⟩) ob ub
 perm:ob.Perm (oB γ rs++bs.map fun b=>aKE γ b.1)
 ub:ub=uB β rs
 tys:ars.map (·.1)=ms.map (·.mv.t)
 bms:aBZ ms=bs.map (·.2.2)
 bin:zW ms vs=bs.map fun b=>(aKE γ b.1,b.2.1,b.2.2)
 box:∀b∈bs,∃ls,fL es b.1=some (.box b.2.1 ls)
 ok:∀p∈ars,okD p.1 ((p.2.val env).as p.1)
theorem aT1 (hm:MemOK X γ β env w es) (hg:lF γ) (hG:∀fr b,Gd X (Os γ es) w fr b->G b):(ms:List AM)->(ss:List Sh)->(vs:List Value)->{ars:List (Ty×Ar)}->{rs:List (Nat×Option Ty)}->{bs:List (Nat×TypeId×MV)} ->
  oW (fL es) ms ss=some (ars,rs,bs)->ss.length=vs.length->(∀(k:Nat) (s:Sh) (v:Value),ss[k]?=some s->vs[k]?=some v->bU X γ (Os γ es) env w s v)->aQV es rs->∃ob ub,MutOK X γ β env w es G ms vs ars rs bs ob ub
 | [],[],[],ars,rs,bs,h,_,_,_=>by
  simp only[oW,eW,nB] at h
  obtain⟨rfl,rfl,rfl⟩:=h
  exact⟨[],[],⟨rfl,rfl,rfl⟩,.refl _,rfl,rfl,rfl,rfl,fun b hb=>by simp at hb,fun p hp=>by simp at hp⟩
 | .val m::ms,s::ss,v::vs,ars,rs,bs,h,hl,hv,Bc=>by
  have hv0:=hv 0 s v rfl rfl
  simp only[oW] at h
  split at h
  ·rename_i a f1 k1 ars2 rs2 bs2 ha h2
   have vals:∀{os:List (Nat×Option Ty)} {a:Ar},aQV es rs2->v=mkV m.ag v.cells.toList->mvR G w m.t m.fl v.cells.toList ((a.val env).as m.t) (oB γ os) (uB β os)->∃ob ub,MutOK X γ β env w es G (.val m::ms) (v::vs) ((m.t,a)::ars2) (os++rs2) bs2 ob ub:=fun {os a} hgv2 hmk hmv=>by
    obtain⟨ob,ub,i⟩:=aT1 hm hg hG ms ss vs h2 (by simpa using hl) (fun k s v hs hvv=>hv (k+1) s v (by simpa using hs) (by simpa using hvv)) hgv2
    refine⟨oB γ os++ob,uB β os++ub,⟨v,vs,_,_,_,_,_,_,rfl,rfl,rfl,rfl,hmk,?_,i.am⟩,?_,?_,?_,i.bms,i.bin,i.box,fun p hp=>?_⟩
    ·rw[SV.as_self];exact hmv
    ·rw[aRA,List.append_assoc];exact i.perm.append_left _
    ·rw[aZF,i.ub]
    ·simp[i.tys,AM.mv]
    ·simp only[List.mem_cons] at hp
     rcases hp with rfl|hp
     ·exact hmv.okD
     ·exact i.ok p hp
   split at h
   ·rename_i hfl
    rw[if_pos hfl] at ha
    split at h
    ·rename_i ls hls
     split at h
     ·rename_i os hos
      simp only[eW,nB] at h
      obtain⟨rfl,rfl,rfl⟩:=h
      obtain⟨hi,hmk⟩:=bPA hg ha hls hv0
      have hcl:=aQE hg hls hv0
      obtain⟨os1,os2,c1,c2,rfl,i2,hcs,i4,i5,i6⟩:=bRP (fl:=m.fl) hm hg hG m.t hcl hi hos (fun r hr=>Bc r (by simp[hr]))
      have hc2:c2=[]:=i4
      subst hc2
      rw[List.append_nil] at hcs
      have D8:os2=[]:=by simpa [oF] using i2.symm
      subst D8
      rw[List.append_nil]
      rw[<-hcs] at i6
      exact vals (fun r hr=>Bc r (by simp[hr])) hmk i6
     ·cases h
    ·cases h
   ·rename_i hfl
    rw[if_neg hfl] at ha
    simp only[eW,nB] at h
    obtain⟨rfl,rfl,rfl⟩:=h
    obtain⟨g1,g2,g3⟩:=bPL hg ha hv0
    exact vals (os:=[]) Bc g3 (bNZ (by simpa using hfl) (g2.mono (hG f1) (fun _ _=>rfl)))
  ·cases h
 | .box T m::ms,.pbox r 0::ss,v::vs,ars,rs,bs,h,hl,hv,Bc=>by
  have hv0:=hv 0 _ v rfl rfl
  simp only[oW] at h
  split at h
  ·rename_i T' ls ars2 rs2 bs2 hr h2
   split at h
   ·rename_i hT
    subst hT
    split at h
    ·rename_i a f k os hi hos
     simp only[eW,nB] at h
     obtain⟨rfl,rfl,rfl⟩:=h
     obtain⟨b,c,hb,hh,hls,hβ⟩:=hm.ent _ (mN hr)
     simp only at hb
     obtain⟨b',hb',rfl⟩:=hv0
     rw[hb] at hb'
     simp only[eW,Value.pointer.injEq,Addr.mk.injEq,and_true] at hb'
     subst hb'
     obtain⟨os1,os2,c1,c2,rfl,i2,hcs,i4,i5,i6⟩:=bRP (fl:=m.fl) hm hg hG m.t hls hi hos (fun r hr=>Bc r (by simp[hr]))
     have hc2:c2=[]:=i4
     subst hc2
     rw[List.append_nil] at hcs
     have D8:os2=[]:=by simpa [oF] using i2.symm
     subst D8
     rw[List.append_nil] at Bc⊢
     rw[<-hcs] at i6
     obtain⟨ob,ub,i⟩:=aT1 hm hg hG ms ss vs h2 (by simpa using hl) (fun k s v hs hvv=>hv (k+1) s v (by simpa using hs) (by simpa using hvv)) (fun r hr=>Bc r (by simp[hr]))
     have Bq:aKE γ r=b:=by simp[aKE,hb]
     refine⟨b::(oB γ os1++ob),uB β os1++ub,⟨b,c,vs,_,_,_,_,_,_,rfl,rfl,rfl,rfl,hh,?_,i.am⟩,?_,?_,?_,?_,?_,fun q hq=>?_,fun p hp=>?_⟩
     ·rw[SV.as_self];exact i6
     ·rw[aRA,List.append_assoc,List.map_cons,Bq]
      refine List.Perm.trans ?_ (List.perm_middle (l₁:=oB γ os1++oB γ rs2)).symm |>.trans (by rw[List.append_assoc])
      rw[List.append_assoc]
      exact(i.perm.append_left _).cons _
     ·rw[aZF,i.ub]
     ·simp[i.tys,AM.mv]
     ·simp[aBZ,i.bms]
     ·simp[zW,i.bin,Bq]
     ·simp only[List.mem_cons] at hq
      rcases hq with rfl|hq
      ·exact⟨ls,hr⟩
      ·exact i.box q hq
     ·simp only[List.mem_cons] at hp
      rcases hp with rfl|hp
      ·exact i6.okD
      ·exact i.ok p hp
    ·cases h
   ·cases h
  ·cases h
 | [],_::_,_,ars,rs,bs,h,_,_,_=>by simp[oW] at h
 | .val _::_,[],_,ars,rs,bs,h,_,_,_=>by simp[oW] at h
 | .box _ _::_,[],_,ars,rs,bs,h,_,_,_=>by simp[oW] at h
 | .box T m::ms,.pbox r (k+1)::ss,_,ars,rs,bs,h,_,_,_=>by simp[oW] at h
 | .box T m::ms,.no::ss,_,ars,rs,bs,h,_,_,_=>by simp[oW] at h
 | .box T m::ms,.one _::ss,_,ars,rs,bs,h,_,_,_=>by simp[oW] at h
 | .box T m::ms,.agg _::ss,_,ars,rs,bs,h,_,_,_=>by simp[oW] at h
 | .box T m::ms,.nilS::ss,_,ars,rs,bs,h,_,_,_=>by simp[oW] at h
 | .box T m::ms,.pelem ..::ss,_,ars,rs,bs,h,_,_,_=>by simp[oW] at h
 | .box T m::ms,.cut ..::ss,_,ars,rs,bs,h,_,_,_=>by simp[oW] at h
 | .box T m::ms,.pro _::ss,_,ars,rs,bs,h,_,_,_=>by simp[oW] at h
 | .box T m::ms,.tup _::ss,_,ars,rs,bs,h,_,_,_=>by simp[oW] at h
 | .box T m::ms,.fn _::ss,_,ars,rs,bs,h,_,_,_=>by simp[oW] at h
 | .box T m::ms,.und::ss,_,ars,rs,bs,h,_,_,_=>by simp[oW] at h
end
section
variable {P:Program} {Cs:List Con} {X:Cx} {γ γ':Gh} {β β':Bt} {O O':List Nat} {env:List SV} {w w':World} {es es':Es} {G G':Nat->Prop}
theorem mvR.mono (hG:∀b,G b->G' b):{t:Ty}->{fl:List Nat}->{cs:List Value}->{d:t.D}->{ob ub:List Nat}->mvR G w t fl cs d ob ub->mvR G' w t fl cs d ob ub
 | .cMV x y,fl,cs,d,ob,ub,⟨c1,c2,o1,o2,u1,u2,e1,e2,e3,h1,h2⟩=>⟨c1,c2,o1,o2,u1,u2,e1,e2,e3,mvR.mono hG h1,mvR.mono hG h2⟩
 | .slice e t,[],cs,d,ob,ub,h=>⟨h.1,h.2.1,h.2.2.mono hG (fun _ _=>rfl)⟩
 | .slice e t,0::fl,cs,d,ob,ub,h=>⟨h.1,h.2.1,h.2.2.mono hG (fun _ _=>rfl)⟩
 | .slice e t,1::fl,cs,d,ob,ub,h=>⟨h.1,h.2.1,h.2.2.mono hG (fun _ _=>rfl)⟩
 | .slice e t,2::fl,cs,d,ob,ub,⟨v,e1,e2,h,h2⟩=>⟨v,e1,e2,h.mono hG (fun _ _=>rfl) (fun _ _ _ _ _=>rfl),h2⟩
 | .slice e t,3::fl,cs,d,ob,ub,⟨v,e1,e2,h,h2⟩=>⟨v,e1,e2,h.mono hG (fun _ _=>rfl) (fun _ _ _ _ _=>rfl),h2⟩
 | .slice e t,(_+4)::fl,cs,d,ob,ub,h=>⟨h.1,h.2.1,h.2.2.mono hG (fun _ _=>rfl)⟩
 | .int k,[],cs,d,ob,ub,h=>h
 | .int k,_::_,cs,d,ob,ub,h=>h
 | .bool,[],cs,d,ob,ub,h=>h
 | .bool,_::_,cs,d,ob,ub,h=>h
 | .str,[],cs,d,ob,ub,h=>h
 | .str,_::_,cs,d,ob,ub,h=>h
theorem aKA.mono (hG:∀b,G b->G' b):{ms:List AM}->{vs:List Value}->{ds:List SV}->{ob ub:List Nat}->aKA G w ms vs ds ob ub->aKA G' w ms vs ds ob ub
 | [],vs,ds,ob,ub,h=>h
 | .val m::ms,vs,ds,ob,ub,⟨v,vs',d,ds',o1,o2,u1,u2,e1,e2,e3,e4,e5,h1,h2⟩=>⟨v,vs',d,ds',o1,o2,u1,u2,e1,e2,e3,e4,e5,h1.mono hG,aKA.mono hG h2⟩
 | .box T m::ms,vs,ds,ob,ub,⟨b,c,vs',d,ds',o1,o2,u1,u2,e1,e2,e3,e4,e5,h1,h2⟩=>⟨b,c,vs',d,ds',o1,o2,u1,u2,e1,e2,e3,e4,e5,h1.mono hG,aKA.mono hG h2⟩
theorem aU9:(ms:List MV)->(as':List Ar)->(fr:Bool)->(nr:Nat)->fI ms as' fr nr=fI ms (as'.take ms.length) fr nr
 | [],as',fr,nr=>by cases as'<;>rfl
 | m::ms,[],fr,nr=>rfl
 | m::ms,a::as',fr,nr=>by
  simp only[List.length_cons,List.take_succ_cons]
  have e:∀l,fI (m::ms) (a::l) fr nr=(bBX m.ag (aQ m.t a fr m.fl nr).1::(fI ms l fr (aQ m.t a fr m.fl nr).2.2.2).1,
   (aQ m.t a fr m.fl nr).2.1++(fI ms l fr (aQ m.t a fr m.fl nr).2.2.2).2.1,(fI ms l fr (aQ m.t a fr m.fl nr).2.2.2).2.2):=fun _=>rfl
  rw[e,e,aU9 ms as']
theorem aLI:(bs:List (Nat×TypeId×MV))->(as':List Ar)->(fr:Bool)->(nr:Nat)->nr<=(eH bs as' fr nr).2
 | [],as',fr,nr=>by cases as'<;>exact Nat.le_refl _
 | b::bs,[],fr,nr=>Nat.le_refl _
 | (r,T,m)::bs,a::as',fr,nr=>by
  have h1:=(jI m.t a fr m.fl nr).2.1
  have h2:=aLI bs as' fr (aQ m.t a fr m.fl nr).2.2.2
  show nr<=(eH bs as' fr (aQ m.t a fr m.fl nr).2.2.2).2
  omega
theorem aX6 {fr:Bool} (γ0:Gh) (hG:∀b,G b->Gd X O w fr b):(bs:List (Nat×TypeId×MV))->{as':List Ar}->{nr:Nat}->{γ:Gh}->{β:Bt}->{ds:List SV}->{ob ub:List Nat}->lF γ ->
  (∀r,nr<=r->r<(eH bs as' fr nr).2->γ r=none)->cH5 G w (bs.map fun b=>(aKE γ0 b.1,b.2.1,b.2.2)) ds ob ub->(∀b∈bs,γ b.1=some (.pointer (some ⟨aKE γ0 b.1,0,none⟩))/\β b.1=[])->as'.length=bs.length->(∀a∈as',a.bd env.length=true) ->
  (∀(k:Nat) (a:Ar) (b:Nat×TypeId×MV) (d:SV),as'[k]?=some a->bs[k]?=some b->ds[k]?=some d->(a.val env).as b.2.2.t=d.as b.2.2.t) ->
  ∃γ' β',lF γ'/\(∀r v,γ r=some v->γ' r=some v)/\(∀r,(r<nr\/(eH bs as' fr nr).2<=r)->γ' r=γ r/\β' r=β r) /\
   Os γ' (eH bs as' fr nr).1=ob/\Us β' (eH bs as' fr nr).1=ub/\∀p∈(eH bs as' fr nr).1,jS X γ' β' O env w p.1 p.2
 | [],[],nr,γ,β,ds,ob,ub,hg,hf,⟨h1,h2⟩,_,_,_,_=>⟨γ,β,hg,fun _ _ h=>h,fun _ _=>⟨rfl,rfl⟩,h1.symm,h2.symm,fun p hp=>by simp[eH] at hp⟩
 | (r,T,m)::bs,a::as',nr,γ,β,ds,ob,ub,hg,hf,h,hbs,hl,hb,hd=>by
  obtain⟨c,d,ds',o1,o2,u1,u2,rfl,rfl,rfl,hh,h1,h2⟩:=h
  obtain⟨n1,n2,n3⟩:=jI m.t a fr m.fl nr
  have hle:=aLI bs as' fr (nr+(aQ m.t a fr m.fl nr).2.1.length)
  have e:eH ((r,T,m)::bs) (a::as') fr nr=((r,.box T (aQ m.t a fr m.fl nr).1)::((aQ m.t a fr m.fl nr).2.1++(eH bs as' fr (aQ m.t a fr m.fl nr).2.2.2).1),(eH bs as' fr (aQ m.t a fr m.fl nr).2.2.2).2):=rfl
  rw[e,n2] at hf⊢
  simp only at hf⊢
  obtain⟨Cg,hβ0⟩:=hbs (r,T,m) (by simp)
  simp only at Cg hβ0
  have hout:∀b∈(r,T,m)::bs,b.1<nr\/(eH bs as' fr (nr+(aQ m.t a fr m.fl nr).2.1.length)).2<=b.1:=fun b hb'=>by
   by_cases hx:nr<=b.1/\b.1<(eH bs as' fr (nr+(aQ m.t a fr m.fl nr).2.1.length)).2
   ·have:=hf b.1 hx.1 hx.2
    rw[(hbs b hb').1] at this
    cases this
   ·omega
  obtain⟨γ1,β1,i1,i2,i3,i4,i5,i6,i7⟩:=bDH (X:=X) (O:=O) (env:=env) (fr:=fr) hG m.t (a:=a) (fl:=m.fl) (nr:=nr) (β:=β) (d:=d.as m.t) hg (fun r h1 h2=>hf r h1 (by omega)) h1 (hb a (by simp)) (hd 0 a (r,T,m) d rfl rfl rfl)
  obtain⟨γ2,β2,j1,j2,j3,j5,j6,j7⟩:=aX6 γ0 hG bs (as':=as') (nr:=nr+(aQ m.t a fr m.fl nr).2.1.length) (γ:=γ1) (β:=β1) i1 (fun r h1 h2=>by rw[(i3 r (by omega)).1];exact hf r (by omega) (by omega)) h2
   (fun b hb'=>by
    obtain⟨q1,q2⟩:=hbs b (by simp[hb'])
    exact⟨i2 _ _ q1,by rw[(i3 b.1 (by have:=hout b (by simp[hb']);omega)).2];exact q2⟩) (by simpa using hl)
   (fun a ha=>hb a (by simp[ha])) (fun k a b d ha hm hds=>hd (k+1) a b d (by simpa using ha) (by simpa using hm) (by simpa using hds))
  have hlat:Later X γ1 O env w γ2 O env w:=⟨j2,⟨[],by simp⟩,Nat.le_refl _,fun b _ h _=>⟨rfl,h⟩⟩
  have hβ:∀p∈(aQ m.t a fr m.fl nr).2.1,β2 p.1=β1 p.1:=fun p hp=>by
   have:=n3 p hp
   exact(j3 p.1 (by omega)).2
  have hr2:γ2 r=some (.pointer (some ⟨aKE γ0 r,0,none⟩)):=j2 _ _ (i2 _ _ Cg)
  have hrβ:β2 r=[]:=by
   have:=hout (r,T,m) (by simp)
   simp only at this
   rw[(j3 r (by omega)).2,(i3 r (by omega)).2]
   exact hβ0
  refine⟨γ2,β2,j1,fun r v h=>j2 r v (i2 r v h),fun r hr=>?_,?_,?_,fun p hp=>?_⟩
  ·obtain⟨a1,a2⟩:=i3 r (by omega)
   obtain⟨b1,b2⟩:=j3 r (by omega)
   exact⟨b1.trans a1,b2.trans a2⟩
  ·rw[aGR,fJ,j5,aJP j2 (fun p hp=>(i7 p hp).gh),i5]
   simp[oC,hr2,lY]
  ·rw[aJ4,iJ,j6,aLG hβ,i6]
   simp[hrβ]
  ·simp only[List.mem_cons,List.mem_append] at hp
   rcases hp with rfl|hp|hp
   ·exact⟨_,c,hr2,hh,bG.later hlat i4,hrβ⟩
   ·exact jS.later hlat (hβ p hp) (fun _ _=>rfl) (fun _ _=>rfl) (i7 p hp)
   ·exact j7 p hp
 | [],_::_,_,_,_,_,_,_,_,_,_,_,hl,_,_=>by simp at hl
 | _::_,[],_,_,_,_,_,_,_,_,_,_,hl,_,_=>by simp at hl
theorem bP1:(L:Es)->{es:Es}->dB es->(L.map (·.1)).Nodup->(∀p∈L,fL es p.1=some p.2)->es.Perm (L++cV es (L.map (·.1)))
 | [],es,_,_,_=>by show es.Perm (es.filter fun _=>true);rw[List.filter_eq_self.2 (fun _ _=>rfl)]
 | (r,e)::L,es,hk,hn,h=>by
  have h1:=h (r,e) (by simp)
  obtain⟨p1,p2⟩:=tV hk h1
  have hn':=List.nodup_cons.1 hn
  have hk1:dB (cV es [r]):=hk.sub (oP _ _)
  have hl:∀q∈L,fL (cV es [r]) q.1=fL es q.1:=fun q hq=>by
   have hne:q.1≠r:=fun he=>hn'.1 (by show r∈_;rw[<-he];exact List.mem_map_of_mem (f:=(·.1)) hq)
   simp only[fL,cV]
   congr 1
   rw[List.find?_filter]
   congr 1
   funext p
   by_cases hp:p.1=q.1
   ·have:p.1≠r:=by rw[hp];exact hne
    simp[hp,this,hne]
   ·simp[hp]
  have i1:=bP1 L hk1 hn'.2 (fun q hq=>by rw[hl q hq];exact h q (by simp[hq]))
  have hd:cV (cV es [r]) (L.map (·.1))=cV es (((r,e)::L).map (·.1)):=by
   simp only[cV,List.filter_filter,List.map_cons]
   congr 1
   funext p
   simp only[List.contains_cons,List.contains_nil,Bool.or_false,Bool.not_or]
   exact Bool.and_comm _ _
  rw[hd] at i1
  exact p1.trans (i1.cons _)
theorem bYQ {rs:List (Nat×Option Ty)} (h:bVL es rs=true):(rs.map (·.1)).Nodup/\aQV es rs:=by
 simp only[bVL,Bool.and_eq_true,decide_eq_true_eq,List.all_eq_true] at h
 refine⟨h.1,fun r hr=>?_⟩
 have:=h.2 r hr
 obtain⟨q,o⟩:=r
 simp only at this⊢
 split at this
 ·rename_i e t a fr hlk
  exact⟨e,t,a,fr,hlk⟩
 ·rename_i t u a fr hlk
  simp only[decide_eq_true_eq] at this
  subst this
  exact⟨a,fr,hlk⟩
 ·cases this
end
section
variable {P:Program} {Cs:List Con} {X:Cx} {γ γ':Gh} {β β':Bt} {O O':List Nat} {env:List SV} {w w':World} {es es':Es} {G G':Nat->Prop}
variable {wr:Bool} {D:List Nat} {nx nr n:Nat} {ls:List Let} {s:Sh} {new:Es} {ρ:Operand->Value} {sh:Operand->Sh} {o:Oper} {lk:Lk}
def aN8 (es:Es) (r:Nat):Ent:=(fL es r).getD (.uq .bool (.cb false) true)
theorem bS3 (hm:MemOK X γ β env w es) {rs:List (Nat×Option Ty)} (h:aQV es rs):Os γ (rs.map fun r=>(r.1,aN8 es r.1))=oB γ rs/\Us β (rs.map fun r=>(r.1,aN8 es r.1))=uB β rs:=by
 induction rs with
 | nil=>exact⟨rfl,rfl⟩
 | cons r rs ih =>
  obtain⟨i1,i2⟩:=ih (fun q hq=>h q (by simp[hq]))
  have h0:=h r (by simp)
  obtain⟨q,o⟩:=r
  refine⟨?_,?_⟩
  ·rw[List.map_cons,aGR,i1]
   have:oB γ ((q,o)::rs)=oB γ [(q,o)]++oB γ rs:=aRA [(q,o)] rs
   rw[this]
   congr 1
   cases o with
   | none =>
    obtain⟨e,t,a,fr,hl⟩:=h0
    simp only at hl
    cases hg:γ q<;>simp[aN8,hl,oC,oB,hg]
   | some t =>
    obtain⟨a,fr,hl⟩:=h0
    simp only at hl
    simp[aN8,hl,oC,oB]
  ·rw[List.map_cons,aJ4,i2]
   rfl
theorem bZW (hm:MemOK X γ β env w es) {bs:List (Nat×TypeId×MV)} (h:∀b∈bs,∃ls,fL es b.1=some (.box b.2.1 ls)) :
  Os γ (bs.map fun r=>(r.1,aN8 es r.1))=bs.map (fun b=>aKE γ b.1)/\Us β (bs.map fun r=>(r.1,aN8 es r.1))=[]/\∀b∈bs,γ b.1=some (.pointer (some ⟨aKE γ b.1,0,none⟩))/\β b.1=[]:=by
 have one:∀b∈bs,γ b.1=some (.pointer (some ⟨aKE γ b.1,0,none⟩))/\β b.1=[]:=fun b hb=>by
  obtain⟨ls,hl⟩:=h b hb
  obtain⟨q,c,h1,h2,h3,h4⟩:=hm.ent _ (mN hl)
  simp only at h1 h4
  exact⟨by simp[aKE,h1],h4⟩
 refine⟨?_,?_,one⟩
 ·clear one
  induction bs with
  | nil=>rfl
  | cons b bs ih =>
   obtain⟨ls,hl⟩:=h b (by simp)
   obtain⟨q,c,h1,h2,h3,h4⟩:=hm.ent _ (mN hl)
   simp only at h1
   rw[List.map_cons,aGR,ih (fun q hq=>h q (by simp[hq]))]
   simp[aN8,hl,oC,h1,lY,aKE]
 ·clear h
  induction bs with
  | nil=>rfl
  | cons b bs ih =>
   rw[List.map_cons,aJ4,ih (fun q hq=>one q (by simp[hq]))]
   simp[(one b (by simp)).2]
theorem cFE (hC:∀(c:Nat) (C:Con),Cs[c]?=some C->Con.Holds P C) (hm:MemOK X γ β env w es) (hk:dB es) (hf:FrameOK X w) (hg:lF γ) (hs:∀x,bU X γ (Os γ es) env w (sh x) (ρ x)) {f:Operand} {args:Array Operand} {tys:Array TypeId}
  (hop:o.op = .call { callee:=.value f,args:=args,argTypes:=tys })
  (h:aP2 P Cs o sh es nx nr=some (ls,s,es',n)) (hl:iV Cs env nx ls) (Aa:∀r,nr<=r->r<n->γ r=none) :
  aFA P ρ o w fun u w'=>∃γ' β',Turned X γ β env w es es' nr n s u γ' β' w':=by
 have D3:=hs f
 simp only[aP2,hop] at h
 split at h
 ·rename_i g hg'
  rw[hg'] at D3
  split at h
  ·rename_i c C hcon
   obtain⟨hc1,rfl⟩:=bH8 hcon
   have hH:=hC c C hc1
   split at h
   ·cases h
   ·rename_i hal
    have Ip:C.bx=none:=by simpa using hal
    split at h
    ·rename_i ars rs bs hmut
     split at h
     ·rename_i hcond
      obtain⟨htk,Mi,ht1,ht2⟩:=hcond
      split at h
      ·rename_i H7
       have Eb:=of_decide_eq_true H7
       simp only[eW,nB] at h
       obtain⟨rfl,rfl,rfl,rfl⟩:=h
       obtain⟨⟨l1,C',El,l2,l3,l4⟩,_⟩:=hl
       rw[hc1] at El
       simp only[eW] at El
       subst El
       obtain⟨Gn,Bc⟩:=bYQ htk
       have hvs:∀(k:Nat) (s:Sh) (v:Value),(args.toList.map sh)[k]?=some s->(args.toList.map ρ)[k]?=some v->bU X γ (Os γ es) env w s v:=fun k s v h1 h2=>by
        simp only[List.getElem?_map,Option.map_eq_some_iff] at h1 h2
        obtain⟨x,hx,rfl⟩:=h1
        obtain⟨y,hy,rfl⟩:=h2
        rw[hx] at hy
        simp only[eW] at hy
        subst hy
        exact hs x
       obtain⟨ob,ub,M⟩:=aT1 (G:=fun b=>b<w.heap.size/\b ∉ Os γ es/\¬X.A b) hm hg (fun fr b hb=>⟨hb.1,hb.2.1,hb.2.2.1⟩) C.ams (args.toList.map sh) (args.toList.map ρ) hmut (by simp) hvs Bc
       obtain⟨G1,G2⟩:=bS3 hm Bc
       obtain⟨B1,B2,B3⟩:=bZW hm M.box
       let L:Es:=rs.map (fun r=>(r.1,aN8 es r.1))++bs.map (fun r=>(r.1,aN8 es r.1))
       have Kr:L.map (·.1)=rs.map (·.1)++bs.map (·.1):=by simp[L,List.map_append,List.map_map,Function.comp_def]
       have Ks:Os γ L=oB γ rs++bs.map (fun b=>aKE γ b.1):=by simp only[L];rw[fJ,G1,B1]
       have Mw:Us β L=uB β rs:=by simp only[L];rw[iJ,G2,B2,List.append_nil]
       have Fb:∀p∈L,fL es p.1=some p.2:=fun p hp=>by
        simp only[L,List.mem_append,List.mem_map] at hp
        rcases hp with⟨r,hr,rfl⟩|⟨r,hr,rfl⟩
        ·have:=Bc r hr
         obtain⟨q,o⟩:=r
         cases o with
         | none=>obtain⟨e,t,a,fr,hh⟩:=this;simp only at hh⊢;simp[aN8,hh]
         | some t=>obtain⟨a,fr,hh⟩:=this;simp only at hh⊢;simp[aN8,hh]
        ·obtain⟨ls,hh⟩:=M.box r hr
         simp[aN8,hh]
       have hLn:(L.map (·.1)).Nodup:=by
        rw[Kr,List.nodup_append]
        refine⟨Gn,Mi,fun x hx y hy he=>?_⟩
        subst he
        simp only[List.mem_map] at hx hy
        obtain⟨r,hr,rfl⟩:=hx
        obtain⟨b,hb,he⟩:=hy
        obtain⟨ls,hh⟩:=M.box b hb
        rw[he] at hh
        have:=Bc r hr
        obtain⟨q,o⟩:=r
        simp only at hh
        cases o with
        | none=>obtain⟨e,t,a,fr,h2⟩:=this;simp only at h2;rw[hh] at h2;cases h2
        | some t=>obtain⟨a,fr,h2⟩:=this;simp only at h2;rw[hh] at h2;cases h2
       have pe:(L++cV es (rs.map (·.1)++bs.map (·.1))).Perm es:=by
        have:=bP1 L hk hLn Fb
        rw[Kr] at this
        exact this.symm
       obtain⟨As,A0⟩:=hm.perm pe
       have Bf:∀b,b∈ob↔b∈Os γ L:=fun b=>by rw[Ks];exact M.perm.mem_iff
       have C6:ub=Us β L:=by rw[Mw];exact M.ub
       have hnd:=As.nd
       rw[fJ,iJ] at hnd
       have Hq:(ob++ub).Nodup:=by
        refine(List.Perm.nodup_iff (l₁:=Os γ L++Us β L) ?_).1 (hnd.sublist ((List.sublist_append_left _ _).append (List.sublist_append_left _ _)))
        rw[Ks,C6]
        exact M.perm.symm.append_right _
       have Cz:∀b∈Os γ L,b<w.heap.size/\(X.B<=b\/b∈X.O0)/\¬X.A b:=fun b hb=>As.at' b (by rw[fJ];simp[hb])
       have Fk:∀b∈Us β L,Gd X (Os γ (L++cV es (rs.map (·.1)++bs.map (·.1)))) w true b:=fun b hb=>As.good b (by rw[iJ];simp[hb])
       let X':Cx:=⟨fun b=>X.A b\/b∈Os γ (cV es (rs.map (·.1)++bs.map (·.1))),ob,ub,w,fun b hb=>by
        rcases hb with hb|hb
        ·exact Nat.lt_of_lt_of_le (X.hA b hb) hf.B_le
        ·exact(As.at' b (by rw[fJ];simp[hb])).1,⟨hf.tab,fun b hb ho=>by
        obtain⟨_,q2,_⟩:=Cz b ((Bf b).1 ho)
        rcases q2 with q2|q2
        ·have:=bNA.lt _ X.tb.1 b hb;exact absurd q2 (by unfold Cx.B;omega)
        ·exact X.tb.2 b hb q2⟩⟩
       have hx:C.argTy=dI (C.ams.map (·.mv.t)):=by rw[<-M.tys];exact ht1.symm
       have hds:gA (C.ams.map (·.mv.t)) (SV.as _ ⟨C.argTy,SV.as C.argTy ((pK ars).val env)⟩)=ars.map fun p=>⟨p.1,(p.2.val env).as p.1⟩:=by
        rw[SV.as_as hx,<-aNJ M.tys,aUF]
       have hrun:=hH.run X' (args.toList.map ρ) _ ob ub l2 (by
        have:=bHI (env:=env) ars M.ok
        rw[ht1] at this
        exact this) rfl rfl Hq (fun b hb=>by
         rw[List.mem_append] at hb
         rcases hb with hb|hb
         ·have h6:=(Bf b).1 hb
          exact⟨(Cz b h6).1,fun hA=>hA.elim (Cz b h6).2.2 fun h=>(List.nodup_append.1 (List.nodup_append.1 hnd).1).2.2 b h6 b h rfl⟩
         ·rw[C6] at hb
          have h6:=Fk b hb
          exact⟨h6.1,fun hA=>hA.elim h6.2.2.1 fun h=>h6.2.1 (by rw[fJ];simp[h])⟩) (by
        rw[hds]
        have hes:∀b,b∈Os γ (L++cV es (rs.map (·.1)++bs.map (·.1)))->b∈Os γ es:=fun b h2=>by
         obtain⟨p,hp,hb'⟩:=xS.1 h2
         exact xS.2 ⟨p,pe.mem_iff.1 hp,hb'⟩
        exact M.am.mono fun b hb=>⟨hb.1,fun ho=>hb.2.1 (hes b (by rw[fJ];simp[(Bf b).1 ho])),fun hA=>hA.elim hb.2.2 fun h=>hb.2.1 (hes b (by rw[fJ];simp[h])),fun h=>by cases h⟩)
       refine .inr (.inr ⟨_,_,bL0 (sg:=true) hop D3 hH.fn,?_⟩)
       have I0:args.map ρ=(args.toList.map ρ).toArray:=Array.ext' (by simp)
       rw[I0]
       refine Calls.mono' hrun fun e w' hp=>?_
       obtain⟨v,he,rs',o1,u1,o2,u2,hv,hf',r1,r2,r3,r4,r5⟩:=hp
       refine⟨v,he,?_⟩
       rw[M.bin] at r2
       rw[Con.ras_none Ip] at r1
       have hsz:w.heap.size<=w'.heap.size:=hf'.size
       obtain⟨ps,hps⟩:∃ps,gP (C.rms.map (·.t)++bs.map (·.2.2.t)) (.Z nx)=ps:=⟨_,rfl⟩
       rw[hps] at Eb Aa⊢
       have hpl:ps.length=C.rms.length+bs.length:=by rw[<-hps,vN];simp
       have hpb:∀a∈ps,a.bd env.length=true:=by rw[<-hps];exact aI9 _ (aF7 l4)
       have hts:(C.rms++aBZ C.ams).map (·.t)=C.rms.map (·.t)++bs.map (·.2.2.t):=by rw[M.bms];simp[List.map_map,Function.comp_def]
       obtain⟨dd,hdd⟩:∃dd,gA ((C.rms++aBZ C.ams).map (·.t)) (SV.as _ ⟨C.resTy,C.fn (SV.as C.argTy ((pK ars).val env))⟩)=dd:=⟨_,rfl⟩
       rw[hdd] at r1 r2
       have Jw:∀(k:Nat) (a:Ar) (t:Ty) (d:SV),ps[k]?=some a->(C.rms.map (·.t)++bs.map (·.2.2.t))[k]?=some t->dd[k]?=some d->(a.val env).as t=d.as t:=fun k a t d h1 h2 h3=>by
        rw[<-hps] at h1
        rw[<-hdd,aNJ hts] at h3
        refine aBY _ _ k a t d h1 h2 ?_
        simp only[Ar.val,aVN l4]
        exact h3
       have hG:∀(fr:Bool) (b:Nat),Gd X' (o1++o2) w' fr b->Gd X ((o1++o2)++Os γ (cV es (rs.map (·.1)++bs.map (·.1)))) w' fr b:=fun fr b ⟨a1,a2,a3,a4⟩=>by
        refine⟨a1,?_,fun hA=>a3 (.inl hA),fun Ii=>?_⟩
        ·rw[List.mem_append]
         rintro(h|h)
         ·exact a2 h
         ·exact a3 (.inr h)
        ·rcases a4 Ii with h4|h4
         ·exact .inl (Nat.le_trans hf.B_le (show w.heap.size<=b from h4))
         ·have h4':b∈ob++ub:=h4
          rw[List.mem_append] at h4'
          rcases h4' with h5|h5
          ·obtain⟨q1,q2,q3⟩:=Cz b ((Bf b).1 h5)
           exact q2.imp id fun h=>by simp[Cx.F0,h]
          ·rw[C6] at h5
           obtain⟨q1,q2,q3,q4⟩:=Fk b h5
           exact q4 rfl
       have H4:=aLI bs (ps.drop C.rms.length) false (fI C.rms ps (!C.alias) nr).2.2
       rw[aU9 C.rms ps] at Aa Eb H4⊢
       have htl:(ps.take C.rms.length).length=C.rms.length:=List.length_take_of_le (by omega)
       obtain⟨n1,n2,n3⟩:=aFY C.rms (ps.take C.rms.length) (!C.alias) nr htl
       obtain⟨γ1,β1,i1,i2,i3,i4,i5,i6,i7⟩:=bGU (X:=X) (O:=(o1++o2)++Os γ (cV es (rs.map (·.1)++bs.map (·.1)))) (env:=env) (fr:=!C.alias) (hG _) C.rms (as':=ps.take C.rms.length) (nr:=nr) (β:=β) hg (fun r h1 h2=>Aa r h1 (by omega)) r1 htl (fun a ha=>hpb a (List.mem_of_mem_take ha))
        (fun k a m d h1 h2 h3=>by
         have hk:k<C.rms.length:=(List.getElem?_eq_some_iff.1 h2).1
         rw[List.getElem?_take,if_pos hk] at h1 h3
         exact Jw k a m.t d h1 (by rw[List.getElem?_append_left (by simpa using hk)];simp[h2]) h3)
       have hold:∀q v,γ q=some v->q<nr\/(eH bs (ps.drop C.rms.length) false (fI C.rms (ps.take C.rms.length) (!C.alias) nr).2.2).2<=q:=fun q v hv=>by
        by_cases hh:nr<=q/\q<(eH bs (ps.drop C.rms.length) false (fI C.rms (ps.take C.rms.length) (!C.alias) nr).2.2).2
        ·rw[Aa q hh.1 hh.2] at hv;cases hv
        ·omega
       obtain⟨γ2,β2,j1,j2,j3,j5,j6,j7⟩:=aX6 (X:=X) (O:=(o1++o2)++Os γ (cV es (rs.map (·.1)++bs.map (·.1)))) (env:=env) (fr:=false) γ (hG false) bs (as':=ps.drop C.rms.length) (nr:=(fI C.rms (ps.take C.rms.length) (!C.alias) nr).2.2) (γ:=γ1) (β:=β1) i1 (fun r h1 h2=>by rw[(i3 r (by omega)).1];exact Aa r (by omega) h2) r2
        (fun b hb=>by
         obtain⟨q1,q2⟩:=B3 b hb
         have:=hold b.1 _ q1
         exact⟨i2 _ _ q1,by rw[(i3 b.1 (by omega)).2];exact q2⟩) (by rw[List.length_drop];omega) (fun a ha=>hpb a (List.mem_of_mem_drop ha))
        (fun k a b d h1 h2 h3=>by
         rw[List.getElem?_drop] at h1 h3
         exact Jw _ a b.2.2.t d h1 (by rw[List.getElem?_append_right (by simp)];simp[h2]) h3)
       have Cr:∀{OO:List Nat},Later X γ1 OO env w' γ2 OO env w':=fun {OO}=>⟨j2,⟨[],by simp⟩,Nat.le_refl _,fun b _ h _=>⟨rfl,h⟩⟩
       have hβ12:∀p∈(fI C.rms (ps.take C.rms.length) (!C.alias) nr).2.1,β2 p.1=β1 p.1:=fun p hp=>by
        have:=n2 p hp
        exact(j3 p.1 (by omega)).2
       have hγ02:∀r v,γ r=some v->γ2 r=some v:=fun r v h=>j2 r v (i2 r v h)
       have Av:Os γ2 ((fI C.rms (ps.take C.rms.length) (!C.alias) nr).2.1++(eH bs (ps.drop C.rms.length) false (fI C.rms (ps.take C.rms.length) (!C.alias) nr).2.2).1)=o1++o2:=by
        rw[fJ,j5,aJP j2 (fun p hp=>(i7 p hp).gh),i5]
       have A2:Us β2 ((fI C.rms (ps.take C.rms.length) (!C.alias) nr).2.1++(eH bs (ps.drop C.rms.length) false (fI C.rms (ps.take C.rms.length) (!C.alias) nr).2.2).1)=u1++u2:=by
        rw[iJ,j6,aLG hβ12,i6]
       have Dv:Os γ2 (((fI C.rms (ps.take C.rms.length) (!C.alias) nr).2.1++(eH bs (ps.drop C.rms.length) false (fI C.rms (ps.take C.rms.length) (!C.alias) nr).2.2).1)++cV es (rs.map (·.1)++bs.map (·.1)))=(o1++o2)++Os γ (cV es (rs.map (·.1)++bs.map (·.1))):=by
        rw[fJ,Av,aJP hγ02 (fun p hp=>(hm.ent p ((oP _ _).subset hp)).gh)]
       have hβd:∀p∈cV es (rs.map (·.1)++bs.map (·.1)),β2 p.1=β p.1:=fun p hp=>by
        obtain⟨v,hv⟩:=(hm.ent p ((oP _ _).subset hp)).gh
        have:=hold p.1 v hv
        rw[(j3 p.1 (by omega)).2,(i3 p.1 (by omega)).2]
       obtain⟨t1,t2⟩:=MemOK.turn (γ':=γ2) (β':=β2) (w':=w') (old:=L) (es:=cV es (rs.map (·.1)++bs.map (·.1))) (new:=(fI C.rms (ps.take C.rms.length) (!C.alias) nr).2.1++(eH bs (ps.drop C.rms.length) false (fI C.rms (ps.take C.rms.length) (!C.alias) nr).2.2).1) As hf.B_le
        (fun b hb Bq=>hf'.block b hb (fun h=>Bq ((Bf b).1 h))) hsz hγ02 hβd (by rw[Av,A2];exact r3)
        (fun b hb=>by
         rw[Av] at hb
         obtain⟨a1,a2,a3⟩:=r4 b hb
         rcases a2 with a2|a2
         ·exact .inr ⟨a2,a1⟩
         ·exact .inl ((Bf b).1 a2))
        (fun b hb=>by
         rw[A2] at hb
         obtain⟨a1,a2,a3,a4⟩:=r5 b hb
         rcases a4 rfl with h4|h4
         ·exact .inr (.inr ⟨h4,a1⟩)
         ·have h4':b∈ob++ub:=h4
          rw[List.mem_append] at h4'
          rcases h4' with h5|h5
          ·exact .inl ((Bf b).1 h5)
          ·rw[C6] at h5;exact .inr (.inl h5))
        (fun _ p hp=>by
         rw[Dv]
         rw[List.mem_append] at hp
         rcases hp with hp|hp
         ·exact jS.later Cr (hβ12 p hp) (fun _ _=>rfl) (fun _ _=>rfl) (i7 p hp)
         ·exact j7 p hp)
       refine⟨γ2,β2,⟨t1,Eb,A0.trans t2,⟨hf'.os.trans hf.os,hf'.tape.trans hf.tape,hf'.output.trans hf.output,Nat.le_trans hf.size hsz,fun b hb Bq=>?_⟩,j1,fun r hr=>?_,by omega,?_⟩⟩
       ·have Mg:b<w.heap.size:=Nat.lt_of_lt_of_le hb hf.size
        rw[hf'.block b Mg (fun h=>?_)]
        ·exact hf.block b hb Bq
        ·rcases(Cz b ((Bf b).1 h)).2.1 with q|q
         ·omega
         ·exact Bq q
       ·rw[(j3 r (by omega)).1,(i3 r (by omega)).1]
       ·rw[Dv,hv]
        exact bYA (xW.later Cr i4)
      ·cases h
     ·cases h
    ·cases h
  ·cases h
 ·cases h
end
section
variable {P:Program} {Cs:List Con} {X:Cx} {γ γ':Gh} {β β':Bt} {O O':List Nat} {env:List SV} {w w':World} {es es':Es} {G G':Nat->Prop}
variable {wr:Bool} {D:List Nat} {nx nr n:Nat} {ls:List Let} {s:Sh} {new:Es} {ρ:Operand->Value} {sh:Operand->Sh} {o:Oper} {lk:Lk}
theorem bE3 (hC:∀(c:Nat) (C:Con),Cs[c]?=some C->Con.Holds P C) (hm:MemOK X γ β env w es) (hk:dB es) (hf:FrameOK X w) (hg:lF γ) (hs:∀x,bU X γ (Os γ es) env w (sh x) (ρ x))
  (h:aP2 P Cs o sh es nx nr=some (ls,s,es',n)) (hl:iV Cs env nx ls) (Aa:∀r,nr<=r->r<n->γ r=none) :
  aFA P ρ o w fun u w'=>∃γ' β',Turned X γ β env w es es' nr n s u γ' β' w':=by
 cases hop:o.op with
 | store T x v=>exact bUN hm hk hf hg hs hop h hl Aa
 | call c =>
  obtain⟨callee,args,tys⟩:=c
  cases callee with
  | builtin b =>
   cases b with
   | append=>exact bSA hm hk hf hg hs hop h hl Aa
   | _=>simp[aP2,hop] at h
  | value f=>exact cFE hC hm hk hf hg hs hop h hl Aa
  | _=>simp[aP2,hop] at h
 | _=>simp[aP2,hop] at h
theorem bHF {r:Nat} {a:Ar} {t:Ty} {fr:Bool} {k:Nat} (p:Nat×Ent):(aQ4 r a t fr k p).1=p.1:=by
 obtain⟨q,e⟩:=p
 cases e<;>rfl
theorem bUY {r:Nat} {a:Ar} {t:Ty} {fr:Bool} {k:Nat} (p:Nat×Ent):oC γ (aQ4 r a t fr k p)=oC γ p:=by
 obtain⟨q,e⟩:=p
 cases e<;>rfl
theorem bFE {r:Nat} {a:Ar} {t:Ty} {fr:Bool} {k:Nat}:Os γ (es.map (aQ4 r a t fr k))=Os γ es:=by
 induction es with
 | nil=>rfl
 | cons p es ih=>rw[List.map_cons,aGR,aGR,ih,bUY]
theorem cBI {r:Nat} {a:Ar} {t:Ty} {fr:Bool} {k:Nat}:Us β (es.map (aQ4 r a t fr k))=Us β es:=by
 induction es with
 | nil=>rfl
 | cons p es ih=>rw[List.map_cons,aJ4,aJ4,ih,bHF]
theorem MemOK.frz (h:MemOK X γ β env w es) {r:Nat} {a:Ar} {t:Ty} {fr:Bool} {k:Nat} {v:Value} (hv:γ r=some v) (hd:kJ X γ (Os γ es) env w (.d a t fr k) v):MemOK X γ β env w (es.map (aQ4 r a t fr k)):=by
 refine⟨by rw[bFE,cBI];exact h.nd,by rw[bFE];exact h.at',by rw[bFE,cBI];exact h.good,fun p hp=>?_⟩
 rw[bFE]
 obtain⟨⟨q,e⟩,hq,rfl⟩:=List.mem_map.1 hp
 have he:=h.ent _ hq
 cases e with
 | box T ls =>
  obtain⟨b,c,h1,h2,h3,h4⟩:=he
  exact⟨b,c,h1,h2,aFE .refl hv hd h3,h4⟩
 | sl e t a fr uq=>exact he
 | uq t a fr=>exact he
 | arr e t a fr ls =>
  obtain⟨h0,u,h1,h2,h3,b,n,cap,cur,h4,h5,h6,h7⟩:=he
  exact⟨h0,u,h1,h2,h3,b,n,cap,cur,h4,h5,h6,aFE .refl hv hd h7⟩
theorem bSL (hm:MemOK X γ β env w es) (hk:dB es) {r:Nat} {a:Ar} {t:Ty} {fr uq:Bool} (h:bYJ es r=some (a,t,fr,uq)) :
  ∃β' v,γ r=some v/\MemOK X γ β' env w (bEH es r a t fr uq)/\dB (bEH es r a t fr uq)/\Later X γ (Os γ es) env w γ (Os γ (bEH es r a t fr uq)) env w/\kJ X γ (Os γ (bEH es r a t fr uq)) env w (.d a t fr (if uq then r else 0)) v:=by
 obtain⟨E,e,t',hE,rfl,F2⟩:∃E e t',fL es r=some E/\t = .slice e t'/\(E = .sl e t' a fr uq\/(∃ls,E = .arr e t' a fr ls)/\uq=t'.flat):=by
  unfold bYJ at h
  split at h
  ·rename_i e t' a' fr' uq' hl
   simp only[eW,nB] at h
   obtain⟨rfl,rfl,rfl,rfl⟩:=h
   exact⟨_,e,t',hl,rfl,.inl rfl⟩
  ·rename_i e t' a' fr' ls hl
   simp only[eW,nB] at h
   obtain⟨rfl,rfl,rfl,rfl⟩:=h
   exact⟨_,e,t',hl,rfl,.inr ⟨⟨ls,rfl⟩,rfl⟩⟩
  ·cases h
 obtain⟨p1,p2⟩:=tV hk hE
 have p3:=aDX (e':=.uq (.slice e t') a fr) hk hE
 obtain⟨As,A0⟩:=hm.perm p1.symm
 obtain⟨β',v,f1,f2,f3,f4,f5⟩:=bS7 As p2 F2
 let base:Es:=if uq then tE es r (.uq (.slice e t') a fr) else cV es [r]
 have pb:base.Perm (if uq then(r,.uq (.slice e t') a fr)::cV es [r] else cV es [r]):=by
  simp only[base]
  split
  ·exact p3
  ·exact .refl _
 obtain⟨hm2,hl2⟩:=f3.perm pb
 have hO:∀b,b ∉ Os γ (cV es [r])->b ∉ Os γ base:=fun b hb hb'=>by
  obtain⟨p,hp,hpb⟩:=xS.1 hb'
  have:=pb.mem_iff.1 hp
  split at this
  ·simp only[List.mem_cons] at this
   rcases this with rfl|h
   ·simp[oC] at hpb
   ·exact hb (xS.2 ⟨p,h,hpb⟩)
  ·exact hb (xS.2 ⟨p,this,hpb⟩)
 have Cl:Later X γ (Os γ (cV es [r])) env w γ (Os γ base) env w:=Later.shrink hO
 have hd:=kJ.later Cl f5
 have Gu:bEH es r a (.slice e t') fr uq=base.map (aQ4 r a (.slice e t') fr (if uq then r else 0)):=rfl
 rw[Gu,bFE]
 refine⟨β',v,f1,hm2.frz f1 hd,?_,(A0.trans f4).trans Cl,hd⟩
 unfold dB
 rw[List.map_map]
 have:(base.map ((·.1) ∘ aQ4 r a (.slice e t') fr (if uq then r else 0)))=base.map (·.1):=List.map_congr_left fun p _=>bHF p
 rw[this]
 simp only[base]
 split
 ·rw[aI5];exact hk
 ·exact hk.sub (oP _ _)
theorem pC.cutAt {α:Type} {n:Nat} {R:List Value->α->List Nat->Prop}:(k:Nat)->{l:List α}->{xs:List Value}->{bl:List Nat}->pC n R xs l bl ->
  ∃xs1 xs2 b1 b2,xs=xs1++xs2/\xs1.length=min k l.length * n/\bl=b1++b2/\pC n R xs1 (l.take k) b1/\pC n R xs2 (l.drop k) b2
 | 0,l,xs,bl,h=>⟨[],xs,[],bl,rfl,by simp,rfl,by simp[pC],by simpa using h⟩
 | k+1,[],xs,bl,h=>⟨[],xs,[],bl,rfl,by simp,rfl,by simp[pC],by simpa using h⟩
 | k+1,x::l,xs,bl,h=>by
  obtain⟨c,xs',b1,b2,hc,rfl,rfl,h1,hr⟩:=h
  obtain⟨y1,y2,c1,c2,rfl,hl,rfl,ha,hb⟩:=pC.cutAt k hr
  refine⟨c++y1,y2,b1++c1,c2,by simp,?_,by simp,⟨c,y1,b1,c1,hc,rfl,rfl,h1,ha⟩,hb⟩
  rw[List.length_append,hc,hl,List.length_cons,show min (k+1) (l.length+1)=min k l.length+1 by omega,Nat.succ_mul];omega
theorem cH8 {T e:TypeId} {t:Ty} (hT:P.underlying T=some (.slice e)) {b len cap zk zl:Nat} {ll:List t.D} {B:List Nat} {G:Nat->Prop} {uq:Bool} (hrow:wU G w e t (.slice (some ⟨b,0,none⟩) len cap) ll)
  (hu:uq=true->aWI w e t (.slice (some ⟨b,0,none⟩) len cap) ll B) (h1:zk<=zl) (h2:zl<=ll.length) :
  ∃bl1 bl2 news,wU G w e t (.slice (some ⟨b,0,none⟩) zk cap) (ll.take zk)/\(uq=true->aWI w e t (.slice (some ⟨b,0,none⟩) zk cap) (ll.take zk) bl1) /\
   Src P t.n T (.slice (if cap=zl then some ⟨b,0,none⟩ else some ⟨b,zl * t.n,none⟩) (len - zl) (cap - zl)) (ll.drop zl).length news w/\news.length=(ll.drop zl).length * t.n /\
   (∀k (hk:k<(ll.drop zl).length),kS G t w ((news.drop (k * t.n)).take t.n) (ll.drop zl)[k])/\(uq=true->pC t.n (Un t w) news (ll.drop zl) bl2)/\(bl1++bl2).Sublist B:=by
 obtain⟨nw,w1,w2,w3,w4,w5⟩:=hrow.cells (P:=P) hT
 have H3:len=ll.length:=by
  rcases hrow with⟨p,hp,rfl⟩|⟨b2,cap2,cur,hv,_⟩
  ·simp only[Value.slice.injEq] at hp;simpa using hp.2.1
  ·simp only[Value.slice.injEq] at hv;exact hv.2.1
 have hn:=Ty.n_pos t
 have hlt:(ll.drop zl).length=ll.length - zl:=List.length_drop
 have hnl:(nw.drop (zl * t.n)).length=(ll.drop zl).length * t.n:=by rw[List.length_drop,w1,hlt,Nat.sub_mul]
 have hel:∀k (hk:k<(ll.drop zl).length),kS G t w (((nw.drop (zl * t.n)).drop (k * t.n)).take t.n) (ll.drop zl)[k]:=fun k hk=>by
  rw[List.drop_drop,<-Nat.add_mul,List.getElem_drop]
  exact w2 (zl+k) (by omega)
 have hsrc:Src P t.n T (.slice (if cap=zl then some ⟨b,0,none⟩ else some ⟨b,zl * t.n,none⟩) (len - zl) (cap - zl)) (ll.drop zl).length (nw.drop (zl * t.n)) w:=by
  have hone:∀u∈nw.drop (zl * t.n),u.oneCell'=true:=fun u hu=>w5.one u (List.mem_of_mem_drop hu)
  rw[show len - zl=(ll.drop zl).length by omega]
  split
  ·rename_i hc
   have h0:(ll.drop zl).length=0:=by
    rcases hrow with⟨p,hp,hnil⟩|⟨b2,cap2,cur,hv,_,_,q1,_⟩
    ·rw[hnil];simp
    ·simp only[Value.slice.injEq] at hv;omega
   refine Src.ofSlice w hT _ _ _ _ hnl (fun j u hj=>?_) hone
   have:nw.drop (zl * t.n)=[]:=List.eq_nil_of_length_eq_zero (by rw[hnl,h0,Nat.zero_mul])
   rw[this] at hj;simp at hj
  ·refine Src.ofSlice w hT _ _ _ _ hnl (fun j u hj=>?_) hone
   rcases w4 with⟨p,_,_,hz⟩|⟨b2,cap2,cur,hv,_,hh,_,_,_,hz⟩
   ·rw[hz] at hj;simp at hj
   ·simp only[Value.slice.injEq,eW,Addr.mk.injEq,and_true] at hv
    obtain⟨rfl,-,-⟩:=hv
    have hadd:((⟨b,zl * t.n,none⟩:Addr).add j)=⟨b,zl * t.n+j,none⟩:=by simp only[Addr.add];split<;>simp_all
    rw[hadd]
    simp only[World.cell?,hh,Option.isSome_none,Bool.false_eq_true,if_false]
    rw[hz,List.getElem?_drop,List.getElem?_take] at hj
    split at hj
    ·simpa using hj
    ·cases hj
 have Dj:wU G w e t (.slice (some ⟨b,0,none⟩) zk cap) (ll.take zk):=by
  rcases hrow with⟨p,hp,rfl⟩|⟨b2,cap2,cur,hv,hcap,hh,q1,q2,q3,q4⟩
  ·simp only[Value.slice.injEq] at hp
   have:zk=0:=by simp at h2;omega
   subst this
   exact .inl ⟨_,by rw[hp.2.2],rfl⟩
  ·simp only[Value.slice.injEq,eW,Addr.mk.injEq,and_true] at hv
   obtain⟨rfl,-,rfl⟩:=hv
   refine .inr ⟨b,cap,cur,by rw[List.length_take,Nat.min_eq_left (by omega)],hcap,hh,by rw[List.length_take];omega,q2,q3,fun k hk=>?_⟩
   rw[List.getElem_take]
   exact q4 k (by rw[List.length_take] at hk;omega)
 cases E3:uq
 ·exact⟨[],[],_,Dj,fun h=>(by cases h),hsrc,hnl,hel,fun h=>(by cases h),List.nil_sublist _⟩
 ·have hr:=w3 B (hu E3)
  obtain⟨x1,x2,b1,b2,e1,e2,e3,r1,r2⟩:=pC.cutAt zl hr
  obtain⟨y1,y2,c1,c2,f1,f2,f3,r3,r4⟩:=pC.cutAt zk r1
  have hx1:x1.length=zl * t.n:=by rw[e2,Nat.min_eq_left h2]
  have hy1:y1.length=zk * t.n:=by rw[f2,List.length_take,Nat.min_eq_left (by omega)]
  rw[List.take_take,Nat.min_eq_left h1] at r3
  have hx2:nw.drop (zl * t.n)=x2:=by rw[e1,<-hx1,List.drop_left]
  refine⟨c1,b2,_,Dj,fun _=>?_,hsrc,hnl,hel,fun _=>by rw[hx2];exact r2,?_⟩
  ·rcases hu E3 with⟨p,hp,hB⟩|⟨b3,n3,cap3,cur,hv,hcap,hh,hR⟩
   ·simp only[Value.slice.injEq] at hp
    have Ch:zk=0:=by have:=hp.2.1;omega
    refine .inl ⟨_,by rw[hp.2.2,Ch],?_⟩
    rw[hB] at e3
    have:=(List.append_eq_nil_iff.1 e3.symm).1
    rw[f3] at this
    exact(List.append_eq_nil_iff.1 this).1
   ·simp only[Value.slice.injEq,eW,Addr.mk.injEq,and_true] at hv
    obtain⟨rfl,rfl,rfl⟩:=hv
    refine .inr ⟨b,_,cap,cur,rfl,hcap,hh,?_⟩
    rcases w4 with⟨p,hp,_,_⟩|⟨b4,cap4,cur4,hv4,_,Ia,q1,_,q3,hz⟩
    ·simp only[Value.slice.injEq] at hp;omega
    ·simp only[Value.slice.injEq,eW,Addr.mk.injEq,and_true] at hv4
     obtain⟨rfl,-,rfl⟩:=hv4
     rw[hh] at Ia
     simp only[eW,Obj.cells.injEq,and_true] at Ia
     subst Ia
     have hy:cur.toList.take ((ll.take zk).length * t.n)=y1:=by
      have ht:(cur.toList.take (ll.length * t.n)).take (zk * t.n)=y1:=by rw[<-hz,e1,f1,List.append_assoc,<-hy1,List.take_left]
      rw[List.take_take,Nat.min_eq_left (Nat.mul_le_mul_right _ (by omega))] at ht
      rw[List.length_take,Nat.min_eq_left (by omega)];exact ht
     rw[hy];exact r3
  ·rw[e3,f3,List.append_assoc]
   exact(List.Sublist.refl _).append (List.sublist_append_right _ _)
theorem cFL (hm:MemOK X γ β env w es) (hk:dB es) (hf:FrameOK X w) (hg:lF γ) (hs:∀x,bU X γ (Os γ es) env w (sh x) (ρ x))
  (h:cF7 P o sh es nx nr=some (ls,s,es',n)) (hl:iV Cs env nx ls) (Aa:∀r,nr<=r->r<n->γ r=none) :
  aFA P ρ o w fun u w'=>∃γ' β',Turned X γ β env w es es' nr n s u γ' β' w':=by
 unfold cF7 at h
 split at h
 ·rename_i args tys hop
  split at h
  ·rename_i x y T T2 ha ht
   have hx:=hs x
   have hy:=hs y
   have ha':args = #[x,y]:=by cases args;simp_all
   have ht':tys = #[T,T2]:=by cases tys;simp_all
   subst ha' ht'
   have ex:∀{v':Value} {w':World},(Builtin.append_ #[T,T2] o.type #[ρ x,ρ y]).run P w = .ok v' w'->(execOp ρ o).run P w = .ok (.value v') w':=fun {v' w'} hr=>by
    simp[execOp,hop,resolve,invoke,builtin,hr]
   split at h
   ·rename_i r e t k r2 e2 t2 l hsx hsy
    split at h
    ·rename_i hc1
     obtain⟨h1,h2,h3,h4⟩:=hc1
     obtain rfl:=h1.symm;obtain rfl:=h2.symm;obtain rfl:=h3.symm;obtain rfl:=h4.symm
     split at h
     ·rename_i e3 i e4 t4 a fr uq hT hi hr
      split at h
      ·rename_i hc2
       obtain⟨h1,h2,h3,hit⟩:=hc2
       obtain rfl:=h1.symm;obtain rfl:=h2.symm;obtain rfl:=h3.symm
       subst hit
       simp only[eW,nB] at h
       obtain⟨rfl,rfl,rfl,rfl⟩:=h
       rw[hsx] at hx
       rw[hsy] at hy
       obtain⟨kb,b,len,cap,c1,c2,c3,c4⟩:=hx
       obtain⟨lb,b',len',cap',d1,d2,d3,d4⟩:=hy
       rw[c1] at d1
       simp only[eW,Value.slice.injEq,Addr.mk.injEq,and_true] at d1
       obtain⟨rfl,rfl,rfl⟩:=d1
       simp only[if_true,Bool.false_eq_true,if_false] at c4 d4
       have hmem:=mN hr
       obtain⟨ha,v,g1,g2,g3,g4⟩:=hm.ent _ hmem
       simp only at g1
       rw[c1] at g1
       simp only[eW] at g1
       subst g1
       obtain⟨p1,p2,p3,p4,p5⟩:=gC hl
       obtain⟨q1,q2,q3,q4,q5⟩:=gC p5
       obtain⟨r1,r2,r3,r4,r5⟩:=gC q5
       obtain⟨s1,s2,s3,s4,s5⟩:=gC r5
       obtain⟨t1,t2,t3,t4,_⟩:=gC s5
       obtain⟨zk,G7⟩:∃z:Int,SV.as tI (Ar.val env k)=z:=⟨_,rfl⟩
       obtain⟨zl,hzl⟩:∃z:Int,SV.as tI (Ar.val env l)=z:=⟨_,rfl⟩
       obtain⟨ll,hll⟩:∃ll:List i.t.D,SV.as (.slice e i.t) (Ar.val env a)=ll:=⟨_,rfl⟩
       simp only[Prim.cond,Prim.ity,cZ] at p2
       rw[G7,hzl,hll] at p2
       rw[G7] at c2 c4
       rw[hzl] at d4
       rw[hll] at g2 g3
       have k0:(0:Int)<=zk:=c2
       have k1:zk<=zl:=p2.2.1
       have k2:zl<=(ll.length:Int):=p2.2.2
       obtain⟨bl1,bl2,news,j1,j2,j3,j4,j5,j6,j7⟩:=cH8 (P:=P) (zk:=zk.toNat) (zl:=zl.toNat) hT g2 g3 (by omega) (by omega)
       have e1:(SV.as tI ((Ar.Z (nx+1+1)).val env):Int)=(ll.length:Int):=by rw[uC (t:=tI) r4];simp only[Prim.fn,Prim.ity];rw[hll]
       have f1:(SV.as (.slice e i.t) ((Ar.Z (nx+1)).val env):List i.t.D)=ll.take zk.toNat:=by
        rw[uC (t:=.slice e i.t) q4];simp only[Prim.fn,Prim.ity,cZ];rw[hll,G7];simp[Ar.val]
       have f2:(SV.as (.slice e i.t) ((Ar.Z (nx+1+1+1)).val env):List i.t.D)=ll.drop zl.toNat:=by
        rw[uC (t:=.slice e i.t) s4];simp only[Prim.fn,Prim.ity,cZ];rw[hll,hzl,e1];simp
       simp only[Prim.cond,Prim.ity,cZ] at t2
       rw[f1,f2] at t2
       obtain⟨pm,po⟩:=tV hk hr
       have Bd:Os γ [(r,Ent.sl e i.t a fr uq)]=lY (.slice (some ⟨b,0,none⟩) len cap):=by simp[Os,oC,c1]
       have Br:Us β [(r,Ent.sl e i.t a fr uq)]=β r:=by simp[Us]
       obtain⟨v',w',hrun,γ',β',E5⟩:=aX2 (P:=P) hm hk hf hg (Aa nr (Nat.le_refl _) (by omega)) (T2:=T) (ty:=o.type) hT hi (v:=ρ x) (x:=ρ y) (c:=.Z (nx+4)) (fr:=fr) (f:=fr) (uq:=uq) (uq2:=uq) (gone1:=[(r,Ent.sl e i.t a fr uq)]) (gone2:=[]) (es1:=cV es [r]) (es2:=cV es [r])
        (bl1:=bl1) (bl2:=bl2) (news:=news) (l1:=ll.take zk.toNat) (l2:=ll.drop zl.toNat)
        (by simpa using pm) (oP _ _) (by rw[c4];exact j1) (fun hu=>by rw[c4];exact j2 hu) (fun q hq=>by
         rw[Bd]
         rw[c4] at hq
         simpa [lY] using hq) (.refl _) (.refl _) (by rw[d4];exact j3) j4 (fun k hk=>by
          cases hfl:i.t.flat
          ·rw[Bool.or_false];exact j5 k hk
          ·exact(j5 k hk).flat hfl) j6 (by rw[List.append_nil,Br];exact j7) t2.1 t2.2 (aF7 t4) (by
         rw[uC (t:=.slice e i.t) t4]
         simp only[Prim.fn,Prim.ity,cZ]
         rw[f1,f2])
       exact .inl ⟨v',w',ex hrun,γ',β',E5⟩
      ·cases h
     ·cases h
    ·cases h
   ·cases h
  ·cases h
 ·cases h
theorem bKZ (hC:∀(c:Nat) (C:Con),Cs[c]?=some C->Con.Holds P C) (hm:MemOK X γ β env w es) (hk:dB es) (hf:FrameOK X w) (hg:lF γ) (hs:∀x,bU X γ (Os γ es) env w (sh x) (ρ x))
  (h:bU5 P Cs D o sh es nx nr=some (ls,s,es',n)) (hl:iV Cs env nx ls) (Aa:∀r,nr<=r->r<n->γ r=none) :
  aFA P ρ o w fun u w'=>∃γ' β',Turned X γ β env w es es' nr n s u γ' β' w':=by
 unfold bU5 at h
 split at h
 ·rename_i ls' r es'' n' hx
  split at h
  ·split at h
   ·rename_i a t fr uq hfz
    simp only[eW,nB] at h
    obtain⟨rfl,rfl,rfl,rfl⟩:=h
    refine(bE3 hC hm hk hf hg hs hx hl Aa).mono fun u w' ⟨γ',β',T⟩=>?_
    obtain⟨β2,v,f1,f2,f3,f4,f5⟩:=bSL T.mem T.keys hfz
    have hu:γ' r=some u:=T.val
    rw[f1] at hu
    simp only[eW] at hu
    subst hu
    exact⟨γ',β2,⟨f2,f3,T.later.trans f4,T.frame,T.gh,T.same,T.le,f5⟩⟩
   ·cases h
  ·simp only[eW,nB] at h
   obtain⟨rfl,rfl,rfl,rfl⟩:=h
   exact bE3 hC hm hk hf hg hs hx hl Aa
 ·exact cFL hm hk hf hg hs h hl Aa
 ·exact bE3 hC hm hk hf hg hs h hl Aa
theorem bU7 (hm:MemOK X γ β env w es) (hk:dB es) (hf:FrameOK X w) (r:Nat):∃β',MemOK X γ β' env w (aIG es r)/\dB (aIG es r)/\Later X γ (Os γ es) env w γ (Os γ (aIG es r)) env w:=by
 unfold aIG
 split
 ·rename_i e t a fr ls hr
  obtain⟨gone,g1,g2,g3,g4,g5⟩:=aQH hk (rfl:oG es (rR t ls)=(_,_))
  have hmem:=mN hr
  obtain⟨h0,u,h1,h2,h3,b,n,cap,cur,h4,h5,h6,h7⟩:=hm.ent _ hmem
  simp only at h1
  have hk2:dB (oG es (rR t ls)).2:=hk.sub g3
  have hr2:(r,Ent.arr e t a fr ls)∈(oG es (rR t ls)).2:=by
   have:=(g1.mem_iff).1 hmem
   rw[List.mem_append] at this
   rcases this with h|h
   ·obtain⟨_,_,_,h'⟩:=bWQ g2 h
    cases h'
   ·exact h
  have hl2:=bHY hk2 hr2
  obtain⟨p1,p2⟩:=tV hk2 hl2
  have p3:=aDX (e':=.sl e t a fr (oG es (rR t ls)).1) hk2 hl2
  have pe:((r,Ent.arr e t a fr ls)::gone++cV (oG es (rR t ls)).2 [r]).Perm es:=by
   refine List.Perm.symm (g1.trans ?_)
   refine(p1.append_left gone).trans ?_
   rw[List.cons_append]
   exact List.perm_middle
  obtain⟨As,A0⟩:=hm.perm pe
  have Gc:Os γ ((r,Ent.arr e t a fr ls)::gone)=lY u:=by rw[aGR,g2];simp[oC,h1]
  have Bj:Us β ((r,Ent.arr e t a fr ls)::gone)=Us β gone:=by rw[aJ4];simp only;rw[h3];rfl
  have hnd:=As.nd
  rw[fJ,iJ,Gc,Bj] at hnd
  let bl:List Nat:=if(oG es (rR t ls)).1=true then kU β (rR t ls) else []
  have Eh:bl.Sublist (Us β gone):=by
   simp only[bl]
   split
   ·rename_i hu
    rw[(g4 hu).2]
    exact .refl _
   ·exact List.nil_sublist _
  have Av:Os γ [(r,Ent.sl e t a fr (oG es (rR t ls)).1)]=lY u:=by simp[Os,oC,h1]
  have A2:Us (β.upd r bl) [(r,Ent.sl e t a fr (oG es (rR t ls)).1)]=bl:=by simp[Us,Bt.upd]
  have C9:=hnd.sublist ((List.sublist_append_left (lY u) _).append (Eh.trans (List.sublist_append_left _ _)))
  obtain⟨t1,t2⟩:=MemOK.turn (γ':=γ) (β':=β.upd r bl) (w':=w) (old:=(r,Ent.arr e t a fr ls)::gone) (es:=cV (oG es (rR t ls)).2 [r]) (new:=[(r,Ent.sl e t a fr (oG es (rR t ls)).1)]) As hf.B_le
   (fun _ _ _=>rfl) (Nat.le_refl _) (fun _ _ h=>h) (fun p hp=>by simp[Bt.upd,p2 p hp]) (by rw[Av,A2];exact C9) (fun k hk'=>by rw[Av] at hk';rw[Gc];exact .inl hk')
   (fun k hk'=>by rw[A2] at hk';rw[Bj];exact .inr (.inl (Eh.subset hk'))) (fun hlat p hp=>by
    simp only[List.mem_singleton] at hp
    subst hp
    have Fh:=A0.trans hlat
    refine⟨h0,u,h1,wU.mono (fun b hb=>(Fh.gd hb).1) (fun _ _=>rfl) (fun _ _ _ _ _=>rfl) h2,fun hu=>?_,fun hu=>?_⟩
    ·simp only[Bt.upd,if_true,bl,hu]
     obtain⟨g6,g7⟩:=g4 hu
     have htk:aDT t ls.length ls=some (rR t ls):=by
      unfold rR
      cases ht:aDT t ls.length ls with
      | some ks=>rfl
      | none =>
       unfold rR at g6
       rw[ht] at g6
       have:=(g6 (0,.bool) (by simp)).1
       exact absurd rfl this
     rcases h2 with⟨p,hp,_⟩|⟨b',cap',cur',hp,c0,c1,c2,c3,c4,c5⟩
     ·rw[h4] at hp
      simp only[Value.slice.injEq] at hp
      omega
     ·rw[h4] at hp
      simp only[Value.slice.injEq,eW,Addr.mk.injEq,and_true] at hp
      obtain⟨rfl,rfl,rfl⟩:=hp
      rw[c1] at h6
      simp only[eW,Obj.cells.injEq,and_true] at h6
      subst h6
      refine .inr ⟨b,_,cap,cur',h4,h5,c1,?_⟩
      have hle:=Nat.mul_le_mul_right t.n c2
      refine bUW (es:=es) (G:=Gd X (Os γ es) w fr) ls.length (List.length_take_of_le (by rw[Array.length_toList (xs:=cur'),c4];exact hle)) (fun k hk'=>?_) h7 htk g6 hm.ent
      have:(k+1) * t.n<=((a.val env).as (.slice e t)).length * t.n:=Nat.mul_le_mul_right _ hk'
      rw[Nat.add_mul,Nat.one_mul] at this
      rw[List.drop_take,List.take_take,Nat.min_eq_left (by omega)]
      exact c5 k hk'
    ·simp only[Bt.upd,if_true,bl,hu]
     rfl)
  obtain⟨m1,m2⟩:=t1.perm p3
  exact⟨_,m1,by unfold dB;rw[aI5];exact hk2,(A0.trans t2).trans m2⟩
 ·exact⟨β,hm,hk,.refl⟩
theorem bSS:(rs:List Nat)->{es:Es}->{β:Bt}->MemOK X γ β env w es->dB es->FrameOK X w->∃β',MemOK X γ β' env w (rs.foldl aIG es)/\dB (rs.foldl aIG es)/\Later X γ (Os γ es) env w γ (Os γ (rs.foldl aIG es)) env w
 | [],es,β,hm,hk,hf=>⟨β,hm,hk,.refl⟩
 | r::rs,es,β,hm,hk,hf=>by
  obtain⟨β1,m1,k1,l1⟩:=bU7 hm hk hf r
  obtain⟨β2,m2,k2,l2⟩:=bSS rs m1 k1 hf
  exact⟨β2,m2,k2,l1.trans l2⟩
theorem bV7 (hm:MemOK X γ β env w es) (hk:dB es) (hf:FrameOK X w):∃β',MemOK X γ β' env w (rU es)/\dB (rU es)/\Later X γ (Os γ es) env w γ (Os γ (rU es)) env w:=bSS _ hm hk hf
end
end Go.Proofs.YtfmfeplebgbpmaaGreat
