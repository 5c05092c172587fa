/- Read9: trees, and what they say. -/
import Derived.Test.YtepjkojfjdcegaaGreatRead8
namespace Go.Proofs.YtepjkojfjdcegaaGreat
open Go.ChangeShapes Go.WideShapes Go.ChangeAt Go.RowKit Go.Deep
set_option linter.unusedVariables false
set_option linter.unusedSimpArgs false
theorem vecO_8 {s:ByteArray} {p:Int} {q:List Int × Int} (h:vecO s p = some q):p + 8≤q.2:=by
 unfold vecO at h
 split at h
 ·rename_i n hn
  have hp:=numAt_some hn
  split at h
  ·have:=numsP_b s n.toNat (p + 8) (by omega) (by omega) q h;omega
  ·cases h
 ·cases h
theorem vecP_show {s:ByteArray} {p:Nat} {v:List Int} (hv:okV v = true) (h:hasT s p (vecS v)):vecP s p = (v,((p + (vecS v).size:Nat):Int)):=by
 unfold vecP;rw [vecO_show hv h];rfl
theorem ofP_show {s:ByteArray} {p:Nat} {v:List Int} {n:Int} (hv:okV v = true) (h:hasT s p (vecS v)) (hn:(v.length:Int) = n):ofP s n p = (v,((p + (vecS v).size:Nat):Int)):=by
 unfold ofP
 rw [vecP_show hv h,if_neg]
 rintro (h1 | h1)
 ·have h2:((p + (vecS v).size:Nat):Int) < 0:=h1
  omega
 ·exact h1 hn
theorem loopP_show {α:Type} {s:ByteArray} {f:Int→α × Int} {g:α→List ByteArray} {P:α→Prop} (hf:∀ (a:α) (p:Nat),P a→hasT s p (cat ⟨#[]⟩ (g a))→f p = (a,((p + (cat ⟨#[]⟩ (g a)).size:Nat):Int))) :
  (l:List α)→(p:Nat)→(∀ a ∈ l,P a)→hasT s p (cat ⟨#[]⟩ (l.flatMap g))→loopP f l.length p = (l,((p + (cat ⟨#[]⟩ (l.flatMap g)).size:Nat):Int))
 | [],p,_,_=>rfl
 | x :: l,p,hP,h=>by
  rw [List.flatMap_cons,catE_app] at h ⊢
  obtain ⟨h1,h2⟩:=hasT_app.1 h
  rw [List.length_cons,loopP_go f _ (Int.natCast_nonneg p),hf x p (hP x List.mem_cons_self) h1]
  dsimp only
  rw [loopP_show hf l _ (fun a ha=>hP a (List.mem_cons_of_mem _ ha)) h2,ba_size,Nat.add_assoc]
theorem readRowsP_show {s:ByteArray} {p:Nat} {l:RowsD} (hl:l.length≤20) (hv:∀ v ∈ l,okV v = true) (h:hasT s p (cat ⟨#[]⟩ (rowsP l))):readRowsP s p = (l,((p + (cat ⟨#[]⟩ (rowsP l)).size:Nat):Int)):=by
 unfold rowsP at h ⊢
 rw [catE_cons,map_fm] at h ⊢
 obtain ⟨h1,h2⟩:=hasT_app.1 h
 have hz:=numS_8 (n:=(l.length:Int)) (by omega)
 unfold readRowsP numP
 rw [numAt_show h1 (by omega)]
 dsimp only
 rw [Int.toNat_natCast,show min l.length 100 = l.length by omega,show (p:Int) + 8 = ((p + (numS (l.length:Int)).size:Nat):Int) by rw [hz];omega,
  loopP_show (P:=fun v=>okV v = true) (fun a p ha h=>?_) l _ hv h2,ba_size,Nat.add_assoc]
 rw [cat_one,nil_app] at h ⊢
 exact vecP_show ha h
theorem insQ_show {s:ByteArray} (a:InsD) (p:Nat) (ha:okV [a.1,a.2] = true) (h:hasT s p (cat ⟨#[]⟩ (insP a))):insQ s p = (a,((p + (cat ⟨#[]⟩ (insP a)).size:Nat):Int)):=by
 unfold insP at h ⊢
 rw [cat_one,nil_app] at h ⊢
 unfold insQ
 rw [ofP_show (n:=2) ha h rfl];rfl
theorem opQ_show {s:ByteArray} (a:OpD) (p:Nat) (ha:okV [a.1,a.2.1,a.2.2.1] = true∧okV a.2.2.2 = true) (h:hasT s p (cat ⟨#[]⟩ (opP a))):opQ s p = (a,((p + (cat ⟨#[]⟩ (opP a)).size:Nat):Int)):=by
 unfold opP at h ⊢
 rw [catE_cons,cat_one,nil_app] at h ⊢
 obtain ⟨h1,h2⟩:=hasT_app.1 h
 unfold opQ
 rw [ofP_show (n:=3) ha.1 h1 rfl]
 dsimp only
 rw [vecP_show ha.2 h2,ba_size,Nat.add_assoc];rfl
theorem savQ_show {s:ByteArray} (a:SavedD) (p:Nat) (ha:okV [a.1] = true∧a.2.length≤20∧∀ v ∈ a.2,okV v = true) (h:hasT s p (cat ⟨#[]⟩ (savP a))):savQ s p = (a,((p + (cat ⟨#[]⟩ (savP a)).size:Nat):Int)):=by
 unfold savP at h ⊢
 rw [catE_cons] at h ⊢
 obtain ⟨h1,h2⟩:=hasT_app.1 h
 unfold savQ
 rw [ofP_show (n:=1) ha.1 h1 rfl]
 dsimp only
 rw [readRowsP_show ha.2.1 ha.2.2 h2,ba_size,Nat.add_assoc];rfl
theorem stageP_cat (x:StageD):cat ⟨#[]⟩ (stageP x) = vecS (headV x) ++ (cat ⟨#[]⟩ (x.2.1.flatMap insP) ++ (cat ⟨#[]⟩ (x.2.2.1.flatMap opP) ++ (cat ⟨#[]⟩ (x.2.2.2.2.2.1.flatMap savP) ++ (cat ⟨#[]⟩ (rowsP x.2.2.2.2.2.2.1) ++ (vecS x.2.2.2.2.2.2.2.1 ++ (vecS x.2.2.2.2.2.2.2.2.1 ++ (vecS x.2.2.2.2.2.2.2.2.2.1 ++ (vecS x.2.2.2.2.2.2.2.2.2.2.1 ++ cat ⟨#[]⟩ (rowsP x.2.2.2.2.2.2.2.2.2.2.2.1))))))))):=by
 unfold stageP stageT
 simp only [catE_app,catE_cons,cat_one,nil_app,List.cons_append,List.nil_append]
theorem stageQ0_show {s:ByteArray} {p:Nat} {x:StageD} (hx:fitS x) (h:hasT s p (cat ⟨#[]⟩ (stageP x))):stageQ0 s p = (x,((p + (cat ⟨#[]⟩ (stageP x)).size:Nat):Int)):=by
 obtain ⟨f0,f1,f2,f3,f4,f5,f6,f7,f8,f9⟩:=fitS_all hx
 have hm:=(modelB_iff _).1 ((stageB_iff x).1 hx.1.1).1
 have hl:=hx.1
 rw [stageP_cat] at h ⊢
 obtain ⟨h0,h⟩:=hasT_app.1 h
 obtain ⟨h1,h⟩:=hasT_app.1 h
 obtain ⟨h2,h⟩:=hasT_app.1 h
 obtain ⟨h3,h⟩:=hasT_app.1 h
 obtain ⟨h4,h⟩:=hasT_app.1 h
 obtain ⟨h5,h⟩:=hasT_app.1 h
 obtain ⟨h6,h⟩:=hasT_app.1 h
 obtain ⟨h7,h⟩:=hasT_app.1 h
 obtain ⟨h8,h9⟩:=hasT_app.1 h
 unfold stageQ0
 rw [ofP_show (n:=8) f0 h0 rfl]
 dsimp only
 rw [show min ((headV x).getD 5 0).toNat 100 = x.2.1.length from Nat.min_eq_left hl.2.1,loopP_show insQ_show x.2.1 _ f1 h1]
 unfold K1Q
 dsimp only
 rw [show min ((headV x).getD 6 0).toNat 8 = x.2.2.1.length from Nat.min_eq_left hm.2.1,loopP_show opQ_show x.2.2.1 _ f2 h2]
 unfold K2Q
 dsimp only
 rw [show min ((headV x).getD 7 0).toNat 5 = x.2.2.2.2.2.1.length from Nat.min_eq_left hl.2.2.1,loopP_show savQ_show x.2.2.2.2.2.1 _ f3 h3]
 unfold K3Q finQ
 dsimp only
 rw [readRowsP_show f4.1 f4.2 h4]
 dsimp only
 rw [vecP_show f5 h5]
 dsimp only
 rw [vecP_show f6 h6]
 dsimp only
 rw [vecP_show f7 h7]
 dsimp only
 rw [vecP_show f8 h8]
 dsimp only
 rw [readRowsP_show f9.1 f9.2 h9]
 dsimp only
 simp only [ba_size,Nat.add_assoc]
 show ((_,_,_,decide (b01 _ = 1),decide (b01 _ = 1),_,_,_,_,_,_,_,_,decide (b01 _ = 1)),_) = _
 rw [b01_1,b01_1,b01_1]
 rfl
def MoR {α:Type} (f:RdD→α × RdD):Prop:=∀ r,(r.2.2 = true→(f r).2.2.2 = true)∧@LE.le Int _ r.2.1 (f r).2.2.1
theorem numR_M (lo hi:Int):MoR (fun r=>numR r lo hi):=fun r=>by
 show (r.2.2 = true→(numR r lo hi).2.2.2 = true)∧@LE.le Int _ r.2.1 (numR r lo hi).2.2.1
 unfold numR
 split
 ·rename_i n hn
  split at hn
  ·cases hn
  ·rename_i hb
   split
   ·exact ⟨fun h=>absurd h hb,by show r.2.1≤r.2.1 + 8;omega⟩
   ·exact ⟨fun _=>rfl,Int.le_refl _⟩
 ·exact ⟨fun _=>rfl,Int.le_refl _⟩
theorem numsR_M:(k:Nat)→MoR (numsR k)
 | 0=>fun r=>⟨fun h=>h,Int.le_refl _⟩
 | k + 1=>fun r=>by
  cases hb:r.2.2 with
  | true=>rw [numsR_bad _ hb];exact ⟨fun _=>hb,Int.le_refl _⟩
  | false =>
   rw [numsR_go _ hb]
   have h1:=numR_M (-1000000000000) 1000000000000 r
   have h2:=numsR_M k (numR r (-1000000000000) 1000000000000).2
   exact ⟨fun h=>(by cases h),Int.le_trans h1.2 h2.2⟩
theorem MoR_comp {α β:Type} {f:RdD→α × RdD} {g:RdD→β × RdD} (hf:MoR f) (hg:MoR g) (r:RdD):(r.2.2 = true→(g (f r).2).2.2.2 = true)∧@LE.le Int _ r.2.1 (g (f r).2).2.2.1 :=
 ⟨fun h=>(hg _).1 ((hf r).1 h),Int.le_trans (hf r).2 (hg _).2⟩
theorem vecR_M:MoR vecR:=fun r=>MoR_comp (numR_M 0 200) (numsR_M (numR r 0 200).1.toNat) r
theorem someR_M (n:Int):MoR (fun r=>someR r n):=fun r=>by
 have h:=vecR_M r
 show (r.2.2 = true→(someR r n).2.2.2 = true)∧@LE.le Int _ r.2.1 (someR r n).2.2.1
 unfold someR
 split
 ·exact h
 ·exact ⟨fun _=>rfl,h.2⟩
theorem loopR_M {α:Type} {f:RdD→α × RdD} (hf:MoR f):(k:Nat)→MoR (loopR f k)
 | 0=>fun r=>⟨fun h=>h,Int.le_refl _⟩
 | k + 1=>fun r=>by
  cases hb:r.2.2 with
  | true=>rw [loopR_bad _ _ hb];exact ⟨fun _=>hb,Int.le_refl _⟩
  | false =>
   rw [loopR_go _ _ hb]
   exact ⟨fun h=>(by cases h),Int.le_trans (hf r).2 (loopR_M hf k _).2⟩
theorem rowsR_M:MoR rowsR:=fun r=>MoR_comp (numR_M 0 20) (loopR_M vecR_M (numR r 0 20).1.toNat) r
theorem insF_M:MoR insF:=fun r=>someR_M 2 r
theorem opF_M:MoR opF:=fun r=>MoR_comp (someR_M 3) vecR_M r
theorem savF_M:MoR savF:=fun r=>MoR_comp (someR_M 1) rowsR_M r
theorem stageR_M (r:RdD):((someR r 8).2.2.2 = true→(stageR r).2.2.2 = true)∧@LE.le Int _ (someR r 8).2.2.1 (stageR r).2.2.1:=by
 have h1:=loopR_M insF_M ((someR r 8).1.getD 5 0).toNat (someR r 8).2
 unfold stageR K1 K2 K3 finR
 generalize loopR insF ((someR r 8).1.getD 5 0).toNat (someR r 8).2 = A at h1 ⊢
 have h2:=loopR_M opF_M ((someR r 8).1.getD 6 0).toNat A.2
 generalize loopR opF ((someR r 8).1.getD 6 0).toNat A.2 = B at h2 ⊢
 have h3:=loopR_M savF_M ((someR r 8).1.getD 7 0).toNat B.2
 generalize loopR savF ((someR r 8).1.getD 7 0).toNat B.2 = C at h3 ⊢
 have h4:=rowsR_M C.2
 have h5:=vecR_M (rowsR C.2).2
 have h6:=vecR_M (vecR (rowsR C.2).2).2
 have h7:=vecR_M (vecR (vecR (rowsR C.2).2).2).2
 have h8:=vecR_M (vecR (vecR (vecR (rowsR C.2).2).2).2).2
 have h9:=rowsR_M (vecR (vecR (vecR (vecR (rowsR C.2).2).2).2).2).2
 exact ⟨fun h=>h9.1 (h8.1 (h7.1 (h6.1 (h5.1 (h4.1 (h3.1 (h2.1 (h1.1 h)))))))),Int.le_trans h1.2 (Int.le_trans h2.2 (Int.le_trans h3.2 (Int.le_trans h4.2 (Int.le_trans h5.2 (Int.le_trans h6.2 (Int.le_trans h7.2 (Int.le_trans h8.2 h9.2)))))))⟩
theorem stageR_8 {s:ByteArray} {p:Nat} (h:(stageR (atR s p)).2.2.2 = false):(p:Int) + 8≤(stageR (atR s p)).2.2.1:=by
 have h1:=stageR_M (atR s p)
 have h2:(someR (atR s p) 8).2.2.2 = false:=by
  cases hb:(someR (atR s p) 8).2.2.2 with
  | true=>rw [h1.1 hb] at h;cases h
  | false=>rfl
 refine Int.le_trans ?_ h1.2
 unfold someR at h2 ⊢
 split at h2
 ·rename_i h3
  rw [if_pos h3]
  have h4:=vecR_vecO s p
  cases hv:vecO s p with
  | none=>rw [hv] at h4;exact absurd (h4.symm.trans h2) (by decide)
  | some q=>rw [hv] at h4;have h5:=vecO_8 hv;rw [show vecR (atR s p) = _ from h4];exact h5
 ·cases h2
theorem stageS_fit {x:StageD} (h:¬ stageS x = ⟨#[]⟩):fitS x∧stageS x = cat ⟨#[]⟩ (stageP x):=by
 unfold stageS at h ⊢
 split at h
 ·rename_i h1;rw [if_pos h1];exact ⟨h1,rfl⟩
 ·exact absurd rfl h
theorem stageQ_show {s:ByteArray} {p:Nat} {x:StageD} (hx:fitS x) (h:hasT s p (cat ⟨#[]⟩ (stageP x))):stageQ s p = (x,((p + (cat ⟨#[]⟩ (stageP x)).size:Nat):Int)):=by
 have h1:=stageQ0_show hx h
 have e:stageS x = cat ⟨#[]⟩ (stageP x):=by unfold stageS;rw [if_pos (show limS x∧(stageV x).all okV = true from hx)]
 rw [← stageQ_yes (by rw [h1];exact Int.natCast_nonneg _) (by rw [h1];show stageS x = s.extract (p:Int).toNat ((p + (cat ⟨#[]⟩ (stageP x)).size:Nat):Int).toNat;rw [Int.toNat_natCast,Int.toNat_natCast,hasT_ext h,e]),h1]
def rdStI (s:ByteArray):StageD × (Int × Bool):=if (stageR (atR s 0)).2.2.2 = true∨¬ stageS (stageR (atR s 0)).1 = s.extract 0 (stageR (atR s 0)).2.2.1.toNat then (zStage,0,false) else ((stageR (atR s 0)).1,(stageR (atR s 0)).2.2.1,true)
def rdStS (s:ByteArray):StageD × (Int × Bool):=if (stageQ s 0).2 < 0 then (zStage,0,false) else ((stageQ s 0).1,(stageQ s 0).2,true)
theorem stageR_P {r:RdD} (h:RdP r):RdP (stageR r).2∧(stageR r).2.1 = r.1:=by
 have h0:=someR_P 8 h
 have h1:=loopR_P (fun r h=>insF_P h) ((someR r 8).1.getD 5 0).toNat h0.1
 have h2:=loopR_P (fun r h=>opF_P h) ((someR r 8).1.getD 6 0).toNat h1.1
 have h3:=loopR_P (fun r h=>savF_P h) ((someR r 8).1.getD 7 0).toNat h2.1
 have h4:=rowsR_P h3.1
 have h5:=vecR_P h4.1
 have h6:=vecR_P h5.1
 have h7:=vecR_P h6.1
 have h8:=vecR_P h7.1
 have h9:=rowsR_P h8.1
 exact ⟨h9.1,h9.2.trans (h8.2.trans (h7.2.trans (h6.2.trans (h5.2.trans (h4.2.trans (h3.2.trans (h2.2.trans (h1.2.trans h0.2))))))))⟩
noncomputable def c_i_ReadStage:Con:=⟨15,.str,(.pair tStage (.pair tI .bool)),[.val ⟨false,.str,[]⟩],[⟨true,tStage,[0,1,1,0,0,1,1,1,1,1,1,1,0,0]⟩,⟨false,tI,[0]⟩,⟨false,.bool,[0]⟩],false,none,
 ((fun _=>True):(ByteArray)→Prop),
 ((fun x=>rdStI x):(ByteArray)→(StageD × (Int × Bool)))⟩
def t_i_ReadStage:T :=
 .call 0 (mkA (.pair .str (.pair tI .bool)) [(.vr 0),(.ci .i64 0),(.cb false)]) <|
 .ite (prA (.pair tStage (.pair .str (.pair tI .bool))) 3 (.vr 1)) (
  .ret (mkA (.pair tStage (.pair tI .bool)) [(mkA tStage [(.ci .i64 0),(.nl 94 tIns),(.nl 96 tOp),(.cb false),(.cb false),(.nl 98 tSaved),(.nl 158 tInts),(.nl 3 tI),(.nl 3 tI),(.nl 3 tI),(.nl 3 tI),(.nl 158 tInts),(.ci .i64 0),(.cb false)]),(.ci .i64 0),(.cb false)])) (
  .prim .ssub (mkA (.pair .str tIns) [(.vr 0),(.ci .i64 0),(pjA (.pair tStage (.pair .str (.pair tI .bool))) 2 (.vr 1))]) <|
  .call 1 (.p1 tStage (.pair .str (.pair tI .bool)) (.vr 1)) <|
  .prim (.seq true) (.mk2 .str .str (.vr 3) (.vr 2)) <|
  .ite (.vr 4) (
   .ret (mkA (.pair tStage (.pair tI .bool)) [(mkA tStage [(.ci .i64 0),(.nl 94 tIns),(.nl 96 tOp),(.cb false),(.cb false),(.nl 98 tSaved),(.nl 158 tInts),(.nl 3 tI),(.nl 3 tI),(.nl 3 tI),(.nl 3 tI),(.nl 158 tInts),(.ci .i64 0),(.cb false)]),(.ci .i64 0),(.cb false)])) (
   .ret (mkA (.pair tStage (.pair tI .bool)) [(.p1 tStage (.pair .str (.pair tI .bool)) (.vr 1)),(pjA (.pair tStage (.pair .str (.pair tI .bool))) 2 (.vr 1)),(.cb true)])))
end Go.Proofs.YtepjkojfjdcegaaGreat
