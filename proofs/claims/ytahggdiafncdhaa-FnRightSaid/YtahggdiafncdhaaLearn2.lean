/- Learn2: trees, and what they say. -/
import Derived.Test.YtahggdiafncdhaaLin2
import Derived.Test.YtahggdiafncdhaaCpy2
namespace Go.Proofs.Ytahggdiafncdhaa
open Go.ChangeShapes Go.WideShapes Go.ChangeAt Go.RowKit Go.Deep
set_option linter.unusedVariables false
set_option linter.unusedSimpArgs false
def lrnV (r:Int) (p g:List Int) (n:Nat):List Int:=mp n fun k=>(fixSub (p.getD k 0) (fixMul r (g.getD k 0)).1).1
def lrnB (r:Int) (p g:List Int) (n:Nat):Bool:=an n fun k=>(fixMul r (g.getD k 0)).2 || (fixSub (p.getD k 0) (fixMul r (g.getD k 0)).1).2
def lrnO (r:Int) (o:OpD) (g:List Int):OpD:=(o.1,o.2.1,o.2.2.1,lrnV r o.2.2.2 g o.2.2.2.length)
/-- The first k operations learned. -/
def lrnK (r:Int) (m:List OpD) (g:RowsD) (k:Nat):List OpD:=mp m.length fun i=>if i<k then lrnO r (m.getD i zOp) (g.getD i []) else m.getD i zOp
def lrnA (r:Int) (m:List OpD) (g:RowsD) (n:Nat):Bool:=an n fun i=>lrnB r (m.getD i zOp).2.2.2 (g.getD i []) (m.getD i zOp).2.2.2.length
def learnF (m:List OpD) (g:GradsD) (r:Int):List OpD × Bool:=if modelB m=true∧fixB r=true∧fitB m g.1=true then (lrnK r m g.1 m.length,lrnA r m g.1 m.length) else (m,false)
theorem lrnK_zero (r:Int) (m:List OpD) (g:RowsD):lrnK r m g 0=m:=by
 unfold lrnK
 refine (mp_cong fun i _=>?_).trans (mp_self m zOp)
 rw[if_neg (by omega)]
theorem lrnK_len (r:Int) (m:List OpD) (g:RowsD) (k:Nat):(lrnK r m g k).length=m.length:=mp_len _ _
theorem lrnK_get (r:Int) (m:List OpD) (g:RowsD) {k:Nat} (h:k<m.length):(lrnK r m g k).getD k zOp=m.getD k zOp:=by
 unfold lrnK;rw[mp_getD _ _ _ h,if_neg (by omega)]
theorem lrnK_succ (r:Int) (m:List OpD) (g:RowsD) {k:Nat} (h:k<m.length) (o:OpD) (ho:o=lrnO r (m.getD k zOp) (g.getD k [])):(lrnK r m g k).set k o=lrnK r m g (k+1):=by
 subst ho
 refine List.ext_getElem (by rw[List.length_set,lrnK_len,lrnK_len]) fun i h1 h2=>?_
 have hi:i<m.length:=by rw[lrnK_len] at h2;exact h2
 have e:(lrnK r m g (k+1))[i]=if i<k+1 then lrnO r (m.getD i zOp) (g.getD i []) else m.getD i zOp:=by
  rw[← getD_at h2 (d:=zOp)];exact mp_getD _ _ _ hi
 have e0:∀ h0:i<(lrnK r m g k).length,(lrnK r m g k)[i]=if i<k then lrnO r (m.getD i zOp) (g.getD i []) else m.getD i zOp:=fun h0=>by
  rw[← getD_at h0 (d:=zOp)];exact mp_getD _ _ _ hi
 rw[e,List.getElem_set]
 by_cases hk:k=i
 ·subst hk;rw[if_pos rfl,if_pos (by omega)]
 ·rw[if_neg hk,e0]
  by_cases hl:i<k
  ·rw[if_pos hl,if_pos (by omega)]
  ·rw[if_neg hl,if_neg (by omega)]
theorem learn_no {m:List OpD} {g:GradsD} {r:Int} (h:¬ (modelB m=true∧fixB r=true∧fitB m g.1=true)):(m,false)=learnF m g r:=(if_neg h).symm
theorem learn_yes {m:List OpD} {g:GradsD} {r:Int} (h1:modelB m=true) (h2:fixB r=true) (h3:fitB m g.1=true):(lrnK r m g.1 m.length,lrnA r m g.1 m.length)=learnF m g r:=(if_pos ⟨h1,h2,h3⟩).symm
def LearnP (x:List OpD × (GradsD × Int)):Prop:=szT tModel x.1≤1000000000∧szT tGrads x.2.1≤1000000000

/-! impl.copyModel -/

noncomputable def c_i_copyModel:Con:=⟨72,tModel,tModel,[.val ⟨true,tModel,[]⟩],[⟨true,tModel,[1]⟩],false,none,
 ((fun x=>szT tModel x≤1000000000):(ModelD)→Prop),
 ((fun x=>x):(ModelD)→(ModelD))⟩
def t_i_copyModel:T:=.call 0 (.vr 0) <|.ret (.vr 1)
set_option maxRecDepth 100000 in
theorem e_i_copyModel:exFn Try.prog [c_i_copyOps] c_i_copyModel false 3000 ⟨[],[]⟩ = .ok t_i_copyModel:=by kernel_rfl
theorem v_i_copyModel (x:ModelD) (hx:okD tModel x) (hp:(fun x=>szT tModel x≤1000000000) x):t_i_copyModel.wp [c_i_copyOps] [⟨tModel,x⟩] [] (fun v=>v.as tModel=(fun x=>x) x):=by
 have hq:szT tModel x≤1000000000:=hp
 delta t_i_copyModel c_i_copyOps;refine vcx ?_;try with_reducible exact True.intro
 exact ⟨hq,fun _=>by first|rfl|trivial⟩
theorem h_i_copyModel:Con.Holds Try.prog c_i_copyModel:=tree_ok mixedP (consAt h_i_copyOps consNil) e_i_copyModel fun x hx hp=>v_i_copyModel x hx hp

/-! spec.Learn -/

noncomputable def c_s_Learn:Con:=⟨84,(.pair tModel (.pair tGrads tI)),(.pair tModel .bool),[.val ⟨true,tModel,[]⟩,.val ⟨true,tGrads,[]⟩,.val ⟨false,tI,[]⟩],[⟨true,tModel,[2]⟩,⟨false,.bool,[0]⟩],false,none,
 ((fun x=>LearnP x):(ModelD × (GradsD × Int))→Prop),
 ((fun x=>learnF x.1 x.2.1 x.2.2):(ModelD × (GradsD × Int))→(ModelD × Bool))⟩
def t_s_Learn:T:=.call 0 (.p1 tModel (.pair tGrads tI) (.vr 0)) <|.call 1 (.p1 tModel (.pair tGrads tI) (.vr 0)) <|.prim .not (.vr 2) <|.ite (.vr 3) (.ret (.mk2 tModel .bool (.vr 1) (.cb false))) (.call 2 (prA (.pair tModel (.pair tGrads tI)) 2 (.vr 0)) <|.prim .not (.vr 4) <|.ite (.vr 5) (.ret (.mk2 tModel .bool (.vr 1) (.cb false))) (.prim (.llen 92 tInts) (.p1 tRows (.pair tI .bool) (pjA (.pair tModel (.pair tGrads tI)) 1 (.vr 0))) <|.prim (.llen 61 tOp) (.p1 tModel (.pair tGrads tI) (.vr 0)) <|.prim (.cmp .neq .i64) (.mk2 tI tI (.vr 6) (.vr 7)) <|.ite (.vr 8) (.ret (.mk2 tModel .bool (.vr 1) (.cb false))) (.loop (.pair tI (.pair .bool tModel)) (mkA (.pair tI (.pair .bool tModel)) [(.ci .i64 0),(.cb false),(.vr 1)]) <|.prim (.llen 61 tOp) (.p1 tModel (.pair tGrads tI) (.vr 0)) <|.prim (.cmp .lss .i64) (.mk2 tI tI (.p1 tI (.pair .bool tModel) (.vr 9)) (.vr 10)) <|.ite (.vr 11) (.prim (.lidx 92 tInts) (.mk2 tRows tI (.p1 tRows (.pair tI .bool) (pjA (.pair tModel (.pair tGrads tI)) 1 (.vr 0))) (.p1 tI (.pair .bool tModel) (.vr 9))) <|.prim (.llen 3 tI) (.vr 12) <|.prim (.lidx 61 tOp) (.mk2 tModel tI (.p1 tModel (.pair tGrads tI) (.vr 0)) (.p1 tI (.pair .bool tModel) (.vr 9))) <|.prim (.llen 3 tI) (prA tOp 3 (.vr 14)) <|.prim (.cmp .neq .i64) (.mk2 tI tI (.vr 13) (.vr 15)) <|.ite (.vr 16) (.call 0 (.p1 tModel (.pair tGrads tI) (.vr 0)) <|.ret (.mk2 tModel .bool (.vr 17) (.cb false))) (.loop (.pair tI (.pair .bool tInts)) (mkA (.pair tI (.pair .bool tInts)) [(.ci .i64 0),(pjA (.pair tI (.pair .bool tModel)) 1 (.vr 9)),(.nl 3 tI)]) <|.prim (.lidx 61 tOp) (.mk2 tModel tI (.p1 tModel (.pair tGrads tI) (.vr 0)) (.p1 tI (.pair .bool tModel) (.vr 9))) <|.prim (.llen 3 tI) (prA tOp 3 (.vr 18)) <|.prim (.cmp .lss .i64) (.mk2 tI tI (.p1 tI (.pair .bool tInts) (.vr 17)) (.vr 19)) <|.ite (.vr 20) (.prim (.lidx 92 tInts) (.mk2 tRows tI (.p1 tRows (.pair tI .bool) (pjA (.pair tModel (.pair tGrads tI)) 1 (.vr 0))) (.p1 tI (.pair .bool tModel) (.vr 9))) <|.prim (.lidx 3 tI) (.mk2 tInts tI (.vr 21) (.p1 tI (.pair .bool tInts) (.vr 17))) <|.call 3 (.mk2 tI tI (prA (.pair tModel (.pair tGrads tI)) 2 (.vr 0)) (.vr 22)) <|.prim (.lidx 61 tOp) (.mk2 tModel tI (.p1 tModel (.pair tGrads tI) (.vr 0)) (.p1 tI (.pair .bool tModel) (.vr 9))) <|.prim (.lidx 3 tI) (.mk2 tInts tI (prA tOp 3 (.vr 24)) (.p1 tI (.pair .bool tInts) (.vr 17))) <|.call 4 (.mk2 tI tI (.vr 25) (.p1 tI .bool (.vr 23))) <|.prim (.lit 3 tI 1) (.p1 tI .bool (.vr 26)) <|.prim (.lapp 3 tI 8) (.mk2 tInts tInts (prA (.pair tI (.pair .bool tInts)) 2 (.vr 17)) (.vr 27)) <|.ite (pjA (.pair tI (.pair .bool tInts)) 1 (.vr 17)) (.prim (.ar .add .i64) (.mk2 tI tI (.p1 tI (.pair .bool tInts) (.vr 17)) (.ci .i64 1)) <|.again 0 (mkA (.pair tI (.pair .bool tInts)) [(.vr 29),(.cb true),(.vr 28)])) (.ite (prA (.pair tI .bool) 1 (.vr 23)) (.prim (.ar .add .i64) (.mk2 tI tI (.p1 tI (.pair .bool tInts) (.vr 17)) (.ci .i64 1)) <|.again 0 (mkA (.pair tI (.pair .bool tInts)) [(.vr 29),(.cb true),(.vr 28)])) (.prim (.ar .add .i64) (.mk2 tI tI (.p1 tI (.pair .bool tInts) (.vr 17)) (.ci .i64 1)) <|.again 0 (mkA (.pair tI (.pair .bool tInts)) [(.vr 29),(prA (.pair tI .bool) 1 (.vr 26)),(.vr 28)])))) (.prim (.lidx 61 tOp) (.mk2 tModel tI (prA (.pair tI (.pair .bool tModel)) 2 (.vr 9)) (.p1 tI (.pair .bool tModel) (.vr 9))) <|.prim (.lidx 61 tOp) (.mk2 tModel tI (prA (.pair tI (.pair .bool tModel)) 2 (.vr 9)) (.p1 tI (.pair .bool tModel) (.vr 9))) <|.prim (.lset 61 tOp) (mkA (.pair tModel (.pair tI tOp)) [(prA (.pair tI (.pair .bool tModel)) 2 (.vr 9)),(.p1 tI (.pair .bool tModel) (.vr 9)),(.p1 tI (.pair tI tItem) (.vr 22)),(pjA tOp 1 (.vr 22)),(pjA tOp 2 (.vr 22)),(prA (.pair tI (.pair .bool tInts)) 2 (.vr 17))]) <|.prim (.ar .add .i64) (.mk2 tI tI (.p1 tI (.pair .bool tModel) (.vr 9)) (.ci .i64 1)) <|.again 1 (mkA (.pair tI (.pair .bool tModel)) [(.vr 24),(pjA (.pair tI (.pair .bool tInts)) 1 (.vr 17)),(.vr 23)])))) (.ret (.mk2 tModel .bool (prA (.pair tI (.pair .bool tModel)) 2 (.vr 9)) (pjA (.pair tI (.pair .bool tModel)) 1 (.vr 9)))))))
set_option maxRecDepth 100000 in
theorem e_s_Learn:exFn Try.prog [c_s_l11Ops,c_s_ModelOk,c_s_FixOk,c_s_FixMul,c_s_FixSub] c_s_Learn false 3000 ⟨[(2984,8009,drd 37 17++[.dr 0,.dr 1,.tm 10 0,.tm 9 0,.sl 5]),(2965,40017,[.tm 12 0,.on 11,.tm 9 0,.sl 8])],[(2959,72021,[],[8])]⟩ = .ok t_s_Learn:=by kernel_rfl
/- loops: (Int) × ((Bool) × (List ((Int) × ((Int) × ((Int) × (List (Int))))))) ¦ (Int) × ((Bool) × (List (Int))) -/
theorem v_s_Learn (x:ModelD × (GradsD × Int)) (hx:okD (.pair tModel (.pair tGrads tI)) x) (hp:(fun x=>LearnP x) x):t_s_Learn.wp [c_s_l11Ops,c_s_ModelOk,c_s_FixOk,c_s_FixMul,c_s_FixSub] [⟨(.pair tModel (.pair tGrads tI)),x⟩] [] (fun v=>v.as (.pair tModel .bool)=(fun x=>learnF x.1 x.2.1 x.2.2) x):=by
 obtain ⟨m,⟨gr,gl,gs⟩,rate⟩:=x
 obtain ⟨hq1,hq2⟩:szT tModel m≤1000000000∧szT tGrads (gr,gl,gs)≤1000000000:=hp
 have hB:=lenB9 (t:=tModel) hq1
 have hC:=(lenB9 (t:=tGrads) hq2).1
 have hml:m.length≤1000000000:=hB.1
 have hgl:gr.length≤1000000000:=hC.1
 delta t_s_Learn c_s_l11Ops c_s_ModelOk c_s_FixOk c_s_FixMul c_s_FixSub;refine vcx ?_;try with_reducible exact True.intro
 (refine dcx ?_;try with_reducible exact True.intro)
 refine ⟨hq1,fun _=>⟨fun h=>learn_no (by rw[h];simp),fun h1=>⟨fun h=>learn_no (by rw[h];simp),fun h2 _ _=>⟨fun h=>learn_no fun hh=>?_,fun h3=>?_⟩⟩⟩⟩
 ·have:=(fitB_iff _ _).1 hh.2.2;dsimp only at this;omega
 have hlen:gr.length=m.length:=by omega
 refine loopG (fun k=>((k:Int),lrnA rate m gr k,lrnK rate m gr k)) (fun k=>∀ i,i<k→fitAt m gr i=true) m.length (by show (_,_)=(_,_);rw[lrnK_zero];rfl) (by omega) fun I μ k hk hG2 _ go=>?_
 dsimp only
 (refine dcx ?_;try with_reducible exact True.intro)
 by_cases hkn:k<m.length
 ·have hkg:k<gr.length:=by omega
  have e:=fitAt_iff m gr hkn hkg
  have hm:=(hB.2 _ (List.getElem_mem hkn)).2.2.2.1
  have hk2:=hC.2 _ (List.getElem_mem hkg)
  have hs:=lrnK_succ rate m gr hkn
  have hg:=lrnK_get rate m gr hkn
  have hl:=lrnK_len rate m gr k
  have ha:lrnA rate m gr (k+1)=(lrnA rate m gr k || lrnB rate (m.getD k zOp).2.2.2 (gr.getD k []) (m.getD k zOp).2.2.2.length):=an_succ k _
  have eP:(m.getD k zOp).2.2.2.length=m[k].2.2.2.length:=by rw[getD_at hkn]
  have eG:(gr.getD k []).length=gr[k].length:=by rw[getD_at hkg]
  have fit:((gr.getD k []).length:Int)=((m.getD k zOp).2.2.2.length:Int)→∀ i,i<k+1→fitAt m gr i=true:=fun h i hi=>by
   rcases Nat.lt_or_eq_of_le (Nat.le_of_lt_succ hi) with h'|rfl
   ·exact hG2 i h'
   ·exact e.2 (by omega)
  rw[show List.getD m k (zeroD tOp)=m.getD k zOp from rfl,show List.getD (lrnK rate m gr k) k (zeroD tOp)=(lrnK rate m gr k).getD k zOp from rfl,show List.getD gr k (zeroD tInts)=gr.getD k [] from rfl,hg]
  have ho:∀ p,p=lrnV rate (m.getD k zOp).2.2.2 (gr.getD k []) (m.getD k zOp).2.2.2.length→(lrnK rate m gr k).set k ((m.getD k zOp).1,(m.getD k zOp).2.1,(m.getD k zOp).2.2.1,p)=lrnK rate m gr (k+1):=fun p hp=>hs _ (by rw[hp];rfl)
  clear hs
  have hno:¬ ((gr.getD k []).length:Int)=((m.getD k zOp).2.2.2.length:Int)→(m,false)=learnF m (gr,gl,gs) rate:=fun hne=>learn_no fun hh=>by
   have:=e.1 (((fitB_iff _ _).1 hh.2.2).2 k hkn);omega
  generalize m.getD k zOp=o at *
  generalize gr.getD k []=G at *
  refine fun _=>⟨fun _=>⟨by omega,fun _ _=>⟨by omega,fun _ _=>⟨fun hne=>⟨hq1,fun _=>hno hne⟩,fun heq=>?_⟩⟩⟩,fun hge=>by omega⟩
  refine loopF (fun j=>((j:Int),lrnA rate m gr k || lrnB rate o.2.2.2 G j,lrnV rate o.2.2.2 G j)) o.2.2.2.length (by show (_,_)=(_,_);rw[show lrnB rate o.2.2.2 G 0=false from rfl,Bool.or_false];rfl) fun I2 μ2 j hj _ go2=>?_
  dsimp only
  (refine dcx ?_;try with_reducible exact True.intro)
  have hb:lrnB rate o.2.2.2 G (j+1)=(lrnB rate o.2.2.2 G j || ((fixMul rate (G.getD j 0)).2 || (fixSub (o.2.2.2.getD j 0) (fixMul rate (G.getD j 0)).1).2)):=an_succ j _
  have hv:lrnV rate o.2.2.2 G (j+1)=lrnV rate o.2.2.2 G j++[(fixSub (o.2.2.2.getD j 0) (fixMul rate (G.getD j 0)).1).1]:=mp_succ j _
  have hvl:(lrnV rate o.2.2.2 G j).length=j:=mp_len _ _
  rw[hb,hv,← Bool.or_assoc,← Bool.or_assoc] at go2
  rw[hl]
  (repeat' first|intro _|(refine go2 _ ?_ ?_ ?_)|(refine go2 _ ?_ ?_)|(refine go _ ?_ ?_ ?_)|(refine go _ ?_ ?_)|(with_reducible apply And.intro))
  all_goals first|omega|(unfold maxLen;omega)|exact fit heq _ (by assumption)|skip
  all_goals first|exact Prod.ext rfl (Prod.ext (or3_t (by assumption)) rfl)|exact Prod.ext rfl (Prod.ext (or3_u (by assumption) (by assumption)) rfl)|exact Prod.ext rfl (Prod.ext (or3_f (by assumption) (by assumption)) rfl)|skip
  have e9:j=o.2.2.2.length:=by omega
  subst e9
  exact Prod.ext rfl (Prod.ext ha.symm (ho _ rfl))
 ·have:k=m.length:=by omega
  subst this
  refine fun _=>⟨fun _=>by omega,fun _=>?_⟩
  exact learn_yes (g:=(gr,gl,gs)) (r:=rate) h1 h2 ((fitB_iff m gr).2 ⟨hlen,hG2⟩)
theorem h_s_Learn:Con.Holds Try.prog c_s_Learn:=tree_ok mixedP (consAt h_s_l11Ops (consAt h_s_ModelOk (consAt h_s_FixOk (consAt h_s_FixMul (consAt h_s_FixSub consNil))))) e_s_Learn fun x hx hp=>v_s_Learn x hx hp
end Go.Proofs.Ytahggdiafncdhaa
