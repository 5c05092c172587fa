/- Swing2: trees, and what they say. -/
import Derived.Test.YtahggdiafncdhaaLearn2
namespace Go.Proofs.Ytahggdiafncdhaa
open Go.ChangeShapes Go.WideShapes Go.ChangeAt Go.RowKit Go.Deep
set_option linter.unusedVariables false
set_option linter.unusedSimpArgs false
def swgV (kp:Int) (s g:List Int) (n:Nat):List Int:=mp n fun k=>(fixAdd (fixMul kp (s.getD k 0)).1 (g.getD k 0)).1
def swgB (kp:Int) (s g:List Int) (n:Nat):Bool:=an n fun k=>(fixMul kp (s.getD k 0)).2 || (fixAdd (fixMul kp (s.getD k 0)).1 (g.getD k 0)).2
/-- The first k rows of the new speed. -/
def swgR (kp:Int) (s g:RowsD) (k:Nat):RowsD:=mp k fun i=>swgV kp (s.getD i []) (g.getD i []) (s.getD i []).length
def swgA (kp:Int) (s g:RowsD) (k:Nat):Bool:=an k fun i=>swgB kp (s.getD i []) (g.getD i []) (s.getD i []).length
def swgF (m:List OpD) (s:SwingD) (g:GradsD) (r kp:Int):List OpD × (SwingD × Bool) :=
 if swingB m s=true∧fixB r=true∧fixB kp=true∧s.2<1000000∧fitB m g.1=true then
  ((learnF m (swgR kp s.1 g.1 m.length,0,false) r).1,((swgR kp s.1 g.1 m.length,s.2+1),swgA kp s.1 g.1 m.length || (learnF m (swgR kp s.1 g.1 m.length,0,false) r).2))
 else (m,(s,false))
theorem learn_same (m:List OpD):learnF m ([],0,false) 0=(m,false):=by
 unfold learnF
 split
 ·rename_i h
  have h3:=((fitB_iff _ _).1 h.2.2).1
  have h1:=((modelB_iff _).1 h.1).1
  dsimp only [List.length_nil] at h3
  omega
 ·rfl
theorem swg_no {m:List OpD} {s:SwingD} {g:GradsD} {r kp:Int} (h:¬ (swingB m s=true∧fixB r=true∧fixB kp=true∧s.2<1000000∧fitB m g.1=true)):(m,(s,false))=swgF m s g r kp:=(if_neg h).symm
theorem swg_yes {m:List OpD} {s:SwingD} {g:GradsD} {r kp:Int} (h1:swingB m s=true) (h2:fixB r=true) (h3:fixB kp=true) (h4:s.2<1000000) (h5:fitB m g.1=true):((learnF m (swgR kp s.1 g.1 m.length,0,false) r).1,((swgR kp s.1 g.1 m.length,s.2+1),swgA kp s.1 g.1 m.length || (learnF m (swgR kp s.1 g.1 m.length,0,false) r).2))=swgF m s g r kp:=(if_pos ⟨h1,h2,h3,h4,h5⟩).symm
theorem szT_rows (l:RowsD):szT tRows l=l.length+(l.map (szT tInts)).sum:=rfl
theorem swgR_map (kp:Int) (s g:RowsD):(swgR kp s g s.length).map (szT tInts)=s.map (szT tInts):=by
 refine List.ext_getElem (by rw[List.length_map,List.length_map];exact mp_len _ _) fun i h1 h2=>?_
 rw[List.length_map] at h2
 have hk:i<(swgR kp s g s.length).length:=by rw[show (swgR kp s g s.length).length=s.length from mp_len _ _];exact h2
 have e:(swgR kp s g s.length)[i]=swgV kp (s.getD i []) (g.getD i []) (s.getD i []).length:=by
  rw[← getD_at hk (d:=[])];exact mp_getD _ _ _ h2
 rw[List.getElem_map,List.getElem_map,e,← getD_at h2 (d:=[]),szT_ints,szT_ints]
 exact mp_len _ _
theorem swgR_sz (kp:Int) (s g:RowsD):szT tRows (swgR kp s g s.length)=szT tRows s:=by
 rw[szT_rows,szT_rows,swgR_map,show (swgR kp s g s.length).length=s.length from mp_len _ _]
def SwingP (x:List OpD × (SwingD × (GradsD × (Int × Int)))):Prop:=szT tModel x.1≤1000000000∧szT tSwing x.2.1≤1000000000∧szT tGrads x.2.2.1≤1000000000

/-! spec.SwingStep -/

noncomputable def c_s_SwingStep:Con:=⟨32,(.pair tModel (.pair (.pair tRows tI) (.pair tGrads tIns))),(.pair tModel (.pair (.pair tRows tI) .bool)),[.val ⟨true,tModel,[]⟩,.val ⟨true,(.pair tRows tI),[]⟩,.val ⟨true,tGrads,[]⟩,.val ⟨false,tI,[]⟩,.val ⟨false,tI,[]⟩],[⟨true,tModel,[2]⟩,⟨true,(.pair tRows tI),[2,0]⟩,⟨false,.bool,[0]⟩],false,none,
 ((fun x=>SwingP x):(ModelD × ((RowsD × Int) × (GradsD × InsD)))→Prop),
 ((fun x=>swgF x.1 x.2.1 x.2.2.1 x.2.2.2.1 x.2.2.2.2):(ModelD × ((RowsD × Int) × (GradsD × InsD)))→(ModelD × ((RowsD × Int) × Bool)))⟩
def t_s_SwingStep:T:=.call 0 (.p1 tRows tI (pjA (.pair tModel (.pair (.pair tRows tI) (.pair tGrads tIns))) 1 (.vr 0))) <|.call 1 (mkA (.pair tModel (.pair tGrads tI)) [(.p1 tModel (.pair (.pair tRows tI) (.pair tGrads tIns)) (.vr 0)),(mkA tGrads [(.nl 92 tInts),(.ci .i64 0),(.cb false)]),(.ci .i64 0)]) <|.call 2 (.mk2 tModel (.pair tRows tI) (.p1 tModel (.pair (.pair tRows tI) (.pair tGrads tIns)) (.vr 0)) (pjA (.pair tModel (.pair (.pair tRows tI) (.pair tGrads tIns))) 1 (.vr 0))) <|.prim .not (.vr 3) <|.ite (.vr 4) (.ret (mkA (.pair tModel (.pair (.pair tRows tI) .bool)) [(.p1 tModel .bool (.vr 2)),(.mk2 tRows tI (.vr 1) (prA (.pair tRows tI) 1 (pjA (.pair tModel (.pair (.pair tRows tI) (.pair tGrads tIns))) 1 (.vr 0)))),(.cb false)])) (.call 3 (pjA (.pair tModel (.pair (.pair tRows tI) (.pair tGrads tIns))) 3 (.vr 0)) <|.prim .not (.vr 5) <|.ite (.vr 6) (.ret (mkA (.pair tModel (.pair (.pair tRows tI) .bool)) [(.p1 tModel .bool (.vr 2)),(.mk2 tRows tI (.vr 1) (prA (.pair tRows tI) 1 (pjA (.pair tModel (.pair (.pair tRows tI) (.pair tGrads tIns))) 1 (.vr 0)))),(.cb false)])) (.call 3 (prA (.pair tModel (.pair (.pair tRows tI) (.pair tGrads tIns))) 4 (.vr 0)) <|.prim .not (.vr 7) <|.ite (.vr 8) (.ret (mkA (.pair tModel (.pair (.pair tRows tI) .bool)) [(.p1 tModel .bool (.vr 2)),(.mk2 tRows tI (.vr 1) (prA (.pair tRows tI) 1 (pjA (.pair tModel (.pair (.pair tRows tI) (.pair tGrads tIns))) 1 (.vr 0)))),(.cb false)])) (.prim (.cmp .geq .i64) (.mk2 tI tI (prA (.pair tRows tI) 1 (pjA (.pair tModel (.pair (.pair tRows tI) (.pair tGrads tIns))) 1 (.vr 0))) (.ci .i64 1000000)) <|.ite (.vr 9) (.ret (mkA (.pair tModel (.pair (.pair tRows tI) .bool)) [(.p1 tModel .bool (.vr 2)),(.mk2 tRows tI (.vr 1) (prA (.pair tRows tI) 1 (pjA (.pair tModel (.pair (.pair tRows tI) (.pair tGrads tIns))) 1 (.vr 0)))),(.cb false)])) (.prim (.llen 92 tInts) (.p1 tRows (.pair tI .bool) (pjA (.pair tModel (.pair (.pair tRows tI) (.pair tGrads tIns))) 2 (.vr 0))) <|.prim (.llen 61 tOp) (.p1 tModel (.pair (.pair tRows tI) (.pair tGrads tIns)) (.vr 0)) <|.prim (.cmp .neq .i64) (.mk2 tI tI (.vr 10) (.vr 11)) <|.ite (.vr 12) (.ret (mkA (.pair tModel (.pair (.pair tRows tI) .bool)) [(.p1 tModel .bool (.vr 2)),(.mk2 tRows tI (.vr 1) (prA (.pair tRows tI) 1 (pjA (.pair tModel (.pair (.pair tRows tI) (.pair tGrads tIns))) 1 (.vr 0)))),(.cb false)])) (.prim (.ar .add .i64) (.mk2 tI tI (prA (.pair tRows tI) 1 (pjA (.pair tModel (.pair (.pair tRows tI) (.pair tGrads tIns))) 1 (.vr 0))) (.ci .i64 1)) <|.loop (.pair tI (.pair .bool tRows)) (mkA (.pair tI (.pair .bool tRows)) [(.ci .i64 0),(.cb false),(.nl 92 tInts)]) <|.prim (.llen 61 tOp) (.p1 tModel (.pair (.pair tRows tI) (.pair tGrads tIns)) (.vr 0)) <|.prim (.cmp .lss .i64) (.mk2 tI tI (.p1 tI (.pair .bool tRows) (.vr 14)) (.vr 15)) <|.ite (.vr 16) (.prim (.lidx 92 tInts) (.mk2 tRows tI (.p1 tRows (.pair tI .bool) (pjA (.pair tModel (.pair (.pair tRows tI) (.pair tGrads tIns))) 2 (.vr 0))) (.p1 tI (.pair .bool tRows) (.vr 14))) <|.prim (.llen 3 tI) (.vr 17) <|.prim (.lidx 61 tOp) (.mk2 tModel tI (.p1 tModel (.pair (.pair tRows tI) (.pair tGrads tIns)) (.vr 0)) (.p1 tI (.pair .bool tRows) (.vr 14))) <|.prim (.llen 3 tI) (prA tOp 3 (.vr 19)) <|.prim (.cmp .neq .i64) (.mk2 tI tI (.vr 18) (.vr 20)) <|.ite (.vr 21) (.ret (mkA (.pair tModel (.pair (.pair tRows tI) .bool)) [(.p1 tModel .bool (.vr 2)),(.mk2 tRows tI (.vr 1) (prA (.pair tRows tI) 1 (pjA (.pair tModel (.pair (.pair tRows tI) (.pair tGrads tIns))) 1 (.vr 0)))),(.cb false)])) (.loop (.pair tI (.pair .bool tInts)) (mkA (.pair tI (.pair .bool tInts)) [(.ci .i64 0),(pjA (.pair tI (.pair .bool tRows)) 1 (.vr 14)),(.nl 3 tI)]) <|.prim (.lidx 61 tOp) (.mk2 tModel tI (.p1 tModel (.pair (.pair tRows tI) (.pair tGrads tIns)) (.vr 0)) (.p1 tI (.pair .bool tRows) (.vr 14))) <|.prim (.llen 3 tI) (prA tOp 3 (.vr 23)) <|.prim (.cmp .lss .i64) (.mk2 tI tI (.p1 tI (.pair .bool tInts) (.vr 22)) (.vr 24)) <|.ite (.vr 25) (.prim (.lidx 92 tInts) (.mk2 tRows tI (.p1 tRows tI (pjA (.pair tModel (.pair (.pair tRows tI) (.pair tGrads tIns))) 1 (.vr 0))) (.p1 tI (.pair .bool tRows) (.vr 14))) <|.prim (.lidx 3 tI) (.mk2 tInts tI (.vr 26) (.p1 tI (.pair .bool tInts) (.vr 22))) <|.call 4 (.mk2 tI tI (prA (.pair tModel (.pair (.pair tRows tI) (.pair tGrads tIns))) 4 (.vr 0)) (.vr 27)) <|.prim (.lidx 92 tInts) (.mk2 tRows tI (.p1 tRows (.pair tI .bool) (pjA (.pair tModel (.pair (.pair tRows tI) (.pair tGrads tIns))) 2 (.vr 0))) (.p1 tI (.pair .bool tRows) (.vr 14))) <|.prim (.lidx 3 tI) (.mk2 tInts tI (.vr 29) (.p1 tI (.pair .bool tInts) (.vr 22))) <|.call 5 (.mk2 tI tI (.p1 tI .bool (.vr 28)) (.vr 30)) <|.prim (.lit 3 tI 1) (.p1 tI .bool (.vr 31)) <|.prim (.lapp 3 tI 8) (.mk2 tInts tInts (prA (.pair tI (.pair .bool tInts)) 2 (.vr 22)) (.vr 32)) <|.ite (pjA (.pair tI (.pair .bool tInts)) 1 (.vr 22)) (.prim (.ar .add .i64) (.mk2 tI tI (.p1 tI (.pair .bool tInts) (.vr 22)) (.ci .i64 1)) <|.again 0 (mkA (.pair tI (.pair .bool tInts)) [(.vr 34),(.cb true),(.vr 33)])) (.ite (prA (.pair tI .bool) 1 (.vr 28)) (.prim (.ar .add .i64) (.mk2 tI tI (.p1 tI (.pair .bool tInts) (.vr 22)) (.ci .i64 1)) <|.again 0 (mkA (.pair tI (.pair .bool tInts)) [(.vr 34),(.cb true),(.vr 33)])) (.prim (.ar .add .i64) (.mk2 tI tI (.p1 tI (.pair .bool tInts) (.vr 22)) (.ci .i64 1)) <|.again 0 (mkA (.pair tI (.pair .bool tInts)) [(.vr 34),(prA (.pair tI .bool) 1 (.vr 31)),(.vr 33)])))) (.prim (.lit 92 tInts 1) (prA (.pair tI (.pair .bool tInts)) 2 (.vr 22)) <|.prim (.lapp 92 tInts 24) (.mk2 tRows tRows (prA (.pair tI (.pair .bool tRows)) 2 (.vr 14)) (.vr 26)) <|.prim (.ar .add .i64) (.mk2 tI tI (.p1 tI (.pair .bool tRows) (.vr 14)) (.ci .i64 1)) <|.again 1 (mkA (.pair tI (.pair .bool tRows)) [(.vr 28),(pjA (.pair tI (.pair .bool tInts)) 1 (.vr 22)),(.vr 27)])))) (.call 1 (mkA (.pair tModel (.pair tGrads tI)) [(.p1 tModel (.pair (.pair tRows tI) (.pair tGrads tIns)) (.vr 0)),(mkA tGrads [(prA (.pair tI (.pair .bool tRows)) 2 (.vr 14)),(.ci .i64 0),(.cb false)]),(pjA (.pair tModel (.pair (.pair tRows tI) (.pair tGrads tIns))) 3 (.vr 0))]) <|.ite (pjA (.pair tI (.pair .bool tRows)) 1 (.vr 14)) (.ret (mkA (.pair tModel (.pair (.pair tRows tI) .bool)) [(.p1 tModel .bool (.vr 17)),(.mk2 tRows tI (prA (.pair tI (.pair .bool tRows)) 2 (.vr 14)) (.vr 13)),(.cb true)])) (.ret (mkA (.pair tModel (.pair (.pair tRows tI) .bool)) [(.p1 tModel .bool (.vr 17)),(.mk2 tRows tI (prA (.pair tI (.pair .bool tRows)) 2 (.vr 14)) (.vr 13)),(prA (.pair tModel .bool) 1 (.vr 17))]))))))))
set_option maxRecDepth 100000 in
theorem e_s_SwingStep:exFn Try.prog [c_s_l11Rows,c_s_Learn,c_s_SwingOk,c_s_FixOk,c_s_FixMul,c_s_FixAdd] c_s_SwingStep false 3000 ⟨[(2980,32014,drd 72 69++drd 66 39++[.dr 15,.dr 38,.dr 37,.dr 33]++drd 36 34++[.dr 32,.dr 29,.dr 31,.dr 28,.dr 30,.dr 27,.dr 0,.dr 1,.dr 2,.tm 18 0,.tm 16 0,.sl 16]),(2961,160022,[.tm 20 0,.on 19,.tm 16 0,.sl 17])],[(2955,288026,[],[17])]⟩ = .ok t_s_SwingStep:=by kernel_rfl
/- loops: (Int) × ((Bool) × (List (List (Int)))) ¦ (Int) × ((Bool) × (List (Int))) -/
theorem v_s_SwingStep (x:ModelD × ((RowsD × Int) × (GradsD × InsD))) (hx:okD (.pair tModel (.pair (.pair tRows tI) (.pair tGrads tIns))) x) (hp:(fun x=>SwingP x) x):t_s_SwingStep.wp [c_s_l11Rows,c_s_Learn,c_s_SwingOk,c_s_FixOk,c_s_FixMul,c_s_FixAdd] [⟨(.pair tModel (.pair (.pair tRows tI) (.pair tGrads tIns))),x⟩] [] (fun v=>v.as (.pair tModel (.pair (.pair tRows tI) .bool))=(fun x=>swgF x.1 x.2.1 x.2.2.1 x.2.2.2.1 x.2.2.2.2) x):=by
 obtain ⟨m,⟨sp,st⟩,⟨gr,gl,gs⟩,rate,kp⟩:=x
 obtain ⟨hq1,hq2,hq3⟩:szT tModel m≤1000000000∧szT tSwing (sp,st)≤1000000000∧szT tGrads (gr,gl,gs)≤1000000000:=hp
 have hB:=lenB9 (t:=tModel) hq1
 have hS:=(lenB9 (t:=tSwing) hq2).1
 have hC:=(lenB9 (t:=tGrads) hq3).1
 have hml:m.length≤1000000000:=hB.1
 have hsl:sp.length≤1000000000:=hS.1
 have hgl:gr.length≤1000000000:=hC.1
 have hsame:(learnF m ([],0,false) 0).1=m:=by rw[learn_same]
 have hno:¬ (swingB m (sp,st)=true∧fixB rate=true∧fixB kp=true∧st<1000000∧fitB m gr=true)→((learnF m ([],0,false) 0).1,((sp,st),false))=swgF m (sp,st) (gr,gl,gs) rate kp:=fun h=>by rw[hsame];exact swg_no h
 delta t_s_SwingStep c_s_l11Rows c_s_Learn c_s_SwingOk c_s_FixOk c_s_FixMul c_s_FixAdd;refine vcx ?_;try with_reducible exact True.intro
 (refine dcx ?_;try with_reducible exact True.intro)
 refine ⟨⟨hsl,fun y hy=>(hS.2 y hy).1⟩,fun _=>⟨⟨hq1,show szT tGrads (([],0,false):GradsD)≤1000000000 by decide⟩,fun _=>⟨⟨⟨hml,fun y hy=>(hB.2 y hy).2.2.2.1⟩,hsl,fun y hy=>(hS.2 y hy).1⟩,fun h=>hno fun hh=>?_,fun h1=>⟨fun h=>hno fun hh=>?_,fun h2=>⟨fun h=>hno fun hh=>?_,fun h3=>⟨fun h=>hno fun hh=>?_,fun h4 _ _=>⟨fun h=>hno fun hh=>?_,fun h5=>?_⟩⟩⟩⟩⟩⟩⟩
 ·rw[h] at hh;exact Bool.noConfusion hh.1
 ·rw[h] at hh;exact Bool.noConfusion hh.2.1
 ·rw[h] at hh;exact Bool.noConfusion hh.2.2.1
 ·omega
 ·have:=((fitB_iff _ _).1 hh.2.2.2.2).1;omega
 have hlen:gr.length=m.length:=by omega
 obtain ⟨-,hst,hfs,-⟩:=(swingB_iff _ _).1 h1
 dsimp only at hst hfs
 obtain ⟨hsm,hfs⟩:=(fitB_iff _ _).1 hfs
 refine ⟨by omega,fun _=>?_⟩
 refine loopG (fun k=>((k:Int),swgA kp sp gr k,swgR kp sp gr k)) (fun k=>∀ i,i<k→fitAt m gr i=true) m.length rfl (by omega) fun I μ k hk hG2 _ go=>?_
 dsimp only
 (refine dcx ?_;try with_reducible exact True.intro)
 by_cases hkn:k<m.length
 ·have hkg:k<gr.length:=by omega
  have hks:k<sp.length:=by omega
  have e:=fitAt_iff m gr hkn hkg
  have e1:=(fitAt_iff m sp hkn hks).1 (hfs k hkn)
  have hm:=(hB.2 _ (List.getElem_mem hkn)).2.2.2.1
  have hk2:=hC.2 _ (List.getElem_mem hkg)
  have hk3:=hS.2 _ (List.getElem_mem hks)
  have ha:swgA kp sp gr (k+1)=(swgA kp sp gr k || swgB kp (sp.getD k []) (gr.getD k []) (sp.getD k []).length):=an_succ k _
  have hr:swgR kp sp gr (k+1)=swgR kp sp gr k++[swgV kp (sp.getD k []) (gr.getD k []) (sp.getD k []).length]:=mp_succ k _
  have hrl:(swgR kp sp gr k).length=k:=mp_len _ _
  rw[ha,hr] at go
  have eP:(m.getD k zOp).2.2.2.length=m[k].2.2.2.length:=by rw[getD_at hkn]
  have eG:(gr.getD k []).length=gr[k].length:=by rw[getD_at hkg]
  have eS:(sp.getD k []).length=sp[k].length:=by rw[getD_at hks]
  have fit:((gr.getD k []).length:Int)=((m.getD k zOp).2.2.2.length:Int)→∀ i,i<k+1→fitAt m gr i=true:=fun h i hi=>by
   rcases Nat.lt_or_eq_of_le (Nat.le_of_lt_succ hi) with h'|rfl
   ·exact hG2 i h'
   ·exact e.2 (by omega)
  have hno2:¬ ((gr.getD k []).length:Int)=((m.getD k zOp).2.2.2.length:Int)→((learnF m ([],0,false) 0).1,((sp,st),false))=swgF m (sp,st) (gr,gl,gs) rate kp:=fun hne=>hno fun hh=>by
   have:=e.1 (((fitB_iff _ _).1 hh.2.2.2.2).2 k hkn);omega
  rw[show List.getD m k (zeroD tOp)=m.getD k zOp from rfl,show List.getD sp k (zeroD tInts)=sp.getD k [] from rfl,show List.getD gr k (zeroD tInts)=gr.getD k [] from rfl]
  generalize m.getD k zOp=o at *
  generalize gr.getD k []=G at *
  generalize sp.getD k []=S at *
  have hSo:S.length=o.2.2.2.length:=by omega
  refine fun _=>⟨fun _=>⟨by omega,fun _ _=>⟨by omega,fun _ _=>⟨hno2,fun heq=>?_⟩⟩⟩,fun hge=>by omega⟩
  refine loopF (fun j=>((j:Int),swgA kp sp gr k || swgB kp S G j,swgV kp S G j)) S.length (by show (_,_)=(_,_);rw[show swgB kp S G 0=false from rfl,Bool.or_false];rfl) fun I2 μ2 j hj _ go2=>?_
  dsimp only
  (refine dcx ?_;try with_reducible exact True.intro)
  have hb:swgB kp S G (j+1)=(swgB kp S G j || ((fixMul kp (S.getD j 0)).2 || (fixAdd (fixMul kp (S.getD j 0)).1 (G.getD j 0)).2)):=an_succ j _
  have hv:swgV kp S G (j+1)=swgV kp S G j++[(fixAdd (fixMul kp (S.getD j 0)).1 (G.getD j 0)).1]:=mp_succ j _
  have hvl:(swgV kp S G j).length=j:=mp_len _ _
  rw[hb,hv,← Bool.or_assoc,← Bool.or_assoc] at go2
  rw[hrl]
  (repeat' first|intro _|(refine go2 _ ?_ ?_ ?_)|(refine go2 _ ?_ ?_)|(refine go _ ?_ ?_ ?_)|(refine go _ ?_ ?_)|(with_reducible apply And.intro))
  all_goals first|omega|(unfold maxLen;omega)|exact fit heq _ (by assumption)|skip
  all_goals first|exact Prod.ext rfl (Prod.ext (or3_t (by assumption)) rfl)|exact Prod.ext rfl (Prod.ext (or3_u (by assumption) (by assumption)) rfl)|exact Prod.ext rfl (Prod.ext (or3_f (by assumption) (by assumption)) rfl)|skip
  have e9:j=S.length:=by omega
  subst e9
  exact Prod.ext rfl rfl
 ·have hkm:k=m.length:=by omega
  refine fun _=>⟨fun _=>by omega,fun _=>?_⟩
  subst hkm
  have Y:=swg_yes (m:=m) (s:=(sp,st)) (g:=(gr,gl,gs)) (r:=rate) (kp:=kp) h1 h2 h3 h4 ((fitB_iff m gr).2 ⟨hlen,hG2⟩)
  dsimp only at Y
  have hz:szT tRows (swgR kp sp gr m.length)≤1000000000:=by
   rw[← hsm,swgR_sz]
   have:szT tRows sp+0≤1000000000:=hq2
   omega
  refine ⟨⟨hq1,show szT tRows (swgR kp sp gr m.length)+(0+0)≤1000000000 by omega⟩,fun _=>⟨fun ht=>?_,fun ht=>?_⟩⟩
  ·rw[ht,Bool.true_or] at Y;exact Y
  ·rw[ht,Bool.false_or] at Y;exact Y
theorem h_s_SwingStep:Con.Holds Try.prog c_s_SwingStep:=tree_ok mixedP (consAt h_s_l11Rows (consAt h_s_Learn (consAt h_s_SwingOk (consAt h_s_FixOk (consAt h_s_FixMul (consAt h_s_FixAdd consNil)))))) e_s_SwingStep fun x hx hp=>v_s_SwingStep x hx hp
end Go.Proofs.Ytahggdiafncdhaa
