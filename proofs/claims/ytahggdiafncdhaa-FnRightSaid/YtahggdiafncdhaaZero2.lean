/- Zero2: trees, and what they say. -/
import Derived.Test.YtahggdiafncdhaaOps2
namespace Go.Proofs.Ytahggdiafncdhaa
open Go.ChangeShapes Go.WideShapes Go.ChangeAt Go.RowKit Go.Deep
set_option linter.unusedVariables false
set_option linter.unusedSimpArgs false
def zeroRows (m:List OpD):List (List Int):=m.map fun o=>List.replicate o.2.2.2.length 0
def zeroG (m:List OpD):GradsD:=if modelB m=true then (zeroRows m,0,false) else ([],0,false)
def fitAt (m:List OpD) (g:List (List Int)) (i:Nat):Bool:=decide ((g.getD i []).length=(m.getD i zOp).2.2.2.length)
def fitB (m:List OpD) (g:List (List Int)):Bool:=decide (g.length=m.length)&&(List.range m.length).all (fitAt m g)
theorem fitB_iff (m:List OpD) (g:List (List Int)):fitB m g=true↔g.length=m.length∧∀ i,i<m.length→fitAt m g i=true:=by
 unfold fitB;simp only[Bool.and_eq_true,decide_eq_true_eq,List.all_eq_true,List.mem_range]
theorem fitAt_iff (m:List OpD) (g:List (List Int)) {i:Nat} (h:i<m.length) (h':i<g.length):fitAt m g i=true↔g[i].length=m[i].2.2.2.length:=by
 unfold fitAt
 rw[getD_at h,getD_at h',decide_eq_true_eq]
theorem fitB_bad {m:List OpD} {g:List (List Int)} {i:Nat} (h:i<m.length) (hb:¬ fitAt m g i=true):fitB m g=false:=by
 refine Bool.eq_false_iff.2 ?_
 rw[ne_eq,fitB_iff]
 exact fun hh=>hb (hh.2 i h)

def swingB (m:List OpD) (s:SwingD):Bool:=modelB m&&(decide (0≤s.2)&&(fitB m s.1&&s.1.all fun r=>r.all fixB))
def ModelP (m:List OpD):Prop:=List.length m≤1000000000∧∀ o∈m,List.length o.2.2.2≤1000000000
def RowsP (m:List (List Int)):Prop:=List.length m≤1000000000∧∀ o∈m,List.length o≤1000000000
theorem zeroRows_next (m:List OpD) {k:Nat} (h:k<m.length):(zeroRows m).take k++[List.replicate m[k].2.2.2.length 0]=(zeroRows m).take (k+1):=by
 have h':k<(zeroRows m).length:=by unfold zeroRows;rw[List.length_map];exact h
 have e:(zeroRows m)[k]'h'=List.replicate m[k].2.2.2.length 0:=List.getElem_map ..
 rw[List.take_succ_eq_append_getElem h',e]
theorem zeroRows_len (m:List OpD):(zeroRows m).length=m.length:=List.length_map _
theorem swingB_iff (m:List OpD) (s:SwingD):swingB m s=true↔modelB m=true∧0≤s.2∧fitB m s.1=true∧(s.1.all fun r=>r.all fixB)=true:=by
 unfold swingB;simp only[Bool.and_eq_true,decide_eq_true_eq]
theorem swing_f1 {m:List OpD} {s:SwingD} (h:modelB m=false):false=swingB m s:=by unfold swingB;rw[h];rfl
theorem swing_f2 {m:List OpD} {s:SwingD} (h:s.2<0):false=swingB m s:=by
 refine (Bool.eq_false_iff.2 ?_).symm;rw[ne_eq,swingB_iff];intro hh;omega
theorem swing_f3 {m:List OpD} {s:SwingD} (h:fitB m s.1=false):false=swingB m s:=by
 refine (Bool.eq_false_iff.2 ?_).symm;rw[ne_eq,swingB_iff,h];intro hh;exact Bool.noConfusion hh.2.2.1
theorem swing_f4 {m:List OpD} {s:SwingD} (h:(s.1.all fun r=>r.all fixB)=false):false=swingB m s:=by
 refine (Bool.eq_false_iff.2 ?_).symm;rw[ne_eq,swingB_iff,h];intro hh;exact Bool.noConfusion hh.2.2.2

/-! impl.gradsFit -/

noncomputable def c_i_gradsFit:Con:=⟨75,(.pair tModel tRows),.bool,[.val ⟨true,tModel,[]⟩,.val ⟨false,tRows,[]⟩],[⟨false,.bool,[0]⟩],false,none,
 ((fun _=>True):(ModelD × RowsD)→Prop),
 ((fun x=>fitB x.1 x.2):(ModelD × RowsD)→(Bool))⟩
def t_i_gradsFit:T:=.prim (.llen 92 tInts) (prA (.pair tModel tRows) 1 (.vr 0)) <|.prim (.llen 61 tOp) (.p1 tModel tRows (.vr 0)) <|.prim (.cmp .neq .i64) (.mk2 tI tI (.vr 1) (.vr 2)) <|.ite (.vr 3) (.ret (.cb false)) (.prim (.llen 61 tOp) (.p1 tModel tRows (.vr 0)) <|.loop tI (.ci .i64 0) <|.prim (.cmp .lss .i64) (.mk2 tI tI (.vr 5) (.vr 4)) <|.ite (.vr 6) (.prim (.lidx 61 tOp) (.mk2 tModel tI (.p1 tModel tRows (.vr 0)) (.vr 5)) <|.prim (.lidx 92 tInts) (.mk2 tRows tI (prA (.pair tModel tRows) 1 (.vr 0)) (.vr 5)) <|.prim (.llen 3 tI) (.vr 8) <|.prim (.llen 3 tI) (prA tOp 3 (.vr 7)) <|.prim (.cmp .neq .i64) (.mk2 tI tI (.vr 9) (.vr 10)) <|.ite (.vr 11) (.ret (.cb false)) (.prim (.ar .add .i64) (.mk2 tI tI (.vr 5) (.ci .i64 1)) <|.again 0 (.vr 12))) (.ret (.cb true)))
set_option maxRecDepth 100000 in
theorem e_i_gradsFit:exFn Try.prog [] c_i_gradsFit false 3000 ⟨[(2988,2005,drd 13 7++[.dr 2,.dr 0,.tm 16 0])],[]⟩ = .ok t_i_gradsFit:=by kernel_rfl
/- loops: Int -/
theorem v_i_gradsFit (x:ModelD × RowsD) (hx:okD (.pair tModel tRows) x) (hp:(fun _=>True) x):t_i_gradsFit.wp [] [⟨(.pair tModel tRows),x⟩] [] (fun v=>v.as .bool=(fun x=>fitB x.1 x.2) x):=by
 obtain ⟨m,g⟩:=x
 have hm1:m.length≤9223372036854775807:=hx.1.1
 delta t_i_gradsFit;refine vcx ?_;try with_reducible exact True.intro
 (repeat' first|intro _|(with_reducible apply And.intro))
 all_goals simp only[Int.toNat_natCast,Bool.not_eq_true',Bool.not_eq_false',Bool.and_eq_true,Bool.and_eq_false_iff,decide_eq_true_eq,decide_eq_false_iff_not,Int.not_lt,Int.not_le,ge_iff_le,gt_iff_lt,List.length_cons,List.length_nil,List.length_append,Nat.zero_add,List.nil_append,beq_iff_eq,beq_eq_false_iff_ne,bne_iff_ne,bne_eq_false_iff_eq,ne_eq,toNat_pred,toNat_succ,toNat_l0,toNat_l1] at *
 ·exact (Bool.eq_false_iff.2 fun h=>by rw[fitB_iff] at h;omega).symm
 refine ⟨fun s=>∃ k:Nat,k≤m.length∧s=(k:Int)∧∀ i,i<k→fitAt m g i=true,fun s=>m.length - (s:Int).toNat,⟨0,by omega,rfl,by omega⟩,fun s _ hI=>?_⟩
 obtain ⟨k,hk,rfl,ha⟩:=hI
 (refine dcx ?_;try with_reducible exact True.intro)
 constructor
 ·intro hlt
  have hk':k<m.length:=by omega
  have hk2:k<g.length:=by omega
  rw[getD_at hk',getD_at hk2]
  have e:=fitAt_iff m g hk' hk2
  refine ⟨by omega,fun _=>⟨by omega,fun _ _ _=>⟨fun h=>(fitB_bad hk' fun h2=>?_).symm,fun h=>⟨by omega,fun _=>⟨⟨k+1,by omega,rfl,fun i hi=>?_⟩,by omega⟩⟩⟩⟩⟩
  ·have:=e.1 h2;omega
  ·rcases Nat.lt_or_eq_of_le (Nat.le_of_lt_succ hi) with h'|rfl
   ·exact ha i h'
   ·exact e.2 (by omega)
 ·intro hge
  have:k=m.length:=by omega
  subst this
  exact ((fitB_iff m g).2 ⟨by omega,ha⟩).symm
theorem h_i_gradsFit:Con.Holds Try.prog c_i_gradsFit:=tree_ok mixedP consNil e_i_gradsFit fun x hx hp=>v_i_gradsFit x hx hp

/-! impl.ZeroGrads -/

noncomputable def c_i_ZeroGrads:Con:=⟨118,tModel,tGrads,[.val ⟨true,tModel,[]⟩],[⟨true,tGrads,[2,0,0]⟩],false,none,
 ((fun x=>ModelP x):(ModelD)→Prop),
 ((fun x=>zeroG x):(ModelD)→(GradsD))⟩
def t_i_ZeroGrads:T:=.call 0 (.vr 0) <|.prim .not (.vr 1) <|.ite (.vr 2) (.ret (mkA tGrads [(.nl 92 tInts),(.ci .i64 0),(.cb false)])) (.prim (.llen 61 tOp) (.vr 0) <|.loop tSaved (.mk2 tI tRows (.ci .i64 0) (.nl 92 tInts)) <|.prim (.cmp .lss .i64) (.mk2 tI tI (.p1 tI tRows (.vr 4)) (.vr 3)) <|.ite (.vr 5) (.prim (.lidx 61 tOp) (.mk2 tModel tI (.vr 0) (.p1 tI tRows (.vr 4))) <|.prim (.llen 3 tI) (prA tOp 3 (.vr 6)) <|.prim (.rep 3 tI 8) (.vr 7) <|.prim (.lit 92 tInts 1) (.vr 8) <|.prim (.lapp 92 tInts 24) (.mk2 tRows tRows (prA tSaved 1 (.vr 4)) (.vr 9)) <|.prim (.ar .add .i64) (.mk2 tI tI (.p1 tI tRows (.vr 4)) (.ci .i64 1)) <|.again 0 (.mk2 tI tRows (.vr 11) (.vr 10))) (.ret (mkA tGrads [(prA tSaved 1 (.vr 4)),(.ci .i64 0),(.cb false)])))
set_option maxRecDepth 100000 in
theorem e_i_ZeroGrads:exFn Try.prog [c_i_ModelOk] c_i_ZeroGrads false 3000 ⟨[(2986,2004,[.dr 11,.dr 10]++drd 8 6++[.dr 1,.dr 0,.tm 14 0,.sl 6])],[(2976,6007,[23],[])]⟩ = .ok t_i_ZeroGrads:=by kernel_rfl
/- loops: (Int) × (List (List (Int))) -/
theorem v_i_ZeroGrads (x:ModelD) (hx:okD tModel x) (hp:(fun x=>ModelP x) x):t_i_ZeroGrads.wp [c_i_ModelOk] [⟨tModel,x⟩] [] (fun v=>v.as tGrads=(fun x=>zeroG x) x):=by
 have hq:ModelP x:=hp
 obtain ⟨hp1,hp2⟩:ModelP x:=hp
 delta t_i_ZeroGrads c_i_ModelOk;refine vcx ?_;try with_reducible exact True.intro
 refine ⟨fun hb=>?_,fun hb _=>?_⟩
 all_goals simp only[Int.toNat_natCast,Bool.not_eq_true',Bool.not_eq_false',Bool.and_eq_true,Bool.and_eq_false_iff,decide_eq_true_eq,decide_eq_false_iff_not,Int.not_lt,Int.not_le,ge_iff_le,gt_iff_lt,List.length_cons,List.length_nil,List.length_append,Nat.zero_add,List.nil_append,beq_iff_eq,beq_eq_false_iff_ne,bne_iff_ne,bne_eq_false_iff_eq,ne_eq,toNat_pred,toNat_succ,toNat_l0,toNat_l1] at hb
 ·unfold zeroG;rw[hb];rfl
 refine ⟨fun s=>∃ k:Nat,k≤x.length∧s=((k:Int),(zeroRows x).take k),fun s=>x.length - (s.1:Int).toNat,⟨0,by omega,by simp⟩,fun s _ hI=>?_⟩
 obtain ⟨k,hk,rfl⟩:=hI
 dsimp only
 have hl:List.length ((zeroRows x).take k)=k:=by rw[List.length_take,zeroRows_len];omega
 simp only[Int.toNat_natCast,Bool.not_eq_true',Bool.not_eq_false',Bool.and_eq_true,Bool.and_eq_false_iff,decide_eq_true_eq,decide_eq_false_iff_not,Int.not_lt,Int.not_le,ge_iff_le,gt_iff_lt,List.length_cons,List.length_nil,List.length_append,Nat.zero_add,List.nil_append,beq_iff_eq,beq_eq_false_iff_ne,bne_iff_ne,bne_eq_false_iff_eq,ne_eq,toNat_pred,toNat_succ,toNat_l0,toNat_l1,hl]
 constructor
 ·intro hlt
  have hk':k<x.length:=by omega
  rw[getD_at hk']
  have hm:=hp2 _ (List.getElem_mem hk')
  have e:=zeroRows_next x hk'
  (repeat' first|intro _|(with_reducible apply And.intro))
  all_goals first|omega|(unfold maxLen;omega)|(exact ⟨k+1,by omega,by rw[← e];rfl⟩)
 ·intro hge
  have:k=x.length:=by omega
  subst this
  unfold zeroG
  rw[if_pos hb,take_ge (by rw[zeroRows_len];omega)]
theorem h_i_ZeroGrads:Con.Holds Try.prog c_i_ZeroGrads:=tree_ok mixedP (consAt h_i_ModelOk consNil) e_i_ZeroGrads fun x hx hp=>v_i_ZeroGrads x hx hp

/-! impl.SwingNew -/

noncomputable def c_i_SwingNew:Con:=⟨55,tModel,(.pair tRows tI),[.val ⟨true,tModel,[]⟩],[⟨true,(.pair tRows tI),[2,0]⟩],false,none,
 ((fun x=>ModelP x):(ModelD)→Prop),
 ((fun x=>(((zeroG x).1,0):SwingD)):(ModelD)→(RowsD × Int))⟩
def t_i_SwingNew:T:=.call 0 (.vr 0) <|.ret (.mk2 tRows tI (.p1 tRows (.pair tI .bool) (.vr 1)) (.ci .i64 0))
set_option maxRecDepth 100000 in
theorem e_i_SwingNew:exFn Try.prog [c_i_ZeroGrads] c_i_SwingNew false 3000 ⟨[],[]⟩ = .ok t_i_SwingNew:=by kernel_rfl
theorem v_i_SwingNew (x:ModelD) (hx:okD tModel x) (hp:(fun x=>ModelP x) x):t_i_SwingNew.wp [c_i_ZeroGrads] [⟨tModel,x⟩] [] (fun v=>v.as (.pair tRows tI)=(fun x=>(((zeroG x).1,0):SwingD)) x):=by
 have hq:ModelP x:=hp
 delta t_i_SwingNew c_i_ZeroGrads;refine vcx ?_;try with_reducible exact True.intro
 exact ⟨hq,fun _=>trivial⟩
theorem h_i_SwingNew:Con.Holds Try.prog c_i_SwingNew:=tree_ok mixedP (consAt h_i_ZeroGrads consNil) e_i_SwingNew fun x hx hp=>v_i_SwingNew x hx hp

/-! impl.SwingOk -/

noncomputable def c_i_SwingOk:Con:=⟨54,(.pair tModel (.pair tRows tI)),.bool,[.val ⟨true,tModel,[]⟩,.val ⟨true,(.pair tRows tI),[]⟩],[⟨false,.bool,[0]⟩],false,none,
 ((fun x=>ModelP x.1∧RowsP x.2.1):(ModelD × (RowsD × Int))→Prop),
 ((fun x=>swingB x.1 x.2):(ModelD × (RowsD × Int))→(Bool))⟩
def t_i_SwingOk:T:=.call 0 (.p1 tModel (.pair tRows tI) (.vr 0)) <|.prim .not (.vr 1) <|.ite (.vr 2) (.ret (.cb false)) (.prim (.cmp .lss .i64) (.mk2 tI tI (prA (.pair tModel (.pair tRows tI)) 2 (.vr 0)) (.ci .i64 0)) <|.ite (.vr 3) (.ret (.cb false)) (.call 1 (.mk2 tModel tRows (.p1 tModel (.pair tRows tI) (.vr 0)) (pjA (.pair tModel (.pair tRows tI)) 1 (.vr 0))) <|.prim .not (.vr 4) <|.ite (.vr 5) (.ret (.cb false)) (.prim (.llen 92 tInts) (pjA (.pair tModel (.pair tRows tI)) 1 (.vr 0)) <|.loop tI (.ci .i64 0) <|.prim (.cmp .lss .i64) (.mk2 tI tI (.vr 7) (.vr 6)) <|.ite (.vr 8) (.prim (.lidx 92 tInts) (.mk2 tRows tI (pjA (.pair tModel (.pair tRows tI)) 1 (.vr 0)) (.vr 7)) <|.call 2 (.vr 9) <|.prim .not (.vr 10) <|.ite (.vr 11) (.ret (.cb false)) (.prim (.ar .add .i64) (.mk2 tI tI (.vr 7) (.ci .i64 1)) <|.again 0 (.vr 12))) (.ret (.cb true)))))
set_option maxRecDepth 100000 in
theorem e_i_SwingOk:exFn Try.prog [c_i_ModelOk,c_i_gradsFit,c_i_allFix] c_i_SwingOk false 3000 ⟨[(2988,8007,drd 22 7++[.dr 3,.dr 2,.dr 0,.dr 1,.tm 25 0])],[]⟩ = .ok t_i_SwingOk:=by kernel_rfl
/- loops: Int -/
theorem v_i_SwingOk (x:ModelD × (RowsD × Int)) (hx:okD (.pair tModel (.pair tRows tI)) x) (hp:(fun x=>ModelP x.1∧RowsP x.2.1) x):t_i_SwingOk.wp [c_i_ModelOk,c_i_gradsFit,c_i_allFix] [⟨(.pair tModel (.pair tRows tI)),x⟩] [] (fun v=>v.as .bool=(fun x=>swingB x.1 x.2) x):=by
 obtain ⟨m,sp,st⟩:=x
 have hq:ModelP m∧RowsP sp:=hp
 have hs1:=hq.2.1
 delta t_i_SwingOk c_i_ModelOk c_i_gradsFit c_i_allFix;refine vcx ?_;try with_reducible exact True.intro
 refine ⟨fun h1=>?_,fun h1=>⟨fun h2=>?_,fun h2=>⟨fun h3=>?_,fun h3 _=>?_⟩⟩⟩
 all_goals simp only[Int.toNat_natCast,Bool.not_eq_true',Bool.not_eq_false',Bool.and_eq_true,Bool.and_eq_false_iff,decide_eq_true_eq,decide_eq_false_iff_not,Int.not_lt,Int.not_le,ge_iff_le,gt_iff_lt,List.length_cons,List.length_nil,List.length_append,Nat.zero_add,List.nil_append,beq_iff_eq,beq_eq_false_iff_ne,bne_iff_ne,bne_eq_false_iff_eq,ne_eq,toNat_pred,toNat_succ,toNat_l0,toNat_l1] at *
 ·exact swing_f1 h1
 ·exact swing_f2 h2
 ·exact swing_f3 h3
 refine ⟨fun s=>∃ k:Nat,k≤sp.length∧s=(k:Int)∧((sp.take k).all fun r=>r.all fixB)=true,fun s=>sp.length - (s:Int).toNat,⟨0,by omega,rfl,rfl⟩,fun s _ hI=>?_⟩
 obtain ⟨k,hk,rfl,ha⟩:=hI
 (refine dcx ?_;try with_reducible exact True.intro)
 constructor
 ·intro hlt
  have hk':k<sp.length:=by omega
  rw[getD_at hk']
  have hm:=hq.2.2 _ (List.getElem_mem hk')
  have e:=all_next (fun r=>r.all fixB) sp hk'
  refine ⟨by omega,fun _=>⟨fun h=>swing_f4 (all_bad hk' h),fun h=>⟨by omega,fun _=>⟨⟨k+1,by omega,rfl,by rw[e,ha,h];rfl⟩,by omega⟩⟩⟩⟩
 ·intro hge
  have:k=sp.length:=by omega
  subst this
  rw[List.take_length] at ha
  exact ((swingB_iff _ _).2 ⟨h1,h2,h3,ha⟩).symm
theorem h_i_SwingOk:Con.Holds Try.prog c_i_SwingOk:=tree_ok mixedP (consAt h_i_ModelOk (consAt h_i_gradsFit (consAt h_i_allFix consNil))) e_i_SwingOk fun x hx hp=>v_i_SwingOk x hx hp

/-! spec.ZeroGrads -/

noncomputable def c_s_ZeroGrads:Con:=⟨124,tModel,tGrads,[.val ⟨true,tModel,[]⟩],[⟨true,tGrads,[2,0,0]⟩],false,none,
 ((fun x=>ModelP x):(ModelD)→Prop),
 ((fun x=>zeroG x):(ModelD)→(GradsD))⟩
def t_s_ZeroGrads:T:=.loop tSaved (.mk2 tI tRows (.ci .i64 0) (.nl 92 tInts)) <|.prim (.llen 61 tOp) (.vr 0) <|.prim (.cmp .lss .i64) (.mk2 tI tI (.p1 tI tRows (.vr 1)) (.vr 2)) <|.ite (.vr 3) (.call 0 (.vr 0) <|.ite (.vr 4) (.prim (.lidx 61 tOp) (.mk2 tModel tI (.vr 0) (.p1 tI tRows (.vr 1))) <|.prim (.llen 3 tI) (prA tOp 3 (.vr 5)) <|.prim (.rep 3 tI 8) (.vr 6) <|.prim (.lit 92 tInts 1) (.vr 7) <|.prim (.lapp 92 tInts 24) (.mk2 tRows tRows (prA tSaved 1 (.vr 1)) (.vr 8)) <|.prim (.ar .add .i64) (.mk2 tI tI (.p1 tI tRows (.vr 1)) (.ci .i64 1)) <|.again 0 (.mk2 tI tRows (.vr 10) (.vr 9))) (.ret (mkA tGrads [(prA tSaved 1 (.vr 1)),(.ci .i64 0),(.cb false)]))) (.ret (mkA tGrads [(prA tSaved 1 (.vr 1)),(.ci .i64 0),(.cb false)]))
set_option maxRecDepth 100000 in
theorem e_s_ZeroGrads:exFn Try.prog [c_s_ModelOk] c_s_ZeroGrads false 3000 ⟨[(2991,1001,[.dr 5,.dr 0,.tm 4 0,.sl 6])],[(2983,7005,[26],[])]⟩ = .ok t_s_ZeroGrads:=by kernel_rfl
/- loops: (Int) × (List (List (Int))) -/
theorem v_s_ZeroGrads (x:ModelD) (hx:okD tModel x) (hp:(fun x=>ModelP x) x):t_s_ZeroGrads.wp [c_s_ModelOk] [⟨tModel,x⟩] [] (fun v=>v.as tGrads=(fun x=>zeroG x) x):=by
 have hq:ModelP x:=hp
 obtain ⟨hp1,hp2⟩:ModelP x:=hp
 delta t_s_ZeroGrads c_s_ModelOk;refine vcx ?_;try with_reducible exact True.intro
 refine ⟨fun s=>∃ k:Nat,k≤x.length∧(k=0∨modelB x=true)∧s=((k:Int),(zeroRows x).take k),fun s=>x.length - (s.1:Int).toNat,⟨0,by omega,.inl rfl,by simp⟩,fun s _ hI=>?_⟩
 obtain ⟨k,hk,hz,rfl⟩:=hI
 dsimp only
 have hl:List.length ((zeroRows x).take k)=k:=by rw[List.length_take,zeroRows_len];omega
 simp only[Int.toNat_natCast,Bool.not_eq_true',Bool.not_eq_false',Bool.and_eq_true,Bool.and_eq_false_iff,decide_eq_true_eq,decide_eq_false_iff_not,Int.not_lt,Int.not_le,ge_iff_le,gt_iff_lt,List.length_cons,List.length_nil,List.length_append,Nat.zero_add,List.nil_append,beq_iff_eq,beq_eq_false_iff_ne,bne_iff_ne,bne_eq_false_iff_eq,ne_eq,toNat_pred,toNat_succ,toNat_l0,toNat_l1,hl]
 intro _
 have fin:k=x.length∨modelB x=false→((zeroRows x).take k,(0:Int),false)=zeroG x:=fun h=>by
  unfold zeroG
  cases hb:modelB x
  ·have:k=0:=hz.elim id fun h=>by rw[hb] at h;cases h
   subst this
   rfl
  ·have:k=x.length:=h.elim id fun h=>by rw[hb] at h;cases h
   rw[if_pos rfl,take_ge (by rw[zeroRows_len];omega)]
 constructor
 ·intro hlt
  have hk':k<x.length:=by omega
  rw[getD_at hk']
  have hm:=hp2 _ (List.getElem_mem hk')
  have e:=zeroRows_next x hk'
  (repeat' first|intro _|(with_reducible apply And.intro))
  all_goals first|omega|(unfold maxLen;omega)|exact hm|exact hp2 _ ‹_›|(exact ⟨k+1,by omega,.inr (by assumption),by rw[← e];rfl⟩)|exact fin (.inr (by assumption))
 ·intro hge
  exact fin (.inl (by omega))
theorem h_s_ZeroGrads:Con.Holds Try.prog c_s_ZeroGrads:=tree_ok mixedP (consAt h_s_ModelOk consNil) e_s_ZeroGrads fun x hx hp=>v_s_ZeroGrads x hx hp

/-! spec.SwingNew -/

noncomputable def c_s_SwingNew:Con:=⟨160,tModel,(.pair tRows tI),[.val ⟨true,tModel,[]⟩],[⟨true,(.pair tRows tI),[2,0]⟩],false,none,
 ((fun x=>ModelP x):(ModelD)→Prop),
 ((fun x=>(((zeroG x).1,0):SwingD)):(ModelD)→(RowsD × Int))⟩
def t_s_SwingNew:T:=.call 0 (.vr 0) <|.ret (.mk2 tRows tI (.p1 tRows (.pair tI .bool) (.vr 1)) (.ci .i64 0))
set_option maxRecDepth 100000 in
theorem e_s_SwingNew:exFn Try.prog [c_s_ZeroGrads] c_s_SwingNew false 3000 ⟨[],[]⟩ = .ok t_s_SwingNew:=by kernel_rfl
theorem v_s_SwingNew (x:ModelD) (hx:okD tModel x) (hp:(fun x=>ModelP x) x):t_s_SwingNew.wp [c_s_ZeroGrads] [⟨tModel,x⟩] [] (fun v=>v.as (.pair tRows tI)=(fun x=>(((zeroG x).1,0):SwingD)) x):=by
 have hq:ModelP x:=hp
 delta t_s_SwingNew c_s_ZeroGrads;refine vcx ?_;try with_reducible exact True.intro
 exact ⟨hq,fun _=>trivial⟩
theorem h_s_SwingNew:Con.Holds Try.prog c_s_SwingNew:=tree_ok mixedP (consAt h_s_ZeroGrads consNil) e_s_SwingNew fun x hx hp=>v_s_SwingNew x hx hp

/-! spec.SwingOk -/

noncomputable def c_s_SwingOk:Con:=⟨53,(.pair tModel (.pair tRows tI)),.bool,[.val ⟨true,tModel,[]⟩,.val ⟨true,(.pair tRows tI),[]⟩],[⟨false,.bool,[0]⟩],false,none,
 ((fun x=>ModelP x.1∧RowsP x.2.1):(ModelD × (RowsD × Int))→Prop),
 ((fun x=>swingB x.1 x.2):(ModelD × (RowsD × Int))→(Bool))⟩
def t_s_SwingOk:T:=.call 0 (.p1 tModel (.pair tRows tI) (.vr 0)) <|.prim .not (.vr 1) <|.ite (.vr 2) (.ret (.cb false)) (.prim (.llen 92 tInts) (pjA (.pair tModel (.pair tRows tI)) 1 (.vr 0)) <|.prim (.llen 61 tOp) (.p1 tModel (.pair tRows tI) (.vr 0)) <|.prim (.cmp .neq .i64) (.mk2 tI tI (.vr 3) (.vr 4)) <|.ite (.vr 5) (.ret (.cb false)) (.prim (.cmp .lss .i64) (.mk2 tI tI (prA (.pair tModel (.pair tRows tI)) 2 (.vr 0)) (.ci .i64 0)) <|.ite (.vr 6) (.ret (.cb false)) (.loop tI (.ci .i64 0) <|.prim (.llen 61 tOp) (.p1 tModel (.pair tRows tI) (.vr 0)) <|.prim (.cmp .lss .i64) (.mk2 tI tI (.vr 7) (.vr 8)) <|.ite (.vr 9) (.prim (.lidx 92 tInts) (.mk2 tRows tI (pjA (.pair tModel (.pair tRows tI)) 1 (.vr 0)) (.vr 7)) <|.prim (.llen 3 tI) (.vr 10) <|.prim (.lidx 61 tOp) (.mk2 tModel tI (.p1 tModel (.pair tRows tI) (.vr 0)) (.vr 7)) <|.prim (.llen 3 tI) (prA tOp 3 (.vr 12)) <|.prim (.cmp .neq .i64) (.mk2 tI tI (.vr 11) (.vr 13)) <|.ite (.vr 14) (.ret (.cb false)) (.loop tI (.ci .i64 0) <|.prim (.lidx 92 tInts) (.mk2 tRows tI (pjA (.pair tModel (.pair tRows tI)) 1 (.vr 0)) (.vr 7)) <|.prim (.llen 3 tI) (.vr 16) <|.prim (.cmp .lss .i64) (.mk2 tI tI (.vr 15) (.vr 17)) <|.ite (.vr 18) (.prim (.lidx 92 tInts) (.mk2 tRows tI (pjA (.pair tModel (.pair tRows tI)) 1 (.vr 0)) (.vr 7)) <|.prim (.lidx 3 tI) (.mk2 tInts tI (.vr 19) (.vr 15)) <|.call 1 (.vr 20) <|.prim .not (.vr 21) <|.ite (.vr 22) (.ret (.cb false)) (.prim (.ar .add .i64) (.mk2 tI tI (.vr 15) (.ci .i64 1)) <|.again 0 (.vr 23))) (.prim (.ar .add .i64) (.mk2 tI tI (.vr 7) (.ci .i64 1)) <|.again 1 (.vr 19)))) (.ret (.cb true)))))
set_option maxRecDepth 100000 in
theorem e_s_SwingOk:exFn Try.prog [c_s_ModelOk,c_s_FixOk] c_s_SwingOk false 3000 ⟨[(2988,8007,drd 23 7++[.dr 0,.dr 1,.tm 5 0]),(2972,40015,[.tm 6 0])],[]⟩ = .ok t_s_SwingOk:=by kernel_rfl
/- loops: Int ¦ Int -/
theorem v_s_SwingOk (x:ModelD × (RowsD × Int)) (hx:okD (.pair tModel (.pair tRows tI)) x) (hp:(fun x=>ModelP x.1∧RowsP x.2.1) x):t_s_SwingOk.wp [c_s_ModelOk,c_s_FixOk] [⟨(.pair tModel (.pair tRows tI)),x⟩] [] (fun v=>v.as .bool=(fun x=>swingB x.1 x.2) x):=by
 obtain ⟨m,sp,st⟩:=x
 have hq:ModelP m∧RowsP sp:=hp
 have hs1:=hq.2.1
 have hm1:=hq.1.1
 delta t_s_SwingOk c_s_ModelOk c_s_FixOk;refine vcx ?_;try with_reducible exact True.intro
 refine ⟨fun h1=>?_,fun h1 _ _=>⟨fun h2=>?_,fun h2=>⟨fun h3=>?_,fun h3=>?_⟩⟩⟩
 all_goals simp only[Int.toNat_natCast,Bool.not_eq_true',Bool.not_eq_false',Bool.and_eq_true,Bool.and_eq_false_iff,decide_eq_true_eq,decide_eq_false_iff_not,Int.not_lt,Int.not_le,ge_iff_le,gt_iff_lt,List.length_cons,List.length_nil,List.length_append,Nat.zero_add,List.nil_append,beq_iff_eq,beq_eq_false_iff_ne,bne_iff_ne,bne_eq_false_iff_eq,ne_eq,toNat_pred,toNat_succ,toNat_l0,toNat_l1] at *
 ·exact swing_f1 h1
 ·exact swing_f3 (Bool.eq_false_iff.2 fun h=>by rw[fitB_iff] at h;dsimp only at h;omega)
 ·exact swing_f2 h3
 refine ⟨fun s=>∃ k:Nat,k≤m.length∧s=(k:Int)∧(∀ i,i<k→fitAt m sp i=true)∧((sp.take k).all fun r=>r.all fixB)=true,fun s=>m.length - (s:Int).toNat,⟨0,by omega,rfl,by omega,rfl⟩,fun s _ hI=>?_⟩
 obtain ⟨k,hk,rfl,hf,ha⟩:=hI
 (refine dcx ?_;try with_reducible exact True.intro)
 intro _
 constructor
 rotate_left
 ·intro hge
  have:k=sp.length:=by omega
  subst this
  rw[List.take_length] at ha
  exact ((swingB_iff _ _).2 ⟨h1,h3,(fitB_iff _ _).2 ⟨(show sp.length=m.length by omega),fun i hi=>hf i (by omega)⟩,ha⟩).symm
 intro hlt
 have hk':k<m.length:=by omega
 have hk2:k<sp.length:=by omega
 rw[getD_at hk',getD_at hk2]
 have e:=fitAt_iff m sp hk' hk2
 have ea:=all_next (fun r=>r.all fixB) sp hk2
 have hr:=hq.2.2 _ (List.getElem_mem hk2)
 refine ⟨by omega,fun _ _=>⟨by omega,fun _ _=>⟨fun h=>swing_f3 (fitB_bad hk' fun h2=>by have:=e.1 h2;omega),fun h=>?_⟩⟩⟩
 refine ⟨fun s=>∃ j:Nat,j≤sp[k].length∧s=(j:Int)∧(sp[k].take j).all fixB=true,fun s=>sp[k].length - (s:Int).toNat,⟨0,by omega,rfl,rfl⟩,fun s _ hI=>?_⟩
 obtain ⟨j,hj,rfl,hb⟩:=hI
 (refine dcx ?_;try with_reducible exact True.intro)
 refine ⟨by omega,fun _ _=>⟨fun hl=>?_,fun hg=>?_⟩⟩
 ·have hj':j<sp[k].length:=by omega
  rw[getD_at hj']
  have eb:=all_next fixB sp[k] hj'
  refine ⟨by omega,fun _=>⟨by omega,fun _=>⟨fun hx=>swing_f4 (all_bad hk2 (all_bad hj' hx)),fun hx=>⟨by omega,fun _=>⟨⟨j+1,by omega,rfl,by rw[eb,hb,hx];rfl⟩,by omega⟩⟩⟩⟩⟩
 ·have:j=sp[k].length:=by omega
  subst this
  rw[List.take_length] at hb
  refine ⟨by omega,fun _=>⟨⟨k+1,by omega,rfl,fun i hi=>?_,by rw[ea,ha,hb];rfl⟩,by omega⟩⟩
  rcases Nat.lt_or_eq_of_le (Nat.le_of_lt_succ hi) with h'|rfl
  ·exact hf i h'
  ·exact e.2 (by omega)
theorem h_s_SwingOk:Con.Holds Try.prog c_s_SwingOk:=tree_ok mixedP (consAt h_s_ModelOk (consAt h_s_FixOk consNil)) e_s_SwingOk fun x hx hp=>v_s_SwingOk x hx hp
end Go.Proofs.Ytahggdiafncdhaa
