/- Zero2: trees, and what they say. -/
import Derived.Test.YtepjkojfjdcegaaGreatOps2
namespace Go.Proofs.YtepjkojfjdcegaaGreat
open Go.ChangeShapes Go.WideShapes Go.ChangeAt Go.RowKit Go.Deep
set_option linter.unusedVariables false
set_option linter.unusedSimpArgs false
def zeroRows (m:List OpD):List (List Int):=m.map fun o=>List.replicate o.2.2.2.length 0
def zeroG (m:List OpD):GradsD:=if modelB m = true then (zeroRows m,0,false) else ([],0,false)
def fitAt (m:List OpD) (g:List (List Int)) (i:Nat):Bool:=decide ((g.getD i []).length = (m.getD i zOp).2.2.2.length)
def fitB (m:List OpD) (g:List (List Int)):Bool:=decide (g.length = m.length) && (List.range m.length).all (fitAt m g)
theorem fitB_iff (m:List OpD) (g:List (List Int)):fitB m g = true↔g.length = m.length∧∀ i,i < m.length→fitAt m g i = true:=by
 unfold fitB;simp only [Bool.and_eq_true,decide_eq_true_eq,List.all_eq_true,List.mem_range]
theorem fitAt_iff (m:List OpD) (g:List (List Int)) {i:Nat} (h:i < m.length) (h':i < g.length):fitAt m g i = true↔g[i].length = m[i].2.2.2.length:=by
 unfold fitAt
 rw [getD_at h,getD_at h',decide_eq_true_eq]
theorem fitB_bad {m:List OpD} {g:List (List Int)} {i:Nat} (h:i < m.length) (hb:¬ fitAt m g i = true):fitB m g = false:=by
 refine Bool.eq_false_iff.2 ?_
 rw [ne_eq,fitB_iff]
 exact fun hh=>hb (hh.2 i h)
def swingB (m:List OpD) (s:SwingD):Bool:=modelB m && (decide (0≤s.2) && (fitB m s.1 && s.1.all fun r=>r.all fixB))
def ModelP (m:List OpD):Prop:=List.length m≤1000000000∧∀ o ∈ m,List.length o.2.2.2≤1000000000
def RowsP (m:List (List Int)):Prop:=List.length m≤1000000000∧∀ o ∈ m,List.length o≤1000000000
noncomputable def c_i_gradsFit:Con:=⟨101,(.pair tModel tRows),.bool,[.val ⟨true,tModel,[]⟩,.val ⟨false,tRows,[]⟩],[⟨false,.bool,[0]⟩],false,none,
 ((fun _=>True):(ModelD × RowsD)→Prop),
 ((fun x=>fitB x.1 x.2):(ModelD × RowsD)→(Bool))⟩
def t_i_gradsFit:T :=
 .prim (.llen 158 tInts) (prA (.pair tModel tRows) 1 (.vr 0)) <|
 .prim (.llen 96 tOp) (.p1 tModel tRows (.vr 0)) <|
 .prim (.cmp .neq .i64) (.mk2 tI tI (.vr 1) (.vr 2)) <|
 .ite (.vr 3) (
  .ret (.cb false)) (
  .prim (.llen 96 tOp) (.p1 tModel tRows (.vr 0)) <|
  .loop tI (.ci .i64 0) <|
   .prim (.cmp .lss .i64) (.mk2 tI tI (.vr 5) (.vr 4)) <|
   .ite (.vr 6) (
    .prim (.lidx 96 tOp) (.mk2 tModel tI (.p1 tModel tRows (.vr 0)) (.vr 5)) <|
    .prim (.lidx 158 tInts) (.mk2 tRows tI (prA (.pair tModel tRows) 1 (.vr 0)) (.vr 5)) <|
    .prim (.llen 3 tI) (.vr 8) <|
    .prim (.llen 3 tI) (prA tOp 3 (.vr 7)) <|
    .prim (.cmp .neq .i64) (.mk2 tI tI (.vr 9) (.vr 10)) <|
    .ite (.vr 11) (
     .ret (.cb false)) (
     .prim (.ar .add .i64) (.mk2 tI tI (.vr 5) (.ci .i64 1)) <|
     .again 0 (.vr 12))) (
    .ret (.cb true)))
set_option maxRecDepth 100000 in
theorem e_i_gradsFit:exFn Tryz.prog [] c_i_gradsFit false 3000 ⟨[(2988,2005,drd 13 7 ++ [.dr 2,.dr 0,.tm 16 0])],[]⟩ = .ok t_i_gradsFit:=by kernel_rfl
theorem v_i_gradsFit (x:ModelD × RowsD) (hx:okD (.pair tModel tRows) x) (hp:(fun _=>True) x):t_i_gradsFit.wp [] [⟨(.pair tModel tRows),x⟩] [] (fun v=>v.as .bool = (fun x=>fitB x.1 x.2) x):=by
 obtain ⟨m,g⟩:=x
 have hm1:m.length≤9223372036854775807:=hx.1.1
 delta t_i_gradsFit;refine vcx ?_;try with_reducible exact True.intro
 (repeat' first | intro _ | (with_reducible apply And.intro))
 all_goals simp only [Int.toNat_natCast,Bool.not_eq_true',Bool.not_eq_false',Bool.and_eq_true,Bool.and_eq_false_iff,decide_eq_true_eq,decide_eq_false_iff_not,Int.not_lt,Int.not_le,ge_iff_le,gt_iff_lt,List.length_cons,List.length_nil,List.length_append,Nat.zero_add,List.nil_append,beq_iff_eq,beq_eq_false_iff_ne,bne_iff_ne,bne_eq_false_iff_eq,ne_eq,toNat_pred,toNat_succ,toNat_l0,toNat_l1] at *
 ·exact (Bool.eq_false_iff.2 fun h=>by rw [fitB_iff] at h;omega).symm
 refine ⟨fun s=>∃ k:Nat,k≤m.length∧s = (k:Int)∧∀ i,i < k→fitAt m g i = true,fun s=>m.length - (s:Int).toNat,⟨0,by omega,rfl,by omega⟩,fun s _ hI=>?_⟩
 obtain ⟨k,hk,rfl,ha⟩:=hI
 (refine dcx ?_;try with_reducible exact True.intro)
 constructor
 ·intro hlt
  have hk':k < m.length:=by omega
  have hk2:k < g.length:=by omega
  rw [getD_at hk',getD_at hk2]
  have e:=fitAt_iff m g hk' hk2
  refine ⟨by omega,fun _=>⟨by omega,fun _ _ _=>⟨fun h=>(fitB_bad hk' fun h2=>?_).symm,fun h=>⟨by omega,fun _=>⟨⟨k + 1,by omega,rfl,fun i hi=>?_⟩,by omega⟩⟩⟩⟩⟩
  ·have:=e.1 h2;omega
  ·rcases Nat.lt_or_eq_of_le (Nat.le_of_lt_succ hi) with h' | rfl
   ·exact ha i h'
   ·exact e.2 (by omega)
 ·intro hge
  have:k = m.length:=by omega
  subst this
  exact ((fitB_iff m g).2 ⟨by omega,ha⟩).symm
theorem h_i_gradsFit:Con.Holds Tryz.prog c_i_gradsFit:=tree_ok mixedP consNil e_i_gradsFit fun x hx hp=>v_i_gradsFit x hx hp
noncomputable def c_i_ZeroGrads:Con:=⟨125,tModel,tGrads,[.val ⟨true,tModel,[]⟩],[⟨true,tGrads,[2,0,0]⟩],false,none,
 ((fun x=>ModelP x):(ModelD)→Prop),
 ((fun x=>zeroG x):(ModelD)→(GradsD))⟩
def t_i_ZeroGrads:T :=
 .call 0 (.vr 0) <|
 .prim .not (.vr 1) <|
 .ite (.vr 2) (
  .ret (mkA tGrads [(.nl 158 tInts),(.ci .i64 0),(.cb false)])) (
  .prim (.llen 96 tOp) (.vr 0) <|
  .loop tSaved (.mk2 tI tRows (.ci .i64 0) (.nl 158 tInts)) <|
   .prim (.cmp .lss .i64) (.mk2 tI tI (.p1 tI tRows (.vr 4)) (.vr 3)) <|
   .ite (.vr 5) (
    .prim (.lidx 96 tOp) (.mk2 tModel tI (.vr 0) (.p1 tI tRows (.vr 4))) <|
    .prim (.llen 3 tI) (prA tOp 3 (.vr 6)) <|
    .prim (.rep 3 tI 8) (.vr 7) <|
    .prim (.lit 158 tInts 1) (.vr 8) <|
    .prim (.lapp 158 tInts 24) (.mk2 tRows tRows (prA tSaved 1 (.vr 4)) (.vr 9)) <|
    .prim (.ar .add .i64) (.mk2 tI tI (.p1 tI tRows (.vr 4)) (.ci .i64 1)) <|
    .again 0 (.mk2 tI tRows (.vr 11) (.vr 10))) (
    .ret (mkA tGrads [(prA tSaved 1 (.vr 4)),(.ci .i64 0),(.cb false)])))
noncomputable def c_s_ZeroGrads:Con:=⟨115,tModel,tGrads,[.val ⟨true,tModel,[]⟩],[⟨true,tGrads,[2,0,0]⟩],false,none,
 ((fun x=>ModelP x):(ModelD)→Prop),
 ((fun x=>zeroG x):(ModelD)→(GradsD))⟩
def t_s_ZeroGrads:T :=
 .loop tSaved (.mk2 tI tRows (.ci .i64 0) (.nl 158 tInts)) <|
  .prim (.llen 96 tOp) (.vr 0) <|
  .prim (.cmp .lss .i64) (.mk2 tI tI (.p1 tI tRows (.vr 1)) (.vr 2)) <|
  .ite (.vr 3) (
   .call 0 (.vr 0) <|
   .ite (.vr 4) (
    .prim (.lidx 96 tOp) (.mk2 tModel tI (.vr 0) (.p1 tI tRows (.vr 1))) <|
    .prim (.llen 3 tI) (prA tOp 3 (.vr 5)) <|
    .prim (.rep 3 tI 8) (.vr 6) <|
    .prim (.lit 158 tInts 1) (.vr 7) <|
    .prim (.lapp 158 tInts 24) (.mk2 tRows tRows (prA tSaved 1 (.vr 1)) (.vr 8)) <|
    .prim (.ar .add .i64) (.mk2 tI tI (.p1 tI tRows (.vr 1)) (.ci .i64 1)) <|
    .again 0 (.mk2 tI tRows (.vr 10) (.vr 9))) (
    .ret (mkA tGrads [(prA tSaved 1 (.vr 1)),(.ci .i64 0),(.cb false)]))) (
   .ret (mkA tGrads [(prA tSaved 1 (.vr 1)),(.ci .i64 0),(.cb false)]))
end Go.Proofs.YtepjkojfjdcegaaGreat
