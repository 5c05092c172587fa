/- Stage3: trees, and what they say. -/
import Derived.Test.YtepjkojfjdcegaaGreatZero2
import Derived.Test.YtepjkojfjdcegaaGreatSame3
namespace Go.Proofs.YtepjkojfjdcegaaGreat
open Go.ChangeShapes Go.WideShapes Go.ChangeAt Go.RowKit Go.Deep
set_option linter.unusedVariables false
set_option linter.unusedSimpArgs false
def inOf (m:List OpD):Int:=if modelB m = true then (m.getD 0 zOp).2.1 else 0
def outOf (m:List OpD):Int:=if modelB m = true then (m.getD (m.length - 1) zOp).2.2.1 else 0
def vecN (v:List Int) (n:Int):Bool:=vecB v && decide ((v.length:Int) = n)
theorem vecN_iff (v:List Int) (n:Int):vecN v n = true↔vecB v = true∧(v.length:Int) = n:=by unfold vecN;rw [Bool.and_eq_true,decide_eq_true_eq]
def handB (v:List Int) (n:Int):Bool:=decide (v.length = 0) || vecN v n
def sizeAt (m:List OpD) (i:Nat):Int:=if i < m.length then (m.getD i zOp).2.1 else (m.getD (m.length - 1) zOp).2.2.1
theorem sizeAt_succ {m:List OpD} (h:modelB m = true) {k:Nat} (hk:k < m.length):sizeAt m (k + 1) = (m.getD k zOp).2.2.1:=by
 unfold sizeAt
 split
 ·rename_i h1
  have h2:=((modelB_iff m).1 h).2.2 (k + 1) h1
  rw [okAt_iff m h1] at h2
  rcases h2.2 with h3 | h3
  ·omega
  ·rw [getD_at h1,getD_at hk]
   exact h3.symm
 ·have:m.length - 1 = k:=by omega
  rw [this]
def rowsAt (m:List OpD) (r:List (List Int)) (n:Nat):Bool:=(List.range n).all fun i=>vecN (r.getD i []) (sizeAt m i)
theorem rowsAt_iff (m:List OpD) (r:List (List Int)) (n:Nat):rowsAt m r n = true↔∀ i,i < n→vecN (r.getD i []) (sizeAt m i) = true:=by unfold rowsAt;simp only [List.all_eq_true,List.mem_range]
def keptN (m:List OpD) (redo:Bool):Nat:=if redo = true then 1 else m.length + 1
def savedB (m:List OpD) (redo:Bool) (x:Int × List (List Int)):Bool:=decide (x.2.length = keptN m redo) && rowsAt m x.2 (keptN m redo)
theorem savedB_iff (m:List OpD) (redo:Bool) (x:Int × List (List Int)):savedB m redo x = true↔x.2.length = keptN m redo∧∀ i,i < keptN m redo→vecN (x.2.getD i []) (sizeAt m i) = true:=by unfold savedB;rw [Bool.and_eq_true,decide_eq_true_eq,rowsAt_iff]
def stageB (s:StageD):Bool:=modelB s.2.2.1 && (decide (0≤s.1∧s.1≤(s.2.1.length:Int)) && (fitB s.2.2.1 s.2.2.2.2.2.2.2.2.2.2.2.1 && (s.2.2.2.2.2.1.all (savedB s.2.2.1 s.2.2.2.2.1) &&
 (handB s.2.2.2.2.2.2.2.1 (inOf s.2.2.1) && (handB s.2.2.2.2.2.2.2.2.2.2.1 (inOf s.2.2.1) && (handB s.2.2.2.2.2.2.2.2.1 (outOf s.2.2.1) && handB s.2.2.2.2.2.2.2.2.2.1 (outOf s.2.2.1)))))))
theorem stageB_iff (s:StageD):stageB s = true↔modelB s.2.2.1 = true∧(0≤s.1∧s.1≤(s.2.1.length:Int))∧fitB s.2.2.1 s.2.2.2.2.2.2.2.2.2.2.2.1 = true∧s.2.2.2.2.2.1.all (savedB s.2.2.1 s.2.2.2.2.1) = true ∧
 handB s.2.2.2.2.2.2.2.1 (inOf s.2.2.1) = true∧handB s.2.2.2.2.2.2.2.2.2.2.1 (inOf s.2.2.1) = true∧handB s.2.2.2.2.2.2.2.2.1 (outOf s.2.2.1) = true∧handB s.2.2.2.2.2.2.2.2.2.1 (outOf s.2.2.1) = true:=by
 unfold stageB;simp only [Bool.and_eq_true,decide_eq_true_eq]
theorem vecN_f {v:List Int} {n:Int} (h:vecB v = false):false = vecN v n:=by unfold vecN;rw [h];rfl
theorem vecN_t {v:List Int} {n:Int} (h:vecB v = true):((v.length:Int) == n) = vecN v n:=by unfold vecN;rw [h,Bool.true_and];rfl
theorem stage_bad {s:StageD} {k:Nat} (hk:k < s.2.2.2.2.2.1.length) (h:¬ savedB s.2.2.1 s.2.2.2.2.1 (s.2.2.2.2.2.1.getD k (zeroD tSaved)) = true):false = stageB s:=by
 refine (Bool.eq_false_iff.2 fun hh=>?_).symm
 have h4:=((stageB_iff s).1 hh).2.2.2.1
 rw [List.all_eq_true] at h4
 exact h (h4 _ (by rw [getD_at hk];exact List.getElem_mem hk))
theorem stash_all {s:StageD} (h:∀ i,i < s.2.2.2.2.2.1.length→savedB s.2.2.1 s.2.2.2.2.1 (s.2.2.2.2.2.1.getD i (zeroD tSaved)) = true):s.2.2.2.2.2.1.all (savedB s.2.2.1 s.2.2.2.2.1) = true:=by
 rw [List.all_eq_true]
 intro x hx
 obtain ⟨i,hi,rfl⟩:=List.getElem_of_mem hx
 have:=h i hi
 rwa [getD_at hi] at this
theorem savedB_of {m:List OpD} {redo:Bool} {x:SavedD} {n:Nat} (hn:n = keptN m redo):savedB m redo x = true↔x.2.length = n∧rowsAt m x.2 n = true:=by
 unfold savedB;rw [Bool.and_eq_true,decide_eq_true_eq,hn]
theorem stage_eq {s:StageD} (h1:modelB s.2.2.1 = true) (h2:0≤s.1∧s.1≤(s.2.1.length:Int)) (h3:fitB s.2.2.1 s.2.2.2.2.2.2.2.2.2.2.2.1 = true) (h4:s.2.2.2.2.2.1.all (savedB s.2.2.1 s.2.2.2.2.1) = true) :
  stageB s = (handB s.2.2.2.2.2.2.2.1 (inOf s.2.2.1) && (handB s.2.2.2.2.2.2.2.2.2.2.1 (inOf s.2.2.1) && (handB s.2.2.2.2.2.2.2.2.1 (outOf s.2.2.1) && handB s.2.2.2.2.2.2.2.2.2.1 (outOf s.2.2.1)))):=by
 unfold stageB;rw [h1,h3,h4];simp [h2]
theorem stage_no {s:StageD} (h:modelB s.2.2.1 = false∨s.1 < 0∨(s.2.1.length:Int) < s.1∨fitB s.2.2.1 s.2.2.2.2.2.2.2.2.2.2.2.1 = false∨handB s.2.2.2.2.2.2.2.1 (inOf s.2.2.1) = false∨handB s.2.2.2.2.2.2.2.2.2.2.1 (inOf s.2.2.1) = false∨handB s.2.2.2.2.2.2.2.2.1 (outOf s.2.2.1) = false):false = stageB s:=by
 refine (Bool.eq_false_iff.2 fun hh=>?_).symm
 obtain ⟨h1,h2,h3,h4,h5,h6,h7,h8⟩:=(stageB_iff s).1 hh
 rcases h with h | h | h | h | h | h | h
 ·rw [h] at h1;cases h1
 ·omega
 ·omega
 ·rw [h] at h3;cases h3
 ·rw [h] at h5;cases h5
 ·rw [h] at h6;cases h6
 ·rw [h] at h7;cases h7
noncomputable def c_i_VecOk:Con:=⟨183,tInts,.bool,[.val ⟨false,tInts,[]⟩],[⟨false,.bool,[0]⟩],false,none,
 ((fun _=>True):(List Int)→Prop),
 ((fun x=>vecB x):(List Int)→(Bool))⟩
def t_i_VecOk:T :=
 .prim (.llen 3 tI) (.vr 0) <|
 .prim (.cmp .geq .i64) (.mk2 tI tI (.vr 1) (.ci .i64 1)) <|
 .ite (.vr 2) (
  .prim (.llen 3 tI) (.vr 0) <|
  .prim (.cmp .leq .i64) (.mk2 tI tI (.vr 3) (.ci .i64 6)) <|
  .ite (.vr 4) (
   .call 0 (.vr 0) <|
   .ret (.vr 5)) (
   .ret (.cb false))) (
  .ret (.cb false))
set_option maxRecDepth 100000 in
theorem e_i_VecOk:exFn Tryz.prog [c_i_allFix] c_i_VecOk false 3000 ⟨[],[]⟩ = .ok t_i_VecOk:=by kernel_rfl
theorem v_i_VecOk (x:List Int) (hx:okD tInts x) (hp:(fun _=>True) x):t_i_VecOk.wp [c_i_allFix] [⟨tInts,x⟩] [] (fun v=>v.as .bool = (fun x=>vecB x) x):=by
 delta t_i_VecOk c_i_allFix;refine vcx ?_;try with_reducible exact True.intro
 (repeat' first | intro _ | (with_reducible apply And.intro))
 all_goals simp only [Int.toNat_natCast,Bool.not_eq_true',Bool.not_eq_false',Bool.and_eq_true,Bool.and_eq_false_iff,decide_eq_true_eq,decide_eq_false_iff_not,Int.not_lt,Int.not_le,ge_iff_le,gt_iff_lt,List.length_cons,List.length_nil,List.length_append,Nat.zero_add,List.nil_append,beq_iff_eq,beq_eq_false_iff_ne,bne_iff_ne,bne_eq_false_iff_eq,ne_eq,toNat_pred,toNat_succ,toNat_l0,toNat_l1] at *
 all_goals first | (first | (refine (Bool.eq_false_iff.2 ?_).symm;rw [ne_eq,vecB_iff];intro hh;omega) | (refine (vecB_iff.2 ?_).symm;omega)) | (rw [Bool.eq_iff_iff,vecB_iff];exact ⟨fun h=>⟨by omega,by omega,h⟩,fun h=>h.2.2⟩)
theorem h_i_VecOk:Con.Holds Tryz.prog c_i_VecOk:=tree_ok mixedP (consAt h_i_allFix consNil) e_i_VecOk fun x hx hp=>v_i_VecOk x hx hp
noncomputable def c_i_vecOf:Con:=⟨158,(.pair tInts tI),.bool,[.val ⟨false,tInts,[]⟩,.val ⟨false,tI,[]⟩],[⟨false,.bool,[0]⟩],false,none,
 ((fun _=>True):(IntsD × Int)→Prop),
 ((fun x=>vecN x.1 x.2):(IntsD × Int)→(Bool))⟩
def t_i_vecOf:T :=
 .call 0 (.p1 tInts tI (.vr 0)) <|
 .ite (.vr 1) (
  .prim (.llen 3 tI) (.p1 tInts tI (.vr 0)) <|
  .prim (.cmp .eql .i64) (.mk2 tI tI (.vr 2) (prA (.pair tInts tI) 1 (.vr 0))) <|
  .ret (.vr 3)) (
  .ret (.cb false))
set_option maxRecDepth 100000 in
theorem e_i_vecOf:exFn Tryz.prog [c_i_VecOk] c_i_vecOf false 3000 ⟨[],[]⟩ = .ok t_i_vecOf:=by kernel_rfl
theorem v_i_vecOf (x:IntsD × Int) (hx:okD (.pair tInts tI) x) (hp:(fun _=>True) x):t_i_vecOf.wp [c_i_VecOk] [⟨(.pair tInts tI),x⟩] [] (fun v=>v.as .bool = (fun x=>vecN x.1 x.2) x):=by
 delta t_i_vecOf c_i_VecOk;refine vcx ?_;try with_reducible exact True.intro
 exact ⟨fun h _=>vecN_t h,fun h=>vecN_f h⟩
theorem h_i_vecOf:Con.Holds Tryz.prog c_i_vecOf:=tree_ok mixedP (consAt h_i_VecOk consNil) e_i_vecOf fun x hx hp=>v_i_vecOf x hx hp
noncomputable def c_i_InOf:Con:=⟨103,tModel,tI,[.val ⟨true,tModel,[]⟩],[⟨false,tI,[0]⟩],false,none,
 ((fun _=>True):(ModelD)→Prop),
 ((fun x=>inOf x):(ModelD)→(Int))⟩
def t_i_InOf:T :=
 .call 0 (.vr 0) <|
 .prim .not (.vr 1) <|
 .ite (.vr 2) (
  .ret (.ci .i64 0)) (
  .prim (.lidx 96 tOp) (.mk2 tModel tI (.vr 0) (.ci .i64 0)) <|
  .ret (pjA tOp 1 (.vr 3)))
set_option maxRecDepth 100000 in
theorem e_i_InOf:exFn Tryz.prog [c_i_ModelOk] c_i_InOf false 3000 ⟨[],[]⟩ = .ok t_i_InOf:=by kernel_rfl
theorem v_i_InOf (x:ModelD) (hx:okD tModel x) (hp:(fun _=>True) x):t_i_InOf.wp [c_i_ModelOk] [⟨tModel,x⟩] [] (fun v=>v.as tI = (fun x=>inOf x) x):=by
 delta t_i_InOf c_i_ModelOk;refine vcx ?_;try with_reducible exact True.intro
 refine ⟨fun h=>?_,fun h=>?_⟩
 all_goals simp only [Int.toNat_natCast,Bool.not_eq_true',Bool.not_eq_false',Bool.and_eq_true,Bool.and_eq_false_iff,decide_eq_true_eq,decide_eq_false_iff_not,Int.not_lt,Int.not_le,ge_iff_le,gt_iff_lt,List.length_cons,List.length_nil,List.length_append,Nat.zero_add,List.nil_append,beq_iff_eq,beq_eq_false_iff_ne,bne_iff_ne,bne_eq_false_iff_eq,ne_eq,toNat_pred,toNat_succ,toNat_l0,toNat_l1] at h
 ·unfold inOf;rw [h];rfl
 ·have:=(modelB_iff x).1 h
  refine ⟨by omega,fun _=>?_⟩
  unfold inOf;rw [if_pos h];rfl
theorem h_i_InOf:Con.Holds Tryz.prog c_i_InOf:=tree_ok mixedP (consAt h_i_ModelOk consNil) e_i_InOf fun x hx hp=>v_i_InOf x hx hp
noncomputable def c_i_OutOf:Con:=⟨104,tModel,tI,[.val ⟨true,tModel,[]⟩],[⟨false,tI,[0]⟩],false,none,
 ((fun _=>True):(ModelD)→Prop),
 ((fun x=>outOf x):(ModelD)→(Int))⟩
def t_i_OutOf:T :=
 .call 0 (.vr 0) <|
 .prim .not (.vr 1) <|
 .ite (.vr 2) (
  .ret (.ci .i64 0)) (
  .prim (.llen 96 tOp) (.vr 0) <|
  .prim (.ar .sub .i64) (.mk2 tI tI (.vr 3) (.ci .i64 1)) <|
  .prim (.lidx 96 tOp) (.mk2 tModel tI (.vr 0) (.vr 4)) <|
  .ret (pjA tOp 2 (.vr 5)))
set_option maxRecDepth 100000 in
theorem e_i_OutOf:exFn Tryz.prog [c_i_ModelOk] c_i_OutOf false 3000 ⟨[],[]⟩ = .ok t_i_OutOf:=by kernel_rfl
theorem v_i_OutOf (x:ModelD) (hx:okD tModel x) (hp:(fun _=>True) x):t_i_OutOf.wp [c_i_ModelOk] [⟨tModel,x⟩] [] (fun v=>v.as tI = (fun x=>outOf x) x):=by
 delta t_i_OutOf c_i_ModelOk;refine vcx ?_;try with_reducible exact True.intro
 refine ⟨fun h=>?_,fun h=>?_⟩
 all_goals simp only [Int.toNat_natCast,Bool.not_eq_true',Bool.not_eq_false',Bool.and_eq_true,Bool.and_eq_false_iff,decide_eq_true_eq,decide_eq_false_iff_not,Int.not_lt,Int.not_le,ge_iff_le,gt_iff_lt,List.length_cons,List.length_nil,List.length_append,Nat.zero_add,List.nil_append,beq_iff_eq,beq_eq_false_iff_ne,bne_iff_ne,bne_eq_false_iff_eq,ne_eq,toNat_pred,toNat_succ,toNat_l0,toNat_l1] at h
 ·unfold outOf;rw [h];rfl
 ·have:=(modelB_iff x).1 h
  refine fun _=>⟨by omega,fun _=>⟨by omega,fun _=>?_⟩⟩
  unfold outOf;rw [if_pos h,toNat_pred];rfl
theorem h_i_OutOf:Con.Holds Tryz.prog c_i_OutOf:=tree_ok mixedP (consAt h_i_ModelOk consNil) e_i_OutOf fun x hx hp=>v_i_OutOf x hx hp
noncomputable def c_i_emptyOr:Con:=⟨105,(.pair tInts tI),.bool,[.val ⟨false,tInts,[]⟩,.val ⟨false,tI,[]⟩],[⟨false,.bool,[0]⟩],false,none,
 ((fun _=>True):(IntsD × Int)→Prop),
 ((fun x=>handB x.1 x.2):(IntsD × Int)→(Bool))⟩
def t_i_emptyOr:T :=
 .prim (.llen 3 tI) (.p1 tInts tI (.vr 0)) <|
 .prim (.cmp .eql .i64) (.mk2 tI tI (.vr 1) (.ci .i64 0)) <|
 .ite (.vr 2) (
  .ret (.cb true)) (
  .call 0 (.vr 0) <|
  .ret (.vr 3))
set_option maxRecDepth 100000 in
theorem e_i_emptyOr:exFn Tryz.prog [c_i_vecOf] c_i_emptyOr false 3000 ⟨[],[]⟩ = .ok t_i_emptyOr:=by kernel_rfl
theorem v_i_emptyOr (x:IntsD × Int) (hx:okD (.pair tInts tI) x) (hp:(fun _=>True) x):t_i_emptyOr.wp [c_i_vecOf] [⟨(.pair tInts tI),x⟩] [] (fun v=>v.as .bool = (fun x=>handB x.1 x.2) x):=by
 delta t_i_emptyOr c_i_vecOf;refine vcx ?_;try with_reducible exact True.intro
 intro _
 (refine dcx ?_;try with_reducible exact True.intro)
 refine ⟨fun h=>?_,fun h=>?_⟩
 ·unfold handB;rw [decide_eq_true (by omega)];rfl
 ·unfold handB;rw [decide_eq_false (by omega)];rfl
theorem h_i_emptyOr:Con.Holds Tryz.prog c_i_emptyOr:=tree_ok mixedP (consAt h_i_vecOf consNil) e_i_emptyOr fun x hx hp=>v_i_emptyOr x hx hp
noncomputable def c_s_l11Hand:Con:=⟨109,(.pair tInts tI),.bool,[.val ⟨false,tInts,[]⟩,.val ⟨false,tI,[]⟩],[⟨false,.bool,[0]⟩],false,none,
 ((fun _=>True):(IntsD × Int)→Prop),
 ((fun x=>handB x.1 x.2):(IntsD × Int)→(Bool))⟩
def t_s_l11Hand:T :=
 .prim (.llen 3 tI) (.p1 tInts tI (.vr 0)) <|
 .prim (.cmp .eql .i64) (.mk2 tI tI (.vr 1) (.ci .i64 0)) <|
 .ite (.vr 2) (
  .ret (.cb true)) (
  .call 0 (.p1 tInts tI (.vr 0)) <|
  .ite (.vr 3) (
   .prim (.llen 3 tI) (.p1 tInts tI (.vr 0)) <|
   .prim (.cmp .eql .i64) (.mk2 tI tI (.vr 4) (prA (.pair tInts tI) 1 (.vr 0))) <|
   .ret (.vr 5)) (
   .ret (.cb false)))
set_option maxRecDepth 100000 in
theorem e_s_l11Hand:exFn Tryz.prog [c_s_VecOk] c_s_l11Hand false 3000 ⟨[],[]⟩ = .ok t_s_l11Hand:=by kernel_rfl
theorem v_s_l11Hand (x:IntsD × Int) (hx:okD (.pair tInts tI) x) (hp:(fun _=>True) x):t_s_l11Hand.wp [c_s_VecOk] [⟨(.pair tInts tI),x⟩] [] (fun v=>v.as .bool = (fun x=>handB x.1 x.2) x):=by
 delta t_s_l11Hand c_s_VecOk;refine vcx ?_;try with_reducible exact True.intro
 intro _
 (refine dcx ?_;try with_reducible exact True.intro)
 refine ⟨fun h=>?_,fun h=>⟨fun h2 _=>?_,fun h2=>?_⟩⟩
 ·unfold handB;rw [decide_eq_true (by omega)];rfl
 ·unfold handB;rw [decide_eq_false (by omega),Bool.false_or];exact vecN_t h2
 ·unfold handB;rw [decide_eq_false (by omega),Bool.false_or];exact vecN_f h2
theorem h_s_l11Hand:Con.Holds Tryz.prog c_s_l11Hand:=tree_ok mixedP (consAt h_s_VecOk consNil) e_s_l11Hand fun x hx hp=>v_s_l11Hand x hx hp
noncomputable def c_i_goesIn:Con:=⟨102,(.pair tModel (.pair tRows tI)),.bool,[.val ⟨false,tModel,[]⟩,.val ⟨false,tRows,[]⟩,.val ⟨false,tI,[]⟩],[⟨false,.bool,[0]⟩],false,none,
 ((fun x=>modelB x.1 = true∧x.2.2≤(x.2.1.length:Int)):(ModelD × (RowsD × Int))→Prop),
 ((fun x=>rowsAt x.1 x.2.1 x.2.2.toNat):(ModelD × (RowsD × Int))→(Bool))⟩
def t_i_goesIn:T :=
 .loop tI (.ci .i64 0) <|
  .prim (.cmp .lss .i64) (.mk2 tI tI (.vr 1) (prA (.pair tModel (.pair tRows tI)) 2 (.vr 0))) <|
  .ite (.vr 2) (
   .prim (.llen 96 tOp) (.p1 tModel (.pair tRows tI) (.vr 0)) <|
   .prim (.ar .sub .i64) (.mk2 tI tI (.vr 3) (.ci .i64 1)) <|
   .prim (.lidx 96 tOp) (.mk2 tModel tI (.p1 tModel (.pair tRows tI) (.vr 0)) (.vr 4)) <|
   .prim (.llen 96 tOp) (.p1 tModel (.pair tRows tI) (.vr 0)) <|
   .prim (.cmp .lss .i64) (.mk2 tI tI (.vr 1) (.vr 6)) <|
   .ite (.vr 7) (
    .prim (.lidx 96 tOp) (.mk2 tModel tI (.p1 tModel (.pair tRows tI) (.vr 0)) (.vr 1)) <|
    .prim (.lidx 158 tInts) (.mk2 tRows tI (pjA (.pair tModel (.pair tRows tI)) 1 (.vr 0)) (.vr 1)) <|
    .call 0 (.mk2 tInts tI (.vr 9) (pjA tOp 1 (.vr 8))) <|
    .prim .not (.vr 10) <|
    .ite (.vr 11) (
     .ret (.cb false)) (
     .prim (.ar .add .i64) (.mk2 tI tI (.vr 1) (.ci .i64 1)) <|
     .again 0 (.vr 12))) (
    .prim (.lidx 158 tInts) (.mk2 tRows tI (pjA (.pair tModel (.pair tRows tI)) 1 (.vr 0)) (.vr 1)) <|
    .call 0 (.mk2 tInts tI (.vr 8) (pjA tOp 2 (.vr 5))) <|
    .prim .not (.vr 9) <|
    .ite (.vr 10) (
     .ret (.cb false)) (
     .prim (.ar .add .i64) (.mk2 tI tI (.vr 1) (.ci .i64 1)) <|
     .again 0 (.vr 11)))) (
   .ret (.cb true))
set_option maxRecDepth 100000 in
theorem e_i_goesIn:exFn Tryz.prog [c_i_vecOf] c_i_goesIn false 3000 ⟨[(2993,1001,[.tm 7 0])],[]⟩ = .ok t_i_goesIn:=by kernel_rfl
theorem v_i_goesIn (x:ModelD × (RowsD × Int)) (hx:okD (.pair tModel (.pair tRows tI)) x) (hp:(fun x=>modelB x.1 = true∧x.2.2≤(x.2.1.length:Int)) x):t_i_goesIn.wp [c_i_vecOf] [⟨(.pair tModel (.pair tRows tI)),x⟩] [] (fun v=>v.as .bool = (fun x=>rowsAt x.1 x.2.1 x.2.2.toNat) x):=by
 obtain ⟨m,r,n⟩:=x
 obtain ⟨hm,hn⟩:modelB m = true∧n≤(r.length:Int):=hp
 have hr:r.length≤9223372036854775807:=hx.2.1.1
 have hm1:=(modelB_iff m).1 hm
 delta t_i_goesIn c_i_vecOf;refine vcx ?_;try with_reducible exact True.intro
 refine ⟨fun s=>∃ k:Nat,k≤n.toNat∧s = (k:Int)∧∀ i,i < k→vecN (r.getD i []) (sizeAt m i) = true,fun s=>n.toNat - (s:Int).toNat,⟨0,by omega,rfl,by omega⟩,fun s _ hI=>?_⟩
 obtain ⟨k,hk,rfl,ha⟩:=hI
 (refine dcx ?_;try with_reducible exact True.intro)
 have bad:k < n.toNat→∀ z:Int,z = sizeAt m k→vecN (r.getD k []) z = false→false = rowsAt m r n.toNat:=fun h z hz hv=>by
  refine (Bool.eq_false_iff.2 fun hh=>?_).symm
  have:=(rowsAt_iff _ _ _).1 hh k h
  rw [← hz,hv] at this;cases this
 have good:∀ z:Int,z = sizeAt m k→vecN (r.getD k []) z = true→∀ i,i < k + 1→vecN (r.getD i []) (sizeAt m i) = true:=fun z hz hv i hi=>by
  rcases Nat.lt_or_eq_of_le (Nat.le_of_lt_succ hi) with h | rfl
  ·exact ha i h
  ·rw [← hz];exact hv
 constructor
 ·intro hlt
  have e1:(m.getD (m.length - 1) (zeroD tOp)).2.2.1 = (m.getD (m.length - 1) zOp).2.2.1:=rfl
  have e2:(m.getD k (zeroD tOp)).2.1 = (m.getD k zOp).2.1:=rfl
  have z1:k < m.length→(m.getD k zOp).2.1 = sizeAt m k:=fun h=>by unfold sizeAt;rw [if_pos h]
  have z2:¬ k < m.length→(m.getD (m.length - 1) zOp).2.2.1 = sizeAt m k:=fun h=>by unfold sizeAt;rw [if_neg h]
  (repeat' first | intro _ | (with_reducible apply And.intro))
  all_goals first | omega | (exact bad (by omega) _ (z1 (by omega)) (by assumption)) | (exact bad (by omega) _ (z2 (by omega)) (by assumption)) | (exact ⟨k + 1,by omega,rfl,good _ (z1 (by omega)) (by assumption)⟩) | (exact ⟨k + 1,by omega,rfl,good _ (z2 (by omega)) (by assumption)⟩)
 ·intro hge
  exact ((rowsAt_iff _ _ _).2 fun i hi=>ha i (by omega)).symm
theorem h_i_goesIn:Con.Holds Tryz.prog c_i_goesIn:=tree_ok mixedP (consAt h_i_vecOf consNil) e_i_goesIn fun x hx hp=>v_i_goesIn x hx hp
noncomputable def c_i_StageOk:Con:=⟨48,tStage,.bool,[.val ⟨true,tStage,[]⟩],[⟨false,.bool,[0]⟩],false,none,
 ((fun _=>True):(StageD)→Prop),
 ((fun x=>stageB x):(StageD)→(Bool))⟩
def t_i_StageOk:T :=
 .call 0 (.vr 0) <|
 .call 1 (.vr 1) <|
 .prim .not (.vr 2) <|
 .ite (.vr 3) (
  .ret (.cb false)) (
  .prim (.cmp .lss .i64) (.mk2 tI tI (.p1 tI (.pair tPlan (.pair tModel (.pair .bool (.pair .bool (.pair (.slice 98 tSaved) (.pair tRows (.pair tInts (.pair tInts (.pair tInts (.pair tInts tGrads)))))))))) (.vr 0)) (.ci .i64 0)) <|
  .ite (.vr 4) (
   .ret (.cb false)) (
   .prim (.llen 94 tIns) (pjA tStage 1 (.vr 0)) <|
   .prim (.cmp .gtr .i64) (.mk2 tI tI (.p1 tI (.pair tPlan (.pair tModel (.pair .bool (.pair .bool (.pair (.slice 98 tSaved) (.pair tRows (.pair tInts (.pair tInts (.pair tInts (.pair tInts tGrads)))))))))) (.vr 0)) (.vr 5)) <|
   .ite (.vr 6) (
    .ret (.cb false)) (
    .call 2 (.mk2 tModel tRows (.vr 1) (pjA tStage 11 (.vr 0))) <|
    .prim .not (.vr 7) <|
    .ite (.vr 8) (
     .ret (.cb false)) (
     .prim (.llen 96 tOp) (pjA tStage 2 (.vr 0)) <|
     .prim (.ar .add .i64) (.mk2 tI tI (.vr 9) (.ci .i64 1)) <|
     .ite (pjA tStage 4 (.vr 0)) (
      .prim (.llen 98 tSaved) (pjA tStage 5 (.vr 0)) <|
      .loop tI (.ci .i64 0) <|
       .prim (.cmp .lss .i64) (.mk2 tI tI (.vr 12) (.vr 11)) <|
       .ite (.vr 13) (
        .prim (.lidx 98 tSaved) (.mk2 (.slice 98 tSaved) tI (pjA tStage 5 (.vr 0)) (.vr 12)) <|
        .prim (.llen 158 tInts) (prA tSaved 1 (.vr 14)) <|
        .prim (.cmp .neq .i64) (.mk2 tI tI (.vr 15) (.ci .i64 1)) <|
        .ite (.vr 16) (
         .ret (.cb false)) (
         .call 3 (mkA (.pair tModel (.pair tRows tI)) [(pjA tStage 2 (.vr 0)),(prA tSaved 1 (.vr 14)),(.ci .i64 1)]) <|
         .prim .not (.vr 17) <|
         .ite (.vr 18) (
          .ret (.cb false)) (
          .prim (.ar .add .i64) (.mk2 tI tI (.vr 12) (.ci .i64 1)) <|
          .again 0 (.vr 19)))) (
        .call 4 (.vr 1) <|
        .call 5 (.vr 1) <|
        .call 6 (.mk2 tInts tI (pjA tStage 7 (.vr 0)) (.vr 14)) <|
        .ite (.vr 16) (
         .call 6 (.mk2 tInts tI (pjA tStage 10 (.vr 0)) (.vr 14)) <|
         .ite (.vr 17) (
          .call 6 (.mk2 tInts tI (pjA tStage 8 (.vr 0)) (.vr 15)) <|
          .ite (.vr 18) (
           .call 6 (.mk2 tInts tI (pjA tStage 9 (.vr 0)) (.vr 15)) <|
           .ret (.vr 19)) (
           .ret (.cb false))) (
          .ret (.cb false))) (
         .ret (.cb false)))) (
      .prim (.llen 98 tSaved) (pjA tStage 5 (.vr 0)) <|
      .loop tI (.ci .i64 0) <|
       .prim (.cmp .lss .i64) (.mk2 tI tI (.vr 12) (.vr 11)) <|
       .ite (.vr 13) (
        .prim (.lidx 98 tSaved) (.mk2 (.slice 98 tSaved) tI (pjA tStage 5 (.vr 0)) (.vr 12)) <|
        .prim (.llen 158 tInts) (prA tSaved 1 (.vr 14)) <|
        .prim (.cmp .neq .i64) (.mk2 tI tI (.vr 15) (.vr 10)) <|
        .ite (.vr 16) (
         .ret (.cb false)) (
         .call 3 (mkA (.pair tModel (.pair tRows tI)) [(pjA tStage 2 (.vr 0)),(prA tSaved 1 (.vr 14)),(.vr 10)]) <|
         .prim .not (.vr 17) <|
         .ite (.vr 18) (
          .ret (.cb false)) (
          .prim (.ar .add .i64) (.mk2 tI tI (.vr 12) (.ci .i64 1)) <|
          .again 0 (.vr 19)))) (
        .call 4 (.vr 1) <|
        .call 5 (.vr 1) <|
        .call 6 (.mk2 tInts tI (pjA tStage 7 (.vr 0)) (.vr 14)) <|
        .ite (.vr 16) (
         .call 6 (.mk2 tInts tI (pjA tStage 10 (.vr 0)) (.vr 14)) <|
         .ite (.vr 17) (
          .call 6 (.mk2 tInts tI (pjA tStage 8 (.vr 0)) (.vr 15)) <|
          .ite (.vr 18) (
           .call 6 (.mk2 tInts tI (pjA tStage 9 (.vr 0)) (.vr 15)) <|
           .ret (.vr 19)) (
           .ret (.cb false))) (
          .ret (.cb false))) (
         .ret (.cb false))))))))
set_option maxRecDepth 100000 in
theorem e_i_StageOk:exFn Tryz.prog [c_i_modelOf,c_i_ModelOk,c_i_gradsFit,c_i_goesIn,c_i_InOf,c_i_OutOf,c_i_emptyOr] c_i_StageOk false 3000 ⟨[(2979,48012,drd 41 9 ++ [.dr 0,.tm 44 0]),(2979,32012,drd 41 9 ++ [.dr 0,.tm 44 0])],[]⟩ = .ok t_i_StageOk:=by kernel_rfl
theorem v_i_StageOk (x:StageD) (hx:okD tStage x) (hp:(fun _=>True) x):t_i_StageOk.wp [c_i_modelOf,c_i_ModelOk,c_i_gradsFit,c_i_goesIn,c_i_InOf,c_i_OutOf,c_i_emptyOr] [⟨tStage,x⟩] [] (fun v=>v.as .bool = (fun x=>stageB x) x):=by
  have hst:x.2.2.2.2.2.1.length≤9223372036854775807:=hx.2.2.2.2.2.1.1
  delta t_i_StageOk c_i_modelOf c_i_ModelOk c_i_gradsFit c_i_goesIn c_i_InOf c_i_OutOf c_i_emptyOr;refine vcx ?_;try with_reducible exact True.intro
  (refine dcx ?_;try with_reducible exact True.intro)
  intro _
  refine ⟨fun h=>stage_no (.inl h),fun h1=>⟨fun h=>stage_no (.inr (.inl h)),fun h2 _=>⟨fun h=>stage_no (.inr (.inr (.inl h))),fun h3=>⟨fun h=>stage_no (.inr (.inr (.inr (.inl h)))),fun h4 _=>?_⟩⟩⟩⟩
  have hm:=(modelB_iff _).1 h1
  refine ⟨by omega,fun _=>⟨fun hr _=>?_,fun hr _=>?_⟩⟩
  all_goals
    refine ⟨fun s=>∃ k:Nat,k≤x.2.2.2.2.2.1.length∧s = (k:Int)∧∀ i,i < k→savedB x.2.2.1 x.2.2.2.2.1 (x.2.2.2.2.2.1.getD i (zeroD tSaved)) = true,fun s=>x.2.2.2.2.2.1.length - (s:Int).toNat,⟨0,by omega,rfl,by omega⟩,fun s _ hI=>?_⟩
    obtain ⟨k,hk,rfl,ha⟩:=hI
    (refine dcx ?_;try with_reducible exact True.intro)
    obtain ⟨n,hn⟩:∃ n,n = keptN x.2.2.1 x.2.2.2.2.1:=⟨_,rfl⟩
    have hn1:=hn
    unfold keptN at hn1
    rw [hr] at hn1
    simp only [if_true,Bool.false_eq_true,if_false] at hn1
    have hkn:=(hn1.symm.trans hn).symm
    clear hn hn1
    constructor
  rotate_left 1
  rotate_left 2
  all_goals first
    | (intro hge
       have hst:=stash_all (s:=x) (fun i hi=>ha i (by omega))
       rw [stage_eq h1 ⟨by omega,by omega⟩ h4 hst]
       (repeat' first | intro _ | (with_reducible apply And.intro))
       all_goals simp_all
       done)
    | skip
  all_goals
    intro hlt
    have hk':k < x.2.2.2.2.2.1.length:=by omega
    (repeat' first | intro _ | (with_reducible apply And.intro))
    all_goals first | omega | exact h1 | (exact stage_bad hk' fun hh=>by have:=((savedB_of hkn.symm).1 hh).1;omega) | skip
    all_goals first | (refine stage_bad hk' fun hh=>?_;have h5:=((savedB_of hkn.symm).1 hh).2;exact Bool.noConfusion (h5.symm.trans (by assumption:_ = false))) | (refine ⟨k + 1,by omega,rfl,fun i hi=>?_⟩;rcases Nat.lt_or_eq_of_le (Nat.le_of_lt_succ hi) with h | rfl;exact ha i h;exact (savedB_of hkn.symm).2 ⟨by omega,by assumption⟩)
theorem h_i_StageOk:Con.Holds Tryz.prog c_i_StageOk:=tree_ok mixedP (consAt h_i_modelOf (consAt h_i_ModelOk (consAt h_i_gradsFit (consAt h_i_goesIn (consAt h_i_InOf (consAt h_i_OutOf (consAt h_i_emptyOr consNil))))))) e_i_StageOk fun x hx hp=>v_i_StageOk x hx hp
noncomputable def c_s_StageOk:Con:=⟨54,tStage,.bool,[.val ⟨true,tStage,[]⟩],[⟨false,.bool,[0]⟩],false,none,
 ((fun _=>True):(StageD)→Prop),
 ((fun x=>stageB x):(StageD)→(Bool))⟩
def t_s_StageOk:T :=
 .call 0 (pjA tStage 2 (.vr 0)) <|
 .prim .not (.vr 1) <|
 .ite (.vr 2) (
  .ret (.cb false)) (
  .prim (.llen 94 tIns) (pjA tStage 1 (.vr 0)) <|
  .call 1 (mkA (.pair tI tIns) [(.p1 tI (.pair tPlan (.pair tModel (.pair .bool (.pair .bool (.pair (.slice 98 tSaved) (.pair tRows (.pair tInts (.pair tInts (.pair tInts (.pair tInts tGrads)))))))))) (.vr 0)),(.ci .i64 0),(.vr 3)]) <|
  .prim .not (.vr 4) <|
  .ite (.vr 5) (
   .ret (.cb false)) (
   .prim (.llen 158 tInts) (pjA tStage 11 (.vr 0)) <|
   .prim (.llen 96 tOp) (pjA tStage 2 (.vr 0)) <|
   .prim (.cmp .neq .i64) (.mk2 tI tI (.vr 6) (.vr 7)) <|
   .ite (.vr 8) (
    .ret (.cb false)) (
    .prim (.lidx 96 tOp) (.mk2 tModel tI (pjA tStage 2 (.vr 0)) (.ci .i64 0)) <|
    .prim (.llen 96 tOp) (pjA tStage 2 (.vr 0)) <|
    .prim (.ar .sub .i64) (.mk2 tI tI (.vr 10) (.ci .i64 1)) <|
    .prim (.lidx 96 tOp) (.mk2 tModel tI (pjA tStage 2 (.vr 0)) (.vr 11)) <|
    .loop tI (.ci .i64 0) <|
     .prim (.llen 96 tOp) (pjA tStage 2 (.vr 0)) <|
     .prim (.cmp .lss .i64) (.mk2 tI tI (.vr 13) (.vr 14)) <|
     .ite (.vr 15) (
      .prim (.lidx 158 tInts) (.mk2 tRows tI (pjA tStage 11 (.vr 0)) (.vr 13)) <|
      .prim (.llen 3 tI) (.vr 16) <|
      .prim (.lidx 96 tOp) (.mk2 tModel tI (pjA tStage 2 (.vr 0)) (.vr 13)) <|
      .prim (.llen 3 tI) (prA tOp 3 (.vr 18)) <|
      .prim (.cmp .neq .i64) (.mk2 tI tI (.vr 17) (.vr 19)) <|
      .ite (.vr 20) (
       .ret (.cb false)) (
       .prim (.ar .add .i64) (.mk2 tI tI (.vr 13) (.ci .i64 1)) <|
       .again 0 (.vr 21))) (
      .loop tI (.ci .i64 0) <|
       .prim (.llen 98 tSaved) (pjA tStage 5 (.vr 0)) <|
       .prim (.cmp .lss .i64) (.mk2 tI tI (.vr 16) (.vr 17)) <|
       .ite (.vr 18) (
        .prim (.lidx 98 tSaved) (.mk2 (.slice 98 tSaved) tI (pjA tStage 5 (.vr 0)) (.vr 16)) <|
        .prim (.llen 158 tInts) (prA tSaved 1 (.vr 19)) <|
        .prim (.cmp .eql .i64) (.mk2 tI tI (.vr 20) (.ci .i64 0)) <|
        .ite (.vr 21) (
         .ret (.cb false)) (
         .prim (.lidx 158 tInts) (.mk2 tRows tI (prA tSaved 1 (.vr 19)) (.ci .i64 0)) <|
         .call 2 (.vr 22) <|
         .prim .not (.vr 23) <|
         .ite (.vr 24) (
          .ret (.cb false)) (
          .prim (.lidx 158 tInts) (.mk2 tRows tI (prA tSaved 1 (.vr 19)) (.ci .i64 0)) <|
          .prim (.llen 3 tI) (.vr 25) <|
          .prim (.cmp .neq .i64) (.mk2 tI tI (.vr 26) (pjA tOp 1 (.vr 9))) <|
          .ite (.vr 27) (
           .ret (.cb false)) (
           .prim .not (pjA tStage 4 (.vr 0)) <|
           .ite (.vr 28) (
            .prim (.llen 158 tInts) (prA tSaved 1 (.vr 19)) <|
            .prim (.llen 96 tOp) (pjA tStage 2 (.vr 0)) <|
            .prim (.ar .add .i64) (.mk2 tI tI (.vr 30) (.ci .i64 1)) <|
            .prim (.cmp .neq .i64) (.mk2 tI tI (.vr 29) (.vr 31)) <|
            .ite (.vr 32) (
             .ret (.cb false)) (
             .ite (pjA tStage 4 (.vr 0)) (
              .prim (.llen 158 tInts) (prA tSaved 1 (.vr 19)) <|
              .prim (.cmp .neq .i64) (.mk2 tI tI (.vr 33) (.ci .i64 1)) <|
              .ite (.vr 34) (
               .ret (.cb false)) (
               .loop tI (.ci .i64 1) <|
                .prim (.llen 158 tInts) (prA tSaved 1 (.vr 19)) <|
                .prim (.cmp .lss .i64) (.mk2 tI tI (.vr 35) (.vr 36)) <|
                .ite (.vr 37) (
                 .prim (.lidx 158 tInts) (.mk2 tRows tI (prA tSaved 1 (.vr 19)) (.vr 35)) <|
                 .call 2 (.vr 38) <|
                 .prim .not (.vr 39) <|
                 .ite (.vr 40) (
                  .ret (.cb false)) (
                  .prim (.ar .sub .i64) (.mk2 tI tI (.vr 35) (.ci .i64 1)) <|
                  .prim (.lidx 158 tInts) (.mk2 tRows tI (prA tSaved 1 (.vr 19)) (.vr 35)) <|
                  .prim (.llen 3 tI) (.vr 42) <|
                  .prim (.lidx 96 tOp) (.mk2 tModel tI (pjA tStage 2 (.vr 0)) (.vr 41)) <|
                  .prim (.cmp .neq .i64) (.mk2 tI tI (.vr 43) (pjA tOp 2 (.vr 44))) <|
                  .ite (.vr 45) (
                   .ret (.cb false)) (
                   .prim (.ar .add .i64) (.mk2 tI tI (.vr 35) (.ci .i64 1)) <|
                   .again 0 (.vr 46)))) (
                 .prim (.ar .add .i64) (.mk2 tI tI (.vr 16) (.ci .i64 1)) <|
                 .again 1 (.vr 38)))) (
              .loop tI (.ci .i64 1) <|
               .prim (.llen 158 tInts) (prA tSaved 1 (.vr 19)) <|
               .prim (.cmp .lss .i64) (.mk2 tI tI (.vr 33) (.vr 34)) <|
               .ite (.vr 35) (
                .prim (.lidx 158 tInts) (.mk2 tRows tI (prA tSaved 1 (.vr 19)) (.vr 33)) <|
                .call 2 (.vr 36) <|
                .prim .not (.vr 37) <|
                .ite (.vr 38) (
                 .ret (.cb false)) (
                 .prim (.ar .sub .i64) (.mk2 tI tI (.vr 33) (.ci .i64 1)) <|
                 .prim (.lidx 158 tInts) (.mk2 tRows tI (prA tSaved 1 (.vr 19)) (.vr 33)) <|
                 .prim (.llen 3 tI) (.vr 40) <|
                 .prim (.lidx 96 tOp) (.mk2 tModel tI (pjA tStage 2 (.vr 0)) (.vr 39)) <|
                 .prim (.cmp .neq .i64) (.mk2 tI tI (.vr 41) (pjA tOp 2 (.vr 42))) <|
                 .ite (.vr 43) (
                  .ret (.cb false)) (
                  .prim (.ar .add .i64) (.mk2 tI tI (.vr 33) (.ci .i64 1)) <|
                  .again 0 (.vr 44)))) (
                .prim (.ar .add .i64) (.mk2 tI tI (.vr 16) (.ci .i64 1)) <|
                .again 1 (.vr 36))))) (
            .ite (pjA tStage 4 (.vr 0)) (
             .prim (.llen 158 tInts) (prA tSaved 1 (.vr 19)) <|
             .prim (.cmp .neq .i64) (.mk2 tI tI (.vr 29) (.ci .i64 1)) <|
             .ite (.vr 30) (
              .ret (.cb false)) (
              .loop tI (.ci .i64 1) <|
               .prim (.llen 158 tInts) (prA tSaved 1 (.vr 19)) <|
               .prim (.cmp .lss .i64) (.mk2 tI tI (.vr 31) (.vr 32)) <|
               .ite (.vr 33) (
                .prim (.lidx 158 tInts) (.mk2 tRows tI (prA tSaved 1 (.vr 19)) (.vr 31)) <|
                .call 2 (.vr 34) <|
                .prim .not (.vr 35) <|
                .ite (.vr 36) (
                 .ret (.cb false)) (
                 .prim (.ar .sub .i64) (.mk2 tI tI (.vr 31) (.ci .i64 1)) <|
                 .prim (.lidx 158 tInts) (.mk2 tRows tI (prA tSaved 1 (.vr 19)) (.vr 31)) <|
                 .prim (.llen 3 tI) (.vr 38) <|
                 .prim (.lidx 96 tOp) (.mk2 tModel tI (pjA tStage 2 (.vr 0)) (.vr 37)) <|
                 .prim (.cmp .neq .i64) (.mk2 tI tI (.vr 39) (pjA tOp 2 (.vr 40))) <|
                 .ite (.vr 41) (
                  .ret (.cb false)) (
                  .prim (.ar .add .i64) (.mk2 tI tI (.vr 31) (.ci .i64 1)) <|
                  .again 0 (.vr 42)))) (
                .prim (.ar .add .i64) (.mk2 tI tI (.vr 16) (.ci .i64 1)) <|
                .again 1 (.vr 34)))) (
             .loop tI (.ci .i64 1) <|
              .prim (.llen 158 tInts) (prA tSaved 1 (.vr 19)) <|
              .prim (.cmp .lss .i64) (.mk2 tI tI (.vr 29) (.vr 30)) <|
              .ite (.vr 31) (
               .prim (.lidx 158 tInts) (.mk2 tRows tI (prA tSaved 1 (.vr 19)) (.vr 29)) <|
               .call 2 (.vr 32) <|
               .prim .not (.vr 33) <|
               .ite (.vr 34) (
                .ret (.cb false)) (
                .prim (.ar .sub .i64) (.mk2 tI tI (.vr 29) (.ci .i64 1)) <|
                .prim (.lidx 158 tInts) (.mk2 tRows tI (prA tSaved 1 (.vr 19)) (.vr 29)) <|
                .prim (.llen 3 tI) (.vr 36) <|
                .prim (.lidx 96 tOp) (.mk2 tModel tI (pjA tStage 2 (.vr 0)) (.vr 35)) <|
                .prim (.cmp .neq .i64) (.mk2 tI tI (.vr 37) (pjA tOp 2 (.vr 38))) <|
                .ite (.vr 39) (
                 .ret (.cb false)) (
                 .prim (.ar .add .i64) (.mk2 tI tI (.vr 29) (.ci .i64 1)) <|
                 .again 0 (.vr 40)))) (
               .prim (.ar .add .i64) (.mk2 tI tI (.vr 16) (.ci .i64 1)) <|
               .again 1 (.vr 32)))))))) (
        .call 3 (.mk2 tInts tI (pjA tStage 7 (.vr 0)) (pjA tOp 1 (.vr 9))) <|
        .ite (.vr 19) (
         .call 3 (.mk2 tInts tI (pjA tStage 8 (.vr 0)) (pjA tOp 2 (.vr 12))) <|
         .ite (.vr 20) (
          .call 3 (.mk2 tInts tI (pjA tStage 9 (.vr 0)) (pjA tOp 2 (.vr 12))) <|
          .ite (.vr 21) (
           .call 3 (.mk2 tInts tI (pjA tStage 10 (.vr 0)) (pjA tOp 1 (.vr 9))) <|
           .ret (.vr 22)) (
           .ret (.cb false))) (
          .ret (.cb false))) (
         .ret (.cb false)))))))
set_option maxRecDepth 100000 in
theorem e_s_StageOk:exFn Tryz.prog [c_s_ModelOk,c_s_l1In,c_s_VecOk,c_s_l11Hand] c_s_StageOk false 3000 ⟨[(2984,8013,drd 46 9 ++ [.dr 0,.tm 5 0]),(2974,16016,drd 51 47 ++ [.dr 5,.tm 6 0]),(2956,5392035,[.tm 8 0]),(2956,2320033,[.tm 8 0]),(2956,2576031,[.tm 8 0]),(2956,1040029,[.tm 8 0])],[]⟩ = .ok t_s_StageOk:=by kernel_rfl
theorem v_s_StageOk (x:StageD) (hx:okD tStage x) (hp:(fun _=>True) x):t_s_StageOk.wp [c_s_ModelOk,c_s_l1In,c_s_VecOk,c_s_l11Hand] [⟨tStage,x⟩] [] (fun v=>v.as .bool = (fun x=>stageB x) x):=by
  obtain ⟨pc,plan,ops,last,redo,stash,full,X,Y,G,D,sum⟩:=x
  have hst:stash.length≤9223372036854775807:=hx.2.2.2.2.2.1.1
  have hsr:∀ k,k < stash.length→(stash.getD k (zeroD tSaved)).2.length≤9223372036854775807:=fun k hk=>by rw [getD_at hk];exact (hx.2.2.2.2.2.1.2 _ (List.getElem_mem hk)).2.1
  have hol:ops.length≤9223372036854775807:=hx.2.2.1.1
  delta t_s_StageOk c_s_ModelOk c_s_l1In c_s_VecOk c_s_l11Hand;refine vcx ?_;try with_reducible exact True.intro
  (refine dcx ?_;try with_reducible exact True.intro)
  refine ⟨fun h=>stage_no (.inl h),fun h1 _=>⟨fun h=>?_,fun h2 _ _=>⟨fun h=>?_,fun h3=>?_⟩⟩⟩
  · rcases h with h | h
    · exact stage_no (.inr (.inl (by omega)))
    · exact stage_no (.inr (.inr (.inl (by omega))))
  · exact stage_no (.inr (.inr (.inr (.inl (Bool.eq_false_iff.2 fun hh=>by rw [fitB_iff] at hh;dsimp only at hh;omega)))))
  have hm:=(modelB_iff _).1 h1
  refine ⟨by omega,fun _ _=>⟨by omega,fun _=>⟨by omega,fun _=>?_⟩⟩⟩
  have ein:(ops.getD 0 (zeroD tOp)).2.1 = inOf ops:=by unfold inOf;rw [if_pos h1];rfl
  have eout:(ops.getD (ops.length - 1) (zeroD tOp)).2.2.1 = outOf ops:=by unfold outOf;rw [if_pos h1];rfl
  simp only [ein,eout]
  refine ⟨fun s=>∃ k:Nat,k≤ops.length∧s = (k:Int)∧∀ i,i < k→fitAt ops sum.1 i = true,fun s=>ops.length - (s:Int).toNat,⟨0,by omega,rfl,by omega⟩,fun s _ hI=>?_⟩
  obtain ⟨k,hk,rfl,hf⟩:=hI
  (refine dcx ?_;try with_reducible exact True.intro)
  intro _
  constructor
  · intro hlt
    have hk':k < ops.length:=by omega
    have hk2:k < sum.1.length:=by omega
    have e:=fitAt_iff ops sum.1 hk' hk2
    rw [← getD_at hk' (d:=zeroD tOp),← getD_at hk2 (d:=zeroD tInts)] at e
    (repeat' first | intro _ | (with_reducible apply And.intro))
    all_goals first | omega | (exact stage_no (.inr (.inr (.inr (.inl (fitB_bad hk' fun h2=>by have:=e.1 h2;omega)))))) | (refine ⟨k + 1,by omega,rfl,fun i hi=>?_⟩;rcases Nat.lt_or_eq_of_le (Nat.le_of_lt_succ hi) with h | rfl;exact hf i h;exact e.2 (by omega))
  intro hge
  have hfit:fitB ops sum.1 = true:=(fitB_iff _ _).2 ⟨by omega,fun i hi=>hf i (by omega)⟩
  obtain ⟨F,hF⟩:∃ F:SavedD→Bool,F = savedB ops redo:=⟨_,rfl⟩
  obtain ⟨n,hn⟩:∃ n,n = keptN ops redo:=⟨_,rfl⟩
  have hz0:sizeAt ops 0 = inOf ops:=by unfold sizeAt inOf;rw [if_pos (by omega),if_pos h1]
  have sb:∀ S:SavedD,F S = true↔S.2.length = n∧∀ i,i < n→vecN (S.2.getD i (zeroD tInts)) (sizeAt ops i) = true:=fun S=>by rw [hF,hn];exact savedB_iff _ _ _
  have bad:∀ j,j < stash.length→¬ F (stash.getD j (zeroD tSaved)) = true→false = stageB (pc,plan,ops,last,redo,stash,full,X,Y,G,D,sum):=fun j hj h=>stage_bad hj (by show ¬ savedB ops redo _ = true;rw [← hF];exact h)
  have fin:(∀ i,i < stash.length→F (stash.getD i (zeroD tSaved)) = true)→stageB (pc,plan,ops,last,redo,stash,full,X,Y,G,D,sum) = (handB X (inOf ops) && (handB D (inOf ops) && (handB Y (outOf ops) && handB G (outOf ops)))) :=
    fun h=>stage_eq h1 ⟨by dsimp only;omega,by dsimp only;omega⟩ hfit (stash_all fun i hi=>by show savedB ops redo _ = true;rw [← hF];exact h i hi)
  have hn1:(redo = true→n = 1)∧(redo = false→n = ops.length + 1):=by rw [hn];unfold keptN;exact ⟨fun h=>by rw [h];rfl,fun h=>by rw [h];rfl⟩
  clear hF hn
  cases redo
  all_goals
    simp only [Bool.not_true,Bool.not_false,reduceCtorEq,true_implies,false_implies,and_true,true_and,forall_const] at hn1 ⊢
    refine ⟨fun s=>∃ k:Nat,k≤stash.length∧s = (k:Int)∧∀ i,i < k→F (stash.getD i (zeroD tSaved)) = true,fun s=>stash.length - (s:Int).toNat,⟨0,by omega,rfl,by omega⟩,fun s _ hI=>?_⟩
    obtain ⟨j,hj,rfl,ha⟩:=hI
    (refine dcx ?_;try with_reducible exact True.intro)
    intro _
    constructor
    rotate_left
    · intro hge
      rw [fin fun i hi=>ha i (by omega)]
      (repeat' first | intro _ | (with_reducible apply And.intro))
      all_goals simp_all
    intro hlt
    have hj':j < stash.length:=by omega
    have hrl:=hsr j hj'
    have bj:=bad j hj'
    have sj:=sb (stash.getD j (zeroD tSaved))
    have nx:F (stash.getD j (zeroD tSaved)) = true→∀ i,i < j + 1→F (stash.getD i (zeroD tSaved)) = true:=fun h i hi=>by
      rcases Nat.lt_or_eq_of_le (Nat.le_of_lt_succ hi) with h' | rfl
      · exact ha i h'
      · exact h
    clear ha fin bad sb hsr
    generalize stash.getD j (zeroD tSaved) = S at *
    (repeat' first | intro _ | (with_reducible apply And.intro))
    all_goals first | omega | (refine bj fun hh=>?_;have:=(sj.1 hh).1;omega) | (refine bj fun hh=>?_;have h5:=(sj.1 hh).2 0 (by omega);rw [vecN_iff] at h5;first | omega | (simp_all;done)) | skip
    refine ⟨fun s=>∃ k:Nat,1≤k∧k≤S.2.length∧s = (k:Int)∧∀ i,1≤i→i < k→vecN (S.2.getD i (zeroD tInts)) (sizeAt ops i) = true,fun s=>S.2.length - (s:Int).toNat,⟨1,by omega,by omega,rfl,by omega⟩,fun s _ hI=>?_⟩
    obtain ⟨k,hk1,hk,rfl,ha⟩:=hI
    (refine dcx ?_;try with_reducible exact True.intro)
    have hsz:k≤ops.length→sizeAt ops k = (ops.getD (k - 1) (zeroD tOp)).2.2.1:=fun h=>by
      have:=sizeAt_succ h1 (k:=k - 1) (by omega)
      rwa [Nat.sub_add_cancel hk1] at this
    (repeat' first | intro _ | (with_reducible apply And.intro))
    all_goals first | omega | skip
    all_goals first
      | (refine bj fun hh=>?_;have h5:=(sj.1 hh).2 k (by omega);rw [vecN_iff,hsz (by omega)] at h5;first | omega | (simp_all;done))
      | (refine ⟨k + 1,by omega,by omega,rfl,fun i hi1 hi=>?_⟩
         rcases Nat.lt_or_eq_of_le (Nat.le_of_lt_succ hi) with h' | rfl
         · exact ha i hi1 h'
         · rw [vecN_iff,hsz (by omega)];exact ⟨by assumption,by omega⟩)
      | (refine ⟨j + 1,by omega,rfl,nx (sj.2 ⟨by omega,fun i hi=>?_⟩)⟩
         by_cases hi1:1≤i
         · exact ha i hi1 (by omega)
         · obtain rfl:i = 0:=by omega
           rw [vecN_iff,hz0];exact ⟨by assumption,by omega⟩)
theorem h_s_StageOk:Con.Holds Tryz.prog c_s_StageOk:=tree_ok mixedP (consAt h_s_ModelOk (consAt h_s_l1In (consAt h_s_VecOk (consAt h_s_l11Hand consNil)))) e_s_StageOk fun x hx hp=>v_s_StageOk x hx hp
end Go.Proofs.YtepjkojfjdcegaaGreat
