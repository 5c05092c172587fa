/- Stage3: trees, and what they say. -/
import Derived.Test.YtahggdiafncdhaaZero2
import Derived.Test.YtahggdiafncdhaaSame3
namespace Go.Proofs.Ytahggdiafncdhaa
open Go.ChangeShapes Go.WideShapes Go.ChangeAt Go.RowKit Go.Deep
set_option linter.unusedVariables false
set_option linter.unusedSimpArgs false
def inOf (m:List OpD):Int:=if modelB m=true then (m.getD 0 zOp).2.1 else 0
def outOf (m:List OpD):Int:=if modelB m=true then (m.getD (m.length - 1) zOp).2.2.1 else 0
def vecN (v:List Int) (n:Int):Bool:=vecB v&&decide ((v.length:Int)=n)
theorem vecN_iff (v:List Int) (n:Int):vecN v n=true↔vecB v=true∧(v.length:Int)=n:=by unfold vecN;rw[Bool.and_eq_true,decide_eq_true_eq]
def handB (v:List Int) (n:Int):Bool:=decide (v.length=0) || vecN v n
theorem handB_iff (v:List Int) (n:Int):handB v n=true↔v.length=0∨vecN v n=true:=by unfold handB;rw[Bool.or_eq_true,decide_eq_true_eq]
/-- How many numbers go into operation i,or come out of the last one. -/
def sizeAt (m:List OpD) (i:Nat):Int:=if i<m.length then (m.getD i zOp).2.1 else (m.getD (m.length - 1) zOp).2.2.1
theorem sizeAt_succ {m:List OpD} (h:modelB m=true) {k:Nat} (hk:k<m.length):sizeAt m (k+1)=(m.getD k zOp).2.2.1:=by
 unfold sizeAt
 split
 ·rename_i h1
  have h2:=((modelB_iff m).1 h).2.2 (k+1) h1
  rw[okAt_iff m h1] at h2
  rcases h2.2 with h3|h3
  ·omega
  ·rw[getD_at h1,getD_at hk]
   exact h3.symm
 ·have:m.length - 1=k:=by omega
  rw[this]
def rowsAt (m:List OpD) (r:List (List Int)) (n:Nat):Bool:=(List.range n).all fun i=>vecN (r.getD i []) (sizeAt m i)
theorem rowsAt_iff (m:List OpD) (r:List (List Int)) (n:Nat):rowsAt m r n=true↔∀ i,i<n→vecN (r.getD i []) (sizeAt m i)=true:=by unfold rowsAt;simp only[List.all_eq_true,List.mem_range]
def keptN (m:List OpD) (redo:Bool):Nat:=if redo=true then 1 else m.length+1
def savedB (m:List OpD) (redo:Bool) (x:Int × List (List Int)):Bool:=decide (x.2.length=keptN m redo)&&rowsAt m x.2 (keptN m redo)
theorem savedB_iff (m:List OpD) (redo:Bool) (x:Int × List (List Int)):savedB m redo x=true↔x.2.length=keptN m redo∧∀ i,i<keptN m redo→vecN (x.2.getD i []) (sizeAt m i)=true:=by unfold savedB;rw[Bool.and_eq_true,decide_eq_true_eq,rowsAt_iff]
def stageB (s:StageD):Bool:=modelB s.2.2.1&&(decide (0≤s.1∧s.1≤(s.2.1.length:Int))&&(fitB s.2.2.1 s.2.2.2.2.2.2.2.2.2.2.2.1&&(s.2.2.2.2.2.1.all (savedB s.2.2.1 s.2.2.2.2.1) &&
 (handB s.2.2.2.2.2.2.2.1 (inOf s.2.2.1)&&(handB s.2.2.2.2.2.2.2.2.2.2.1 (inOf s.2.2.1)&&(handB s.2.2.2.2.2.2.2.2.1 (outOf s.2.2.1)&&handB s.2.2.2.2.2.2.2.2.2.1 (outOf s.2.2.1)))))))
theorem stageB_iff (s:StageD):stageB s=true↔modelB s.2.2.1=true∧(0≤s.1∧s.1≤(s.2.1.length:Int))∧fitB s.2.2.1 s.2.2.2.2.2.2.2.2.2.2.2.1=true∧s.2.2.2.2.2.1.all (savedB s.2.2.1 s.2.2.2.2.1)=true ∧
 handB s.2.2.2.2.2.2.2.1 (inOf s.2.2.1)=true∧handB s.2.2.2.2.2.2.2.2.2.2.1 (inOf s.2.2.1)=true∧handB s.2.2.2.2.2.2.2.2.1 (outOf s.2.2.1)=true∧handB s.2.2.2.2.2.2.2.2.2.1 (outOf s.2.2.1)=true:=by
 unfold stageB;simp only[Bool.and_eq_true,decide_eq_true_eq]
theorem vecN_f {v:List Int} {n:Int} (h:vecB v=false):false=vecN v n:=by unfold vecN;rw[h];rfl
theorem vecN_t {v:List Int} {n:Int} (h:vecB v=true):((v.length:Int)==n)=vecN v n:=by unfold vecN;rw[h,Bool.true_and];rfl
theorem stage_bad {s:StageD} {k:Nat} (hk:k<s.2.2.2.2.2.1.length) (h:¬ savedB s.2.2.1 s.2.2.2.2.1 (s.2.2.2.2.2.1.getD k (zeroD tSaved))=true):false=stageB s:=by
 refine (Bool.eq_false_iff.2 fun hh=>?_).symm
 have h4:=((stageB_iff s).1 hh).2.2.2.1
 rw[List.all_eq_true] at h4
 exact h (h4 _ (by rw[getD_at hk];exact List.getElem_mem hk))
theorem stash_all {s:StageD} (h:∀ i,i<s.2.2.2.2.2.1.length→savedB s.2.2.1 s.2.2.2.2.1 (s.2.2.2.2.2.1.getD i (zeroD tSaved))=true):s.2.2.2.2.2.1.all (savedB s.2.2.1 s.2.2.2.2.1)=true:=by
 rw[List.all_eq_true]
 intro x hx
 obtain ⟨i,hi,rfl⟩:=List.getElem_of_mem hx
 have:=h i hi
 rwa [getD_at hi] at this
theorem savedB_of {m:List OpD} {redo:Bool} {x:SavedD} {n:Nat} (hn:n=keptN m redo):savedB m redo x=true↔x.2.length=n∧rowsAt m x.2 n=true:=by
 unfold savedB;rw[Bool.and_eq_true,decide_eq_true_eq,hn]
theorem stage_eq {s:StageD} (h1:modelB s.2.2.1=true) (h2:0≤s.1∧s.1≤(s.2.1.length:Int)) (h3:fitB s.2.2.1 s.2.2.2.2.2.2.2.2.2.2.2.1=true) (h4:s.2.2.2.2.2.1.all (savedB s.2.2.1 s.2.2.2.2.1)=true) :
  stageB s=(handB s.2.2.2.2.2.2.2.1 (inOf s.2.2.1)&&(handB s.2.2.2.2.2.2.2.2.2.2.1 (inOf s.2.2.1)&&(handB s.2.2.2.2.2.2.2.2.1 (outOf s.2.2.1)&&handB s.2.2.2.2.2.2.2.2.2.1 (outOf s.2.2.1)))):=by
 unfold stageB;rw[h1,h3,h4];simp[h2]
theorem stage_no {s:StageD} (h:modelB s.2.2.1=false∨s.1<0∨(s.2.1.length:Int)<s.1∨fitB s.2.2.1 s.2.2.2.2.2.2.2.2.2.2.2.1=false∨handB s.2.2.2.2.2.2.2.1 (inOf s.2.2.1)=false∨handB s.2.2.2.2.2.2.2.2.2.2.1 (inOf s.2.2.1)=false∨handB s.2.2.2.2.2.2.2.2.1 (outOf s.2.2.1)=false):false=stageB s:=by
 refine (Bool.eq_false_iff.2 fun hh=>?_).symm
 obtain ⟨h1,h2,h3,h4,h5,h6,h7,h8⟩:=(stageB_iff s).1 hh
 rcases h with h|h|h|h|h|h|h
 ·rw[h] at h1;cases h1
 ·omega
 ·omega
 ·rw[h] at h3;cases h3
 ·rw[h] at h5;cases h5
 ·rw[h] at h6;cases h6
 ·rw[h] at h7;cases h7
theorem stage_yes {s:StageD} (h1:modelB s.2.2.1=true) (h2:0≤s.1∧s.1≤(s.2.1.length:Int)) (h3:fitB s.2.2.1 s.2.2.2.2.2.2.2.2.2.2.2.1=true) (h4:s.2.2.2.2.2.1.all (savedB s.2.2.1 s.2.2.2.2.1)=true)
  (h5:handB s.2.2.2.2.2.2.2.1 (inOf s.2.2.1)=true) (h6:handB s.2.2.2.2.2.2.2.2.2.2.1 (inOf s.2.2.1)=true) (h7:handB s.2.2.2.2.2.2.2.2.1 (outOf s.2.2.1)=true):handB s.2.2.2.2.2.2.2.2.2.1 (outOf s.2.2.1)=stageB s:=by
 unfold stageB;rw[h1,h3,h4,h5,h6,h7];simp[h2]

/-! impl.VecOk -/

noncomputable def c_i_VecOk:Con:=⟨145,tInts,.bool,[.val ⟨false,tInts,[]⟩],[⟨false,.bool,[0]⟩],false,none,
 ((fun _=>True):(List Int)→Prop),
 ((fun x=>vecB x):(List Int)→(Bool))⟩
def t_i_VecOk:T:=.prim (.llen 3 tI) (.vr 0) <|.prim (.cmp .geq .i64) (.mk2 tI tI (.vr 1) (.ci .i64 1)) <|.ite (.vr 2) (.prim (.llen 3 tI) (.vr 0) <|.prim (.cmp .leq .i64) (.mk2 tI tI (.vr 3) (.ci .i64 6)) <|.ite (.vr 4) (.call 0 (.vr 0) <|.ret (.vr 5)) (.ret (.cb false))) (.ret (.cb false))
set_option maxRecDepth 100000 in
theorem e_i_VecOk:exFn Try.prog [c_i_allFix] c_i_VecOk false 3000 ⟨[],[]⟩ = .ok t_i_VecOk:=by kernel_rfl
theorem v_i_VecOk (x:List Int) (hx:okD tInts x) (hp:(fun _=>True) x):t_i_VecOk.wp [c_i_allFix] [⟨tInts,x⟩] [] (fun v=>v.as .bool=(fun x=>vecB x) x):=by
 delta t_i_VecOk c_i_allFix;refine vcx ?_;try with_reducible exact True.intro
 (repeat' first|intro _|(with_reducible apply And.intro))
 all_goals simp only[Int.toNat_natCast,Bool.not_eq_true',Bool.not_eq_false',Bool.and_eq_true,Bool.and_eq_false_iff,decide_eq_true_eq,decide_eq_false_iff_not,Int.not_lt,Int.not_le,ge_iff_le,gt_iff_lt,List.length_cons,List.length_nil,List.length_append,Nat.zero_add,List.nil_append,beq_iff_eq,beq_eq_false_iff_ne,bne_iff_ne,bne_eq_false_iff_eq,ne_eq,toNat_pred,toNat_succ,toNat_l0,toNat_l1] at *
 all_goals first|(first|(refine (Bool.eq_false_iff.2 ?_).symm;rw[ne_eq,vecB_iff];intro hh;omega)|(refine (vecB_iff.2 ?_).symm;omega))|(rw[Bool.eq_iff_iff,vecB_iff];exact ⟨fun h=>⟨by omega,by omega,h⟩,fun h=>h.2.2⟩)
theorem h_i_VecOk:Con.Holds Try.prog c_i_VecOk:=tree_ok mixedP (consAt h_i_allFix consNil) e_i_VecOk fun x hx hp=>v_i_VecOk x hx hp

/-! impl.vecOf -/

noncomputable def c_i_vecOf:Con:=⟨102,(.pair tInts tI),.bool,[.val ⟨false,tInts,[]⟩,.val ⟨false,tI,[]⟩],[⟨false,.bool,[0]⟩],false,none,
 ((fun _=>True):(IntsD × Int)→Prop),
 ((fun x=>vecN x.1 x.2):(IntsD × Int)→(Bool))⟩
def t_i_vecOf:T:=.call 0 (.p1 tInts tI (.vr 0)) <|.ite (.vr 1) (.prim (.llen 3 tI) (.p1 tInts tI (.vr 0)) <|.prim (.cmp .eql .i64) (.mk2 tI tI (.vr 2) (prA (.pair tInts tI) 1 (.vr 0))) <|.ret (.vr 3)) (.ret (.cb false))
set_option maxRecDepth 100000 in
theorem e_i_vecOf:exFn Try.prog [c_i_VecOk] c_i_vecOf false 3000 ⟨[],[]⟩ = .ok t_i_vecOf:=by kernel_rfl
theorem v_i_vecOf (x:IntsD × Int) (hx:okD (.pair tInts tI) x) (hp:(fun _=>True) x):t_i_vecOf.wp [c_i_VecOk] [⟨(.pair tInts tI),x⟩] [] (fun v=>v.as .bool=(fun x=>vecN x.1 x.2) x):=by
 delta t_i_vecOf c_i_VecOk;refine vcx ?_;try with_reducible exact True.intro
 exact ⟨fun h _=>vecN_t h,fun h=>vecN_f h⟩
theorem h_i_vecOf:Con.Holds Try.prog c_i_vecOf:=tree_ok mixedP (consAt h_i_VecOk consNil) e_i_vecOf fun x hx hp=>v_i_vecOf x hx hp

/-! impl.InOf -/

noncomputable def c_i_InOf:Con:=⟨103,tModel,tI,[.val ⟨true,tModel,[]⟩],[⟨false,tI,[0]⟩],false,none,
 ((fun _=>True):(ModelD)→Prop),
 ((fun x=>inOf x):(ModelD)→(Int))⟩
def t_i_InOf:T:=.call 0 (.vr 0) <|.prim .not (.vr 1) <|.ite (.vr 2) (.ret (.ci .i64 0)) (.prim (.lidx 61 tOp) (.mk2 tModel tI (.vr 0) (.ci .i64 0)) <|.ret (pjA tOp 1 (.vr 3)))
set_option maxRecDepth 100000 in
theorem e_i_InOf:exFn Try.prog [c_i_ModelOk] c_i_InOf false 3000 ⟨[],[]⟩ = .ok t_i_InOf:=by kernel_rfl
theorem v_i_InOf (x:ModelD) (hx:okD tModel x) (hp:(fun _=>True) x):t_i_InOf.wp [c_i_ModelOk] [⟨tModel,x⟩] [] (fun v=>v.as tI=(fun x=>inOf x) x):=by
 delta t_i_InOf c_i_ModelOk;refine vcx ?_;try with_reducible exact True.intro
 refine ⟨fun h=>?_,fun h=>?_⟩
 all_goals simp only[Int.toNat_natCast,Bool.not_eq_true',Bool.not_eq_false',Bool.and_eq_true,Bool.and_eq_false_iff,decide_eq_true_eq,decide_eq_false_iff_not,Int.not_lt,Int.not_le,ge_iff_le,gt_iff_lt,List.length_cons,List.length_nil,List.length_append,Nat.zero_add,List.nil_append,beq_iff_eq,beq_eq_false_iff_ne,bne_iff_ne,bne_eq_false_iff_eq,ne_eq,toNat_pred,toNat_succ,toNat_l0,toNat_l1] at h
 ·unfold inOf;rw[h];rfl
 ·have:=(modelB_iff x).1 h
  refine ⟨by omega,fun _=>?_⟩
  unfold inOf;rw[if_pos h];rfl
theorem h_i_InOf:Con.Holds Try.prog c_i_InOf:=tree_ok mixedP (consAt h_i_ModelOk consNil) e_i_InOf fun x hx hp=>v_i_InOf x hx hp

/-! impl.OutOf -/

noncomputable def c_i_OutOf:Con:=⟨156,tModel,tI,[.val ⟨true,tModel,[]⟩],[⟨false,tI,[0]⟩],false,none,
 ((fun _=>True):(ModelD)→Prop),
 ((fun x=>outOf x):(ModelD)→(Int))⟩
def t_i_OutOf:T:=.call 0 (.vr 0) <|.prim .not (.vr 1) <|.ite (.vr 2) (.ret (.ci .i64 0)) (.prim (.llen 61 tOp) (.vr 0) <|.prim (.ar .sub .i64) (.mk2 tI tI (.vr 3) (.ci .i64 1)) <|.prim (.lidx 61 tOp) (.mk2 tModel tI (.vr 0) (.vr 4)) <|.ret (pjA tOp 2 (.vr 5)))
set_option maxRecDepth 100000 in
theorem e_i_OutOf:exFn Try.prog [c_i_ModelOk] c_i_OutOf false 3000 ⟨[],[]⟩ = .ok t_i_OutOf:=by kernel_rfl
theorem v_i_OutOf (x:ModelD) (hx:okD tModel x) (hp:(fun _=>True) x):t_i_OutOf.wp [c_i_ModelOk] [⟨tModel,x⟩] [] (fun v=>v.as tI=(fun x=>outOf x) x):=by
 delta t_i_OutOf c_i_ModelOk;refine vcx ?_;try with_reducible exact True.intro
 refine ⟨fun h=>?_,fun h=>?_⟩
 all_goals simp only[Int.toNat_natCast,Bool.not_eq_true',Bool.not_eq_false',Bool.and_eq_true,Bool.and_eq_false_iff,decide_eq_true_eq,decide_eq_false_iff_not,Int.not_lt,Int.not_le,ge_iff_le,gt_iff_lt,List.length_cons,List.length_nil,List.length_append,Nat.zero_add,List.nil_append,beq_iff_eq,beq_eq_false_iff_ne,bne_iff_ne,bne_eq_false_iff_eq,ne_eq,toNat_pred,toNat_succ,toNat_l0,toNat_l1] at h
 ·unfold outOf;rw[h];rfl
 ·have:=(modelB_iff x).1 h
  refine fun _=>⟨by omega,fun _=>⟨by omega,fun _=>?_⟩⟩
  unfold outOf;rw[if_pos h,toNat_pred];rfl
theorem h_i_OutOf:Con.Holds Try.prog c_i_OutOf:=tree_ok mixedP (consAt h_i_ModelOk consNil) e_i_OutOf fun x hx hp=>v_i_OutOf x hx hp
end Go.Proofs.Ytahggdiafncdhaa
