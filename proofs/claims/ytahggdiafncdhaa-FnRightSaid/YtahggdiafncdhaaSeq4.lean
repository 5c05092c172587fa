/- Seq4: trees, and what they say. -/
import Derived.Test.YtahggdiafncdhaaMat3
namespace Go.Proofs.Ytahggdiafncdhaa
open Go.ChangeShapes Go.WideShapes Go.ChangeAt Go.RowKit Go.Deep
set_option linter.unusedVariables false
set_option linter.unusedSimpArgs false
def lossOf (y t:List Int):Int × Bool:=((vecDot (vecZ fixSub y t).1 (vecZ fixSub y t).1).1.fdiv 2,(vecZ fixSub y t).2 || (vecDot (vecZ fixSub y t).1 (vecZ fixSub y t).1).2)
def inK2 (m:List OpD) (x:List Int):Nat→RowsD × Bool
 | 0=>([x],false)
 | k+1=>((inK2 m x k).1++[(opFwd (m.getD k zOp) ((inK2 m x k).1.getD k [])).1],(inK2 m x k).2 || (opFwd (m.getD k zOp) ((inK2 m x k).1.getD k [])).2)
def inputsF (m:List OpD) (x:List Int):RowsD × Bool:=if modelB m=true∧vecN x (inOf m)=true then inK2 m x m.length else ([],false)
/-- Back through the last k of n operations. -/
def backK (m:List OpD) (r:RowsD) (d:List Int) (n:Nat):Nat→RowsD × (List Int × Bool)
 | 0=>(List.replicate n [],d,false)
 | k+1=>((backK m r d n k).1.set (n - 1 - k) (opBwd (m.getD (n - 1 - k) zOp) (r.getD (n - 1 - k) []) (backK m r d n k).2.1).2.1,(opBwd (m.getD (n - 1 - k) zOp) (r.getD (n - 1 - k) []) (backK m r d n k).2.1).1,
  (backK m r d n k).2.2 || (opBwd (m.getD (n - 1 - k) zOp) (r.getD (n - 1 - k) []) (backK m r d n k).2.1).2.2)
def backF (m:List OpD) (r:RowsD) (d:List Int):RowsD × (List Int × Bool):=backK m r d m.length m.length
def pairOkB (m:List OpD) (p:PairD):Bool:=vecN p.1 (inOf m)&&vecN p.2 (outOf m)
def batchB (m:List OpD) (b:List PairD):Bool:=modelB m&&(decide (1≤b.length∧b.length≤5)&&b.all (pairOkB m))
def microF (m:List OpD) (p:PairD):GradsD:=if modelB m=true∧pairOkB m p=true then
 ((backF m (inputsF m p.1).1 (vecZ fixSub ((inputsF m p.1).1.getD m.length []) p.2).1).1,(lossOf ((inputsF m p.1).1.getD m.length []) p.2).1,
  (inputsF m p.1).2 || (lossOf ((inputsF m p.1).1.getD m.length []) p.2).2 || (vecZ fixSub ((inputsF m p.1).1.getD m.length []) p.2).2 || (backF m (inputsF m p.1).1 (vecZ fixSub ((inputsF m p.1).1.getD m.length []) p.2).1).2.2) else ([],0,false)
theorem satI_nn {x:Int} (h:0≤x):0≤(satI x).1:=by show 0≤clampI x;unfold clampI;omega
theorem clampI_nn {x:Int} (h:0≤x):0≤clampI x:=by unfold clampI;omega
theorem fixMul_sq (x:Int):0≤(fixMul x x).1:=by
 refine satI_nn ?_
 rw[Int.fdiv_eq_ediv_of_nonneg _ (by decide)]
 have h:0≤clampI x * clampI x:=by
  rcases Int.le_total 0 (clampI x) with h|h
  ·exact Int.mul_nonneg h h
  ·exact Int.mul_nonneg_of_nonpos_of_nonpos h h
 omega
theorem dotK_nn (a:List Int):(k:Nat)→0≤(dotK a a k).1
 | 0=>Int.le_refl _
 | k+1=>satI_nn (Int.add_nonneg (clampI_nn (dotK_nn a k)) (clampI_nn (fixMul_sq _)))
theorem vecDot_nn (a:List Int):0≤(vecDot a a).1:=by
 unfold vecDot;split
 ·exact dotK_nn a _
 ·exact Int.le_refl _
theorem half_eq {x:Int} (h:0≤x):x.tdiv 2=x.fdiv 2:=by rw[Int.fdiv_eq_ediv_of_nonneg _ (by decide),Int.tdiv_eq_ediv_of_nonneg h]
theorem inK2_len (m:List OpD) (x:List Int):(k:Nat)→(inK2 m x k).1.length=k+1
 | 0=>rfl
 | k+1=>by rw[inK2,List.length_append,inK2_len m x k];rfl
theorem backK_len (m:List OpD) (r:RowsD) (d:List Int) (n:Nat):(k:Nat)→(backK m r d n k).1.length=n
 | 0=>List.length_replicate
 | k+1=>by rw[backK,List.length_set,backK_len m r d n k]
theorem batch_f1 {m:List OpD} {b:List PairD} (h:modelB m=false):false=batchB m b:=by unfold batchB;rw[h];rfl
theorem batch_f2 {m:List OpD} {b:List PairD} (h:¬ (1≤b.length∧b.length≤5)):false=batchB m b:=by unfold batchB;rw[decide_eq_false h,Bool.false_and,Bool.and_false]
theorem batch_f3 {m:List OpD} {b:List PairD} (h:b.all (pairOkB m)=false):false=batchB m b:=by unfold batchB;rw[h,Bool.and_false,Bool.and_false]
theorem batch_t {m:List OpD} {b:List PairD} (h1:modelB m=true) (h2:1≤b.length∧b.length≤5) (h3:b.all (pairOkB m)=true):true=batchB m b:=by unfold batchB;rw[h1,h3,decide_eq_true h2];rfl
theorem batchB_iff (m:List OpD) (b:List PairD):batchB m b=true↔modelB m=true∧(1≤b.length∧b.length≤5)∧b.all (pairOkB m)=true:=by unfold batchB;simp only[Bool.and_eq_true,decide_eq_true_eq]
theorem pair_f {m:List OpD} {p:PairD} (h:vecB p.1=false∨vecB p.2=false∨¬ (p.1.length:Int)=inOf m∨¬ (p.2.length:Int)=outOf m):pairOkB m p=false:=by
 unfold pairOkB vecN
 rcases h with h|h|h|h
 ·rw[h];simp
 ·rw[h];simp
 ·rw[decide_eq_false h];simp
 ·rw[decide_eq_false h];simp
theorem pair_t {m:List OpD} {p:PairD} (h1:vecB p.1=true) (h2:vecB p.2=true) (h3:(p.1.length:Int)=inOf m) (h4:(p.2.length:Int)=outOf m):pairOkB m p=true:=by
 unfold pairOkB vecN;rw[h1,h2,decide_eq_true h3,decide_eq_true h4];rfl

/-! impl.LossOf -/

noncomputable def c_i_LossOf:Con:=⟨112,tPair,(.pair tI .bool),[.val ⟨false,tInts,[]⟩,.val ⟨false,tInts,[]⟩],[⟨false,tI,[0]⟩,⟨false,.bool,[0]⟩],false,none,
 ((fun _=>True):(PairD)→Prop),
 ((fun x=>lossOf x.1 x.2):(PairD)→(Int × Bool))⟩
def t_i_LossOf:T:=.call 0 (.vr 0) <|.call 1 (.mk2 tInts tInts (.p1 tInts .bool (.vr 1)) (.p1 tInts .bool (.vr 1))) <|.prim (.shr .i64 .u64) (.mk2 tI (.int .u64) (.p1 tI .bool (.vr 2)) (.ci .u64 1)) <|.ite (prA (.pair tInts .bool) 1 (.vr 1)) (.ret (.mk2 tI .bool (.vr 3) (.cb true))) (.ret (.mk2 tI .bool (.vr 3) (prA (.pair tI .bool) 1 (.vr 2))))
set_option maxRecDepth 100000 in
theorem e_i_LossOf:exFn Try.prog [c_i_VecSub,c_i_VecDot] c_i_LossOf false 3000 ⟨[],[]⟩ = .ok t_i_LossOf:=by kernel_rfl
theorem v_i_LossOf (x:PairD) (hx:okD tPair x) (hp:(fun _=>True) x):t_i_LossOf.wp [c_i_VecSub,c_i_VecDot] [⟨tPair,x⟩] [] (fun v=>v.as (.pair tI .bool)=(fun x=>lossOf x.1 x.2) x):=by
 delta t_i_LossOf c_i_VecSub c_i_VecDot;refine vcx ?_;try with_reducible exact True.intro
 exact fun _ _=>⟨by omega,fun _=>⟨fun h=>Prod.ext rfl (or2_t h),fun h=>Prod.ext rfl (or2_f h)⟩⟩
theorem h_i_LossOf:Con.Holds Try.prog c_i_LossOf:=tree_ok mixedP (consAt h_i_VecSub (consAt h_i_VecDot consNil)) e_i_LossOf fun x hx hp=>v_i_LossOf x hx hp

/-! spec.LossOf -/

noncomputable def c_s_LossOf:Con:=⟨162,tPair,(.pair tI .bool),[.val ⟨false,tInts,[]⟩,.val ⟨false,tInts,[]⟩],[⟨false,tI,[0]⟩,⟨false,.bool,[0]⟩],false,none,
 ((fun _=>True):(PairD)→Prop),
 ((fun x=>lossOf x.1 x.2):(PairD)→(Int × Bool))⟩
def t_s_LossOf:T:=.call 0 (.vr 0) <|.call 1 (.mk2 tInts tInts (.p1 tInts .bool (.vr 1)) (.p1 tInts .bool (.vr 1))) <|.prim (.quo .i64) (.mk2 tI tI (.p1 tI .bool (.vr 2)) (.ci .i64 2)) <|.ite (prA (.pair tInts .bool) 1 (.vr 1)) (.ret (.mk2 tI .bool (.vr 3) (.cb true))) (.ret (.mk2 tI .bool (.vr 3) (prA (.pair tI .bool) 1 (.vr 2))))
set_option maxRecDepth 100000 in
theorem e_s_LossOf:exFn Try.prog [c_s_VecSub,c_s_VecDot] c_s_LossOf false 3000 ⟨[],[]⟩ = .ok t_s_LossOf:=by kernel_rfl
theorem v_s_LossOf (x:PairD) (hx:okD tPair x) (hp:(fun _=>True) x):t_s_LossOf.wp [c_s_VecSub,c_s_VecDot] [⟨tPair,x⟩] [] (fun v=>v.as (.pair tI .bool)=(fun x=>lossOf x.1 x.2) x):=by
 delta t_s_LossOf c_s_VecSub c_s_VecDot;refine vcx ?_;try with_reducible exact True.intro
 intro _ ho
 have h0:=vecDot_nn (vecZ fixSub x.1 x.2).1
 have h1:(vecDot (vecZ fixSub x.1 x.2).1 (vecZ fixSub x.1 x.2).1).1≤9223372036854775807:=ho.1.2
 rw[half_eq h0]
 have h2:(vecDot (vecZ fixSub x.1 x.2).1 (vecZ fixSub x.1 x.2).1).1.fdiv 2=(vecDot (vecZ fixSub x.1 x.2).1 (vecZ fixSub x.1 x.2).1).1 / 2:=Int.fdiv_eq_ediv_of_nonneg _ (by decide)
 exact ⟨⟨by omega,by omega,by omega⟩,fun _=>⟨fun h=>Prod.ext rfl (or2_t h),fun h=>Prod.ext rfl (or2_f h)⟩⟩
theorem h_s_LossOf:Con.Holds Try.prog c_s_LossOf:=tree_ok mixedP (consAt h_s_VecSub (consAt h_s_VecDot consNil)) e_s_LossOf fun x hx hp=>v_s_LossOf x hx hp

/-! impl.Inputs -/

noncomputable def c_i_Inputs:Con:=⟨46,(.pair tModel tInts),(.pair tRows .bool),[.val ⟨true,tModel,[]⟩,.val ⟨false,tInts,[]⟩],[⟨false,tRows,[2]⟩,⟨false,.bool,[0]⟩],false,none,
 ((fun _=>True):(ModelD × IntsD)→Prop),
 ((fun x=>inputsF x.1 x.2):(ModelD × IntsD)→(RowsD × Bool))⟩
def t_i_Inputs:T:=.call 0 (.p1 tModel tInts (.vr 0)) <|.prim .not (.vr 1) <|.ite (.vr 2) (.ret (.mk2 tRows .bool (.nl 92 tInts) (.cb false))) (.call 1 (.p1 tModel tInts (.vr 0)) <|.call 2 (.mk2 tInts tI (prA (.pair tModel tInts) 1 (.vr 0)) (.vr 3)) <|.prim .not (.vr 4) <|.ite (.vr 5) (.ret (.mk2 tRows .bool (.nl 92 tInts) (.cb false))) (.call 3 (prA (.pair tModel tInts) 1 (.vr 0)) <|.prim (.lit 92 tInts 1) (.vr 6) <|.prim (.llen 61 tOp) (.p1 tModel tInts (.vr 0)) <|.loop (.pair tI (.pair .bool tRows)) (mkA (.pair tI (.pair .bool tRows)) [(.ci .i64 0),(.cb false),(.vr 7)]) <|.prim (.cmp .lss .i64) (.mk2 tI tI (.p1 tI (.pair .bool tRows) (.vr 9)) (.vr 8)) <|.ite (.vr 10) (.prim (.lidx 61 tOp) (.mk2 tModel tI (.p1 tModel tInts (.vr 0)) (.p1 tI (.pair .bool tRows) (.vr 9))) <|.prim (.lidx 92 tInts) (.mk2 tRows tI (prA (.pair tI (.pair .bool tRows)) 2 (.vr 9)) (.p1 tI (.pair .bool tRows) (.vr 9))) <|.prim (.lidx 92 tInts) (.mk2 tRows tI (prA (.pair tI (.pair .bool tRows)) 2 (.vr 9)) (.p1 tI (.pair .bool tRows) (.vr 9))) <|.call 4 (.mk2 tOp tInts (.vr 11) (.vr 13)) <|.prim (.lit 92 tInts 1) (.p1 tInts .bool (.vr 14)) <|.prim (.lapp 92 tInts 24) (.mk2 tRows tRows (prA (.pair tI (.pair .bool tRows)) 2 (.vr 9)) (.vr 15)) <|.ite (pjA (.pair tI (.pair .bool tRows)) 1 (.vr 9)) (.prim (.ar .add .i64) (.mk2 tI tI (.p1 tI (.pair .bool tRows) (.vr 9)) (.ci .i64 1)) <|.again 0 (mkA (.pair tI (.pair .bool tRows)) [(.vr 17),(.cb true),(.vr 16)])) (.prim (.ar .add .i64) (.mk2 tI tI (.p1 tI (.pair .bool tRows) (.vr 9)) (.ci .i64 1)) <|.again 0 (mkA (.pair tI (.pair .bool tRows)) [(.vr 17),(prA (.pair tInts .bool) 1 (.vr 14)),(.vr 16)]))) (.ret (.mk2 tRows .bool (prA (.pair tI (.pair .bool tRows)) 2 (.vr 9)) (pjA (.pair tI (.pair .bool tRows)) 1 (.vr 9))))))
set_option maxRecDepth 100000 in
theorem e_i_Inputs:exFn Try.prog [c_i_ModelOk,c_i_InOf,c_i_vecOf,c_i_copyInts,c_i_OpForward] c_i_Inputs false 3000 ⟨[(2984,4009,drd 26 12++[.dr 2,.dr 0,.dr 1,.tm 29 0,.tm 7 0,.sl 3])],[(2991,4006,[23],[]),(2971,12015,[],[6])]⟩ = .ok t_i_Inputs:=by kernel_rfl
/- loops: (Int) × ((Bool) × (List (List (Int)))) -/
theorem v_i_Inputs (x:ModelD × IntsD) (hx:okD (.pair tModel tInts) x) (hp:(fun _=>True) x):t_i_Inputs.wp [c_i_ModelOk,c_i_InOf,c_i_vecOf,c_i_copyInts,c_i_OpForward] [⟨(.pair tModel tInts),x⟩] [] (fun v=>v.as (.pair tRows .bool)=(fun x=>inputsF x.1 x.2) x):=by
 obtain ⟨m,v⟩:=x
 delta t_i_Inputs c_i_ModelOk c_i_InOf c_i_vecOf c_i_copyInts c_i_OpForward;refine vcx ?_;try with_reducible exact True.intro
 simp only[Bool.not_eq_true',Bool.not_eq_false']
 refine ⟨fun h=>?_,fun h1 _=>⟨fun h=>?_,fun h2=>?_⟩⟩
 ·unfold inputsF;rw[if_neg (by rw[h];simp)]
 ·unfold inputsF;rw[if_neg (by rw[h];simp)]
 ·have hv:=(vecB_iff v).1 ((vecN_iff _ _).1 h2).1
  have hm:=(modelB_iff m).1 h1
  rw[show inputsF m v=_ from if_pos ⟨h1,h2⟩]
  refine ⟨by omega,fun _ _ _=>?_⟩
  refine loopF (fun k=>((k:Int),(inK2 m v k).2,(inK2 m v k).1)) m.length rfl fun I μ k hk _ go=>?_
  dsimp only
  simp only[Int.toNat_natCast,Bool.not_eq_true',Bool.not_eq_false',Bool.and_eq_true,Bool.and_eq_false_iff,decide_eq_true_eq,decide_eq_false_iff_not,Int.not_lt,Int.not_le,ge_iff_le,gt_iff_lt,List.length_cons,List.length_nil,List.length_append,Nat.zero_add,List.nil_append,beq_iff_eq,beq_eq_false_iff_ne,bne_iff_ne,bne_eq_false_iff_eq,ne_eq,toNat_pred,toNat_succ,toNat_l0,toNat_l1,inK2_len]
  (repeat' first|intro _|(refine go _ ?_ ?_ ?_)|(refine go _ ?_ ?_)|(with_reducible apply And.intro))
  all_goals first|omega|(unfold maxLen;omega)|exact Prod.ext rfl (Prod.ext (or2_t (by assumption)) rfl)|exact Prod.ext rfl (Prod.ext (or2_f (by assumption)) rfl)|(have e:k=m.length:=(by omega);subst e;rfl)
theorem h_i_Inputs:Con.Holds Try.prog c_i_Inputs:=tree_ok mixedP (consAt h_i_ModelOk (consAt h_i_InOf (consAt h_i_vecOf (consAt h_i_copyInts (consAt h_i_OpForward consNil))))) e_i_Inputs fun x hx hp=>v_i_Inputs x hx hp

/-! spec.l7Inputs -/

noncomputable def c_s_l7Inputs:Con:=⟨161,(.pair tModel tInts),(.pair tRows .bool),[.val ⟨false,tModel,[]⟩,.val ⟨false,tInts,[]⟩],[⟨false,tRows,[2]⟩,⟨false,.bool,[0]⟩],false,none,
 ((fun x=>vecB x.2=true∧List.length x.1≤8):(ModelD × IntsD)→Prop),
 ((fun x=>inK2 x.1 x.2 (x.1:List OpD).length):(ModelD × IntsD)→(RowsD × Bool))⟩
def t_s_l7Inputs:T:=.prim (.lapp 3 tI 8) (.mk2 tInts tInts (.nl 3 tI) (prA (.pair tModel tInts) 1 (.vr 0))) <|.prim (.lit 92 tInts 1) (.vr 1) <|.loop (.pair tI (.pair .bool tRows)) (mkA (.pair tI (.pair .bool tRows)) [(.ci .i64 0),(.cb false),(.vr 2)]) <|.prim (.llen 61 tOp) (.p1 tModel tInts (.vr 0)) <|.prim (.cmp .lss .i64) (.mk2 tI tI (.p1 tI (.pair .bool tRows) (.vr 3)) (.vr 4)) <|.ite (.vr 5) (.prim (.lidx 61 tOp) (.mk2 tModel tI (.p1 tModel tInts (.vr 0)) (.p1 tI (.pair .bool tRows) (.vr 3))) <|.prim (.lidx 92 tInts) (.mk2 tRows tI (prA (.pair tI (.pair .bool tRows)) 2 (.vr 3)) (.p1 tI (.pair .bool tRows) (.vr 3))) <|.prim (.lidx 92 tInts) (.mk2 tRows tI (prA (.pair tI (.pair .bool tRows)) 2 (.vr 3)) (.p1 tI (.pair .bool tRows) (.vr 3))) <|.call 0 (.mk2 tOp tInts (.vr 6) (.vr 8)) <|.prim (.lit 92 tInts 1) (.p1 tInts .bool (.vr 9)) <|.prim (.lapp 92 tInts 24) (.mk2 tRows tRows (prA (.pair tI (.pair .bool tRows)) 2 (.vr 3)) (.vr 10)) <|.ite (pjA (.pair tI (.pair .bool tRows)) 1 (.vr 3)) (.prim (.ar .add .i64) (.mk2 tI tI (.p1 tI (.pair .bool tRows) (.vr 3)) (.ci .i64 1)) <|.again 0 (mkA (.pair tI (.pair .bool tRows)) [(.vr 12),(.cb true),(.vr 11)])) (.prim (.ar .add .i64) (.mk2 tI tI (.p1 tI (.pair .bool tRows) (.vr 3)) (.ci .i64 1)) <|.again 0 (mkA (.pair tI (.pair .bool tRows)) [(.vr 12),(prA (.pair tInts .bool) 1 (.vr 9)),(.vr 11)]))) (.ret (.mk2 tRows .bool (prA (.pair tI (.pair .bool tRows)) 2 (.vr 3)) (pjA (.pair tI (.pair .bool tRows)) 1 (.vr 3))))
set_option maxRecDepth 100000 in
theorem e_s_l7Inputs:exFn Try.prog [c_s_OpForward] c_s_l7Inputs false 3000 ⟨[(2989,1003,drd 15 11++[.dr 1,.tm 8 0,.tm 7 0,.sl 2])],[(2996,1001,[13],[]),(2978,3010,[],[3])]⟩ = .ok t_s_l7Inputs:=by kernel_rfl
/- loops: (Int) × ((Bool) × (List (List (Int)))) -/
theorem v_s_l7Inputs (x:ModelD × IntsD) (hx:okD (.pair tModel tInts) x) (hp:(fun x=>vecB x.2=true∧List.length x.1≤8) x):t_s_l7Inputs.wp [c_s_OpForward] [⟨(.pair tModel tInts),x⟩] [] (fun v=>v.as (.pair tRows .bool)=(fun x=>inK2 x.1 x.2 (x.1:List OpD).length) x):=by
 obtain ⟨m,v⟩:=x
 obtain ⟨h1,hm⟩:vecB v=true∧m.length≤8:=hp
 have hv:=(vecB_iff v).1 h1
 delta t_s_l7Inputs c_s_OpForward;refine vcx ?_;try with_reducible exact True.intro
 (refine dcx ?_;try with_reducible exact True.intro)
 refine ⟨⟨by omega,by unfold maxLen;omega⟩,fun _ _=>?_⟩
 ·skip
  refine loopF (fun k=>((k:Int),(inK2 m v k).2,(inK2 m v k).1)) m.length rfl fun I μ k hk _ go=>?_
  dsimp only
  simp only[Int.toNat_natCast,Bool.not_eq_true',Bool.not_eq_false',Bool.and_eq_true,Bool.and_eq_false_iff,decide_eq_true_eq,decide_eq_false_iff_not,Int.not_lt,Int.not_le,ge_iff_le,gt_iff_lt,List.length_cons,List.length_nil,List.length_append,Nat.zero_add,List.nil_append,beq_iff_eq,beq_eq_false_iff_ne,bne_iff_ne,bne_eq_false_iff_eq,ne_eq,toNat_pred,toNat_succ,toNat_l0,toNat_l1,inK2_len]
  (repeat' first|intro _|(refine go _ ?_ ?_ ?_)|(refine go _ ?_ ?_)|(with_reducible apply And.intro))
  all_goals first|omega|(unfold maxLen;omega)|exact Prod.ext rfl (Prod.ext (or2_t (by assumption)) rfl)|exact Prod.ext rfl (Prod.ext (or2_f (by assumption)) rfl)|(have e:k=m.length:=(by omega);subst e;rfl)
theorem h_s_l7Inputs:Con.Holds Try.prog c_s_l7Inputs:=tree_ok mixedP (consAt h_s_OpForward consNil) e_s_l7Inputs fun x hx hp=>v_s_l7Inputs x hx hp

/-! impl.goBack -/

noncomputable def c_i_goBack:Con:=⟨114,(.pair tModel (.pair tRows tInts)),(.pair tRows (.pair tInts .bool)),[.val ⟨false,tModel,[]⟩,.val ⟨false,tRows,[]⟩,.val ⟨false,tInts,[1]⟩],[⟨false,tRows,[1]⟩,⟨false,tInts,[1]⟩,⟨false,.bool,[0]⟩],false,none,
 ((fun x=>List.length x.1≤8∧List.length x.1≤List.length x.2.1):(ModelD × (RowsD × IntsD))→Prop),
 ((fun x=>backF x.1 x.2.1 x.2.2):(ModelD × (RowsD × IntsD))→(RowsD × (IntsD × Bool)))⟩
def t_i_goBack:T:=.prim (.llen 61 tOp) (.p1 tModel (.pair tRows tInts) (.vr 0)) <|.prim (.rep 92 tInts 24) (.vr 1) <|.prim (.llen 61 tOp) (.p1 tModel (.pair tRows tInts) (.vr 0)) <|.prim (.ar .sub .i64) (.mk2 tI tI (.vr 3) (.ci .i64 1)) <|.loop (.pair tI (.pair .bool (.pair tInts (.pair tRows tInts)))) (mkA (.pair tI (.pair .bool (.pair tInts (.pair tRows tInts)))) [(.vr 4),(.cb false),(prA (.pair tModel (.pair tRows tInts)) 2 (.vr 0)),(.vr 2),(prA (.pair tModel (.pair tRows tInts)) 2 (.vr 0))]) <|.prim (.cmp .geq .i64) (.mk2 tI tI (.p1 tI (.pair .bool (.pair tInts (.pair tRows tInts))) (.vr 5)) (.ci .i64 0)) <|.ite (.vr 6) (.prim (.lidx 61 tOp) (.mk2 tModel tI (.p1 tModel (.pair tRows tInts) (.vr 0)) (.p1 tI (.pair .bool (.pair tInts (.pair tRows tInts))) (.vr 5))) <|.prim (.lidx 92 tInts) (.mk2 tRows tI (pjA (.pair tModel (.pair tRows tInts)) 1 (.vr 0)) (.p1 tI (.pair .bool (.pair tInts (.pair tRows tInts))) (.vr 5))) <|.call 0 (mkA (.pair tOp tPair) [(.vr 7),(.vr 8),(prA (.pair tI (.pair .bool (.pair tInts (.pair tRows tInts)))) 4 (.vr 5))]) <|.prim (.lidx 92 tInts) (.mk2 tRows tI (pjA (.pair tI (.pair .bool (.pair tInts (.pair tRows tInts)))) 3 (.vr 5)) (.p1 tI (.pair .bool (.pair tInts (.pair tRows tInts))) (.vr 5))) <|.prim (.lset 92 tInts) (mkA (.pair tRows tItem) [(pjA (.pair tI (.pair .bool (.pair tInts (.pair tRows tInts)))) 3 (.vr 5)),(.p1 tI (.pair .bool (.pair tInts (.pair tRows tInts))) (.vr 5)),(pjA (.pair tInts (.pair tInts .bool)) 1 (.vr 9))]) <|.ite (pjA (.pair tI (.pair .bool (.pair tInts (.pair tRows tInts)))) 1 (.vr 5)) (.prim (.ar .sub .i64) (.mk2 tI tI (.p1 tI (.pair .bool (.pair tInts (.pair tRows tInts))) (.vr 5)) (.ci .i64 1)) <|.again 0 (mkA (.pair tI (.pair .bool (.pair tInts (.pair tRows tInts)))) [(.vr 12),(.cb true),(.p1 tInts (.pair tInts .bool) (.vr 9)),(.vr 11),(.p1 tInts (.pair tInts .bool) (.vr 9))])) (.prim (.ar .sub .i64) (.mk2 tI tI (.p1 tI (.pair .bool (.pair tInts (.pair tRows tInts))) (.vr 5)) (.ci .i64 1)) <|.again 0 (mkA (.pair tI (.pair .bool (.pair tInts (.pair tRows tInts)))) [(.vr 12),(prA (.pair tInts (.pair tInts .bool)) 2 (.vr 9)),(.p1 tInts (.pair tInts .bool) (.vr 9)),(.vr 11),(.p1 tInts (.pair tInts .bool) (.vr 9))]))) (.ret (mkA (.pair tRows (.pair tInts .bool)) [(pjA (.pair tI (.pair .bool (.pair tInts (.pair tRows tInts)))) 3 (.vr 5)),(prA (.pair tI (.pair .bool (.pair tInts (.pair tRows tInts)))) 4 (.vr 5)),(pjA (.pair tI (.pair .bool (.pair tInts (.pair tRows tInts)))) 1 (.vr 5))]))
set_option maxRecDepth 100000 in
theorem e_i_goBack:exFn Try.prog [c_i_OpBackward] c_i_goBack false 3000 ⟨[(2989,1005,drd 20 15++[.tm 11 0,.tm 10 0,.tm 2 0,.sl 2,.sl 1])],[(2978,3010,[],[4])]⟩ = .ok t_i_goBack:=by kernel_rfl
/- loops: (Int) × ((Bool) × ((List (Int)) × ((List (List (Int))) × (List (Int))))) -/
theorem v_i_goBack (x:ModelD × (RowsD × IntsD)) (hx:okD (.pair tModel (.pair tRows tInts)) x) (hp:(fun x=>List.length x.1≤8∧List.length x.1≤List.length x.2.1) x):t_i_goBack.wp [c_i_OpBackward] [⟨(.pair tModel (.pair tRows tInts)),x⟩] [] (fun v=>v.as (.pair tRows (.pair tInts .bool))=(fun x=>backF x.1 x.2.1 x.2.2) x):=by
 obtain ⟨m,r,d⟩:=x
 obtain ⟨hm,hr⟩:m.length≤8∧m.length≤r.length:=hp
 delta t_i_goBack c_i_OpBackward;refine vcx ?_;try with_reducible exact True.intro
 (refine dcx ?_;try with_reducible exact True.intro)
 obtain ⟨n,hn⟩:∃ n,n=m.length:=⟨_,rfl⟩
 rw[show backF m r d=backK m r d n n by rw[hn];rfl,← hn]
 refine fun _=>⟨⟨by omega,by omega,by omega⟩,fun _ _=>⟨by omega,fun _=>?_⟩⟩
 refine loopF (fun k=>((n:Int) - 1 - (k:Int),(backK m r d n k).2.2,(backK m r d n k).2.1,(backK m r d n k).1,(backK m r d n k).2.1)) n (by show (_,_)=(_,_);simp only[backK,Int.natCast_zero,Int.sub_zero];rfl) fun I μ k hk _ go=>?_
 dsimp only
 have hgl:=backK_len m r d n k
 by_cases hkn:k<n
 ·obtain ⟨j,hj⟩:∃ j,j=n - 1 - k:=⟨_,rfl⟩
  have e:(n:Int) - 1 - (k:Int)=(j:Int):=by omega
  rw[e] at go
  simp only[e,Int.toNat_natCast,Bool.not_eq_true',Bool.not_eq_false',Bool.and_eq_true,Bool.and_eq_false_iff,decide_eq_true_eq,decide_eq_false_iff_not,Int.not_lt,Int.not_le,ge_iff_le,gt_iff_lt,List.length_cons,List.length_nil,List.length_append,Nat.zero_add,List.nil_append,beq_iff_eq,beq_eq_false_iff_ne,bne_iff_ne,bne_eq_false_iff_eq,ne_eq,toNat_pred,toNat_succ,toNat_l0,toNat_l1]
  have e2:∀ (F:Bool) (hF:F=((backK m r d n k).2.2 || (opBwd (m.getD j zOp) (r.getD j []) (backK m r d n k).2.1).2.2)),((j:Int) - 1,F,(opBwd (m.getD j zOp) (r.getD j []) (backK m r d n k).2.1).1,(backK m r d n k).1.set j (opBwd (m.getD j zOp) (r.getD j []) (backK m r d n k).2.1).2.1,(opBwd (m.getD j zOp) (r.getD j []) (backK m r d n k).2.1).1)=((n:Int) - 1 - ((k+1:Nat):Int),(backK m r d n (k+1)).2.2,(backK m r d n (k+1)).2.1,(backK m r d n (k+1)).1,(backK m r d n (k+1)).2.1):=fun F hF=>by
   rw[hF,backK,← hj]
   exact Prod.ext (by show (j:Int) - 1=(n:Int) - 1 - ((k+1:Nat):Int);omega) rfl
  (repeat' first|intro _|(refine go _ ?_ ?_ ?_)|(refine go _ ?_ ?_)|(with_reducible apply And.intro))
  all_goals first|omega|exact e2 _ (or2_t (by assumption))|exact e2 _ (or2_f (by assumption))
 ·have e:k=n:=by omega
  subst e
  simp only[show (k:Int) - 1 - (k:Int) = -1 by omega,Int.toNat_natCast,Bool.not_eq_true',Bool.not_eq_false',Bool.and_eq_true,Bool.and_eq_false_iff,decide_eq_true_eq,decide_eq_false_iff_not,Int.not_lt,Int.not_le,ge_iff_le,gt_iff_lt,List.length_cons,List.length_nil,List.length_append,Nat.zero_add,List.nil_append,beq_iff_eq,beq_eq_false_iff_ne,bne_iff_ne,bne_eq_false_iff_eq,ne_eq,toNat_pred,toNat_succ,toNat_l0,toNat_l1]
  (repeat' first|intro _|(refine go _ ?_ ?_ ?_)|(refine go _ ?_ ?_)|(with_reducible apply And.intro))
  all_goals first|omega|trivial|rfl
theorem h_i_goBack:Con.Holds Try.prog c_i_goBack:=tree_ok mixedP (consAt h_i_OpBackward consNil) e_i_goBack fun x hx hp=>v_i_goBack x hx hp

/-! spec.l7Back -/

noncomputable def c_s_l7Back:Con:=⟨164,(.pair tModel (.pair tRows tInts)),(.pair tRows (.pair tInts .bool)),[.val ⟨false,tModel,[]⟩,.val ⟨false,tRows,[]⟩,.val ⟨false,tInts,[]⟩],[⟨false,tRows,[0]⟩,⟨false,tInts,[0]⟩,⟨false,.bool,[0]⟩],true,none,
 ((fun x=>List.length x.1≤8∧List.length x.1≤List.length x.2.1):(ModelD × (RowsD × IntsD))→Prop),
 ((fun x=>backF x.1 x.2.1 x.2.2):(ModelD × (RowsD × IntsD))→(RowsD × (IntsD × Bool)))⟩
def t_s_l7Back:T:=.prim (.llen 61 tOp) (.p1 tModel (.pair tRows tInts) (.vr 0)) <|.prim (.rep 92 tInts 24) (.vr 1) <|.prim (.llen 61 tOp) (.p1 tModel (.pair tRows tInts) (.vr 0)) <|.prim (.ar .sub .i64) (.mk2 tI tI (.vr 3) (.ci .i64 1)) <|.loop (.pair tI (.pair .bool (.pair tInts tRows))) (mkA (.pair tI (.pair .bool (.pair tInts tRows))) [(.vr 4),(.cb false),(prA (.pair tModel (.pair tRows tInts)) 2 (.vr 0)),(.vr 2)]) <|.prim (.cmp .geq .i64) (.mk2 tI tI (.p1 tI (.pair .bool (.pair tInts tRows)) (.vr 5)) (.ci .i64 0)) <|.ite (.vr 6) (.prim (.lidx 61 tOp) (.mk2 tModel tI (.p1 tModel (.pair tRows tInts) (.vr 0)) (.p1 tI (.pair .bool (.pair tInts tRows)) (.vr 5))) <|.prim (.lidx 92 tInts) (.mk2 tRows tI (pjA (.pair tModel (.pair tRows tInts)) 1 (.vr 0)) (.p1 tI (.pair .bool (.pair tInts tRows)) (.vr 5))) <|.call 0 (mkA (.pair tOp tPair) [(.vr 7),(.vr 8),(pjA (.pair tI (.pair .bool (.pair tInts tRows))) 2 (.vr 5))]) <|.prim (.lidx 92 tInts) (.mk2 tRows tI (prA (.pair tI (.pair .bool (.pair tInts tRows))) 3 (.vr 5)) (.p1 tI (.pair .bool (.pair tInts tRows)) (.vr 5))) <|.prim (.lset 92 tInts) (mkA (.pair tRows tItem) [(prA (.pair tI (.pair .bool (.pair tInts tRows))) 3 (.vr 5)),(.p1 tI (.pair .bool (.pair tInts tRows)) (.vr 5)),(pjA (.pair tInts (.pair tInts .bool)) 1 (.vr 9))]) <|.ite (pjA (.pair tI (.pair .bool (.pair tInts tRows))) 1 (.vr 5)) (.prim (.ar .sub .i64) (.mk2 tI tI (.p1 tI (.pair .bool (.pair tInts tRows)) (.vr 5)) (.ci .i64 1)) <|.again 0 (mkA (.pair tI (.pair .bool (.pair tInts tRows))) [(.vr 12),(.cb true),(.p1 tInts (.pair tInts .bool) (.vr 9)),(.vr 11)])) (.prim (.ar .sub .i64) (.mk2 tI tI (.p1 tI (.pair .bool (.pair tInts tRows)) (.vr 5)) (.ci .i64 1)) <|.again 0 (mkA (.pair tI (.pair .bool (.pair tInts tRows))) [(.vr 12),(prA (.pair tInts (.pair tInts .bool)) 2 (.vr 9)),(.p1 tInts (.pair tInts .bool) (.vr 9)),(.vr 11)]))) (.ret (mkA (.pair tRows (.pair tInts .bool)) [(prA (.pair tI (.pair .bool (.pair tInts tRows))) 3 (.vr 5)),(pjA (.pair tI (.pair .bool (.pair tInts tRows))) 2 (.vr 5)),(pjA (.pair tI (.pair .bool (.pair tInts tRows))) 1 (.vr 5))]))
set_option maxRecDepth 100000 in
theorem e_s_l7Back:exFn Try.prog [c_s_OpBackward] c_s_l7Back false 3000 ⟨[(2989,1005,drd 20 15++[.tm 11 0,.tm 10 0,.tm 2 0,.sl 1])],[(2978,3010,[],[3])]⟩ = .ok t_s_l7Back:=by kernel_rfl
/- loops: (Int) × ((Bool) × ((List (Int)) × (List (List (Int))))) -/
theorem v_s_l7Back (x:ModelD × (RowsD × IntsD)) (hx:okD (.pair tModel (.pair tRows tInts)) x) (hp:(fun x=>List.length x.1≤8∧List.length x.1≤List.length x.2.1) x):t_s_l7Back.wp [c_s_OpBackward] [⟨(.pair tModel (.pair tRows tInts)),x⟩] [] (fun v=>v.as (.pair tRows (.pair tInts .bool))=(fun x=>backF x.1 x.2.1 x.2.2) x):=by
 obtain ⟨m,r,d⟩:=x
 obtain ⟨hm,hr⟩:m.length≤8∧m.length≤r.length:=hp
 delta t_s_l7Back c_s_OpBackward;refine vcx ?_;try with_reducible exact True.intro
 (refine dcx ?_;try with_reducible exact True.intro)
 obtain ⟨n,hn⟩:∃ n,n=m.length:=⟨_,rfl⟩
 rw[show backF m r d=backK m r d n n by rw[hn];rfl,← hn]
 refine fun _=>⟨⟨by omega,by omega,by omega⟩,fun _ _=>⟨by omega,fun _=>?_⟩⟩
 refine loopF (fun k=>((n:Int) - 1 - (k:Int),(backK m r d n k).2.2,(backK m r d n k).2.1,(backK m r d n k).1)) n (by show (_,_)=(_,_);simp only[backK,Int.natCast_zero,Int.sub_zero];rfl) fun I μ k hk _ go=>?_
 dsimp only
 have hgl:=backK_len m r d n k
 by_cases hkn:k<n
 ·obtain ⟨j,hj⟩:∃ j,j=n - 1 - k:=⟨_,rfl⟩
  have e:(n:Int) - 1 - (k:Int)=(j:Int):=by omega
  rw[e] at go
  simp only[e,Int.toNat_natCast,Bool.not_eq_true',Bool.not_eq_false',Bool.and_eq_true,Bool.and_eq_false_iff,decide_eq_true_eq,decide_eq_false_iff_not,Int.not_lt,Int.not_le,ge_iff_le,gt_iff_lt,List.length_cons,List.length_nil,List.length_append,Nat.zero_add,List.nil_append,beq_iff_eq,beq_eq_false_iff_ne,bne_iff_ne,bne_eq_false_iff_eq,ne_eq,toNat_pred,toNat_succ,toNat_l0,toNat_l1]
  have e2:∀ (F:Bool) (hF:F=((backK m r d n k).2.2 || (opBwd (m.getD j zOp) (r.getD j []) (backK m r d n k).2.1).2.2)),((j:Int) - 1,F,(opBwd (m.getD j zOp) (r.getD j []) (backK m r d n k).2.1).1,(backK m r d n k).1.set j (opBwd (m.getD j zOp) (r.getD j []) (backK m r d n k).2.1).2.1)=((n:Int) - 1 - ((k+1:Nat):Int),(backK m r d n (k+1)).2.2,(backK m r d n (k+1)).2.1,(backK m r d n (k+1)).1):=fun F hF=>by
   rw[hF,backK,← hj]
   exact Prod.ext (by show (j:Int) - 1=(n:Int) - 1 - ((k+1:Nat):Int);omega) rfl
  (repeat' first|intro _|(refine go _ ?_ ?_ ?_)|(refine go _ ?_ ?_)|(with_reducible apply And.intro))
  all_goals first|omega|exact e2 _ (or2_t (by assumption))|exact e2 _ (or2_f (by assumption))
 ·have e:k=n:=by omega
  subst e
  simp only[show (k:Int) - 1 - (k:Int) = -1 by omega,Int.toNat_natCast,Bool.not_eq_true',Bool.not_eq_false',Bool.and_eq_true,Bool.and_eq_false_iff,decide_eq_true_eq,decide_eq_false_iff_not,Int.not_lt,Int.not_le,ge_iff_le,gt_iff_lt,List.length_cons,List.length_nil,List.length_append,Nat.zero_add,List.nil_append,beq_iff_eq,beq_eq_false_iff_ne,bne_iff_ne,bne_eq_false_iff_eq,ne_eq,toNat_pred,toNat_succ,toNat_l0,toNat_l1]
  (repeat' first|intro _|(refine go _ ?_ ?_ ?_)|(refine go _ ?_ ?_)|(with_reducible apply And.intro))
  all_goals first|omega|trivial|rfl
theorem h_s_l7Back:Con.Holds Try.prog c_s_l7Back:=tree_ok mixedP (consAt h_s_OpBackward consNil) e_s_l7Back fun x hx hp=>v_s_l7Back x hx hp

/-! impl.fits -/

noncomputable def c_i_fits:Con:=⟨111,(.pair tModel tPair),.bool,[.val ⟨true,tModel,[]⟩,.val ⟨true,tPair,[]⟩],[⟨false,.bool,[0]⟩],false,none,
 ((fun _=>True):(ModelD × PairD)→Prop),
 ((fun x=>modelB x.1&&pairOkB x.1 x.2):(ModelD × PairD)→(Bool))⟩
def t_i_fits:T:=.call 0 (.p1 tModel tPair (.vr 0)) <|.ite (.vr 1) (.call 1 (.p1 tModel tPair (.vr 0)) <|.call 2 (.mk2 tInts tI (pjA (.pair tModel tPair) 1 (.vr 0)) (.vr 2)) <|.ite (.vr 3) (.call 3 (.p1 tModel tPair (.vr 0)) <|.call 2 (.mk2 tInts tI (prA (.pair tModel tPair) 2 (.vr 0)) (.vr 4)) <|.ret (.vr 5)) (.ret (.cb false))) (.ret (.cb false))
set_option maxRecDepth 100000 in
theorem e_i_fits:exFn Try.prog [c_i_ModelOk,c_i_InOf,c_i_vecOf,c_i_OutOf] c_i_fits false 3000 ⟨[],[]⟩ = .ok t_i_fits:=by kernel_rfl
theorem v_i_fits (x:ModelD × PairD) (hx:okD (.pair tModel tPair) x) (hp:(fun _=>True) x):t_i_fits.wp [c_i_ModelOk,c_i_InOf,c_i_vecOf,c_i_OutOf] [⟨(.pair tModel tPair),x⟩] [] (fun v=>v.as .bool=(fun x=>modelB x.1&&pairOkB x.1 x.2) x):=by
 delta t_i_fits c_i_ModelOk c_i_InOf c_i_vecOf c_i_OutOf;refine vcx ?_;try with_reducible exact True.intro
 refine ⟨fun h1 _=>⟨fun h2 _=>?_,fun h2=>?_⟩,fun h1=>?_⟩
 ·unfold pairOkB;rw[h1,h2];simp
 ·unfold pairOkB;rw[h2];simp
 ·rw[h1];rfl
theorem h_i_fits:Con.Holds Try.prog c_i_fits:=tree_ok mixedP (consAt h_i_ModelOk (consAt h_i_InOf (consAt h_i_vecOf (consAt h_i_OutOf consNil)))) e_i_fits fun x hx hp=>v_i_fits x hx hp

/-! spec.InOf -/

noncomputable def c_s_InOf:Con:=⟨48,tModel,tI,[.val ⟨true,tModel,[]⟩],[⟨false,tI,[0]⟩],false,none,
 ((fun _=>True):(ModelD)→Prop),
 ((fun x=>inOf x):(ModelD)→(Int))⟩
def t_s_InOf:T:=.call 0 (.vr 0) <|.prim .not (.vr 1) <|.ite (.vr 2) (.ret (.ci .i64 0)) (.prim (.lidx 61 tOp) (.mk2 tModel tI (.vr 0) (.ci .i64 0)) <|.ret (pjA tOp 1 (.vr 3)))
set_option maxRecDepth 100000 in
theorem e_s_InOf:exFn Try.prog [c_s_ModelOk] c_s_InOf false 3000 ⟨[],[]⟩ = .ok t_s_InOf:=by kernel_rfl
theorem v_s_InOf (x:ModelD) (hx:okD tModel x) (hp:(fun _=>True) x):t_s_InOf.wp [c_s_ModelOk] [⟨tModel,x⟩] [] (fun v=>v.as tI=(fun x=>inOf x) x):=by
 delta t_s_InOf c_s_ModelOk;refine vcx ?_;try with_reducible exact True.intro
 simp only[Bool.not_eq_true',Bool.not_eq_false']
 refine ⟨fun h=>?_,fun h=>?_⟩
 ·unfold inOf;rw[h];rfl
 ·have:=(modelB_iff x).1 h
  refine ⟨by omega,fun _=>?_⟩
  unfold inOf;rw[if_pos h];rfl
theorem h_s_InOf:Con.Holds Try.prog c_s_InOf:=tree_ok mixedP (consAt h_s_ModelOk consNil) e_s_InOf fun x hx hp=>v_s_InOf x hx hp

/-! spec.OutOf -/

noncomputable def c_s_OutOf:Con:=⟨126,tModel,tI,[.val ⟨true,tModel,[]⟩],[⟨false,tI,[0]⟩],false,none,
 ((fun _=>True):(ModelD)→Prop),
 ((fun x=>outOf x):(ModelD)→(Int))⟩
def t_s_OutOf:T:=.call 0 (.vr 0) <|.prim .not (.vr 1) <|.ite (.vr 2) (.ret (.ci .i64 0)) (.prim (.llen 61 tOp) (.vr 0) <|.prim (.ar .sub .i64) (.mk2 tI tI (.vr 3) (.ci .i64 1)) <|.prim (.lidx 61 tOp) (.mk2 tModel tI (.vr 0) (.vr 4)) <|.ret (pjA tOp 2 (.vr 5)))
set_option maxRecDepth 100000 in
theorem e_s_OutOf:exFn Try.prog [c_s_ModelOk] c_s_OutOf false 3000 ⟨[],[]⟩ = .ok t_s_OutOf:=by kernel_rfl
theorem v_s_OutOf (x:ModelD) (hx:okD tModel x) (hp:(fun _=>True) x):t_s_OutOf.wp [c_s_ModelOk] [⟨tModel,x⟩] [] (fun v=>v.as tI=(fun x=>outOf x) x):=by
 delta t_s_OutOf c_s_ModelOk;refine vcx ?_;try with_reducible exact True.intro
 simp only[Bool.not_eq_true',Bool.not_eq_false']
 refine ⟨fun h=>?_,fun h=>?_⟩
 ·unfold outOf;rw[h];rfl
 ·have:=(modelB_iff x).1 h
  refine fun _=>⟨by omega,fun _=>⟨by omega,fun _=>?_⟩⟩
  unfold outOf;rw[if_pos h,toNat_pred];rfl
theorem h_s_OutOf:Con.Holds Try.prog c_s_OutOf:=tree_ok mixedP (consAt h_s_ModelOk consNil) e_s_OutOf fun x hx hp=>v_s_OutOf x hx hp

/-! spec.BatchOk -/

noncomputable def c_s_BatchOk:Con:=⟨123,(.pair tModel tBatch),.bool,[.val ⟨true,tModel,[]⟩,.val ⟨false,tBatch,[]⟩],[⟨false,.bool,[0]⟩],false,none,
 ((fun _=>True):(ModelD × BatchD)→Prop),
 ((fun x=>batchB x.1 x.2):(ModelD × BatchD)→(Bool))⟩
def t_s_BatchOk:T:=.call 0 (.p1 tModel tBatch (.vr 0)) <|.prim .not (.vr 1) <|.ite (.vr 2) (.ret (.cb false)) (.prim (.llen 34 tPair) (prA (.pair tModel tBatch) 1 (.vr 0)) <|.call 1 (mkA (.pair tI tIns) [(.vr 3),(.ci .i64 1),(.ci .i64 5)]) <|.prim .not (.vr 4) <|.ite (.vr 5) (.ret (.cb false)) (.loop tI (.ci .i64 0) <|.prim (.llen 34 tPair) (prA (.pair tModel tBatch) 1 (.vr 0)) <|.prim (.cmp .lss .i64) (.mk2 tI tI (.vr 6) (.vr 7)) <|.ite (.vr 8) (.prim (.lidx 34 tPair) (.mk2 tBatch tI (prA (.pair tModel tBatch) 1 (.vr 0)) (.vr 6)) <|.call 2 (.p1 tInts tInts (.vr 9)) <|.prim .not (.vr 10) <|.ite (.vr 11) (.ret (.cb false)) (.prim (.lidx 34 tPair) (.mk2 tBatch tI (prA (.pair tModel tBatch) 1 (.vr 0)) (.vr 6)) <|.call 2 (prA tPair 1 (.vr 12)) <|.prim .not (.vr 13) <|.ite (.vr 14) (.ret (.cb false)) (.prim (.lidx 34 tPair) (.mk2 tBatch tI (prA (.pair tModel tBatch) 1 (.vr 0)) (.vr 6)) <|.prim (.llen 3 tI) (.p1 tInts tInts (.vr 15)) <|.call 3 (.p1 tModel tBatch (.vr 0)) <|.prim (.cmp .neq .i64) (.mk2 tI tI (.vr 16) (.vr 17)) <|.ite (.vr 18) (.ret (.cb false)) (.prim (.lidx 34 tPair) (.mk2 tBatch tI (prA (.pair tModel tBatch) 1 (.vr 0)) (.vr 6)) <|.prim (.llen 3 tI) (prA tPair 1 (.vr 19)) <|.call 4 (.p1 tModel tBatch (.vr 0)) <|.prim (.cmp .neq .i64) (.mk2 tI tI (.vr 20) (.vr 21)) <|.ite (.vr 22) (.ret (.cb false)) (.prim (.ar .add .i64) (.mk2 tI tI (.vr 6) (.ci .i64 1)) <|.again 0 (.vr 23)))))) (.ret (.cb true))))
set_option maxRecDepth 100000 in
theorem e_s_BatchOk:exFn Try.prog [c_s_ModelOk,c_s_l1In,c_s_VecOk,c_s_InOf,c_s_OutOf] c_s_BatchOk false 3000 ⟨[(2988,4006,drd 14 6++[.dr 0,.tm 5 0])],[]⟩ = .ok t_s_BatchOk:=by kernel_rfl
/- loops: Int -/
theorem v_s_BatchOk (x:ModelD × BatchD) (hx:okD (.pair tModel tBatch) x) (hp:(fun _=>True) x):t_s_BatchOk.wp [c_s_ModelOk,c_s_l1In,c_s_VecOk,c_s_InOf,c_s_OutOf] [⟨(.pair tModel tBatch),x⟩] [] (fun v=>v.as .bool=(fun x=>batchB x.1 x.2) x):=by
 obtain ⟨m,b⟩:=x
 have hm:b.length≤9223372036854775807:=hx.2.1
 delta t_s_BatchOk c_s_ModelOk c_s_l1In c_s_VecOk c_s_InOf c_s_OutOf;refine vcx ?_;try with_reducible exact True.intro
 simp only[Int.toNat_natCast,Bool.not_eq_true',Bool.not_eq_false',Bool.and_eq_true,Bool.and_eq_false_iff,decide_eq_true_eq,decide_eq_false_iff_not,Int.not_lt,Int.not_le,ge_iff_le,gt_iff_lt,List.length_cons,List.length_nil,List.length_append,Nat.zero_add,List.nil_append,beq_iff_eq,beq_eq_false_iff_ne,bne_iff_ne,bne_eq_false_iff_eq,ne_eq,toNat_pred,toNat_succ,toNat_l0,toNat_l1,neqI_t,neqI_f]
 refine ⟨fun h=>batch_f1 h,fun h1 _=>⟨fun h=>batch_f2 (by omega),fun h2=>?_⟩⟩
 refine loopG (fun k=>(k:Int)) (fun k=>(List.take k b).all (pairOkB m)=true) b.length rfl rfl fun I μ k hk hG _ go=>?_
 try dsimp only
 (refine dcx ?_;try with_reducible exact True.intro)
 intro _
 constructor
 ·intro hlt
  have hk':k<b.length:=by omega
  have e:=all_next (pairOkB m) b hk'
  rw[hG,Bool.true_and] at e
  have bad:pairOkB m b[k]=false→false=batchB m b:=fun h=>batch_f3 (all_bad hk' h)
  simp only[getD_at hk']
  (repeat' first|intro _|(refine go _ ?_ ?_ ?_)|(refine go _ ?_ ?_)|(with_reducible apply And.intro))
  all_goals first|omega|exact bad (pair_f (.inl (by assumption)))|exact bad (pair_f (.inr (.inl (by assumption))))|exact bad (pair_f (.inr (.inr (.inl (by assumption)))))|exact bad (pair_f (.inr (.inr (.inr (by assumption)))))|exact e.trans (pair_t (by assumption) (by assumption) (by assumption) (by assumption))|rfl
 ·intro hge
  rw[List.take_of_length_le (by omega)] at hG
  exact batch_t h1 ⟨by omega,by omega⟩ hG
theorem h_s_BatchOk:Con.Holds Try.prog c_s_BatchOk:=tree_ok mixedP (consAt h_s_ModelOk (consAt h_s_l1In (consAt h_s_VecOk (consAt h_s_InOf (consAt h_s_OutOf consNil))))) e_s_BatchOk fun x hx hp=>v_s_BatchOk x hx hp
end Go.Proofs.Ytahggdiafncdhaa
