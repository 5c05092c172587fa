/- Cpy2: trees, and what they say. -/
import Derived.Test.YtahggdiafncdhaaLin2
import Derived.Test.YtahggdiafncdhaaCe
namespace Go.Proofs.Ytahggdiafncdhaa
open Go.ChangeShapes Go.WideShapes Go.ChangeAt Go.RowKit Go.Deep
set_option linter.unusedVariables false
set_option linter.unusedSimpArgs false
theorem lenB9:{t:Ty}→{d:t.D}→szT t d≤1000000000→LenB t d:=by
 intro t
 induction t with
 | int k=>intros;trivial
 | bool=>intros;trivial
 | str=>intros;trivial
 | pair a b iha ihb =>
  intro d h
  have h':szT a d.1+szT b d.2≤1000000000:=h
  exact ⟨iha (by omega),ihb (by omega)⟩
 | slice e t ih =>
  intro l h
  exact ⟨Nat.le_trans (szT_len (e:=e) l) h,fun x hx=>ih (Nat.le_trans (szT_mem (e:=e) hx) h)⟩

/-! impl.copyOps -/

noncomputable def c_i_copyOps:Con:=⟨127,tModel,tModel,[.val ⟨false,tModel,[]⟩],[⟨false,tModel,[2]⟩],false,none,
 ((fun x=>szT tModel x≤1000000000):(ModelD)→Prop),
 ((fun x=>x):(ModelD)→(ModelD))⟩
def t_i_copyOps:T:=.prim (.llen 61 tOp) (.vr 0) <|.loop (.pair tI tModel) (.mk2 tI tModel (.ci .i64 0) (.nl 61 tOp)) <|.prim (.cmp .lss .i64) (.mk2 tI tI (.p1 tI tModel (.vr 2)) (.vr 1)) <|.ite (.vr 3) (.prim (.lidx 61 tOp) (.mk2 tModel tI (.vr 0) (.p1 tI tModel (.vr 2))) <|.call 0 (prA tOp 3 (.vr 4)) <|.prim (.lit 61 tOp 1) (mkA tOp [(.p1 tI (.pair tI tItem) (.vr 4)),(pjA tOp 1 (.vr 4)),(pjA tOp 2 (.vr 4)),(.vr 5)]) <|.prim (.lapp 61 tOp 48) (.mk2 tModel tModel (prA (.pair tI tModel) 1 (.vr 2)) (.vr 6)) <|.prim (.ar .add .i64) (.mk2 tI tI (.p1 tI tModel (.vr 2)) (.ci .i64 1)) <|.again 0 (.mk2 tI tModel (.vr 8) (.vr 7))) (.ret (prA (.pair tI tModel) 1 (.vr 2)))
set_option maxRecDepth 100000 in
theorem e_i_copyOps:exFn Try.prog [c_i_copyInts] c_i_copyOps false 3000 ⟨[(2991,1002,[.dr 6,.dr 0,.tm 9 0,.on 3,.sl 1])],[(2981,3005,[22],[])]⟩ = .ok t_i_copyOps:=by kernel_rfl
/- loops: (Int) × (List ((Int) × ((Int) × ((Int) × (List (Int)))))) -/
theorem v_i_copyOps (x:ModelD) (hx:okD tModel x) (hp:(fun x=>szT tModel x≤1000000000) x):t_i_copyOps.wp [c_i_copyInts] [⟨tModel,x⟩] [] (fun v=>v.as tModel=(fun x=>x) x):=by
 have hB:=lenB9 (t:=tModel) hp
 delta t_i_copyOps c_i_copyInts;refine vcx ?_;try with_reducible exact True.intro
 (repeat' first|intro _|(with_reducible apply And.intro))
 all_goals first|omega|(unfold maxLen;omega)|skip
 refine loopF (fun k=>((k:Int),List.take k x)) (List.length x) rfl fun I μ k hk _ go=>?_
 dsimp only
 (refine dcx ?_;try with_reducible exact True.intro)
 by_cases hkn:k<List.length x
 ·have hm:=hB.2 _ (List.getElem_mem hkn)
  have hn:=hB.1
  rw[getD_at hkn]
  (repeat' first|intro _|(refine go _ ?_ ?_ ?_)|(refine go _ ?_ ?_)|(with_reducible apply And.intro))
  all_goals first|omega|exact hm.2.2.2.1|(simp only[List.length_take];unfold maxLen;omega)|(simp only[List.length_take];omega)|(rw[take_at hkn];rfl)
 ·(repeat' first|intro _|(refine go _ ?_ ?_ ?_)|(refine go _ ?_ ?_)|(with_reducible apply And.intro))
  all_goals first|omega|(have e:k=List.length x:=(by omega);subst e;exact List.take_length)
theorem h_i_copyOps:Con.Holds Try.prog c_i_copyOps:=tree_ok mixedP (consAt h_i_copyInts consNil) e_i_copyOps fun x hx hp=>v_i_copyOps x hx hp

/-! spec.l11Ops -/

noncomputable def c_s_l11Ops:Con:=⟨133,tModel,tModel,[.val ⟨false,tModel,[]⟩],[⟨false,tModel,[2]⟩],false,none,
 ((fun x=>szT tModel x≤1000000000):(ModelD)→Prop),
 ((fun x=>x):(ModelD)→(ModelD))⟩
def t_s_l11Ops:T:=.loop (.pair tI tModel) (.mk2 tI tModel (.ci .i64 0) (.nl 61 tOp)) <|.prim (.llen 61 tOp) (.vr 0) <|.prim (.cmp .lss .i64) (.mk2 tI tI (.p1 tI tModel (.vr 1)) (.vr 2)) <|.ite (.vr 3) (.prim (.lidx 61 tOp) (.mk2 tModel tI (.vr 0) (.p1 tI tModel (.vr 1))) <|.prim (.lidx 61 tOp) (.mk2 tModel tI (.vr 0) (.p1 tI tModel (.vr 1))) <|.prim (.lapp 3 tI 8) (.mk2 tInts tInts (.nl 3 tI) (prA tOp 3 (.vr 5))) <|.prim (.lit 61 tOp 1) (mkA tOp [(.p1 tI (.pair tI tItem) (.vr 4)),(pjA tOp 1 (.vr 4)),(pjA tOp 2 (.vr 4)),(.vr 6)]) <|.prim (.lapp 61 tOp 48) (.mk2 tModel tModel (prA (.pair tI tModel) 1 (.vr 1)) (.vr 7)) <|.prim (.ar .add .i64) (.mk2 tI tI (.p1 tI tModel (.vr 1)) (.ci .i64 1)) <|.again 0 (.mk2 tI tModel (.vr 9) (.vr 8))) (.ret (prA (.pair tI tModel) 1 (.vr 1)))
set_option maxRecDepth 100000 in
theorem e_s_l11Ops:exFn Try.prog [] c_s_l11Ops false 3000 ⟨[(2991,1001,[.dr 6,.tm 4 0,.on 3,.sl 1])],[(2979,3007,[],[4])]⟩ = .ok t_s_l11Ops:=by kernel_rfl
/- loops: (Int) × (List ((Int) × ((Int) × ((Int) × (List (Int)))))) -/
theorem v_s_l11Ops (x:ModelD) (hx:okD tModel x) (hp:(fun x=>szT tModel x≤1000000000) x):t_s_l11Ops.wp [] [⟨tModel,x⟩] [] (fun v=>v.as tModel=(fun x=>x) x):=by
 have hB:=lenB9 (t:=tModel) hp
 delta t_s_l11Ops;refine vcx ?_;try with_reducible exact True.intro
 (repeat' first|intro _|(with_reducible apply And.intro))
 all_goals first|omega|(unfold maxLen;omega)|skip
 refine loopF (fun k=>((k:Int),List.take k x)) (List.length x) rfl fun I μ k hk _ go=>?_
 dsimp only
 (refine dcx ?_;try with_reducible exact True.intro)
 by_cases hkn:k<List.length x
 ·have hm:=hB.2 _ (List.getElem_mem hkn)
  have hn:=hB.1
  rw[getD_at hkn]
  (repeat' first|intro _|(refine go _ ?_ ?_ ?_)|(refine go _ ?_ ?_)|(with_reducible apply And.intro))
  all_goals first|omega|(have hn2:=hm.2.2.2.1;omega)|(have hn2:=hm.2.2.2.1;unfold maxLen;omega)|(simp only[List.length_take];unfold maxLen;omega)|(simp only[List.length_take];omega)|(rw[take_at hkn];rfl)
 ·(repeat' first|intro _|(refine go _ ?_ ?_ ?_)|(refine go _ ?_ ?_)|(with_reducible apply And.intro))
  all_goals first|omega|(have e:k=List.length x:=(by omega);subst e;exact List.take_length)
theorem h_s_l11Ops:Con.Holds Try.prog c_s_l11Ops:=tree_ok mixedP consNil e_s_l11Ops fun x hx hp=>v_s_l11Ops x hx hp
end Go.Proofs.Ytahggdiafncdhaa
