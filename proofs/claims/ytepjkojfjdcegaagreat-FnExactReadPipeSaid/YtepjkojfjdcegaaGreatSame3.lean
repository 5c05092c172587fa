/- Same3: trees, and what they say. -/
import Derived.Test.YtepjkojfjdcegaaGreatOps2
namespace Go.Proofs.YtepjkojfjdcegaaGreat
open Go.ChangeShapes Go.WideShapes Go.ChangeAt Go.RowKit Go.Deep
set_option linter.unusedVariables false
set_option linter.unusedSimpArgs false
noncomputable def eqB {α:Type} (a b:α):Bool:=@decide (a = b) (Classical.propDecidable _)
noncomputable def c_i_modelOf:Con:=⟨99,tStage,tModel,[.val ⟨true,tStage,[]⟩],[⟨true,tModel,[0]⟩],true,none,
 ((fun _=>True):(StageD)→Prop),
 ((fun x=>x.2.2.1):(StageD)→(ModelD))⟩
def t_i_modelOf:T :=
 .ret (pjA tStage 2 (.vr 0))
set_option maxRecDepth 100000 in
theorem e_i_modelOf:exFn Tryz.prog [] c_i_modelOf false 3000 ⟨[],[]⟩ = .ok t_i_modelOf:=by kernel_rfl
theorem v_i_modelOf (x:StageD) (hx:okD tStage x) (hp:(fun _=>True) x):t_i_modelOf.wp [] [⟨tStage,x⟩] [] (fun v=>v.as tModel = (fun x=>x.2.2.1) x):=by
 delta t_i_modelOf;refine vcx ?_;try with_reducible exact True.intro
theorem h_i_modelOf:Con.Holds Tryz.prog c_i_modelOf:=tree_ok mixedP consNil e_i_modelOf fun x hx hp=>v_i_modelOf x hx hp
end Go.Proofs.YtepjkojfjdcegaaGreat
