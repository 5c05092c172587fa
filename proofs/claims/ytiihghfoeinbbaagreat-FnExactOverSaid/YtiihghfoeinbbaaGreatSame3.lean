/- Same3: lemmas. No conditions. -/
import Derived.Test.YtiihghfoeinbbaaGreatOps2
namespace Go.Proofs.YtiihghfoeinbbaaGreat
open Go.ChangeShapes Go.WideShapes Go.ChangeAt Go.RowKit Go.Deep
set_option linter.unusedVariables false
set_option linter.unusedSimpArgs false
theorem bLL {x y:Bool}:(aCT .bool x y != true)=true↔¬ x=y:=by cases x <;> cases y <;> simp[aCT]
theorem bL2 {x y:Bool}:(aCT .bool x y != true)=false↔x=y:=by cases x <;> cases y <;> simp[aCT]
theorem aE7 {x y:Int}:(x != y)=true↔¬ x=y:=by rw[bne_iff_ne]
theorem aED {x y:Int}:(x != y)=false↔x=y:=by rw[bne_eq_false_iff_eq]
noncomputable def dV:Con:=⟨242,aA,aE,[.val ⟨true,aA,[]⟩],[⟨true,aE,[0]⟩],true,none,
 ((fun _=>True):(bC)→Prop),
 ((fun x=>x.2.2.1):(bC)→(bM))⟩
def aAP:T:=.ret (aJ aA 2 (.Z 0))
set_option maxRecDepth 100000 in
theorem aVC:bL Tryz.prog [] dV false 3000 ⟨[],[]⟩ = .ok aAP:=by kernel_rfl
theorem aRY (x:bC) (hx:okD aA x) (hp:(fun _=>True) x):aAP.wp [] [⟨aA,x⟩] [] (fun v=>v.as aE=(fun x=>x.2.2.1) x):=by
 delta aAP;refine dD ?_;try with_reducible exact True.intro
theorem uE:Con.Holds Tryz.prog dV:=aR aW aS aVC aRY
end Go.Proofs.YtiihghfoeinbbaaGreat
