/- Same3: lemmas. No conditions. -/
import Derived.Test.YtmfpkkbhnmkfdaaGreatOps2
namespace Go.Proofs.YtmfpkkbhnmkfdaaGreat
noncomputable section
open Go.ChangeShapes Go.WideShapes Go.ChangeAt Go.RowKit Go.Deep
set_option linter.unusedVariables false
set_option linter.unusedSimpArgs false
theorem bO1 {x y:Bool}:(aFB .bool x y != true)=true↔¬ x=y:=by cases x <;> cases y <;> simp[aFB]
theorem bNX {x y:Bool}:(aFB .bool x y != true)=false↔x=y:=by cases x <;> cases y <;> simp[aFB]
theorem aFL {x y:Int}:(x != y)=true↔¬ x=y:=by rw[bne_iff_ne]
theorem aFM {x y:Int}:(x != y)=false↔x=y:=by rw[bne_eq_false_iff_eq]
def eI:Con:=⟨205,aA,aE,[.val ⟨true,aA,[]⟩],[⟨true,aE,[0]⟩],true,none,
 ((fun _=>True):(bC)→Prop),
 ((fun x=>x.2.2.1):(bC)→(bO))⟩
def aB7:T:=.ret (aK aA 2 (.Z 0))
set_option maxRecDepth 100000 in
theorem aXJ:bN Tryz.prog [] eI false 3000 ⟨[],[]⟩ = .ok aB7:=by kernel_rfl
theorem aWA (x:bC) (hx:okD aA x) (hp:(fun _=>True) x):aB7.wp [] [⟨aA,x⟩] [] (fun v=>v.as aE=(fun x=>x.2.2.1) x):=by
 delta aB7;refine dD ?_;try with_reducible exact True.intro
theorem vM:Con.Holds Tryz.prog eI:=aS aV aT aXJ aWA
end
end Go.Proofs.YtmfpkkbhnmkfdaaGreat
