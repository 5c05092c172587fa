/- Same3: lemmas. No conditions. -/
import Derived.Test.YtdeobhdbmehpgaaGreatOps2
namespace Go.Proofs.YtdeobhdbmehpgaaGreat
noncomputable section
open Go.ChangeShapes Go.WideShapes Go.ChangeAt Go.RowKit Go.Deep
set_option linter.unusedVariables false
set_option linter.unusedSimpArgs false
theorem bDO {x y:Bool}:(aFV .bool x y != true)=true↔¬ x=y:=by cases x <;> cases y <;> simp[aFV]
theorem bD7 {x y:Bool}:(aFV .bool x y != true)=false↔x=y:=by cases x <;> cases y <;> simp[aFV]
theorem aBZ {x y:Int}:(x != y)=true↔¬ x=y:=by rw[bne_iff_ne]
theorem aCO {x y:Int}:(x != y)=false↔x=y:=by rw[bne_eq_false_iff_eq]
def nG:Con:=⟨60,aB,aF,[.val ⟨true,aB,[]⟩],[⟨true,aF,[0]⟩],true,none,
 ((fun _=>True):(aM)→Prop),
 ((fun x=>x.2.2.1):(aM)→(bL))⟩
def wH:T:=.ret (aI aB 2 (.Z 0))
set_option maxRecDepth 100000 in
theorem aNC:bJ Tryz.prog [] nG false 3000 ⟨[],[]⟩ = .ok wH:=by kernel_rfl
theorem aNA (x:aM) (hx:okD aB x) (hp:(fun _=>True) x):wH.wp [] [⟨aB,x⟩] [] (fun v=>v.as aF=(fun x=>x.2.2.1) x):=by
 delta wH;refine eE ?_;try with_reducible exact True.intro
theorem aMH:Con.Holds Tryz.prog nG:=aQ aR aO aNC aNA
end
end Go.Proofs.YtdeobhdbmehpgaaGreat
