/- Same3: trees, and what they say. -/
import Derived.Test.YtmfpkkbhnmkfdaaGreatOps2
namespace Go.Proofs.YtmfpkkbhnmkfdaaGreat
open Go.ChangeShapes Go.WideShapes Go.ChangeAt Go.RowKit Go.Deep
set_option linter.unusedVariables false
set_option linter.unusedSimpArgs false
theorem bDG {x y:Bool}:(zM .bool x y != true) = true↔¬ x = y:=by cases x <;> cases y <;> simp [zM]
theorem bD9 {x y:Bool}:(zM .bool x y != true) = false↔x = y:=by cases x <;> cases y <;> simp [zM]
theorem aCN {x y:Int}:(x != y) = true↔¬ x = y:=by rw [bne_iff_ne]
theorem aCX {x y:Int}:(x != y) = false↔x = y:=by rw [bne_eq_false_iff_eq]
noncomputable def dU:Con:=⟨205,aA,aN,[.val ⟨true,aA,[]⟩],[⟨true,aN,[0]⟩],true,none,
 ((fun _=>True):(bA)→Prop),
 ((fun x=>x.2.2.1):(bA)→(dA))⟩
def wX:T :=
 .ret (aJ aA 2 (.vr 0))
set_option maxRecDepth 100000 in
theorem aPZ:bS Tryz.prog [] dU false 3000 ⟨[],[]⟩ = .ok wX:=by kernel_rfl
theorem aNL (x:bA) (hx:okD aA x) (hp:(fun _=>True) x):wX.wp [] [⟨aA,x⟩] [] (fun v=>v.as aN = (fun x=>x.2.2.1) x):=by
 delta wX;refine eS ?_;try with_reducible exact True.intro
theorem qT:Con.Holds Tryz.prog dU:=aT aY aU aPZ fun x hx hp=>aNL x hx hp
end Go.Proofs.YtmfpkkbhnmkfdaaGreat
