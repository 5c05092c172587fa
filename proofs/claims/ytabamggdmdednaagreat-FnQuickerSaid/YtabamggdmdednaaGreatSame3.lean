/- Same3: lemmas. No conditions. -/
import Derived.Test.YtabamggdmdednaaGreatOps2
namespace Go.Proofs.YtabamggdmdednaaGreat
open Go.ChangeShapes Go.WideShapes Go.ChangeAt Go.RowKit Go.Deep
set_option linter.unusedVariables false
set_option linter.unusedSimpArgs false
theorem bQT {x y:Bool}:(aGJ .bool x y != true)=true↔¬ x=y:=by cases x <;> cases y <;> simp[aGJ]
theorem bQX {x y:Bool}:(aGJ .bool x y != true)=false↔x=y:=by cases x <;> cases y <;> simp[aGJ]
theorem aFJ {x y:Int}:(x != y)=true↔¬ x=y:=by rw[bne_iff_ne]
theorem aF4 {x y:Int}:(x != y)=false↔x=y:=by rw[bne_eq_false_iff_eq]
noncomputable def dY:Con:=⟨101,aA,aE,[.val ⟨true,aA,[]⟩],[⟨true,aE,[0]⟩],true,none,
 ((fun _=>True):(bC)→Prop),
 ((fun x=>x.2.2.1):(bC)→(aY))⟩
def aCY:T:=.ret (aK aA 2 (.Z 0))
set_option maxRecDepth 100000 in
theorem aYZ:bI Tryz.prog [] dY false 3000 ⟨[],[]⟩ = .ok aCY:=by kernel_rfl
theorem aX5 (x:bC) (hx:okD aA x) (hp:(fun _=>True) x):aCY.wp [] [⟨aA,x⟩] [] (fun v=>v.as aE=(fun x=>x.2.2.1) x):=by
 delta aCY;refine cW ?_;try with_reducible exact True.intro
theorem vV:Con.Holds Tryz.prog dY:=aS aV aQ aYZ aX5
end Go.Proofs.YtabamggdmdednaaGreat
