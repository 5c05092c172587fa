/- Same3: lemmas. No conditions. -/
import Derived.Test.YtlabadaccldkaaaGreatOps2
namespace Go.Proofs.YtlabadaccldkaaaGreat
open Go.ChangeShapes Go.WideShapes Go.ChangeAt Go.RowKit Go.Deep
set_option linter.unusedVariables false
set_option linter.unusedSimpArgs false
noncomputable def nA:Con:=⟨100,aB,aK,[.val ⟨true,aB,[]⟩],[⟨true,aK,[0]⟩],true,none,
 ((fun _=>True):(bA)→Prop),
 ((fun x=>x.2.2.1):(bA)→(hZ))⟩
def uU:T:=.ret (aO aB 2 (.Z 0))
set_option maxRecDepth 100000 in
theorem aJM:cW Tryz.prog [] nA false 3000 ⟨[],[]⟩ = .ok uU:=by kernel_rfl
theorem aJ3 (x:bA) (hx:okD aB x) (hp:(fun _=>True) x):uU.wp [] [⟨aB,x⟩] [] (fun v=>v.as aK=(fun x=>x.2.2.1) x):=by
 delta uU;refine jN ?_;try with_reducible exact True.intro
theorem aLF:Con.Holds Tryz.prog nA:=aX bI aY aJM aJ3
end Go.Proofs.YtlabadaccldkaaaGreat
