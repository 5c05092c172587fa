/- Same3: lemmas. No conditions. -/
import Derived.Test.YtpafjioccjpmfaaGreatOps2
namespace Go.Proofs.YtpafjioccjpmfaaGreat
open Go.ChangeShapes Go.WideShapes Go.ChangeAt Go.RowKit Go.Deep
set_option linter.unusedVariables false
set_option linter.unusedSimpArgs false
theorem bNJ {x y:Int}:(x != y)=true↔¬ x=y:=by rw[bne_iff_ne]
theorem bOG {x y:Int}:(x != y)=false↔x=y:=by rw[bne_eq_false_iff_eq]
noncomputable def eF:Con:=⟨98,aA,aE,[.val ⟨true,aA,[]⟩],[⟨true,aE,[0]⟩],true,none,
 ((fun _=>True):(bG)→Prop),
 ((fun x=>x.2.2.1):(bG)→(bE))⟩
def aAU:T:=.ret (aH aA 2 (.Z 0))
set_option maxRecDepth 100000 in
theorem aWS:bW Tryz.prog [] eF false 3000 ⟨[],[]⟩ = .ok aAU:=by kernel_rfl
theorem aU9 (x:bG) (hx:okD aA x) (hp:(fun _=>True) x):aAU.wp [] [⟨aA,x⟩] [] (fun v=>v.as aE=(fun x=>x.2.2.1) x):=by
 delta aAU;refine dY ?_;try with_reducible exact True.intro
theorem uI:Con.Holds Tryz.prog eF:=aX aZ aT aWS aU9
end Go.Proofs.YtpafjioccjpmfaaGreat
