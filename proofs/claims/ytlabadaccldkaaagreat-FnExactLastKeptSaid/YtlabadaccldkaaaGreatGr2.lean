/- Gr2: lemmas. No conditions. -/
import Derived.Test.YtlabadaccldkaaaGreatFix2
namespace Go.Proofs.YtlabadaccldkaaaGreat
open Go.ChangeShapes Go.WideShapes Go.ChangeAt Go.RowKit Go.Deep
set_option linter.unusedVariables false
set_option linter.unusedSimpArgs false
noncomputable def bO:Con:=⟨51,(.aWS tI aJ),.bool,[.val ⟨false,tI,[]⟩,.val ⟨false,tI,[]⟩,.val ⟨false,tI,[]⟩],[⟨false,.bool,[0]⟩],false,none,
 ((fun _=>True):(Int × jR)→Prop),
 ((fun x=>decide (x.2.1≤x.1)&&decide (x.1≤x.2.2)):(Int × jR)→(Bool))⟩
def aD7:T :=
 .aWT (.cmp .geq .i64) (.aWU tI tI (.p1 tI aJ (.Z 0)) (aO (.aWS tI aJ) 1 (.Z 0))) <|
 .ite (.Z 1) (
  .aWT (.cmp .leq .i64) (.aWU tI tI (.p1 tI aJ (.Z 0)) (aG (.aWS tI aJ) 2 (.Z 0))) <|
  .ret (.Z 2)) (
  .ret (.cb false))
set_option maxRecDepth 100000 in
theorem aT3:cW Tryz.prog [] bO false 3000 ⟨[],[]⟩ = .ok aD7:=by kernel_rfl
theorem aR4 (x:Int × jR) (hx:okD (.aWS tI aJ) x) (hp:(fun _=>True) x):aD7.wp [] [⟨(.aWS tI aJ),x⟩] [] (fun v=>v.as .bool=(fun x=>decide (x.2.1≤x.1)&&decide (x.1≤x.2.2)) x):=by
 delta aD7;refine jN ?_
 refine gJ ?_
 constructor
 ·intro h;simp[h]
 ·intro h
  have:¬ x.2.1≤x.1:=by omega
  simp[this]
theorem iI:Con.Holds Tryz.prog bO:=aX bI aY aT3 aR4
end Go.Proofs.YtlabadaccldkaaaGreat
