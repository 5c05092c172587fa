/- Fix2: lemmas. No conditions. -/
import Derived.Test.YtdeobhdbmehpgaaGreatCe
namespace Go.Proofs.YtdeobhdbmehpgaaGreat
noncomputable section
open Go.ChangeShapes Go.WideShapes Go.ChangeAt Go.RowKit Go.Deep
set_option linter.unusedVariables false
set_option linter.unusedSimpArgs false
theorem sJ (x:Int):-2147483647≤dX x∧dX x≤2147483647:=by unfold dX;omega
def fZ (x:Int):Bool:=decide (dX x=x)
theorem vU (x:Int):fZ x=true↔-2147483647≤x∧x≤2147483647:=by unfold fZ dX;rw[decide_eq_true_eq];omega
theorem pJ {α:Type} (F:α→Bool) (l:List α) {k:Nat} (h:k<l.length):(l.take (k+1)).all F=((l.take k).all F&&F l[k]):=by
 rw[List.take_succ_eq_append_getElem h,List.all_append];simp
theorem aAQ {α:Type} {F:α→Bool} {l:List α} {k:Nat} (h:k<l.length) (hb:F l[k]=false):l.all F=false:=by
 rw[List.all_eq_false]
 exact ⟨l[k],List.getElem_mem h,by simp[hb]⟩
def sR:Con:=⟨166,tI,.bool,[.val ⟨false,tI,[]⟩],[⟨false,.bool,[0]⟩],false,none,
 ((fun _=>True):(Int)→Prop),
 ((fun x=>fZ x):(Int)→(Bool))⟩
def aCD:T :=
 .bEM (.cmp .geq .i64) (.bEN tI tI (.Z 0) (.ci .i64 (-2147483647))) <|
 .ite (.Z 1) (
  .bEM (.cmp .leq .i64) (.bEN tI tI (.Z 0) (.ci .i64 2147483647)) <|
  .ret (.Z 2)) (
  .ret (.cb false))
set_option maxRecDepth 100000 in
theorem aW6:bJ Tryz.prog [] sR false 3000 ⟨[],[]⟩ = .ok aCD:=by kernel_rfl
theorem aVE (x:Int) (hx:okD tI x) (hp:(fun _=>True) x):aCD.wp [] [⟨tI,x⟩] [] (fun v=>v.as .bool=(fun x=>fZ x) x):=by
 delta aCD;refine eE ?_
 show (decide (x ≥ -2147483647)=true→decide (x≤2147483647)=decide (dX x=x))∧(decide (x ≥ -2147483647)=false→false=decide (dX x=x))
 unfold dX
 constructor
 ·intro h;simp at h ⊢;omega
 ·intro h;simp at h ⊢;omega
theorem aW9:Con.Holds Tryz.prog sR:=aQ aR aO aW6 aVE
end
end Go.Proofs.YtdeobhdbmehpgaaGreat
