/- Fix2: lemmas. No conditions. -/
import Derived.Test.YtlabadaccldkaaaGreatCe
namespace Go.Proofs.YtlabadaccldkaaaGreat
open Go.ChangeShapes Go.WideShapes Go.ChangeAt Go.RowKit Go.Deep
set_option linter.unusedVariables false
set_option linter.unusedSimpArgs false
def qX (x:Int):Bool:=decide (aDK x=x)
theorem aIT (x:Int):qX x=true↔-2147483647≤x∧x≤2147483647:=by unfold qX aDK;rw[decide_eq_true_eq];omega
theorem qY {α:Type} (F:α→Bool) (l:List α) {k:Nat} (h:k<l.length):(l.take (k+1)).all F=((l.take k).all F&&F l[k]):=by
 rw[List.take_succ_eq_append_getElem h,List.all_append];simp
theorem yB {α:Type} {F:α→Bool} {l:List α} {k:Nat} (h:k<l.length) (hb:F l[k]=false):l.all F=false:=by
 rw[List.all_eq_false]
 exact ⟨l[k],List.getElem_mem h,by simp[hb]⟩
noncomputable def qW:Con:=⟨109,tI,.bool,[.val ⟨false,tI,[]⟩],[⟨false,.bool,[0]⟩],false,none,
 ((fun _=>True):(Int)→Prop),
 ((fun x=>qX x):(Int)→(Bool))⟩
def zW:T :=
 .aWT (.cmp .geq .i64) (.aWU tI tI (.Z 0) (.ci .i64 (-2147483647))) <|
 .ite (.Z 1) (
  .aWT (.cmp .leq .i64) (.aWU tI tI (.Z 0) (.ci .i64 2147483647)) <|
  .ret (.Z 2)) (
  .ret (.cb false))
set_option maxRecDepth 100000 in
theorem aPE:cW Tryz.prog [] qW false 3000 ⟨[],[]⟩ = .ok zW:=by kernel_rfl
theorem aQQ (x:Int) (hx:okD tI x) (hp:(fun _=>True) x):zW.wp [] [⟨tI,x⟩] [] (fun v=>v.as .bool=(fun x=>qX x) x):=by
 delta zW;refine jN ?_
 show (decide (x ≥ -2147483647)=true→decide (x≤2147483647)=decide (aDK x=x))∧(decide (x ≥ -2147483647)=false→false=decide (aDK x=x))
 unfold aDK
 constructor
 ·intro h;simp at h ⊢;omega
 ·intro h;simp at h ⊢;omega
theorem aQJ:Con.Holds Tryz.prog qW:=aX bI aY aPE aQQ
end Go.Proofs.YtlabadaccldkaaaGreat
