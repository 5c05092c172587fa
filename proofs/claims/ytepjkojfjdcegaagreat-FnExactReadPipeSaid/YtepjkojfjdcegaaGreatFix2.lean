/- Fix2: trees, and what they say. -/
import Derived.Test.YtepjkojfjdcegaaGreatCe
namespace Go.Proofs.YtepjkojfjdcegaaGreat
open Go.ChangeShapes Go.WideShapes Go.ChangeAt Go.RowKit Go.Deep
set_option linter.unusedVariables false
set_option linter.unusedSimpArgs false
def fixB (x:Int):Bool:=decide (clampI x = x)
theorem fixB_iff (x:Int):fixB x = true↔-2147483647≤x∧x≤2147483647:=by unfold fixB clampI;rw [decide_eq_true_eq];omega
theorem all_next {α:Type} (F:α→Bool) (l:List α) {k:Nat} (h:k < l.length):(l.take (k + 1)).all F = ((l.take k).all F && F l[k]):=by
 rw [List.take_succ_eq_append_getElem h,List.all_append];simp
theorem all_bad {α:Type} {F:α→Bool} {l:List α} {k:Nat} (h:k < l.length) (hb:F l[k] = false):l.all F = false:=by
 rw [List.all_eq_false]
 exact ⟨l[k],List.getElem_mem h,by simp [hb]⟩
noncomputable def c_i_clamp:Con:=⟨180,tI,tI,[.val ⟨false,tI,[]⟩],[⟨false,tI,[0]⟩],false,none,
 ((fun _=>True):(Int)→Prop),
 ((fun x=>clampI x):(Int)→(Int))⟩
def t_i_clamp:T :=
 .prim (.mx .i64) (.mk2 tI tI (.vr 0) (.ci .i64 (-2147483647))) <|
 .prim (.mn .i64) (.mk2 tI tI (.vr 1) (.ci .i64 2147483647)) <|
 .ret (.vr 2)
noncomputable def c_i_FixOk:Con:=⟨128,tI,.bool,[.val ⟨false,tI,[]⟩],[⟨false,.bool,[0]⟩],false,none,
 ((fun _=>True):(Int)→Prop),
 ((fun x=>fixB x):(Int)→(Bool))⟩
def t_i_FixOk:T :=
 .prim (.cmp .geq .i64) (.mk2 tI tI (.vr 0) (.ci .i64 (-2147483647))) <|
 .ite (.vr 1) (
  .prim (.cmp .leq .i64) (.mk2 tI tI (.vr 0) (.ci .i64 2147483647)) <|
  .ret (.vr 2)) (
  .ret (.cb false))
set_option maxRecDepth 100000 in
theorem e_i_FixOk:exFn Tryz.prog [] c_i_FixOk false 3000 ⟨[],[]⟩ = .ok t_i_FixOk:=by kernel_rfl
theorem v_i_FixOk (x:Int) (hx:okD tI x) (hp:(fun _=>True) x):t_i_FixOk.wp [] [⟨tI,x⟩] [] (fun v=>v.as .bool = (fun x=>fixB x) x):=by
 delta t_i_FixOk;refine vcx ?_;try with_reducible exact True.intro
 show (decide (x ≥ -2147483647) = true→decide (x≤2147483647) = decide (clampI x = x))∧(decide (x ≥ -2147483647) = false→false = decide (clampI x = x))
 unfold clampI
 constructor
 ·intro h;simp at h ⊢;omega
 ·intro h;simp at h ⊢;omega
theorem h_i_FixOk:Con.Holds Tryz.prog c_i_FixOk:=tree_ok mixedP consNil e_i_FixOk fun x hx hp=>v_i_FixOk x hx hp
noncomputable def c_i_settle:Con:=⟨179,tI,(.pair tI .bool),[.val ⟨false,tI,[]⟩],[⟨false,tI,[0]⟩,⟨false,.bool,[0]⟩],false,none,
 ((fun _=>True):(Int)→Prop),
 ((fun x=>satI x):(Int)→(Int × Bool))⟩
def t_i_settle:T :=
 .call 0 (.vr 0) <|
 .call 1 (.vr 0) <|
 .prim .not (.vr 2) <|
 .ret (.mk2 tI .bool (.vr 1) (.vr 3))
noncomputable def c_i_FixAdd:Con:=⟨174,tIns,(.pair tI .bool),[.val ⟨false,tI,[]⟩,.val ⟨false,tI,[]⟩],[⟨false,tI,[0]⟩,⟨false,.bool,[0]⟩],false,none,
 ((fun _=>True):(Int × Int)→Prop),
 ((fun x=>fixAdd x.1 x.2):(Int × Int)→(Int × Bool))⟩
def t_i_FixAdd:T :=
 .call 0 (.p1 tI tI (.vr 0)) <|
 .call 0 (prA tIns 1 (.vr 0)) <|
 .prim (.ar .add .i64) (.mk2 tI tI (.vr 1) (.vr 2)) <|
 .call 1 (.vr 3) <|
 .ret (.vr 4)
noncomputable def c_i_copyInts:Con:=⟨173,tInts,tInts,[.val ⟨false,tInts,[]⟩],[⟨false,tInts,[2]⟩],false,none,
 ((fun x=>List.length x≤1000000000):(List Int)→Prop),
 ((fun x=>x):(List Int)→(List Int))⟩
def t_i_copyInts:T :=
 .prim (.lapp 3 tI 8) (.mk2 tInts tInts (.nl 3 tI) (.vr 0)) <|
 .ret (.vr 1)
end Go.Proofs.YtepjkojfjdcegaaGreat
