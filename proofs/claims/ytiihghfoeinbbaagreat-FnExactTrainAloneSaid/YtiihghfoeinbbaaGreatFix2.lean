/- Fix2: trees, and what they say. -/
import Derived.Test.YtiihghfoeinbbaaGreatCe
namespace Go.Proofs.YtiihghfoeinbbaaGreat
open Go.ChangeShapes Go.WideShapes Go.ChangeAt Go.RowKit Go.Deep
set_option linter.unusedVariables false
set_option linter.unusedSimpArgs false
theorem clampI_b (x : Int) : -2147483647 ≤ clampI x ∧ clampI x ≤ 2147483647 := by unfold clampI; omega
def fixB (x : Int) : Bool := decide (clampI x = x)
theorem fixB_iff (x : Int) : fixB x = true ↔ -2147483647 ≤ x ∧ x ≤ 2147483647 := by unfold fixB clampI; rw [decide_eq_true_eq]; omega
theorem all_next {α : Type} (F : α → Bool) (l : List α) {k : Nat} (h : k < l.length) : (l.take (k + 1)).all F = ((l.take k).all F && F l[k]) := by
  rw [List.take_succ_eq_append_getElem h, List.all_append]; simp
theorem all_bad {α : Type} {F : α → Bool} {l : List α} {k : Nat} (h : k < l.length) (hb : F l[k] = false) : l.all F = false := by
  rw [List.all_eq_false]
  exact ⟨l[k], List.getElem_mem h, by simp [hb]⟩
noncomputable def c_i_clamp : Con := ⟨218, tI, tI, [.val ⟨false, tI, []⟩], [⟨false, tI, [0]⟩], false, none,
  ((fun _ => True) : (Int) → Prop),
  ((fun x => clampI x) : (Int) → (Int))⟩
def t_i_clamp : T :=
  .prim (.mx .i64) (.mk2 tI tI (.vr 0) (.ci .i64 (-2147483647))) <|
  .prim (.mn .i64) (.mk2 tI tI (.vr 1) (.ci .i64 2147483647)) <|
  .ret (.vr 2)
set_option maxRecDepth 100000 in
theorem e_i_clamp : exFn Tryz.prog [] c_i_clamp false 3000 ⟨[], []⟩ = .ok t_i_clamp := by kernel_rfl
theorem v_i_clamp (x : Int) (hx : okD tI x) (hp : (fun _ => True) x) : t_i_clamp.wp [] [⟨tI, x⟩] [] (fun v => v.as tI = (fun x => clampI x) x) := by
  delta t_i_clamp; refine vcx ?_; try with_reducible exact True.intro
  exact fun _ _ => rfl
theorem h_i_clamp : Con.Holds Tryz.prog c_i_clamp := tree_ok mixedP consNil e_i_clamp fun x hx hp => v_i_clamp x hx hp
noncomputable def c_i_FixOk : Con := ⟨127, tI, .bool, [.val ⟨false, tI, []⟩], [⟨false, .bool, [0]⟩], false, none,
  ((fun _ => True) : (Int) → Prop),
  ((fun x => fixB x) : (Int) → (Bool))⟩
def t_i_FixOk : T :=
  .prim (.cmp .geq .i64) (.mk2 tI tI (.vr 0) (.ci .i64 (-2147483647))) <|
  .ite (.vr 1) (
   .prim (.cmp .leq .i64) (.mk2 tI tI (.vr 0) (.ci .i64 2147483647)) <|
   .ret (.vr 2)) (
   .ret (.cb false))
set_option maxRecDepth 100000 in
theorem e_i_FixOk : exFn Tryz.prog [] c_i_FixOk false 3000 ⟨[], []⟩ = .ok t_i_FixOk := by kernel_rfl
theorem v_i_FixOk (x : Int) (hx : okD tI x) (hp : (fun _ => True) x) : t_i_FixOk.wp [] [⟨tI, x⟩] [] (fun v => v.as .bool = (fun x => fixB x) x) := by
  delta t_i_FixOk; refine vcx ?_; try with_reducible exact True.intro
  show (decide (x ≥ -2147483647) = true → decide (x ≤ 2147483647) = decide (clampI x = x)) ∧ (decide (x ≥ -2147483647) = false → false = decide (clampI x = x))
  unfold clampI
  constructor
  · intro h; simp at h ⊢; omega
  · intro h; simp at h ⊢; omega
theorem h_i_FixOk : Con.Holds Tryz.prog c_i_FixOk := tree_ok mixedP consNil e_i_FixOk fun x hx hp => v_i_FixOk x hx hp
noncomputable def c_i_settle : Con := ⟨217, tI, (.pair tI .bool), [.val ⟨false, tI, []⟩], [⟨false, tI, [0]⟩, ⟨false, .bool, [0]⟩], false, none,
  ((fun _ => True) : (Int) → Prop),
  ((fun x => satI x) : (Int) → (Int × Bool))⟩
def t_i_settle : T :=
  .call 0 (.vr 0) <|
  .call 1 (.vr 0) <|
  .prim .not (.vr 2) <|
  .ret (.mk2 tI .bool (.vr 1) (.vr 3))
set_option maxRecDepth 100000 in
theorem e_i_settle : exFn Tryz.prog [c_i_clamp, c_i_FixOk] c_i_settle false 3000 ⟨[], []⟩ = .ok t_i_settle := by kernel_rfl
theorem v_i_settle (x : Int) (hx : okD tI x) (hp : (fun _ => True) x) : t_i_settle.wp [c_i_clamp, c_i_FixOk] [⟨tI, x⟩] [] (fun v => v.as (.pair tI .bool) = (fun x => satI x) x) := by
  delta t_i_settle c_i_clamp c_i_FixOk; refine vcx ?_; try with_reducible exact True.intro
  intro _
  show (clampI x, !decide (clampI x = x)) = satI x
  unfold satI
  simp [eq_comm]
theorem h_i_settle : Con.Holds Tryz.prog c_i_settle := tree_ok mixedP (consAt h_i_clamp (consAt h_i_FixOk consNil)) e_i_settle fun x hx hp => v_i_settle x hx hp
noncomputable def c_i_FixAdd : Con := ⟨212, tIns, (.pair tI .bool), [.val ⟨false, tI, []⟩, .val ⟨false, tI, []⟩], [⟨false, tI, [0]⟩, ⟨false, .bool, [0]⟩], false, none,
  ((fun _ => True) : (Int × Int) → Prop),
  ((fun x => fixAdd x.1 x.2) : (Int × Int) → (Int × Bool))⟩
def t_i_FixAdd : T :=
  .call 0 (.p1 tI tI (.vr 0)) <|
  .call 0 (prA tIns 1 (.vr 0)) <|
  .prim (.ar .add .i64) (.mk2 tI tI (.vr 1) (.vr 2)) <|
  .call 1 (.vr 3) <|
  .ret (.vr 4)
set_option maxRecDepth 100000 in
theorem e_i_FixAdd : exFn Tryz.prog [c_i_clamp, c_i_settle] c_i_FixAdd false 3000 ⟨[], []⟩ = .ok t_i_FixAdd := by kernel_rfl
theorem v_i_FixAdd (x : Int × Int) (hx : okD tIns x) (hp : (fun _ => True) x) : t_i_FixAdd.wp [c_i_clamp, c_i_settle] [⟨tIns, x⟩] [] (fun v => v.as (.pair tI .bool) = (fun x => fixAdd x.1 x.2) x) := by
  delta t_i_FixAdd c_i_clamp c_i_settle; refine vcx ?_; try with_reducible exact True.intro
  intro _ _
  have h1 := clampI_b x.1
  have h2 := clampI_b x.2
  exact ⟨by omega, fun _ _ => rfl⟩
theorem h_i_FixAdd : Con.Holds Tryz.prog c_i_FixAdd := tree_ok mixedP (consAt h_i_clamp (consAt h_i_settle consNil)) e_i_FixAdd fun x hx hp => v_i_FixAdd x hx hp
noncomputable def c_i_copyInts : Con := ⟨207, tInts, tInts, [.val ⟨false, tInts, []⟩], [⟨false, tInts, [2]⟩], false, none,
  ((fun x => List.length x ≤ 1000000000) : (List Int) → Prop),
  ((fun x => x) : (List Int) → (List Int))⟩
def t_i_copyInts : T :=
  .prim (.lapp 3 tI 8) (.mk2 tInts tInts (.nl 3 tI) (.vr 0)) <|
  .ret (.vr 1)
set_option maxRecDepth 100000 in
theorem e_i_copyInts : exFn Tryz.prog [] c_i_copyInts false 3000 ⟨[], []⟩ = .ok t_i_copyInts := by kernel_rfl
theorem v_i_copyInts (x : List Int) (hx : okD tInts x) (hp : (fun x => List.length x ≤ 1000000000) x) : t_i_copyInts.wp [] [⟨tInts, x⟩] [] (fun v => v.as tInts = (fun x => x) x) := by
  have hp : List.length x ≤ 1000000000 := hp
  delta t_i_copyInts; refine vcx ?_; try with_reducible exact True.intro
  simp only [List.length_nil, Nat.zero_add, List.nil_append]
  exact ⟨by unfold maxLen; omega, fun _ => by first | rfl | trivial⟩
theorem h_i_copyInts : Con.Holds Tryz.prog c_i_copyInts := tree_ok mixedP consNil e_i_copyInts fun x hx hp => v_i_copyInts x hx hp
noncomputable def c_i_copyRows : Con := ⟨244, tRows, tRows, [.val ⟨false, tRows, []⟩], [⟨false, tRows, [2]⟩], false, none,
  ((fun x => List.length x ≤ 1000000000 ∧ ∀ y ∈ x, List.length y ≤ 1000000000) : (RowsD) → Prop),
  ((fun x => x) : (RowsD) → (RowsD))⟩
def t_i_copyRows : T :=
  .prim (.llen 156 tInts) (.vr 0) <|
  .loop tSaved (.mk2 tI tRows (.ci .i64 0) (.nl 156 tInts)) <|
   .prim (.cmp .lss .i64) (.mk2 tI tI (.p1 tI tRows (.vr 2)) (.vr 1)) <|
   .ite (.vr 3) (
    .prim (.lidx 156 tInts) (.mk2 tRows tI (.vr 0) (.p1 tI tRows (.vr 2))) <|
    .call 0 (.vr 4) <|
    .prim (.lit 156 tInts 1) (.vr 5) <|
    .prim (.lapp 156 tInts 24) (.mk2 tRows tRows (prA tSaved 1 (.vr 2)) (.vr 6)) <|
    .prim (.ar .add .i64) (.mk2 tI tI (.p1 tI tRows (.vr 2)) (.ci .i64 1)) <|
    .again 0 (.mk2 tI tRows (.vr 8) (.vr 7))) (
    .ret (prA tSaved 1 (.vr 2)))
end Go.Proofs.YtiihghfoeinbbaaGreat
