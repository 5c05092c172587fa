/- Fix2: trees, and what they say. -/
import Derived.Test.YtllphmcjocidaaaGreatDoorCe
namespace Go.Proofs.YtllphmcjocidaaaGreatDoor
open Go.ChangeShapes Go.WideShapes Go.ChangeAt Go.RowKit Go.Deep
set_option linter.unusedVariables false
set_option linter.unusedSimpArgs false
theorem clampI_b (x : Int) : -2147483647 ≤ clampI x ∧ clampI x ≤ 2147483647 := by unfold clampI; omega
theorem clampI_id {x : Int} (h1 : -2147483647 ≤ x) (h2 : x ≤ 2147483647) : clampI x = x := by unfold clampI; omega
theorem take_next {α : Type} {l : List α} {k : Nat} (h : k < l.length) (d : α) : l.take k ++ [l.getD k d] = l.take (k + 1) := by
  rw [List.take_succ_eq_append_getElem h, List.getD_eq_getElem?_getD, List.getElem?_eq_getElem h]; rfl
def fixB (x : Int) : Bool := decide (clampI x = x)
theorem fixB_iff (x : Int) : fixB x = true ↔ -2147483647 ≤ x ∧ x ≤ 2147483647 := by unfold fixB clampI; rw [decide_eq_true_eq]; omega
theorem all_next {α : Type} (F : α → Bool) (l : List α) {k : Nat} (h : k < l.length) : (l.take (k + 1)).all F = ((l.take k).all F && F l[k]) := by
  rw [List.take_succ_eq_append_getElem h, List.all_append]; simp
theorem all_bad {α : Type} {F : α → Bool} {l : List α} {k : Nat} (h : k < l.length) (hb : F l[k] = false) : l.all F = false := by
  rw [List.all_eq_false]
  exact ⟨l[k], List.getElem_mem h, by simp [hb]⟩
theorem rng_next (F : Nat → Bool) (k : Nat) : (List.range (k + 1)).all F = ((List.range k).all F && F k) := by
  rw [List.range_succ, List.all_append]; simp

/-! impl.FixOk -/

noncomputable def c_i_FixOk : Con := ⟨65, tI, .bool, [.val ⟨false, tI, []⟩], [⟨false, .bool, [0]⟩], false, none,
  ((fun _ => True) : (Int) → Prop),
  ((fun x => fixB x) : (Int) → (Bool))⟩
def t_i_FixOk : T :=
  .prim (.cmp .geq .i64) (.mk2 tI tI (.vr 0) (.ci .i64 (-2147483647))) <|
  .ite (.vr 1) (
   .prim (.cmp .leq .i64) (.mk2 tI tI (.vr 0) (.ci .i64 2147483647)) <|
   .ret (.vr 2)) (
   .ret (.cb false))
set_option maxRecDepth 100000 in
theorem e_i_FixOk : exFn Tryz.prog [] c_i_FixOk false 3000 ⟨[], []⟩ = .ok t_i_FixOk := by kernel_rfl
theorem v_i_FixOk (x : Int) (hx : okD tI x) (hp : (fun _ => True) x) : t_i_FixOk.wp [] [⟨tI, x⟩] [] (fun v => v.as .bool = (fun x => fixB x) x) := by
  delta t_i_FixOk; refine vcx ?_; try with_reducible exact True.intro
  show (decide (x ≥ -2147483647) = true → decide (x ≤ 2147483647) = decide (clampI x = x)) ∧ (decide (x ≥ -2147483647) = false → false = decide (clampI x = x))
  unfold clampI
  constructor
  · intro h; simp at h ⊢; omega
  · intro h; simp at h ⊢; omega
theorem h_i_FixOk : Con.Holds Tryz.prog c_i_FixOk := tree_ok mixedP consNil e_i_FixOk fun x hx hp => v_i_FixOk x hx hp
end Go.Proofs.YtllphmcjocidaaaGreatDoor
