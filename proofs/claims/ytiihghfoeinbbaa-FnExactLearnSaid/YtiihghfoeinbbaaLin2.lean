/- Lin2: trees, and what they say. -/
import Derived.Test.YtiihghfoeinbbaaStage3
namespace Go.Proofs.Ytiihghfoeinbbaa
open Go.ChangeShapes Go.WideShapes Go.ChangeAt Go.RowKit Go.Deep
set_option linter.unusedVariables false
set_option linter.unusedSimpArgs false
/-- The greatest place up to n at which P holds. -/
noncomputable def topP (P : Nat → Prop) : Nat → Nat
  | 0 => 0
  | n + 1 => @ite _ (P (n + 1)) (Classical.propDecidable _) (n + 1) (topP P n)
theorem topP_le (P : Nat → Prop) : (n : Nat) → topP P n ≤ n
  | 0 => Nat.le_refl _
  | n + 1 => by
    unfold topP; split
    · exact Nat.le_refl _
    · exact Nat.le_succ_of_le (topP_le P n)
theorem le_topP (P : Nat → Prop) : (n k : Nat) → k ≤ n → P k → k ≤ topP P n
  | 0, k, h, _ => h
  | n + 1, k, h, hp => by
    unfold topP; split
    · exact h
    · rename_i hn
      rcases Nat.lt_or_eq_of_le h with h' | rfl
      · exact le_topP P n k (Nat.le_of_lt_succ h') hp
      · exact absurd hp hn
theorem topP_at (P : Nat → Prop) : (n k : Nat) → k ≤ n → P k → P (topP P n)
  | 0, k, h, hp => by have : k = 0 := by omega
                      subst this; exact hp
  | n + 1, k, h, hp => by
    unfold topP; split
    · assumption
    · rename_i hn
      rcases Nat.lt_or_eq_of_le h with h' | rfl
      · exact topP_at P n k (Nat.le_of_lt_succ h') hp
      · exact absurd hp hn
/-- A loop whose state is a function of how often it went round; a fact that grows with it. -/
theorem loopG {α : Type} {ok : α → Prop} {s0 : α} {B : (α → Prop) → (α → Nat) → α → Prop} (F : Nat → α) (G : Nat → Prop) (n : Nat) (h0 : s0 = F 0) (g0 : G 0)
    (hs : ∀ (I : α → Prop) (μ : α → Nat) (k : Nat), k ≤ n → G k → ok (F k) → (∀ y, k < n → G (k + 1) → y = F (k + 1) → I y ∧ μ y < μ (F k)) → B I μ (F k)) :
    ∃ (I : α → Prop) (μ : α → Nat), I s0 ∧ ∀ x, ok x → I x → B I μ x := by
  refine ⟨fun x => ∃ k, k ≤ n ∧ (x = F k ∧ G k), fun x => n - topP (fun k => x = F k ∧ G k) n, ⟨0, Nat.zero_le _, h0, g0⟩, fun x hok hI => ?_⟩
  obtain ⟨j, hj, hx⟩ := hI
  have e := topP_at (fun k => x = F k ∧ G k) n j hj hx
  have l := topP_le (fun k => x = F k ∧ G k) n
  generalize hk : topP (fun k => x = F k ∧ G k) n = k at e l
  obtain ⟨e1, e2⟩ := e
  subst e1
  refine hs _ _ k l e2 hok fun y hkn hg hy => ⟨⟨k + 1, hkn, hy, hg⟩, ?_⟩
  have h1 := le_topP (fun k => y = F k ∧ G k) n (k + 1) hkn ⟨hy, hg⟩
  have h2 := topP_le (fun k => y = F k ∧ G k) n
  show n - topP (fun k => y = F k ∧ G k) n < n - topP (fun k' => F k = F k' ∧ G k') n
  rw [hk]
  omega
theorem loopF {α : Type} {ok : α → Prop} {s0 : α} {B : (α → Prop) → (α → Nat) → α → Prop} (F : Nat → α) (n : Nat) (h0 : s0 = F 0)
    (hs : ∀ (I : α → Prop) (μ : α → Nat) (k : Nat), k ≤ n → ok (F k) → (∀ y, k < n → y = F (k + 1) → I y ∧ μ y < μ (F k)) → B I μ (F k)) :
    ∃ (I : α → Prop) (μ : α → Nat), I s0 ∧ ∀ x, ok x → I x → B I μ x :=
  loopG F (fun _ => True) n h0 trivial fun I μ k hk _ hok go => hs I μ k hk hok fun y h1 h2 => go y h1 trivial h2
/-- Rows by places. -/
def mp {α : Type} (n : Nat) (g : Nat → α) : List α := (List.range n).map g
def an (n : Nat) (h : Nat → Bool) : Bool := (List.range n).any h
theorem mp_zero {α : Type} (g : Nat → α) : mp 0 g = [] := rfl
theorem an_zero (h : Nat → Bool) : an 0 h = false := rfl
theorem mp_succ {α : Type} (n : Nat) (g : Nat → α) : mp (n + 1) g = mp n g ++ [g n] := by unfold mp; rw [List.range_succ, List.map_append]; rfl
theorem an_succ (n : Nat) (h : Nat → Bool) : an (n + 1) h = (an n h || h n) := by unfold an; rw [List.range_succ, List.any_append]; simp
theorem mp_len {α : Type} (n : Nat) (g : Nat → α) : (mp n g).length = n := by unfold mp; simp
theorem mp_getD {α : Type} (n : Nat) (g : Nat → α) (d : α) {i : Nat} (h : i < n) : (mp n g).getD i d = g i := by unfold mp; simp [h]
theorem mp_self {α : Type} (l : List α) (d : α) : mp l.length (fun i => l.getD i d) = l := by
  refine List.ext_getElem (mp_len _ _) fun i h1 h2 => ?_
  rw [← getD_at h1 (d := d), mp_getD _ _ _ h2, getD_at h2]
theorem mp_cong {α : Type} {n : Nat} {g h : Nat → α} (e : ∀ i, i < n → g i = h i) : mp n g = mp n h := List.map_congr_left fun i hi => e i (List.mem_range.1 hi)
theorem an_cong {n : Nat} {g h : Nat → Bool} (e : ∀ i, i < n → g i = h i) : an n g = an n h := by
  rw [Bool.eq_iff_iff]; unfold an; simp only [List.any_eq_true, List.mem_range]
  exact ⟨fun ⟨i, h1, h2⟩ => ⟨i, h1, by rw [← e i h1]; exact h2⟩, fun ⟨i, h1, h2⟩ => ⟨i, h1, by rw [e i h1]; exact h2⟩⟩
theorem or2_t {a b : Bool} (h : a = true) : true = (a || b) := by rw [h]; rfl
theorem or2_f {a b : Bool} (h : a = false) : b = (a || b) := by rw [h]; rfl
theorem or3_t {a b c : Bool} (h : a = true) : true = ((a || b) || c) := by rw [h]; rfl
theorem or3_u {a b c : Bool} (h : a = false) (h2 : b = true) : true = ((a || b) || c) := by rw [h, h2]; rfl
theorem or3_f {a b c : Bool} (h : a = false) (h2 : b = false) : c = ((a || b) || c) := by rw [h, h2]; rfl
def fixSub (a b : Int) : Int × Bool := satI (clampI a - clampI b)
def fixMul (a b : Int) : Int × Bool := satI ((clampI a * clampI b).fdiv 65536)
def reluI (x : Int) : Int := max 0 (clampI x)
theorem mulB {x y : Int} (h1 : -2147483647 ≤ x ∧ x ≤ 2147483647) (h2 : -2147483647 ≤ y ∧ y ≤ 2147483647) : -4611686014132420609 ≤ x * y ∧ x * y ≤ 4611686014132420609 := by
  have h : (x * y).natAbs ≤ 2147483647 * 2147483647 := by
    rw [Int.natAbs_mul]; exact Nat.mul_le_mul (by omega) (by omega)
  omega
theorem tdivB {a : Int} (h : -9223372036854775808 ≤ a ∧ a ≤ 9223372036854775807) : -140737488355328 ≤ a.tdiv 65536 ∧ a.tdiv 65536 ≤ 140737488355328 := by
  rcases Int.le_total 0 a with h1 | h1
  · rw [Int.tdiv_eq_ediv_of_nonneg h1]; omega
  · have e1 : a.tdiv 65536 = -((-a) / 65536) := by
      rw [← Int.neg_neg a, Int.neg_tdiv, Int.tdiv_eq_ediv_of_nonneg (by omega), Int.neg_neg]
    omega
theorem floor_eq (x : Int) : x.fdiv 65536 = (if x.tmod 65536 ≠ 0 ∧ x < 0 then x.tdiv 65536 - 1 else x.tdiv 65536) := by
  rw [Int.fdiv_eq_ediv_of_nonneg _ (by decide)]
  rcases Int.le_total 0 x with h | h
  · rw [Int.tdiv_eq_ediv_of_nonneg h, if_neg (by omega)]
  · have e1 : x.tdiv 65536 = -((-x) / 65536) := by
      rw [← Int.neg_neg x, Int.neg_tdiv, Int.tdiv_eq_ediv_of_nonneg (by omega), Int.neg_neg]
    have e2 : x.tmod 65536 = -((-x) % 65536) := by
      rw [← Int.neg_neg x, Int.neg_tmod, Int.tmod_eq_emod_of_nonneg (by omega), Int.neg_neg]
    rw [e1, e2]
    split <;> omega
def pairB (a b : List Int) : Bool := vecB a && vecN b (a.length : Int)
def vz (f : Int → Int → Int × Bool) (a b : List Int) (n : Nat) : List Int × Bool := (mp n fun i => (f (a.getD i 0) (b.getD i 0)).1, an n fun i => (f (a.getD i 0) (b.getD i 0)).2)
def vecZ (f : Int → Int → Int × Bool) (a b : List Int) : List Int × Bool := if pairB a b = true then vz f a b a.length else ([], false)
def vecS1 (c : Int) (a : List Int) : List Int × Bool := if fixB c = true ∧ vecB a = true then (mp a.length fun i => (fixMul c (a.getD i 0)).1, an a.length fun i => (fixMul c (a.getD i 0)).2) else ([], false)
def dotK (a b : List Int) : Nat → Int × Bool
  | 0 => (0, false)
  | k + 1 => ((fixAdd (dotK a b k).1 (fixMul (a.getD k 0) (b.getD k 0)).1).1, (dotK a b k).2 || (fixMul (a.getD k 0) (b.getD k 0)).2 || (fixAdd (dotK a b k).1 (fixMul (a.getD k 0) (b.getD k 0)).1).2)
def vecDot (a b : List Int) : Int × Bool := if pairB a b = true then dotK a b a.length else (0, false)
def vecRelu (a : List Int) : List Int := if vecB a = true then mp a.length fun i => reluI (a.getD i 0) else []
def vecMask (x d : List Int) : List Int := if pairB x d = true then mp x.length fun i => if 0 < x.getD i 0 then d.getD i 0 else 0 else []
theorem pairB_iff (a b : List Int) : pairB a b = true ↔ vecB a = true ∧ vecN b (a.length : Int) = true := by unfold pairB; rw [Bool.and_eq_true]
theorem pairB_len {a b : List Int} (h : pairB a b = true) : a.length ≤ 6 ∧ b.length = a.length := by
  obtain ⟨h1, h2⟩ := (pairB_iff a b).1 h
  have := (vecB_iff a).1 h1
  have := (vecN_iff _ _).1 h2
  omega
theorem vecZ_no {f : Int → Int → Int × Bool} {a b : List Int} (h : pairB a b = false) : ([], false) = vecZ f a b := by unfold vecZ; rw [if_neg (by rw [h]; exact Bool.false_ne_true)]
theorem vecZ_yes {f : Int → Int → Int × Bool} {a b : List Int} (h : pairB a b = true) : vecZ f a b = vz f a b a.length := if_pos h
theorem dotK_succ (a b : List Int) (k : Nat) : dotK a b (k + 1) = ((fixAdd (dotK a b k).1 (fixMul (a.getD k 0) (b.getD k 0)).1).1, (dotK a b k).2 || (fixMul (a.getD k 0) (b.getD k 0)).2 || (fixAdd (dotK a b k).1 (fixMul (a.getD k 0) (b.getD k 0)).1).2) := rfl
theorem l3_eq (a b : List Int) : (vecB a && (vecB b && decide (a.length = b.length))) = pairB a b := by
  unfold pairB vecN
  congr 2
  rw [Bool.eq_iff_iff, decide_eq_true_eq, decide_eq_true_eq]; omega

/-! impl.FixSub -/

noncomputable def c_i_FixSub : Con := ⟨47, tIns, (.pair tI .bool), [.val ⟨false, tI, []⟩, .val ⟨false, tI, []⟩], [⟨false, tI, [0]⟩, ⟨false, .bool, [0]⟩], false, none,
  ((fun _ => True) : (Int × Int) → Prop),
  ((fun x => fixSub x.1 x.2) : (Int × Int) → (Int × Bool))⟩
def t_i_FixSub : T :=
  .call 0 (.p1 tI tI (.vr 0)) <|
  .call 0 (prA tIns 1 (.vr 0)) <|
  .prim (.ar .sub .i64) (.mk2 tI tI (.vr 1) (.vr 2)) <|
  .call 1 (.vr 3) <|
  .ret (.vr 4)
set_option maxRecDepth 100000 in
theorem e_i_FixSub : exFn Try.prog [c_i_clamp, c_i_settle] c_i_FixSub false 3000 ⟨[], []⟩ = .ok t_i_FixSub := by kernel_rfl
theorem v_i_FixSub (x : Int × Int) (hx : okD tIns x) (hp : (fun _ => True) x) : t_i_FixSub.wp [c_i_clamp, c_i_settle] [⟨tIns, x⟩] [] (fun v => v.as (.pair tI .bool) = (fun x => fixSub x.1 x.2) x) := by
  delta t_i_FixSub c_i_clamp c_i_settle; refine vcx ?_; try with_reducible exact True.intro
  intro _ _
  have h1 := clampI_b x.1
  have h2 := clampI_b x.2
  exact ⟨by omega, fun _ _ => rfl⟩
theorem h_i_FixSub : Con.Holds Try.prog c_i_FixSub := tree_ok mixedP (consAt h_i_clamp (consAt h_i_settle consNil)) e_i_FixSub fun x hx hp => v_i_FixSub x hx hp

/-! impl.FixMul -/

noncomputable def c_i_FixMul : Con := ⟨46, tIns, (.pair tI .bool), [.val ⟨false, tI, []⟩, .val ⟨false, tI, []⟩], [⟨false, tI, [0]⟩, ⟨false, .bool, [0]⟩], false, none,
  ((fun _ => True) : (Int × Int) → Prop),
  ((fun x => fixMul x.1 x.2) : (Int × Int) → (Int × Bool))⟩
def t_i_FixMul : T :=
  .call 0 (.p1 tI tI (.vr 0)) <|
  .call 0 (prA tIns 1 (.vr 0)) <|
  .prim (.ar .mul .i64) (.mk2 tI tI (.vr 1) (.vr 2)) <|
  .prim (.shr .i64 .u64) (.mk2 tI (.int .u64) (.vr 3) (.ci .u64 16)) <|
  .call 1 (.vr 4) <|
  .ret (.vr 5)
set_option maxRecDepth 100000 in
theorem e_i_FixMul : exFn Try.prog [c_i_clamp, c_i_settle] c_i_FixMul false 3000 ⟨[], []⟩ = .ok t_i_FixMul := by kernel_rfl
theorem v_i_FixMul (x : Int × Int) (hx : okD tIns x) (hp : (fun _ => True) x) : t_i_FixMul.wp [c_i_clamp, c_i_settle] [⟨tIns, x⟩] [] (fun v => v.as (.pair tI .bool) = (fun x => fixMul x.1 x.2) x) := by
  delta t_i_FixMul c_i_clamp c_i_settle; refine vcx ?_; try with_reducible exact True.intro
  have h := mulB (clampI_b x.1) (clampI_b x.2)
  exact fun _ _ => ⟨by omega, fun _ => ⟨by omega, fun _ _ => rfl⟩⟩
theorem h_i_FixMul : Con.Holds Try.prog c_i_FixMul := tree_ok mixedP (consAt h_i_clamp (consAt h_i_settle consNil)) e_i_FixMul fun x hx hp => v_i_FixMul x hx hp

/-! spec.FixSub -/

noncomputable def c_s_FixSub : Con := ⟨39, tIns, (.pair tI .bool), [.val ⟨false, tI, []⟩, .val ⟨false, tI, []⟩], [⟨false, tI, [0]⟩, ⟨false, .bool, [0]⟩], false, none,
  ((fun _ => True) : (Int × Int) → Prop),
  ((fun x => fixSub x.1 x.2) : (Int × Int) → (Int × Bool))⟩
def t_s_FixSub : T :=
  .call 0 (.p1 tI tI (.vr 0)) <|
  .call 0 (prA tIns 1 (.vr 0)) <|
  .prim (.ar .sub .i64) (.mk2 tI tI (.vr 1) (.vr 2)) <|
  .call 1 (.vr 3) <|
  .ret (.vr 4)
set_option maxRecDepth 100000 in
theorem e_s_FixSub : exFn Try.prog [c_s_l2In, c_s_l2Sat] c_s_FixSub false 3000 ⟨[], []⟩ = .ok t_s_FixSub := by kernel_rfl
theorem v_s_FixSub (x : Int × Int) (hx : okD tIns x) (hp : (fun _ => True) x) : t_s_FixSub.wp [c_s_l2In, c_s_l2Sat] [⟨tIns, x⟩] [] (fun v => v.as (.pair tI .bool) = (fun x => fixSub x.1 x.2) x) := by
  delta t_s_FixSub c_s_l2In c_s_l2Sat; refine vcx ?_; try with_reducible exact True.intro
  intro _ _
  have h1 := clampI_b x.1
  have h2 := clampI_b x.2
  exact ⟨by omega, fun _ _ => rfl⟩
theorem h_s_FixSub : Con.Holds Try.prog c_s_FixSub := tree_ok mixedP (consAt h_s_l2In (consAt h_s_l2Sat consNil)) e_s_FixSub fun x hx hp => v_s_FixSub x hx hp

/-! spec.l2Floor -/

noncomputable def c_s_l2Floor : Con := ⟨70, tIns, tI, [.val ⟨false, tI, []⟩, .val ⟨false, tI, []⟩], [⟨false, tI, [0]⟩], false, none,
  ((fun x => x.2 = 65536) : (Int × Int) → Prop),
  ((fun x => x.1.fdiv 65536) : (Int × Int) → (Int))⟩
def t_s_l2Floor : T :=
  .prim (.quo .i64) (.mk2 tI tI (.p1 tI tI (.vr 0)) (prA tIns 1 (.vr 0))) <|
  .prim (.rem .i64) (.mk2 tI tI (.p1 tI tI (.vr 0)) (prA tIns 1 (.vr 0))) <|
  .prim (.cmp .neq .i64) (.mk2 tI tI (.vr 2) (.ci .i64 0)) <|
  .ite (.vr 3) (
   .prim (.cmp .lss .i64) (.mk2 tI tI (.p1 tI tI (.vr 0)) (.ci .i64 0)) <|
   .prim (.cmp .lss .i64) (.mk2 tI tI (prA tIns 1 (.vr 0)) (.ci .i64 0)) <|
   .prim (.eqv true .bool) (.mk2 .bool .bool (.vr 4) (.vr 5)) <|
   .ite (.vr 6) (
    .prim (.ar .sub .i64) (.mk2 tI tI (.vr 1) (.ci .i64 1)) <|
    .ret (.vr 7)) (
    .ret (.vr 1))) (
   .ret (.vr 1))
set_option maxRecDepth 100000 in
theorem e_s_l2Floor : exFn Try.prog [] c_s_l2Floor false 3000 ⟨[], []⟩ = .ok t_s_l2Floor := by kernel_rfl
theorem v_s_l2Floor (x : Int × Int) (hx : okD tIns x) (hp : (fun x => x.2 = 65536) x) : t_s_l2Floor.wp [] [⟨tIns, x⟩] [] (fun v => v.as tI = (fun x => x.1.fdiv 65536) x) := by
  obtain ⟨a, b⟩ := x
  obtain rfl : b = 65536 := hp
  have e := floor_eq a
  have ha : -9223372036854775808 ≤ a ∧ a ≤ 9223372036854775807 := hx.1
  have hd := tdivB ha
  delta t_s_l2Floor; refine vcx ?_; try with_reducible exact True.intro
  simp only [beqB_t, beqB_f, neqI_t, neqI_f, show decide ((65536 : Int) < 0) = false from rfl, decide_eq_false_iff_not, Classical.not_not]
  rw [e]
  (repeat' first | intro _ | (with_reducible apply And.intro))
  all_goals first | omega | (rw [if_pos ⟨by assumption, by assumption⟩]) | (rw [if_neg (fun h => by have := h.2; omega)]) | (rw [if_neg (fun h => h.1 (by assumption))])
theorem h_s_l2Floor : Con.Holds Try.prog c_s_l2Floor := tree_ok mixedP consNil e_s_l2Floor fun x hx hp => v_s_l2Floor x hx hp

/-! spec.FixMul -/

noncomputable def c_s_FixMul : Con := ⟨38, tIns, (.pair tI .bool), [.val ⟨false, tI, []⟩, .val ⟨false, tI, []⟩], [⟨false, tI, [0]⟩, ⟨false, .bool, [0]⟩], false, none,
  ((fun _ => True) : (Int × Int) → Prop),
  ((fun x => fixMul x.1 x.2) : (Int × Int) → (Int × Bool))⟩
def t_s_FixMul : T :=
  .call 0 (.p1 tI tI (.vr 0)) <|
  .call 0 (prA tIns 1 (.vr 0)) <|
  .prim (.ar .mul .i64) (.mk2 tI tI (.vr 1) (.vr 2)) <|
  .call 1 (.mk2 tI tI (.vr 3) (.ci .i64 65536)) <|
  .call 2 (.vr 4) <|
  .ret (.vr 5)
set_option maxRecDepth 100000 in
theorem e_s_FixMul : exFn Try.prog [c_s_l2In, c_s_l2Floor, c_s_l2Sat] c_s_FixMul false 3000 ⟨[], []⟩ = .ok t_s_FixMul := by kernel_rfl
theorem v_s_FixMul (x : Int × Int) (hx : okD tIns x) (hp : (fun _ => True) x) : t_s_FixMul.wp [c_s_l2In, c_s_l2Floor, c_s_l2Sat] [⟨tIns, x⟩] [] (fun v => v.as (.pair tI .bool) = (fun x => fixMul x.1 x.2) x) := by
  delta t_s_FixMul c_s_l2In c_s_l2Floor c_s_l2Sat; refine vcx ?_; try with_reducible exact True.intro
  have h := mulB (clampI_b x.1) (clampI_b x.2)
  exact fun _ _ => ⟨by omega, fun _ _ _ => rfl⟩
theorem h_s_FixMul : Con.Holds Try.prog c_s_FixMul := tree_ok mixedP (consAt h_s_l2In (consAt h_s_l2Floor (consAt h_s_l2Sat consNil))) e_s_FixMul fun x hx hp => v_s_FixMul x hx hp
end Go.Proofs.Ytiihghfoeinbbaa
