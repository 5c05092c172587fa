/- Gr2: trees, and what they say. -/
import Derived.Test.YtiihghfoeinbbaaFix2
namespace Go.Proofs.Ytiihghfoeinbbaa
open Go.ChangeShapes Go.WideShapes Go.ChangeAt Go.RowKit Go.Deep
set_option linter.unusedVariables false
set_option linter.unusedSimpArgs false
def zipV (a b : List Int) : List Int := List.zipWith (fun x y => (fixAdd x y).1) a b
def zipF (a b : List Int) : Bool := (a.zip b).any fun p => (fixAdd p.1 p.2).2
def addRows (a b : List (List Int)) : List (List Int) := List.zipWith zipV a b
def addRowsF (a b : List (List Int)) : Bool := (a.zip b).any fun p => zipF p.1 p.2

def addGrads (a b : GradsD) : GradsD := (addRows a.1 b.1, ((fixAdd a.2.1 b.2.1).1, a.2.2 || b.2.2 || addRowsF a.1 b.1 || (fixAdd a.2.1 b.2.1).2))
theorem zw_len {α β γ : Type} (f : α → β → γ) (a : List α) (b : List β) : (List.zipWith f a b).length = min a.length b.length := List.length_zipWith
theorem zw_next {α β γ : Type} (f : α → β → γ) (a : List α) (b : List β) {k : Nat} (h1 : k < a.length) (h2 : k < b.length) : (List.zipWith f a b).take k ++ [f a[k] b[k]] = (List.zipWith f a b).take (k + 1) := by
  have h : k < (List.zipWith f a b).length := by rw [zw_len]; omega
  rw [List.take_succ_eq_append_getElem h, List.getElem_zipWith]
theorem zw_all {α β γ : Type} (f : α → β → γ) (a : List α) (b : List β) {k : Nat} (h : min a.length b.length ≤ k) : (List.zipWith f a b).take k = List.zipWith f a b := List.take_of_length_le (by rw [zw_len]; exact h)
theorem za_next {α β : Type} (F : α × β → Bool) (a : List α) (b : List β) {k : Nat} (h1 : k < a.length) (h2 : k < b.length) : ((a.zip b).take (k + 1)).any F = (((a.zip b).take k).any F || F (a[k], b[k])) := by
  have h : k < (a.zip b).length := by rw [List.length_zip]; omega
  rw [List.take_succ_eq_append_getElem h, List.any_append]
  simp
theorem za_all {α β : Type} (a : List α) (b : List β) {k : Nat} (h : min a.length b.length ≤ k) : (a.zip b).take k = a.zip b := List.take_of_length_le (by rw [List.length_zip]; exact h)
def GradsB (g : GradsD) : Prop := g.1.length ≤ 1000000000 ∧ ∀ r ∈ g.1, r.length ≤ 1000000000
theorem take_ge {α : Type} {l : List α} {k : Nat} (h : l.length ≤ k) : l.take k = l := List.take_of_length_le h
theorem addRows_len (a b : List (List Int)) : (addRows a b).length = min a.length b.length := List.length_zipWith
theorem zipV_len (a b : List Int) : (zipV a b).length = min a.length b.length := List.length_zipWith
theorem zipV_next (a b : List Int) {k : Nat} (h1 : k < a.length) (h2 : k < b.length) : (zipV a b).take k ++ [(fixAdd a[k] b[k]).1] = (zipV a b).take (k + 1) := zw_next _ a b h1 h2
theorem addRows_next (a b : List (List Int)) {k : Nat} (h1 : k < a.length) (h2 : k < b.length) : (addRows a b).take k ++ [zipV a[k] b[k]] = (addRows a b).take (k + 1) := zw_next _ a b h1 h2
def zipFk (a b : List Int) (k : Nat) : Bool := ((a.zip b).take k).any fun p => (fixAdd p.1 p.2).2
def addFk (a b : List (List Int)) (k : Nat) : Bool := ((a.zip b).take k).any fun p => zipF p.1 p.2
theorem zipFk_next (a b : List Int) {k : Nat} (h1 : k < a.length) (h2 : k < b.length) : zipFk a b (k + 1) = (zipFk a b k || (fixAdd a[k] b[k]).2) := za_next _ a b h1 h2
theorem addFk_next (a b : List (List Int)) {k : Nat} (h1 : k < a.length) (h2 : k < b.length) : addFk a b (k + 1) = (addFk a b k || zipF a[k] b[k]) := za_next _ a b h1 h2
theorem zipFk_all (a b : List Int) {k : Nat} (h : min a.length b.length ≤ k) : zipFk a b k = zipF a b := by unfold zipFk zipF; rw [za_all a b h]
theorem addFk_all (a b : List (List Int)) {k : Nat} (h : min a.length b.length ≤ k) : addFk a b k = addRowsF a b := by unfold addFk addRowsF; rw [za_all a b h]

/-! spec.l2Sat -/

noncomputable def c_s_l2Sat : Con := ⟨69, tI, (.pair tI .bool), [.val ⟨false, tI, []⟩], [⟨false, tI, [0]⟩, ⟨false, .bool, [0]⟩], false, none,
  ((fun _ => True) : (Int) → Prop),
  ((fun x => satI x) : (Int) → (Int × Bool))⟩
def t_s_l2Sat : T :=
  .prim (.cmp .gtr .i64) (.mk2 tI tI (.vr 0) (.ci .i64 2147483647)) <|
  .ite (.vr 1) (
   .ret (.mk2 tI .bool (.ci .i64 2147483647) (.cb true))) (
   .prim (.cmp .lss .i64) (.mk2 tI tI (.vr 0) (.ci .i64 (-2147483647))) <|
   .ite (.vr 2) (
    .ret (.mk2 tI .bool (.ci .i64 (-2147483647)) (.cb true))) (
    .ret (.mk2 tI .bool (.vr 0) (.cb false))))
set_option maxRecDepth 100000 in
theorem e_s_l2Sat : exFn Try.prog [] c_s_l2Sat false 3000 ⟨[], []⟩ = .ok t_s_l2Sat := by kernel_rfl
theorem v_s_l2Sat (x : Int) (hx : okD tI x) (hp : (fun _ => True) x) : t_s_l2Sat.wp [] [⟨tI, x⟩] [] (fun v => v.as (.pair tI .bool) = (fun x => satI x) x) := by
  delta t_s_l2Sat; refine vcx ?_; try with_reducible exact True.intro
  unfold satI clampI
  (refine dcx ?_; try with_reducible exact True.intro)
  refine ⟨fun h => ?_, fun h => ⟨fun h2 => ?_, fun h2 => ?_⟩⟩
  · have : min (max x (-2147483647)) 2147483647 = 2147483647 := by omega
    rw [this]; simp; omega
  · have : min (max x (-2147483647)) 2147483647 = -2147483647 := by omega
    rw [this]; simp; omega
  · have : min (max x (-2147483647)) 2147483647 = x := by omega
    rw [this]; simp
theorem h_s_l2Sat : Con.Holds Try.prog c_s_l2Sat := tree_ok mixedP consNil e_s_l2Sat fun x hx hp => v_s_l2Sat x hx hp

/-! spec.l2In -/

noncomputable def c_s_l2In : Con := ⟨71, tI, tI, [.val ⟨false, tI, []⟩], [⟨false, tI, [0]⟩], false, none,
  ((fun _ => True) : (Int) → Prop),
  ((fun x => clampI x) : (Int) → (Int))⟩
def t_s_l2In : T :=
  .call 0 (.vr 0) <|
  .ret (.p1 tI .bool (.vr 1))
set_option maxRecDepth 100000 in
theorem e_s_l2In : exFn Try.prog [c_s_l2Sat] c_s_l2In false 3000 ⟨[], []⟩ = .ok t_s_l2In := by kernel_rfl
theorem v_s_l2In (x : Int) (hx : okD tI x) (hp : (fun _ => True) x) : t_s_l2In.wp [c_s_l2Sat] [⟨tI, x⟩] [] (fun v => v.as tI = (fun x => clampI x) x) := by
  delta t_s_l2In c_s_l2Sat; refine vcx ?_; try with_reducible exact True.intro
  exact fun _ => rfl
theorem h_s_l2In : Con.Holds Try.prog c_s_l2In := tree_ok mixedP (consAt h_s_l2Sat consNil) e_s_l2In fun x hx hp => v_s_l2In x hx hp

/-! spec.FixAdd -/

noncomputable def c_s_FixAdd : Con := ⟨55, tIns, (.pair tI .bool), [.val ⟨false, tI, []⟩, .val ⟨false, tI, []⟩], [⟨false, tI, [0]⟩, ⟨false, .bool, [0]⟩], false, none,
  ((fun _ => True) : (Int × Int) → Prop),
  ((fun x => fixAdd x.1 x.2) : (Int × Int) → (Int × Bool))⟩
def t_s_FixAdd : T :=
  .call 0 (.p1 tI tI (.vr 0)) <|
  .call 0 (prA tIns 1 (.vr 0)) <|
  .prim (.ar .add .i64) (.mk2 tI tI (.vr 1) (.vr 2)) <|
  .call 1 (.vr 3) <|
  .ret (.vr 4)
set_option maxRecDepth 100000 in
theorem e_s_FixAdd : exFn Try.prog [c_s_l2In, c_s_l2Sat] c_s_FixAdd false 3000 ⟨[], []⟩ = .ok t_s_FixAdd := by kernel_rfl
theorem v_s_FixAdd (x : Int × Int) (hx : okD tIns x) (hp : (fun _ => True) x) : t_s_FixAdd.wp [c_s_l2In, c_s_l2Sat] [⟨tIns, x⟩] [] (fun v => v.as (.pair tI .bool) = (fun x => fixAdd x.1 x.2) x) := by
  delta t_s_FixAdd c_s_l2In c_s_l2Sat; refine vcx ?_; try with_reducible exact True.intro
  intro _ _
  have h1 := clampI_b x.1
  have h2 := clampI_b x.2
  exact ⟨by omega, fun _ _ => rfl⟩
theorem h_s_FixAdd : Con.Holds Try.prog c_s_FixAdd := tree_ok mixedP (consAt h_s_l2In (consAt h_s_l2Sat consNil)) e_s_FixAdd fun x hx hp => v_s_FixAdd x hx hp

/-! spec.l11Rows -/

noncomputable def c_s_l11Rows : Con := ⟨53, tRows, tRows, [.val ⟨false, tRows, []⟩], [⟨false, tRows, [2]⟩], false, none,
  ((fun x => List.length x ≤ 1000000000 ∧ ∀ y ∈ x, List.length y ≤ 1000000000) : (RowsD) → Prop),
  ((fun x => x) : (RowsD) → (RowsD))⟩
def t_s_l11Rows : T :=
  .loop tSaved (.mk2 tI tRows (.ci .i64 0) (.nl 81 tInts)) <|
   .prim (.llen 81 tInts) (.vr 0) <|
   .prim (.cmp .lss .i64) (.mk2 tI tI (.p1 tI tRows (.vr 1)) (.vr 2)) <|
   .ite (.vr 3) (
    .prim (.lidx 81 tInts) (.mk2 tRows tI (.vr 0) (.p1 tI tRows (.vr 1))) <|
    .prim (.lapp 3 tI 8) (.mk2 tInts tInts (.nl 3 tI) (.vr 4)) <|
    .prim (.lit 81 tInts 1) (.vr 5) <|
    .prim (.lapp 81 tInts 24) (.mk2 tRows tRows (prA tSaved 1 (.vr 1)) (.vr 6)) <|
    .prim (.ar .add .i64) (.mk2 tI tI (.p1 tI tRows (.vr 1)) (.ci .i64 1)) <|
    .again 0 (.mk2 tI tRows (.vr 8) (.vr 7))) (
    .ret (prA tSaved 1 (.vr 1)))
set_option maxRecDepth 100000 in
theorem e_s_l11Rows : exFn Try.prog [] c_s_l11Rows false 3000 ⟨[(2991, 1001, [.dr 5, .tm 4 0, .on 3, .sl 1])], [(2983, 3004, [19], [])]⟩ = .ok t_s_l11Rows := by kernel_rfl
/- loops: (Int) × (List (List (Int))) -/
theorem v_s_l11Rows (x : RowsD) (hx : okD tRows x) (hp : (fun x => List.length x ≤ 1000000000 ∧ ∀ y ∈ x, List.length y ≤ 1000000000) x) : t_s_l11Rows.wp [] [⟨tRows, x⟩] [] (fun v => v.as tRows = (fun x => x) x) := by
  obtain ⟨hp1, hp2⟩ : List.length x ≤ 1000000000 ∧ ∀ y ∈ x, List.length y ≤ 1000000000 := hp
  delta t_s_l11Rows; refine vcx ?_; try with_reducible exact True.intro
  refine ⟨fun s => ∃ k : Nat, k ≤ x.length ∧ s = ((k : Int), x.take k), fun s => x.length - (s.1 : Int).toNat, ⟨0, Nat.zero_le _, by simp⟩, fun s hs hI => ?_⟩
  obtain ⟨k, hk, rfl⟩ := hI
  dsimp only
  (refine dcx ?_; try with_reducible exact True.intro)
  intro _
  constructor
  · intro hlt
    have hk' : k < x.length := by omega
    rw [getD_at hk']
    have hm := hp2 _ (List.getElem_mem hk')
    have hl : (x.take k).length = k := List.length_take_of_le hk
    (repeat' first | intro _ | (with_reducible apply And.intro))
    all_goals first | omega | (unfold maxLen; omega) | (exact ⟨k + 1, by omega, by rw [take_at hk']; rfl⟩)
  · intro hge
    have : k = x.length := by omega
    subst this
    show x.take x.length = x
    simp
theorem h_s_l11Rows : Con.Holds Try.prog c_s_l11Rows := tree_ok mixedP consNil e_s_l11Rows fun x hx hp => v_s_l11Rows x hx hp

/-! spec.l1In -/

noncomputable def c_s_l1In : Con := ⟨68, (.pair tI tIns), .bool, [.val ⟨false, tI, []⟩, .val ⟨false, tI, []⟩, .val ⟨false, tI, []⟩], [⟨false, .bool, [0]⟩], false, none,
  ((fun _ => True) : (Int × InsD) → Prop),
  ((fun x => decide (x.2.1 ≤ x.1) && decide (x.1 ≤ x.2.2)) : (Int × InsD) → (Bool))⟩
def t_s_l1In : T :=
  .prim (.cmp .geq .i64) (.mk2 tI tI (.p1 tI tIns (.vr 0)) (pjA (.pair tI tIns) 1 (.vr 0))) <|
  .ite (.vr 1) (
   .prim (.cmp .leq .i64) (.mk2 tI tI (.p1 tI tIns (.vr 0)) (prA (.pair tI tIns) 2 (.vr 0))) <|
   .ret (.vr 2)) (
   .ret (.cb false))
set_option maxRecDepth 100000 in
theorem e_s_l1In : exFn Try.prog [] c_s_l1In false 3000 ⟨[], []⟩ = .ok t_s_l1In := by kernel_rfl
theorem v_s_l1In (x : Int × InsD) (hx : okD (.pair tI tIns) x) (hp : (fun _ => True) x) : t_s_l1In.wp [] [⟨(.pair tI tIns), x⟩] [] (fun v => v.as .bool = (fun x => decide (x.2.1 ≤ x.1) && decide (x.1 ≤ x.2.2)) x) := by
  delta t_s_l1In; refine vcx ?_; try with_reducible exact True.intro
  (refine dcx ?_; try with_reducible exact True.intro)
  constructor
  · intro h; simp [h]
  · intro h
    have : ¬ x.2.1 ≤ x.1 := by omega
    simp [this]
theorem h_s_l1In : Con.Holds Try.prog c_s_l1In := tree_ok mixedP consNil e_s_l1In fun x hx hp => v_s_l1In x hx hp
end Go.Proofs.Ytiihghfoeinbbaa
