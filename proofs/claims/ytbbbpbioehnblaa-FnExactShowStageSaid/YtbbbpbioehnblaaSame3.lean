/- Same3: trees, and what they say. -/
import Derived.Test.YtbbbpbioehnblaaGr2
namespace Go.Proofs.Ytbbbpbioehnblaa
open Go.ChangeShapes Go.WideShapes Go.ChangeAt Go.RowKit Go.Deep
set_option linter.unusedVariables false
set_option linter.unusedSimpArgs false
noncomputable def eqB {α : Type} (a b : α) : Bool := @decide (a = b) (Classical.propDecidable _)
theorem eqB_iff {α : Type} {a b : α} : eqB a b = true ↔ a = b := by unfold eqB; rw [@decide_eq_true_eq]
theorem eqB_no {α : Type} {a b : α} : eqB a b = false ↔ ¬ a = b := by rw [← eqB_iff (a := a) (b := b), Bool.not_eq_true]
theorem eqF {α : Type} {a b : α} (h : ¬ a = b) : false = eqB a b := (eqB_no.2 h).symm
theorem eqT {α : Type} {a b : α} (h : a = b) : true = eqB a b := (eqB_iff.2 h).symm
theorem ext_getD {α : Type} {a b : List α} {d : α} (hl : a.length = b.length) (h : ∀ i, i < a.length → a.getD i d = b.getD i d) : a = b := by
  refine List.ext_getElem hl fun i h1 h2 => ?_
  have := h i h1
  rwa [getD_at h1, getD_at h2] at this
theorem beqP_t {x y : Int × Int} : (beqD tIns x y != true) = true ↔ ¬ x = y := by
  obtain ⟨a, b⟩ := x; obtain ⟨c, d⟩ := y
  simp only [beqD, bne_iff_ne, ne_eq, Bool.and_eq_true, Prod.mk.injEq]
  rw [beq_iff_eq, beq_iff_eq]
theorem beqP_f {x y : Int × Int} : (beqD tIns x y != true) = false ↔ x = y := by
  rw [← Bool.not_eq_true, beqP_t, Classical.not_not]
theorem beqB_t {x y : Bool} : (beqD .bool x y != true) = true ↔ ¬ x = y := by cases x <;> cases y <;> simp [beqD]
theorem beqB_f {x y : Bool} : (beqD .bool x y != true) = false ↔ x = y := by cases x <;> cases y <;> simp [beqD]
theorem beqB_e {x y : Bool} : (beqD .bool x y != false) = eqB x y := by
  rw [Bool.eq_iff_iff, eqB_iff]; cases x <;> cases y <;> simp [beqD]
theorem neqI_t {x y : Int} : (x != y) = true ↔ ¬ x = y := by rw [bne_iff_ne]
theorem neqI_f {x y : Int} : (x != y) = false ↔ x = y := by rw [bne_eq_false_iff_eq]
theorem notB_t {b : Bool} : (!b) = true ↔ b = false := by cases b <;> simp
theorem notB_f {b : Bool} : (!b) = false ↔ b = true := by cases b <;> simp
theorem lenN {m n : Nat} : ((m : Int) = (n : Int)) ↔ m = n := by omega

/-! impl.SameVec -/

noncomputable def c_i_SameVec : Con := ⟨85, tPair, .bool, [.val ⟨false, tInts, []⟩, .val ⟨false, tInts, []⟩], [⟨false, .bool, [0]⟩], false, none,
  ((fun _ => True) : (PairD) → Prop),
  ((fun x => eqB x.1 x.2) : (PairD) → (Bool))⟩
def t_i_SameVec : T :=
  .prim (.llen 3 tI) (.p1 tInts tInts (.vr 0)) <|
  .prim (.llen 3 tI) (prA tPair 1 (.vr 0)) <|
  .prim (.cmp .neq .i64) (.mk2 tI tI (.vr 1) (.vr 2)) <|
  .ite (.vr 3) (
   .ret (.cb false)) (
   .prim (.llen 3 tI) (.p1 tInts tInts (.vr 0)) <|
   .loop tI (.ci .i64 0) <|
    .prim (.cmp .lss .i64) (.mk2 tI tI (.vr 5) (.vr 4)) <|
    .ite (.vr 6) (
     .prim (.lidx 3 tI) (.mk2 tInts tI (.p1 tInts tInts (.vr 0)) (.vr 5)) <|
     .prim (.lidx 3 tI) (.mk2 tInts tI (prA tPair 1 (.vr 0)) (.vr 5)) <|
     .prim (.cmp .neq .i64) (.mk2 tI tI (.vr 7) (.vr 8)) <|
     .ite (.vr 9) (
      .ret (.cb false)) (
      .prim (.ar .add .i64) (.mk2 tI tI (.vr 5) (.ci .i64 1)) <|
      .again 0 (.vr 10))) (
     .ret (.cb true)))
set_option maxRecDepth 100000 in
theorem e_i_SameVec : exFn Try.prog [] c_i_SameVec false 3000 ⟨[(2988, 5, drd 11 6 ++ [.tm 13 0])], []⟩ = .ok t_i_SameVec := by kernel_rfl
/- loops: Int -/
theorem v_i_SameVec (x : PairD) (hx : okD tPair x) (hp : (fun _ => True) x) : t_i_SameVec.wp [] [⟨tPair, x⟩] [] (fun v => v.as .bool = (fun x => eqB x.1 x.2) x) := by
  obtain ⟨a, b⟩ := x
  have hm : a.length ≤ 9223372036854775807 := by have : a.length ≤ maxLen := hx.1.1; unfold maxLen at this; omega
  delta t_i_SameVec; refine vcx ?_; try with_reducible exact True.intro
  simp only [neqI_t, neqI_f, lenN]
  refine fun _ _ => ⟨fun h => eqF fun e => h (by rw [e]), fun hl _ => ?_⟩
  refine ⟨fun s => ∃ k : Nat, k ≤ a.length ∧ s = (k : Int) ∧ ∀ i, i < k → a.getD i (zeroD tI) = b.getD i (zeroD tI), fun s => a.length - (s : Int).toNat, ⟨0, by omega, rfl, by omega⟩, fun s _ hI => ?_⟩
  obtain ⟨k, hk, rfl, ha⟩ := hI
  (refine dcx ?_; try with_reducible exact True.intro)
  constructor
  · intro hlt
    (repeat' first | intro _ | (with_reducible apply And.intro))
    all_goals first | omega | (exact eqF fun e => ‹¬ _ = _› (by rw [e])) | skip
    refine ⟨k + 1, by omega, rfl, fun i hi => ?_⟩
    rcases Nat.lt_or_eq_of_le (Nat.le_of_lt_succ hi) with h | rfl
    · exact ha i h
    · assumption
  · intro hge
    exact eqT (ext_getD hl fun i hi => ha i (by omega))
theorem h_i_SameVec : Con.Holds Try.prog c_i_SameVec := tree_ok mixedP consNil e_i_SameVec fun x hx hp => v_i_SameVec x hx hp

/-! spec.SameVec -/

noncomputable def c_s_SameVec : Con := ⟨25, tPair, .bool, [.val ⟨false, tInts, []⟩, .val ⟨false, tInts, []⟩], [⟨false, .bool, [0]⟩], false, none,
  ((fun _ => True) : (PairD) → Prop),
  ((fun x => eqB x.1 x.2) : (PairD) → (Bool))⟩
def t_s_SameVec : T :=
  .prim (.llen 3 tI) (.p1 tInts tInts (.vr 0)) <|
  .prim (.llen 3 tI) (prA tPair 1 (.vr 0)) <|
  .prim (.cmp .neq .i64) (.mk2 tI tI (.vr 1) (.vr 2)) <|
  .ite (.vr 3) (
   .ret (.cb false)) (
   .loop tI (.ci .i64 0) <|
    .prim (.llen 3 tI) (.p1 tInts tInts (.vr 0)) <|
    .prim (.cmp .lss .i64) (.mk2 tI tI (.vr 4) (.vr 5)) <|
    .ite (.vr 6) (
     .prim (.lidx 3 tI) (.mk2 tInts tI (.p1 tInts tInts (.vr 0)) (.vr 4)) <|
     .prim (.lidx 3 tI) (.mk2 tInts tI (prA tPair 1 (.vr 0)) (.vr 4)) <|
     .prim (.cmp .neq .i64) (.mk2 tI tI (.vr 7) (.vr 8)) <|
     .ite (.vr 9) (
      .ret (.cb false)) (
      .prim (.ar .add .i64) (.mk2 tI tI (.vr 4) (.ci .i64 1)) <|
      .again 0 (.vr 10))) (
     .ret (.cb true)))
set_option maxRecDepth 100000 in
theorem e_s_SameVec : exFn Try.prog [] c_s_SameVec false 3000 ⟨[(2988, 4, drd 10 6 ++ [.tm 5 0])], []⟩ = .ok t_s_SameVec := by kernel_rfl
/- loops: Int -/
theorem v_s_SameVec (x : PairD) (hx : okD tPair x) (hp : (fun _ => True) x) : t_s_SameVec.wp [] [⟨tPair, x⟩] [] (fun v => v.as .bool = (fun x => eqB x.1 x.2) x) := by
  obtain ⟨a, b⟩ := x
  have hm : a.length ≤ 9223372036854775807 := by have : a.length ≤ maxLen := hx.1.1; unfold maxLen at this; omega
  delta t_s_SameVec; refine vcx ?_; try with_reducible exact True.intro
  simp only [neqI_t, neqI_f, lenN]
  refine fun _ _ => ⟨fun h => eqF fun e => h (by rw [e]), fun hl => ?_⟩
  refine ⟨fun s => ∃ k : Nat, k ≤ a.length ∧ s = (k : Int) ∧ ∀ i, i < k → a.getD i (zeroD tI) = b.getD i (zeroD tI), fun s => a.length - (s : Int).toNat, ⟨0, by omega, rfl, by omega⟩, fun s _ hI => ?_⟩
  obtain ⟨k, hk, rfl, ha⟩ := hI
  (refine dcx ?_; try with_reducible exact True.intro)
  intro _
  constructor
  · intro hlt
    (repeat' first | intro _ | (with_reducible apply And.intro))
    all_goals first | omega | (exact eqF fun e => ‹¬ _ = _› (by rw [e])) | skip
    refine ⟨k + 1, by omega, rfl, fun i hi => ?_⟩
    rcases Nat.lt_or_eq_of_le (Nat.le_of_lt_succ hi) with h | rfl
    · exact ha i h
    · assumption
  · intro hge
    exact eqT (ext_getD hl fun i hi => ha i (by omega))
theorem h_s_SameVec : Con.Holds Try.prog c_s_SameVec := tree_ok mixedP consNil e_s_SameVec fun x hx hp => v_s_SameVec x hx hp

/-! impl.SameRows -/

noncomputable def c_i_SameRows : Con := ⟨86, (.pair tRows tRows), .bool, [.val ⟨false, tRows, []⟩, .val ⟨false, tRows, []⟩], [⟨false, .bool, [0]⟩], false, none,
  ((fun _ => True) : (RowsD × RowsD) → Prop),
  ((fun x => eqB x.1 x.2) : (RowsD × RowsD) → (Bool))⟩
def t_i_SameRows : T :=
  .prim (.llen 150 tInts) (.p1 tRows tRows (.vr 0)) <|
  .prim (.llen 150 tInts) (prA (.pair tRows tRows) 1 (.vr 0)) <|
  .prim (.cmp .neq .i64) (.mk2 tI tI (.vr 1) (.vr 2)) <|
  .ite (.vr 3) (
   .ret (.cb false)) (
   .prim (.llen 150 tInts) (.p1 tRows tRows (.vr 0)) <|
   .loop tI (.ci .i64 0) <|
    .prim (.cmp .lss .i64) (.mk2 tI tI (.vr 5) (.vr 4)) <|
    .ite (.vr 6) (
     .prim (.lidx 150 tInts) (.mk2 tRows tI (.p1 tRows tRows (.vr 0)) (.vr 5)) <|
     .prim (.lidx 150 tInts) (.mk2 tRows tI (prA (.pair tRows tRows) 1 (.vr 0)) (.vr 5)) <|
     .call 0 (.mk2 tInts tInts (.vr 7) (.vr 8)) <|
     .prim .not (.vr 9) <|
     .ite (.vr 10) (
      .ret (.cb false)) (
      .prim (.ar .add .i64) (.mk2 tI tI (.vr 5) (.ci .i64 1)) <|
      .again 0 (.vr 11))) (
     .ret (.cb true)))
set_option maxRecDepth 100000 in
theorem e_i_SameRows : exFn Try.prog [c_i_SameVec] c_i_SameRows false 3000 ⟨[(2988, 5, drd 11 6 ++ [.tm 13 0])], []⟩ = .ok t_i_SameRows := by kernel_rfl
/- loops: Int -/
theorem v_i_SameRows (x : RowsD × RowsD) (hx : okD (.pair tRows tRows) x) (hp : (fun _ => True) x) : t_i_SameRows.wp [c_i_SameVec] [⟨(.pair tRows tRows), x⟩] [] (fun v => v.as .bool = (fun x => eqB x.1 x.2) x) := by
  obtain ⟨a, b⟩ := x
  have hm : a.length ≤ 9223372036854775807 := by have : a.length ≤ maxLen := hx.1.1; unfold maxLen at this; omega
  delta t_i_SameRows c_i_SameVec; refine vcx ?_; try with_reducible exact True.intro
  simp only [neqI_t, neqI_f, lenN, notB_t, notB_f, eqB_iff, eqB_no]
  refine fun _ _ => ⟨fun h => eqF fun e => h (by rw [e]), fun hl _ => ?_⟩
  refine ⟨fun s => ∃ k : Nat, k ≤ a.length ∧ s = (k : Int) ∧ ∀ i, i < k → a.getD i (zeroD tInts) = b.getD i (zeroD tInts), fun s => a.length - (s : Int).toNat, ⟨0, by omega, rfl, by omega⟩, fun s _ hI => ?_⟩
  obtain ⟨k, hk, rfl, ha⟩ := hI
  (refine dcx ?_; try with_reducible exact True.intro)
  constructor
  · intro hlt
    (repeat' first | intro _ | (with_reducible apply And.intro))
    all_goals first | omega | (exact eqF fun e => ‹¬ _ = _› (by rw [e])) | skip
    refine ⟨k + 1, by omega, rfl, fun i hi => ?_⟩
    rcases Nat.lt_or_eq_of_le (Nat.le_of_lt_succ hi) with h | rfl
    · exact ha i h
    · assumption
  · intro hge
    exact eqT (ext_getD hl fun i hi => ha i (by omega))
theorem h_i_SameRows : Con.Holds Try.prog c_i_SameRows := tree_ok mixedP (consAt h_i_SameVec consNil) e_i_SameRows fun x hx hp => v_i_SameRows x hx hp

/-! spec.SameRows -/

noncomputable def c_s_SameRows : Con := ⟨80, (.pair tRows tRows), .bool, [.val ⟨false, tRows, []⟩, .val ⟨false, tRows, []⟩], [⟨false, .bool, [0]⟩], false, none,
  ((fun _ => True) : (RowsD × RowsD) → Prop),
  ((fun x => eqB x.1 x.2) : (RowsD × RowsD) → (Bool))⟩
def t_s_SameRows : T :=
  .prim (.llen 150 tInts) (.p1 tRows tRows (.vr 0)) <|
  .prim (.llen 150 tInts) (prA (.pair tRows tRows) 1 (.vr 0)) <|
  .prim (.cmp .neq .i64) (.mk2 tI tI (.vr 1) (.vr 2)) <|
  .ite (.vr 3) (
   .ret (.cb false)) (
   .loop tI (.ci .i64 0) <|
    .prim (.llen 150 tInts) (.p1 tRows tRows (.vr 0)) <|
    .prim (.cmp .lss .i64) (.mk2 tI tI (.vr 4) (.vr 5)) <|
    .ite (.vr 6) (
     .prim (.lidx 150 tInts) (.mk2 tRows tI (.p1 tRows tRows (.vr 0)) (.vr 4)) <|
     .prim (.lidx 150 tInts) (.mk2 tRows tI (prA (.pair tRows tRows) 1 (.vr 0)) (.vr 4)) <|
     .call 0 (.mk2 tInts tInts (.vr 7) (.vr 8)) <|
     .prim .not (.vr 9) <|
     .ite (.vr 10) (
      .ret (.cb false)) (
      .prim (.ar .add .i64) (.mk2 tI tI (.vr 4) (.ci .i64 1)) <|
      .again 0 (.vr 11))) (
     .ret (.cb true)))
set_option maxRecDepth 100000 in
theorem e_s_SameRows : exFn Try.prog [c_s_SameVec] c_s_SameRows false 3000 ⟨[(2988, 4, drd 10 6 ++ [.tm 5 0])], []⟩ = .ok t_s_SameRows := by kernel_rfl
/- loops: Int -/
theorem v_s_SameRows (x : RowsD × RowsD) (hx : okD (.pair tRows tRows) x) (hp : (fun _ => True) x) : t_s_SameRows.wp [c_s_SameVec] [⟨(.pair tRows tRows), x⟩] [] (fun v => v.as .bool = (fun x => eqB x.1 x.2) x) := by
  obtain ⟨a, b⟩ := x
  have hm : a.length ≤ 9223372036854775807 := by have : a.length ≤ maxLen := hx.1.1; unfold maxLen at this; omega
  delta t_s_SameRows c_s_SameVec; refine vcx ?_; try with_reducible exact True.intro
  simp only [neqI_t, neqI_f, lenN, notB_t, notB_f, eqB_iff, eqB_no]
  refine fun _ _ => ⟨fun h => eqF fun e => h (by rw [e]), fun hl => ?_⟩
  refine ⟨fun s => ∃ k : Nat, k ≤ a.length ∧ s = (k : Int) ∧ ∀ i, i < k → a.getD i (zeroD tInts) = b.getD i (zeroD tInts), fun s => a.length - (s : Int).toNat, ⟨0, by omega, rfl, by omega⟩, fun s _ hI => ?_⟩
  obtain ⟨k, hk, rfl, ha⟩ := hI
  (refine dcx ?_; try with_reducible exact True.intro)
  intro _
  constructor
  · intro hlt
    (repeat' first | intro _ | (with_reducible apply And.intro))
    all_goals first | omega | (exact eqF fun e => ‹¬ _ = _› (by rw [e])) | skip
    refine ⟨k + 1, by omega, rfl, fun i hi => ?_⟩
    rcases Nat.lt_or_eq_of_le (Nat.le_of_lt_succ hi) with h | rfl
    · exact ha i h
    · assumption
  · intro hge
    exact eqT (ext_getD hl fun i hi => ha i (by omega))
theorem h_s_SameRows : Con.Holds Try.prog c_s_SameRows := tree_ok mixedP (consAt h_s_SameVec consNil) e_s_SameRows fun x hx hp => v_s_SameRows x hx hp

/-! impl.SameGrads -/

noncomputable def c_i_SameGrads : Con := ⟨89, (.pair tGrads tGrads), .bool, [.val ⟨true, tGrads, []⟩, .val ⟨true, tGrads, []⟩], [⟨false, .bool, [0]⟩], false, none,
  ((fun _ => True) : (GradsD × GradsD) → Prop),
  ((fun x => eqB x.1 x.2) : (GradsD × GradsD) → (Bool))⟩
def t_i_SameGrads : T :=
  .call 0 (.mk2 tRows tRows (.p1 tRows (.pair tI .bool) (.p1 tGrads tGrads (.vr 0))) (pjA (.pair tGrads tGrads) 1 (.vr 0))) <|
  .ite (.vr 1) (
   .prim (.cmp .eql .i64) (.mk2 tI tI (pjA tGrads 1 (.p1 tGrads tGrads (.vr 0))) (pjA (.pair tGrads tGrads) 2 (.vr 0))) <|
   .ite (.vr 2) (
    .prim (.eqv false .bool) (.mk2 .bool .bool (prA tGrads 2 (.p1 tGrads tGrads (.vr 0))) (prA (.pair tGrads tGrads) 3 (.vr 0))) <|
    .ret (.vr 3)) (
    .ret (.cb false))) (
   .ret (.cb false))
set_option maxRecDepth 100000 in
theorem e_i_SameGrads : exFn Try.prog [c_i_SameRows] c_i_SameGrads false 3000 ⟨[], []⟩ = .ok t_i_SameGrads := by kernel_rfl
theorem v_i_SameGrads (x : GradsD × GradsD) (hx : okD (.pair tGrads tGrads) x) (hp : (fun _ => True) x) : t_i_SameGrads.wp [c_i_SameRows] [⟨(.pair tGrads tGrads), x⟩] [] (fun v => v.as .bool = (fun x => eqB x.1 x.2) x) := by
  obtain ⟨a, b⟩ := x
  delta t_i_SameGrads c_i_SameRows; refine vcx ?_; try with_reducible exact True.intro
  have e : (a = b) ↔ (a.1 = b.1 ∧ a.2.1 = b.2.1 ∧ a.2.2 = b.2.2) := by simp [Prod.ext_iff]
  simp only [beqB_e, beq_iff_eq, beq_eq_false_iff_ne, eqB_iff, eqB_no, ne_eq]
  (repeat' first | intro _ | (with_reducible apply And.intro))
  all_goals first | (refine eqF ?_; rw [e]; simp_all; done) | (rw [Bool.eq_iff_iff, eqB_iff, eqB_iff, e]; simp_all; done)
theorem h_i_SameGrads : Con.Holds Try.prog c_i_SameGrads := tree_ok mixedP (consAt h_i_SameRows consNil) e_i_SameGrads fun x hx hp => v_i_SameGrads x hx hp

/-! spec.SameGrads -/

noncomputable def c_s_SameGrads : Con := ⟨81, (.pair tGrads tGrads), .bool, [.val ⟨true, tGrads, []⟩, .val ⟨true, tGrads, []⟩], [⟨false, .bool, [0]⟩], false, none,
  ((fun _ => True) : (GradsD × GradsD) → Prop),
  ((fun x => eqB x.1 x.2) : (GradsD × GradsD) → (Bool))⟩
def t_s_SameGrads : T :=
  .prim (.cmp .eql .i64) (.mk2 tI tI (pjA tGrads 1 (.p1 tGrads tGrads (.vr 0))) (pjA (.pair tGrads tGrads) 2 (.vr 0))) <|
  .ite (.vr 1) (
   .prim (.eqv false .bool) (.mk2 .bool .bool (prA tGrads 2 (.p1 tGrads tGrads (.vr 0))) (prA (.pair tGrads tGrads) 3 (.vr 0))) <|
   .ite (.vr 2) (
    .call 0 (.mk2 tRows tRows (.p1 tRows (.pair tI .bool) (.p1 tGrads tGrads (.vr 0))) (pjA (.pair tGrads tGrads) 1 (.vr 0))) <|
    .ret (.vr 3)) (
    .ret (.cb false))) (
   .ret (.cb false))
set_option maxRecDepth 100000 in
theorem e_s_SameGrads : exFn Try.prog [c_s_SameRows] c_s_SameGrads false 3000 ⟨[], []⟩ = .ok t_s_SameGrads := by kernel_rfl
theorem v_s_SameGrads (x : GradsD × GradsD) (hx : okD (.pair tGrads tGrads) x) (hp : (fun _ => True) x) : t_s_SameGrads.wp [c_s_SameRows] [⟨(.pair tGrads tGrads), x⟩] [] (fun v => v.as .bool = (fun x => eqB x.1 x.2) x) := by
  obtain ⟨a, b⟩ := x
  delta t_s_SameGrads c_s_SameRows; refine vcx ?_; try with_reducible exact True.intro
  have e : (a = b) ↔ (a.1 = b.1 ∧ a.2.1 = b.2.1 ∧ a.2.2 = b.2.2) := by simp [Prod.ext_iff]
  simp only [beqB_e, beq_iff_eq, beq_eq_false_iff_ne, eqB_iff, eqB_no, ne_eq]
  (repeat' first | intro _ | (with_reducible apply And.intro))
  all_goals first | (refine eqF ?_; rw [e]; simp_all; done) | (rw [Bool.eq_iff_iff, eqB_iff, eqB_iff, e]; simp_all; done)
theorem h_s_SameGrads : Con.Holds Try.prog c_s_SameGrads := tree_ok mixedP (consAt h_s_SameRows consNil) e_s_SameGrads fun x hx hp => v_s_SameGrads x hx hp

/-! impl.SameOp -/

noncomputable def c_i_SameOp : Con := ⟨125, (.pair tOp tOp), .bool, [.val ⟨true, tOp, []⟩, .val ⟨true, tOp, []⟩], [⟨false, .bool, [0]⟩], false, none,
  ((fun _ => True) : (OpD × OpD) → Prop),
  ((fun x => eqB x.1 x.2) : (OpD × OpD) → (Bool))⟩
def t_i_SameOp : T :=
  .prim (.cmp .eql .i64) (.mk2 tI tI (.p1 tI (.pair tI (.pair tI tInts)) (.p1 tOp tOp (.vr 0))) (pjA (.pair tOp tOp) 1 (.vr 0))) <|
  .ite (.vr 1) (
   .prim (.cmp .eql .i64) (.mk2 tI tI (pjA tOp 1 (.p1 tOp tOp (.vr 0))) (pjA (.pair tOp tOp) 2 (.vr 0))) <|
   .ite (.vr 2) (
    .prim (.cmp .eql .i64) (.mk2 tI tI (pjA tOp 2 (.p1 tOp tOp (.vr 0))) (pjA (.pair tOp tOp) 3 (.vr 0))) <|
    .ite (.vr 3) (
     .call 0 (.mk2 tInts tInts (prA tOp 3 (.p1 tOp tOp (.vr 0))) (prA (.pair tOp tOp) 4 (.vr 0))) <|
     .ret (.vr 4)) (
     .ret (.cb false))) (
    .ret (.cb false))) (
   .ret (.cb false))
set_option maxRecDepth 100000 in
theorem e_i_SameOp : exFn Try.prog [c_i_SameVec] c_i_SameOp false 3000 ⟨[], []⟩ = .ok t_i_SameOp := by kernel_rfl
theorem v_i_SameOp (x : OpD × OpD) (hx : okD (.pair tOp tOp) x) (hp : (fun _ => True) x) : t_i_SameOp.wp [c_i_SameVec] [⟨(.pair tOp tOp), x⟩] [] (fun v => v.as .bool = (fun x => eqB x.1 x.2) x) := by
  obtain ⟨a, b⟩ := x
  delta t_i_SameOp c_i_SameVec; refine vcx ?_; try with_reducible exact True.intro
  have e : (a = b) ↔ (a.1 = b.1 ∧ a.2.1 = b.2.1 ∧ a.2.2.1 = b.2.2.1 ∧ a.2.2.2 = b.2.2.2) := by simp [Prod.ext_iff]
  simp only [beqB_e, beq_iff_eq, beq_eq_false_iff_ne, eqB_iff, eqB_no, ne_eq]
  (repeat' first | intro _ | (with_reducible apply And.intro))
  all_goals first | (refine eqF ?_; rw [e]; simp_all; done) | (rw [Bool.eq_iff_iff, eqB_iff, eqB_iff, e]; simp_all; done)
theorem h_i_SameOp : Con.Holds Try.prog c_i_SameOp := tree_ok mixedP (consAt h_i_SameVec consNil) e_i_SameOp fun x hx hp => v_i_SameOp x hx hp

/-! spec.SameOp -/

noncomputable def c_s_SameOp : Con := ⟨82, (.pair tOp tOp), .bool, [.val ⟨true, tOp, []⟩, .val ⟨true, tOp, []⟩], [⟨false, .bool, [0]⟩], false, none,
  ((fun _ => True) : (OpD × OpD) → Prop),
  ((fun x => eqB x.1 x.2) : (OpD × OpD) → (Bool))⟩
def t_s_SameOp : T :=
  .prim (.cmp .eql .i64) (.mk2 tI tI (.p1 tI (.pair tI (.pair tI tInts)) (.p1 tOp tOp (.vr 0))) (pjA (.pair tOp tOp) 1 (.vr 0))) <|
  .ite (.vr 1) (
   .prim (.cmp .eql .i64) (.mk2 tI tI (pjA tOp 1 (.p1 tOp tOp (.vr 0))) (pjA (.pair tOp tOp) 2 (.vr 0))) <|
   .ite (.vr 2) (
    .prim (.cmp .eql .i64) (.mk2 tI tI (pjA tOp 2 (.p1 tOp tOp (.vr 0))) (pjA (.pair tOp tOp) 3 (.vr 0))) <|
    .ite (.vr 3) (
     .call 0 (.mk2 tInts tInts (prA tOp 3 (.p1 tOp tOp (.vr 0))) (prA (.pair tOp tOp) 4 (.vr 0))) <|
     .ret (.vr 4)) (
     .ret (.cb false))) (
    .ret (.cb false))) (
   .ret (.cb false))
set_option maxRecDepth 100000 in
theorem e_s_SameOp : exFn Try.prog [c_s_SameVec] c_s_SameOp false 3000 ⟨[], []⟩ = .ok t_s_SameOp := by kernel_rfl
theorem v_s_SameOp (x : OpD × OpD) (hx : okD (.pair tOp tOp) x) (hp : (fun _ => True) x) : t_s_SameOp.wp [c_s_SameVec] [⟨(.pair tOp tOp), x⟩] [] (fun v => v.as .bool = (fun x => eqB x.1 x.2) x) := by
  obtain ⟨a, b⟩ := x
  delta t_s_SameOp c_s_SameVec; refine vcx ?_; try with_reducible exact True.intro
  have e : (a = b) ↔ (a.1 = b.1 ∧ a.2.1 = b.2.1 ∧ a.2.2.1 = b.2.2.1 ∧ a.2.2.2 = b.2.2.2) := by simp [Prod.ext_iff]
  simp only [beqB_e, beq_iff_eq, beq_eq_false_iff_ne, eqB_iff, eqB_no, ne_eq]
  (repeat' first | intro _ | (with_reducible apply And.intro))
  all_goals first | (refine eqF ?_; rw [e]; simp_all; done) | (rw [Bool.eq_iff_iff, eqB_iff, eqB_iff, e]; simp_all; done)
theorem h_s_SameOp : Con.Holds Try.prog c_s_SameOp := tree_ok mixedP (consAt h_s_SameVec consNil) e_s_SameOp fun x hx hp => v_s_SameOp x hx hp

/-! impl.SameModel -/

noncomputable def c_i_SameModel : Con := ⟨87, (.pair tModel tModel), .bool, [.val ⟨true, tModel, []⟩, .val ⟨true, tModel, []⟩], [⟨false, .bool, [0]⟩], false, none,
  ((fun _ => True) : (ModelD × ModelD) → Prop),
  ((fun x => eqB x.1 x.2) : (ModelD × ModelD) → (Bool))⟩
def t_i_SameModel : T :=
  .prim (.llen 86 tOp) (.p1 tModel tModel (.vr 0)) <|
  .prim (.llen 86 tOp) (prA (.pair tModel tModel) 1 (.vr 0)) <|
  .prim (.cmp .neq .i64) (.mk2 tI tI (.vr 1) (.vr 2)) <|
  .ite (.vr 3) (
   .ret (.cb false)) (
   .prim (.llen 86 tOp) (.p1 tModel tModel (.vr 0)) <|
   .loop tI (.ci .i64 0) <|
    .prim (.cmp .lss .i64) (.mk2 tI tI (.vr 5) (.vr 4)) <|
    .ite (.vr 6) (
     .prim (.lidx 86 tOp) (.mk2 tModel tI (.p1 tModel tModel (.vr 0)) (.vr 5)) <|
     .prim (.lidx 86 tOp) (.mk2 tModel tI (prA (.pair tModel tModel) 1 (.vr 0)) (.vr 5)) <|
     .call 0 (.mk2 tOp tOp (.vr 7) (.vr 8)) <|
     .prim .not (.vr 9) <|
     .ite (.vr 10) (
      .ret (.cb false)) (
      .prim (.ar .add .i64) (.mk2 tI tI (.vr 5) (.ci .i64 1)) <|
      .again 0 (.vr 11))) (
     .ret (.cb true)))
set_option maxRecDepth 100000 in
theorem e_i_SameModel : exFn Try.prog [c_i_SameOp] c_i_SameModel false 3000 ⟨[(2988, 5, drd 14 6 ++ [.dr 0, .dr 1, .tm 16 0])], []⟩ = .ok t_i_SameModel := by kernel_rfl
/- loops: Int -/
theorem v_i_SameModel (x : ModelD × ModelD) (hx : okD (.pair tModel tModel) x) (hp : (fun _ => True) x) : t_i_SameModel.wp [c_i_SameOp] [⟨(.pair tModel tModel), x⟩] [] (fun v => v.as .bool = (fun x => eqB x.1 x.2) x) := by
  obtain ⟨a, b⟩ := x
  have hm : a.length ≤ 9223372036854775807 := by have : a.length ≤ maxLen := hx.1.1; unfold maxLen at this; omega
  delta t_i_SameModel c_i_SameOp; refine vcx ?_; try with_reducible exact True.intro
  simp only [neqI_t, neqI_f, lenN, notB_t, notB_f, eqB_iff, eqB_no]
  refine fun _ _ => ⟨fun h => eqF fun e => h (by rw [e]), fun hl _ => ?_⟩
  refine ⟨fun s => ∃ k : Nat, k ≤ a.length ∧ s = (k : Int) ∧ ∀ i, i < k → a.getD i (zeroD tOp) = b.getD i (zeroD tOp), fun s => a.length - (s : Int).toNat, ⟨0, by omega, rfl, by omega⟩, fun s _ hI => ?_⟩
  obtain ⟨k, hk, rfl, ha⟩ := hI
  (refine dcx ?_; try with_reducible exact True.intro)
  constructor
  · intro hlt
    (repeat' first | intro _ | (with_reducible apply And.intro))
    all_goals first | omega | (exact eqF fun e => ‹¬ _ = _› (by rw [e])) | skip
    refine ⟨k + 1, by omega, rfl, fun i hi => ?_⟩
    rcases Nat.lt_or_eq_of_le (Nat.le_of_lt_succ hi) with h | rfl
    · exact ha i h
    · assumption
  · intro hge
    exact eqT (ext_getD hl fun i hi => ha i (by omega))
theorem h_i_SameModel : Con.Holds Try.prog c_i_SameModel := tree_ok mixedP (consAt h_i_SameOp consNil) e_i_SameModel fun x hx hp => v_i_SameModel x hx hp

/-! impl.modelOf -/

noncomputable def c_i_modelOf : Con := ⟨88, tStage, tModel, [.val ⟨true, tStage, []⟩], [⟨true, tModel, [0]⟩], true, none,
  ((fun _ => True) : (StageD) → Prop),
  ((fun x => x.2.2.1) : (StageD) → (ModelD))⟩
def t_i_modelOf : T :=
  .ret (pjA tStage 2 (.vr 0))
set_option maxRecDepth 100000 in
theorem e_i_modelOf : exFn Try.prog [] c_i_modelOf false 3000 ⟨[], []⟩ = .ok t_i_modelOf := by kernel_rfl
theorem v_i_modelOf (x : StageD) (hx : okD tStage x) (hp : (fun _ => True) x) : t_i_modelOf.wp [] [⟨tStage, x⟩] [] (fun v => v.as tModel = (fun x => x.2.2.1) x) := by
  delta t_i_modelOf; refine vcx ?_; try with_reducible exact True.intro
theorem h_i_modelOf : Con.Holds Try.prog c_i_modelOf := tree_ok mixedP consNil e_i_modelOf fun x hx hp => v_i_modelOf x hx hp

/-! impl.samePairs -/

noncomputable def c_i_samePairs : Con := ⟨29, (.pair tBatch tBatch), .bool, [.val ⟨false, tBatch, []⟩, .val ⟨false, tBatch, []⟩], [⟨false, .bool, [0]⟩], false, none,
  ((fun _ => True) : (BatchD × BatchD) → Prop),
  ((fun x => eqB x.1 x.2) : (BatchD × BatchD) → (Bool))⟩
def t_i_samePairs : T :=
  .prim (.llen 68 tPair) (.p1 tBatch tBatch (.vr 0)) <|
  .prim (.llen 68 tPair) (prA (.pair tBatch tBatch) 1 (.vr 0)) <|
  .prim (.cmp .neq .i64) (.mk2 tI tI (.vr 1) (.vr 2)) <|
  .ite (.vr 3) (
   .ret (.cb false)) (
   .prim (.llen 68 tPair) (.p1 tBatch tBatch (.vr 0)) <|
   .loop tI (.ci .i64 0) <|
    .prim (.cmp .lss .i64) (.mk2 tI tI (.vr 5) (.vr 4)) <|
    .ite (.vr 6) (
     .prim (.lidx 68 tPair) (.mk2 tBatch tI (.p1 tBatch tBatch (.vr 0)) (.vr 5)) <|
     .prim (.lidx 68 tPair) (.mk2 tBatch tI (prA (.pair tBatch tBatch) 1 (.vr 0)) (.vr 5)) <|
     .call 0 (.mk2 tInts tInts (.p1 tInts tInts (.vr 7)) (.p1 tInts tInts (.vr 8))) <|
     .prim .not (.vr 9) <|
     .ite (.vr 10) (
      .ret (.cb false)) (
      .prim (.lidx 68 tPair) (.mk2 tBatch tI (.p1 tBatch tBatch (.vr 0)) (.vr 5)) <|
      .prim (.lidx 68 tPair) (.mk2 tBatch tI (prA (.pair tBatch tBatch) 1 (.vr 0)) (.vr 5)) <|
      .call 0 (.mk2 tInts tInts (prA tPair 1 (.vr 11)) (prA tPair 1 (.vr 12))) <|
      .prim .not (.vr 13) <|
      .ite (.vr 14) (
       .ret (.cb false)) (
       .prim (.ar .add .i64) (.mk2 tI tI (.vr 5) (.ci .i64 1)) <|
       .again 0 (.vr 15)))) (
     .ret (.cb true)))
set_option maxRecDepth 100000 in
theorem e_i_samePairs : exFn Try.prog [c_i_SameVec] c_i_samePairs false 3000 ⟨[(2988, 5, drd 11 6 ++ [.tm 13 0])], []⟩ = .ok t_i_samePairs := by kernel_rfl
/- loops: Int -/
theorem v_i_samePairs (x : BatchD × BatchD) (hx : okD (.pair tBatch tBatch) x) (hp : (fun _ => True) x) : t_i_samePairs.wp [c_i_SameVec] [⟨(.pair tBatch tBatch), x⟩] [] (fun v => v.as .bool = (fun x => eqB x.1 x.2) x) := by
  obtain ⟨a, b⟩ := x
  have hm : a.length ≤ 9223372036854775807 := by have : a.length ≤ maxLen := hx.1.1; unfold maxLen at this; omega
  delta t_i_samePairs c_i_SameVec; refine vcx ?_; try with_reducible exact True.intro
  simp only [neqI_t, neqI_f, lenN, notB_t, notB_f, eqB_iff, eqB_no]
  refine fun _ _ => ⟨fun h => eqF fun e => h (by rw [e]), fun hl _ => ?_⟩
  refine ⟨fun s => ∃ k : Nat, k ≤ a.length ∧ s = (k : Int) ∧ ∀ i, i < k → a.getD i (zeroD tPair) = b.getD i (zeroD tPair), fun s => a.length - (s : Int).toNat, ⟨0, by omega, rfl, by omega⟩, fun s _ hI => ?_⟩
  obtain ⟨k, hk, rfl, ha⟩ := hI
  (refine dcx ?_; try with_reducible exact True.intro)
  constructor
  · intro hlt
    (repeat' first | intro _ | (with_reducible apply And.intro))
    all_goals first | omega | (exact eqF fun e => ‹¬ _ = _› (by rw [e])) | skip
    refine ⟨k + 1, by omega, rfl, fun i hi => ?_⟩
    rcases Nat.lt_or_eq_of_le (Nat.le_of_lt_succ hi) with h | rfl
    · exact ha i h
    · exact Prod.ext (by assumption) (by assumption)
  · intro hge
    exact eqT (ext_getD hl fun i hi => ha i (by omega))
theorem h_i_samePairs : Con.Holds Try.prog c_i_samePairs := tree_ok mixedP (consAt h_i_SameVec consNil) e_i_samePairs fun x hx hp => v_i_samePairs x hx hp

/-! impl.sameQueues -/

theorem getD_mem {α : Type} {l : List α} {k : Nat} (h : k < l.length) (d : α) : l.getD k d ∈ l := by rw [getD_at h]; exact List.getElem_mem h
noncomputable def c_i_sameQueues : Con := ⟨31, (.pair tQueues tQueues), .bool, [.val ⟨false, tQueues, []⟩, .val ⟨false, tQueues, []⟩], [⟨false, .bool, [0]⟩], false, none,
  ((fun _ => True) : ((List QueueD) × (List QueueD)) → Prop),
  ((fun x => eqB x.1 x.2) : ((List QueueD) × (List QueueD)) → (Bool))⟩
def t_i_sameQueues : T :=
  .prim (.llen 128 tQueue) (.p1 tQueues tQueues (.vr 0)) <|
  .prim (.llen 128 tQueue) (prA (.pair tQueues tQueues) 1 (.vr 0)) <|
  .prim (.cmp .neq .i64) (.mk2 tI tI (.vr 1) (.vr 2)) <|
  .ite (.vr 3) (
   .ret (.cb false)) (
   .prim (.llen 128 tQueue) (.p1 tQueues tQueues (.vr 0)) <|
   .loop tI (.ci .i64 0) <|
    .prim (.cmp .lss .i64) (.mk2 tI tI (.vr 5) (.vr 4)) <|
    .ite (.vr 6) (
     .prim (.lidx 128 tQueue) (.mk2 tQueues tI (.p1 tQueues tQueues (.vr 0)) (.vr 5)) <|
     .prim (.lidx 128 tQueue) (.mk2 tQueues tI (prA (.pair tQueues tQueues) 1 (.vr 0)) (.vr 5)) <|
     .prim (.cmp .neq .i64) (.mk2 tI tI (.p1 tI (.slice 130 tItem) (.vr 7)) (.p1 tI (.slice 130 tItem) (.vr 8))) <|
     .ite (.vr 9) (
      .ret (.cb false)) (
      .prim (.lidx 128 tQueue) (.mk2 tQueues tI (.p1 tQueues tQueues (.vr 0)) (.vr 5)) <|
      .prim (.llen 130 (.pair tI tInts)) (prA tQueue 1 (.vr 10)) <|
      .prim (.lidx 128 tQueue) (.mk2 tQueues tI (prA (.pair tQueues tQueues) 1 (.vr 0)) (.vr 5)) <|
      .prim (.llen 130 (.pair tI tInts)) (prA tQueue 1 (.vr 12)) <|
      .prim (.cmp .neq .i64) (.mk2 tI tI (.vr 11) (.vr 13)) <|
      .ite (.vr 14) (
       .ret (.cb false)) (
       .prim (.lidx 128 tQueue) (.mk2 tQueues tI (.p1 tQueues tQueues (.vr 0)) (.vr 5)) <|
       .prim (.llen 130 (.pair tI tInts)) (prA tQueue 1 (.vr 15)) <|
       .loop tI (.ci .i64 0) <|
        .prim (.cmp .lss .i64) (.mk2 tI tI (.vr 17) (.vr 16)) <|
        .ite (.vr 18) (
         .prim (.lidx 130 (.pair tI tInts)) (.mk2 (.slice 130 tItem) tI (prA tQueue 1 (.vr 15)) (.vr 17)) <|
         .prim (.lidx 128 tQueue) (.mk2 tQueues tI (prA (.pair tQueues tQueues) 1 (.vr 0)) (.vr 5)) <|
         .prim (.lidx 130 (.pair tI tInts)) (.mk2 (.slice 130 tItem) tI (prA tQueue 1 (.vr 20)) (.vr 17)) <|
         .prim (.cmp .neq .i64) (.mk2 tI tI (.p1 tI tInts (.vr 19)) (.p1 tI tInts (.vr 21))) <|
         .ite (.vr 22) (
          .ret (.cb false)) (
          .prim (.lidx 128 tQueue) (.mk2 tQueues tI (prA (.pair tQueues tQueues) 1 (.vr 0)) (.vr 5)) <|
          .prim (.lidx 130 (.pair tI tInts)) (.mk2 (.slice 130 tItem) tI (prA tQueue 1 (.vr 23)) (.vr 17)) <|
          .call 0 (.mk2 tInts tInts (prA (.pair tI tInts) 1 (.vr 19)) (prA (.pair tI tInts) 1 (.vr 24))) <|
          .prim .not (.vr 25) <|
          .ite (.vr 26) (
           .ret (.cb false)) (
           .prim (.ar .add .i64) (.mk2 tI tI (.vr 17) (.ci .i64 1)) <|
           .again 0 (.vr 27)))) (
         .prim (.ar .add .i64) (.mk2 tI tI (.vr 5) (.ci .i64 1)) <|
         .again 1 (.vr 19))))) (
     .ret (.cb true)))
set_option maxRecDepth 100000 in
theorem e_i_sameQueues : exFn Try.prog [c_i_SameVec] c_i_sameQueues false 3000 ⟨[(2988, 5, drd 13 8 ++ [.tm 15 0]), (2970, 17, [.tm 50 0])], []⟩ = .ok t_i_sameQueues := by kernel_rfl
/- loops: Int ¦ Int -/
theorem v_i_sameQueues (x : (List QueueD) × (List QueueD)) (hx : okD (.pair tQueues tQueues) x) (hp : (fun _ => True) x) : t_i_sameQueues.wp [c_i_SameVec] [⟨(.pair tQueues tQueues), x⟩] [] (fun v => v.as .bool = (fun x => eqB x.1 x.2) x) := by
  obtain ⟨a, b⟩ := x
  have hm : a.length ≤ 9223372036854775807 := by have : a.length ≤ maxLen := hx.1.1; unfold maxLen at this; omega
  have hq : ∀ k, k < a.length → (a.getD k (zeroD tQueue)).2.length ≤ 9223372036854775807 := fun k hk => by
    have : (a.getD k (zeroD tQueue)).2.length ≤ maxLen := (hx.1.2 _ (getD_mem hk _)).2.1
    unfold maxLen at this; omega
  delta t_i_sameQueues c_i_SameVec; refine vcx ?_; try with_reducible exact True.intro
  simp only [neqI_t, neqI_f, lenN, notB_t, notB_f, eqB_iff, eqB_no]
  refine fun _ _ => ⟨fun h => eqF fun e => h (by rw [e]), fun hl _ => ?_⟩
  refine ⟨fun s => ∃ k : Nat, k ≤ a.length ∧ s = (k : Int) ∧ ∀ i, i < k → a.getD i (zeroD tQueue) = b.getD i (zeroD tQueue), fun s => a.length - (s : Int).toNat, ⟨0, by omega, rfl, by omega⟩, fun s _ hI => ?_⟩
  obtain ⟨k, hk, rfl, ha⟩ := hI
  try (refine dcx ?_; try with_reducible exact True.intro)
  have hq2 := hq k
  (repeat' first | intro _ | (with_reducible apply And.intro))
  all_goals first | omega | (exact eqF fun e => ‹¬ _ = _› (by rw [e])) | (exact eqT (ext_getD hl fun i hi => ha i (by omega))) | skip
  refine ⟨fun s => ∃ j : Nat, j ≤ (a.getD k (zeroD tQueue)).2.length ∧ s = (j : Int) ∧ ∀ i, i < j → (a.getD k (zeroD tQueue)).2.getD i (zeroD (.pair tI tInts)) = (b.getD k (zeroD tQueue)).2.getD i (zeroD (.pair tI tInts)), fun s => (a.getD k (zeroD tQueue)).2.length - (s : Int).toNat, ⟨0, by omega, rfl, by omega⟩, fun s _ hI => ?_⟩
  obtain ⟨j, hj, rfl, hb⟩ := hI
  try (refine dcx ?_; try with_reducible exact True.intro)
  have hq3 := hq2 (by omega)
  (repeat' first | intro _ | (with_reducible apply And.intro))
  all_goals first | omega | (exact eqF fun e => ‹¬ _ = _› (by rw [e])) | (refine ⟨j + 1, by omega, rfl, fun i hi => ?_⟩; rcases Nat.lt_or_eq_of_le (Nat.le_of_lt_succ hi) with h | rfl; exact hb i h; exact Prod.ext (by assumption) (by assumption)) | (refine ⟨k + 1, by omega, rfl, fun i hi => ?_⟩; rcases Nat.lt_or_eq_of_le (Nat.le_of_lt_succ hi) with h | rfl; exact ha i h; exact Prod.ext (by assumption) (ext_getD (by assumption) fun i hi => hb i (by omega)))
theorem h_i_sameQueues : Con.Holds Try.prog c_i_sameQueues := tree_ok mixedP (consAt h_i_SameVec consNil) e_i_sameQueues fun x hx hp => v_i_sameQueues x hx hp

/-! spec.l13SameQueues -/

noncomputable def c_s_l13SameQueues : Con := ⟨23, (.pair tQueues tQueues), .bool, [.val ⟨false, tQueues, []⟩, .val ⟨false, tQueues, []⟩], [⟨false, .bool, [0]⟩], false, none,
  ((fun _ => True) : ((List QueueD) × (List QueueD)) → Prop),
  ((fun x => eqB x.1 x.2) : ((List QueueD) × (List QueueD)) → (Bool))⟩
def t_s_l13SameQueues : T :=
  .prim (.llen 128 tQueue) (.p1 tQueues tQueues (.vr 0)) <|
  .prim (.llen 128 tQueue) (prA (.pair tQueues tQueues) 1 (.vr 0)) <|
  .prim (.cmp .neq .i64) (.mk2 tI tI (.vr 1) (.vr 2)) <|
  .ite (.vr 3) (
   .ret (.cb false)) (
   .loop tI (.ci .i64 0) <|
    .prim (.llen 128 tQueue) (.p1 tQueues tQueues (.vr 0)) <|
    .prim (.cmp .lss .i64) (.mk2 tI tI (.vr 4) (.vr 5)) <|
    .ite (.vr 6) (
     .prim (.lidx 128 tQueue) (.mk2 tQueues tI (.p1 tQueues tQueues (.vr 0)) (.vr 4)) <|
     .prim (.lidx 128 tQueue) (.mk2 tQueues tI (prA (.pair tQueues tQueues) 1 (.vr 0)) (.vr 4)) <|
     .prim (.cmp .neq .i64) (.mk2 tI tI (.p1 tI (.slice 130 tItem) (.vr 7)) (.p1 tI (.slice 130 tItem) (.vr 8))) <|
     .ite (.vr 9) (
      .ret (.cb false)) (
      .prim (.lidx 128 tQueue) (.mk2 tQueues tI (.p1 tQueues tQueues (.vr 0)) (.vr 4)) <|
      .prim (.llen 130 (.pair tI tInts)) (prA tQueue 1 (.vr 10)) <|
      .prim (.lidx 128 tQueue) (.mk2 tQueues tI (prA (.pair tQueues tQueues) 1 (.vr 0)) (.vr 4)) <|
      .prim (.llen 130 (.pair tI tInts)) (prA tQueue 1 (.vr 12)) <|
      .prim (.cmp .neq .i64) (.mk2 tI tI (.vr 11) (.vr 13)) <|
      .ite (.vr 14) (
       .ret (.cb false)) (
       .loop tI (.ci .i64 0) <|
        .prim (.lidx 128 tQueue) (.mk2 tQueues tI (.p1 tQueues tQueues (.vr 0)) (.vr 4)) <|
        .prim (.llen 130 (.pair tI tInts)) (prA tQueue 1 (.vr 16)) <|
        .prim (.cmp .lss .i64) (.mk2 tI tI (.vr 15) (.vr 17)) <|
        .ite (.vr 18) (
         .prim (.lidx 128 tQueue) (.mk2 tQueues tI (.p1 tQueues tQueues (.vr 0)) (.vr 4)) <|
         .prim (.lidx 130 (.pair tI tInts)) (.mk2 (.slice 130 tItem) tI (prA tQueue 1 (.vr 19)) (.vr 15)) <|
         .prim (.lidx 128 tQueue) (.mk2 tQueues tI (prA (.pair tQueues tQueues) 1 (.vr 0)) (.vr 4)) <|
         .prim (.lidx 130 (.pair tI tInts)) (.mk2 (.slice 130 tItem) tI (prA tQueue 1 (.vr 21)) (.vr 15)) <|
         .prim (.cmp .neq .i64) (.mk2 tI tI (.p1 tI tInts (.vr 20)) (.p1 tI tInts (.vr 22))) <|
         .ite (.vr 23) (
          .ret (.cb false)) (
          .prim (.lidx 128 tQueue) (.mk2 tQueues tI (.p1 tQueues tQueues (.vr 0)) (.vr 4)) <|
          .prim (.lidx 130 (.pair tI tInts)) (.mk2 (.slice 130 tItem) tI (prA tQueue 1 (.vr 24)) (.vr 15)) <|
          .prim (.lidx 128 tQueue) (.mk2 tQueues tI (prA (.pair tQueues tQueues) 1 (.vr 0)) (.vr 4)) <|
          .prim (.lidx 130 (.pair tI tInts)) (.mk2 (.slice 130 tItem) tI (prA tQueue 1 (.vr 26)) (.vr 15)) <|
          .call 0 (.mk2 tInts tInts (prA (.pair tI tInts) 1 (.vr 25)) (prA (.pair tI tInts) 1 (.vr 27))) <|
          .prim .not (.vr 28) <|
          .ite (.vr 29) (
           .ret (.cb false)) (
           .prim (.ar .add .i64) (.mk2 tI tI (.vr 15) (.ci .i64 1)) <|
           .again 0 (.vr 30)))) (
         .prim (.ar .add .i64) (.mk2 tI tI (.vr 4) (.ci .i64 1)) <|
         .again 1 (.vr 19))))) (
     .ret (.cb true)))
set_option maxRecDepth 100000 in
theorem e_s_l13SameQueues : exFn Try.prog [c_s_SameVec] c_s_l13SameQueues false 3000 ⟨[(2988, 4, drd 11 7 ++ [.tm 5 0]), (2972, 15, [.tm 6 0])], []⟩ = .ok t_s_l13SameQueues := by kernel_rfl
/- loops: Int ¦ Int -/
theorem v_s_l13SameQueues (x : (List QueueD) × (List QueueD)) (hx : okD (.pair tQueues tQueues) x) (hp : (fun _ => True) x) : t_s_l13SameQueues.wp [c_s_SameVec] [⟨(.pair tQueues tQueues), x⟩] [] (fun v => v.as .bool = (fun x => eqB x.1 x.2) x) := by
  obtain ⟨a, b⟩ := x
  have hm : a.length ≤ 9223372036854775807 := by have : a.length ≤ maxLen := hx.1.1; unfold maxLen at this; omega
  have hq : ∀ k, k < a.length → (a.getD k (zeroD tQueue)).2.length ≤ 9223372036854775807 := fun k hk => by
    have : (a.getD k (zeroD tQueue)).2.length ≤ maxLen := (hx.1.2 _ (getD_mem hk _)).2.1
    unfold maxLen at this; omega
  delta t_s_l13SameQueues c_s_SameVec; refine vcx ?_; try with_reducible exact True.intro
  simp only [neqI_t, neqI_f, lenN, notB_t, notB_f, eqB_iff, eqB_no]
  refine fun _ _ => ⟨fun h => eqF fun e => h (by rw [e]), fun hl  => ?_⟩
  refine ⟨fun s => ∃ k : Nat, k ≤ a.length ∧ s = (k : Int) ∧ ∀ i, i < k → a.getD i (zeroD tQueue) = b.getD i (zeroD tQueue), fun s => a.length - (s : Int).toNat, ⟨0, by omega, rfl, by omega⟩, fun s _ hI => ?_⟩
  obtain ⟨k, hk, rfl, ha⟩ := hI
  try (refine dcx ?_; try with_reducible exact True.intro)
  have hq2 := hq k
  (repeat' first | intro _ | (with_reducible apply And.intro))
  all_goals first | omega | (exact eqF fun e => ‹¬ _ = _› (by rw [e])) | (exact eqT (ext_getD hl fun i hi => ha i (by omega))) | skip
  refine ⟨fun s => ∃ j : Nat, j ≤ (a.getD k (zeroD tQueue)).2.length ∧ s = (j : Int) ∧ ∀ i, i < j → (a.getD k (zeroD tQueue)).2.getD i (zeroD (.pair tI tInts)) = (b.getD k (zeroD tQueue)).2.getD i (zeroD (.pair tI tInts)), fun s => (a.getD k (zeroD tQueue)).2.length - (s : Int).toNat, ⟨0, by omega, rfl, by omega⟩, fun s _ hI => ?_⟩
  obtain ⟨j, hj, rfl, hb⟩ := hI
  try (refine dcx ?_; try with_reducible exact True.intro)
  have hq3 := hq2 (by omega)
  (repeat' first | intro _ | (with_reducible apply And.intro))
  all_goals first | omega | (exact eqF fun e => ‹¬ _ = _› (by rw [e])) | (refine ⟨j + 1, by omega, rfl, fun i hi => ?_⟩; rcases Nat.lt_or_eq_of_le (Nat.le_of_lt_succ hi) with h | rfl; exact hb i h; exact Prod.ext (by assumption) (by assumption)) | (refine ⟨k + 1, by omega, rfl, fun i hi => ?_⟩; rcases Nat.lt_or_eq_of_le (Nat.le_of_lt_succ hi) with h | rfl; exact ha i h; exact Prod.ext (by assumption) (ext_getD (by assumption) fun i hi => hb i (by omega)))
theorem h_s_l13SameQueues : Con.Holds Try.prog c_s_l13SameQueues := tree_ok mixedP (consAt h_s_SameVec consNil) e_s_l13SameQueues fun x hx hp => v_s_l13SameQueues x hx hp

/-! impl.sameStage -/

noncomputable def c_i_sameStage : Con := ⟨30, (.pair tStage tStage), .bool, [.val ⟨true, tStage, []⟩, .val ⟨true, tStage, []⟩], [⟨false, .bool, [0]⟩], false, none,
  ((fun _ => True) : (StageD × StageD) → Prop),
  ((fun x => eqB x.1 x.2) : (StageD × StageD) → (Bool))⟩
def t_i_sameStage : T :=
  .prim (.cmp .neq .i64) (.mk2 tI tI (.p1 tI (.pair tPlan (.pair tModel (.pair .bool (.pair .bool (.pair (.slice 88 tSaved) (.pair tRows (.pair tInts (.pair tInts (.pair tInts (.pair tInts tGrads)))))))))) (.p1 tStage tStage (.vr 0))) (pjA (.pair tStage tStage) 1 (.vr 0))) <|
  .ite (.vr 1) (
   .ret (.cb false)) (
   .prim (.eqv true .bool) (.mk2 .bool .bool (pjA tStage 3 (.p1 tStage tStage (.vr 0))) (pjA (.pair tStage tStage) 4 (.vr 0))) <|
   .ite (.vr 2) (
    .ret (.cb false)) (
    .prim (.eqv true .bool) (.mk2 .bool .bool (pjA tStage 4 (.p1 tStage tStage (.vr 0))) (pjA (.pair tStage tStage) 5 (.vr 0))) <|
    .ite (.vr 3) (
     .ret (.cb false)) (
     .prim (.llen 84 tIns) (pjA tStage 1 (.p1 tStage tStage (.vr 0))) <|
     .prim (.llen 84 tIns) (pjA (.pair tStage tStage) 2 (.vr 0)) <|
     .prim (.cmp .neq .i64) (.mk2 tI tI (.vr 4) (.vr 5)) <|
     .ite (.vr 6) (
      .ret (.cb false)) (
      .prim (.llen 88 tSaved) (pjA tStage 5 (.p1 tStage tStage (.vr 0))) <|
      .prim (.llen 88 tSaved) (pjA (.pair tStage tStage) 6 (.vr 0)) <|
      .prim (.cmp .neq .i64) (.mk2 tI tI (.vr 7) (.vr 8)) <|
      .ite (.vr 9) (
       .ret (.cb false)) (
       .prim (.llen 84 tIns) (pjA tStage 1 (.p1 tStage tStage (.vr 0))) <|
       .loop tI (.ci .i64 0) <|
        .prim (.cmp .lss .i64) (.mk2 tI tI (.vr 11) (.vr 10)) <|
        .ite (.vr 12) (
         .prim (.lidx 84 tIns) (.mk2 tPlan tI (pjA tStage 1 (.p1 tStage tStage (.vr 0))) (.vr 11)) <|
         .prim (.lidx 84 tIns) (.mk2 tPlan tI (pjA (.pair tStage tStage) 2 (.vr 0)) (.vr 11)) <|
         .prim (.eqv true tIns) (.mk2 tIns tIns (.vr 13) (.vr 14)) <|
         .ite (.vr 15) (
          .ret (.cb false)) (
          .prim (.ar .add .i64) (.mk2 tI tI (.vr 11) (.ci .i64 1)) <|
          .again 0 (.vr 16))) (
         .prim (.llen 88 tSaved) (pjA tStage 5 (.p1 tStage tStage (.vr 0))) <|
         .loop tI (.ci .i64 0) <|
          .prim (.cmp .lss .i64) (.mk2 tI tI (.vr 14) (.vr 13)) <|
          .ite (.vr 15) (
           .prim (.lidx 88 tSaved) (.mk2 (.slice 88 tSaved) tI (pjA tStage 5 (.p1 tStage tStage (.vr 0))) (.vr 14)) <|
           .prim (.lidx 88 tSaved) (.mk2 (.slice 88 tSaved) tI (pjA (.pair tStage tStage) 6 (.vr 0)) (.vr 14)) <|
           .prim (.cmp .neq .i64) (.mk2 tI tI (.p1 tI tRows (.vr 16)) (.p1 tI tRows (.vr 17))) <|
           .ite (.vr 18) (
            .ret (.cb false)) (
            .prim (.lidx 88 tSaved) (.mk2 (.slice 88 tSaved) tI (pjA tStage 5 (.p1 tStage tStage (.vr 0))) (.vr 14)) <|
            .prim (.lidx 88 tSaved) (.mk2 (.slice 88 tSaved) tI (pjA (.pair tStage tStage) 6 (.vr 0)) (.vr 14)) <|
            .call 0 (.mk2 tRows tRows (prA tSaved 1 (.vr 19)) (prA tSaved 1 (.vr 20))) <|
            .prim .not (.vr 21) <|
            .ite (.vr 22) (
             .ret (.cb false)) (
             .prim (.ar .add .i64) (.mk2 tI tI (.vr 14) (.ci .i64 1)) <|
             .again 0 (.vr 23)))) (
           .call 1 (.p1 tStage tStage (.vr 0)) <|
           .call 1 (prA (.pair tStage tStage) 1 (.vr 0)) <|
           .call 2 (.mk2 tModel tModel (.vr 16) (.vr 17)) <|
           .ite (.vr 18) (
            .call 0 (.mk2 tRows tRows (pjA tStage 6 (.p1 tStage tStage (.vr 0))) (pjA (.pair tStage tStage) 7 (.vr 0))) <|
            .ite (.vr 19) (
             .call 3 (.mk2 tInts tInts (pjA tStage 7 (.p1 tStage tStage (.vr 0))) (pjA (.pair tStage tStage) 8 (.vr 0))) <|
             .ite (.vr 20) (
              .call 3 (.mk2 tInts tInts (pjA tStage 8 (.p1 tStage tStage (.vr 0))) (pjA (.pair tStage tStage) 9 (.vr 0))) <|
              .ite (.vr 21) (
               .call 3 (.mk2 tInts tInts (pjA tStage 9 (.p1 tStage tStage (.vr 0))) (pjA (.pair tStage tStage) 10 (.vr 0))) <|
               .ite (.vr 22) (
                .call 3 (.mk2 tInts tInts (pjA tStage 10 (.p1 tStage tStage (.vr 0))) (pjA (.pair tStage tStage) 11 (.vr 0))) <|
                .ite (.vr 23) (
                 .call 4 (.mk2 tGrads tGrads (prA tStage 11 (.p1 tStage tStage (.vr 0))) (prA (.pair tStage tStage) 12 (.vr 0))) <|
                 .ret (.vr 24)) (
                 .ret (.cb false))) (
                .ret (.cb false))) (
               .ret (.cb false))) (
              .ret (.cb false))) (
             .ret (.cb false))) (
            .ret (.cb false)))))))))
set_option maxRecDepth 100000 in
theorem e_i_sameStage : exFn Try.prog [c_i_SameRows, c_i_modelOf, c_i_SameModel, c_i_SameVec, c_i_SameGrads] c_i_sameStage false 3000 ⟨[(2988, 11, drd 45 7 ++ [.dr 0, .dr 1, .tm 47 0]), (2978, 14, [.dr 63, .dr 62] ++ drd 48 46 ++ [.tm 65 0])], []⟩ = .ok t_i_sameStage := by kernel_rfl
/- loops: Int ¦ Int -/
set_option maxHeartbeats 2000000 in
theorem v_i_sameStage (x : StageD × StageD) (hx : okD (.pair tStage tStage) x) (hp : (fun _ => True) x) : t_i_sameStage.wp [c_i_SameRows, c_i_modelOf, c_i_SameModel, c_i_SameVec, c_i_SameGrads] [⟨(.pair tStage tStage), x⟩] [] (fun v => v.as .bool = (fun x => eqB x.1 x.2) x) := by
  obtain ⟨a, b⟩ := x
  have e : (a = b) ↔ (a.1 = b.1 ∧ a.2.1 = b.2.1 ∧ a.2.2.1 = b.2.2.1 ∧ a.2.2.2.1 = b.2.2.2.1 ∧ a.2.2.2.2.1 = b.2.2.2.2.1 ∧ a.2.2.2.2.2.1 = b.2.2.2.2.2.1 ∧ a.2.2.2.2.2.2.1 = b.2.2.2.2.2.2.1 ∧ a.2.2.2.2.2.2.2.1 = b.2.2.2.2.2.2.2.1 ∧ a.2.2.2.2.2.2.2.2.1 = b.2.2.2.2.2.2.2.2.1 ∧ a.2.2.2.2.2.2.2.2.2.1 = b.2.2.2.2.2.2.2.2.2.1 ∧ a.2.2.2.2.2.2.2.2.2.2.1 = b.2.2.2.2.2.2.2.2.2.2.1 ∧ a.2.2.2.2.2.2.2.2.2.2.2 = b.2.2.2.2.2.2.2.2.2.2.2) := by simp only [Prod.ext_iff, and_assoc]
  have hmx : ∀ {n : Nat}, n ≤ maxLen → n ≤ 9223372036854775807 := fun h => by unfold maxLen at h; omega
  have hm1 : a.2.1.length ≤ 9223372036854775807 := hmx hx.1.2.1.1
  have hm2 : a.2.2.1.length ≤ 9223372036854775807 := hmx hx.1.2.2.1.1
  have hm5 : a.2.2.2.2.2.1.length ≤ 9223372036854775807 := hmx hx.1.2.2.2.2.2.1.1
  delta t_i_sameStage c_i_SameRows c_i_modelOf c_i_SameModel c_i_SameVec c_i_SameGrads; refine vcx ?_; try with_reducible exact True.intro
  simp only [neqI_t, neqI_f, lenN, notB_t, notB_f, beqB_t, beqB_f, beqP_t, beqP_f, eqB_iff, eqB_no]
  (repeat' first | intro _ | (with_reducible apply And.intro))
  all_goals first | (exact eqF fun h => ‹¬ _ = _› (by rw [h])) | skip
  refine ⟨fun s => ∃ k : Nat, k ≤ a.2.1.length ∧ s = (k : Int) ∧ ∀ i, i < k → a.2.1.getD i (zeroD tIns) = b.2.1.getD i (zeroD tIns), fun s => a.2.1.length - (s : Int).toNat, ⟨0, by omega, rfl, by omega⟩, fun s _ hI => ?_⟩
  obtain ⟨k, hk, rfl, ha⟩ := hI
  try (refine dcx ?_; try with_reducible exact True.intro)
  (repeat' first | intro _ | (with_reducible apply And.intro))
  all_goals first | omega | (exact eqF fun h => ‹¬ _ = _› (by rw [h])) | (refine ⟨k + 1, by omega, rfl, fun i hi => ?_⟩; rcases Nat.lt_or_eq_of_le (Nat.le_of_lt_succ hi) with h | rfl; exact ha i h; exact (by assumption)) | skip
  have f1 : a.2.1 = b.2.1 := ext_getD (by assumption) fun i hi => ha i (by omega)
  refine ⟨fun s => ∃ j : Nat, j ≤ a.2.2.2.2.2.1.length ∧ s = (j : Int) ∧ ∀ i, i < j → a.2.2.2.2.2.1.getD i (zeroD tSaved) = b.2.2.2.2.2.1.getD i (zeroD tSaved), fun s => a.2.2.2.2.2.1.length - (s : Int).toNat, ⟨0, by omega, rfl, by omega⟩, fun s _ hI => ?_⟩
  obtain ⟨j, hj, rfl, hb⟩ := hI
  try (refine dcx ?_; try with_reducible exact True.intro)
  (repeat' first | intro _ | (with_reducible apply And.intro))
  all_goals first | omega | (exact eqF fun h => ‹¬ _ = _› (by rw [h])) | (refine ⟨j + 1, by omega, rfl, fun i hi => ?_⟩; rcases Nat.lt_or_eq_of_le (Nat.le_of_lt_succ hi) with h | rfl; exact hb i h; exact Prod.ext (by assumption) (by assumption)) | skip
  all_goals have f5 : a.2.2.2.2.2.1 = b.2.2.2.2.2.1 := ext_getD (by assumption) fun i hi => hb i (by omega)
  all_goals first | (rw [Bool.eq_iff_iff, eqB_iff, eqB_iff, e]; simp_all; done) | (refine eqT (e.2 ?_); simp_all; done) | (refine eqF fun h => ?_; rw [e] at h; simp_all; done)
theorem h_i_sameStage : Con.Holds Try.prog c_i_sameStage := tree_ok mixedP (consAt h_i_SameRows (consAt h_i_modelOf (consAt h_i_SameModel (consAt h_i_SameVec (consAt h_i_SameGrads consNil))))) e_i_sameStage fun x hx hp => v_i_sameStage x hx hp

/-! spec.l13SameStage -/

noncomputable def c_s_l13SameStage : Con := ⟨24, (.pair tStage tStage), .bool, [.val ⟨true, tStage, []⟩, .val ⟨true, tStage, []⟩], [⟨false, .bool, [0]⟩], false, none,
  ((fun _ => True) : (StageD × StageD) → Prop),
  ((fun x => eqB x.1 x.2) : (StageD × StageD) → (Bool))⟩
def t_s_l13SameStage : T :=
  .prim (.cmp .neq .i64) (.mk2 tI tI (.p1 tI (.pair tPlan (.pair tModel (.pair .bool (.pair .bool (.pair (.slice 88 tSaved) (.pair tRows (.pair tInts (.pair tInts (.pair tInts (.pair tInts tGrads)))))))))) (.p1 tStage tStage (.vr 0))) (pjA (.pair tStage tStage) 1 (.vr 0))) <|
  .ite (.vr 1) (
   .ret (.cb false)) (
   .prim (.eqv true .bool) (.mk2 .bool .bool (pjA tStage 3 (.p1 tStage tStage (.vr 0))) (pjA (.pair tStage tStage) 4 (.vr 0))) <|
   .ite (.vr 2) (
    .ret (.cb false)) (
    .prim (.eqv true .bool) (.mk2 .bool .bool (pjA tStage 4 (.p1 tStage tStage (.vr 0))) (pjA (.pair tStage tStage) 5 (.vr 0))) <|
    .ite (.vr 3) (
     .ret (.cb false)) (
     .prim (.llen 84 tIns) (pjA tStage 1 (.p1 tStage tStage (.vr 0))) <|
     .prim (.llen 84 tIns) (pjA (.pair tStage tStage) 2 (.vr 0)) <|
     .prim (.cmp .neq .i64) (.mk2 tI tI (.vr 4) (.vr 5)) <|
     .ite (.vr 6) (
      .ret (.cb false)) (
      .prim (.llen 86 tOp) (pjA tStage 2 (.p1 tStage tStage (.vr 0))) <|
      .prim (.llen 86 tOp) (pjA (.pair tStage tStage) 3 (.vr 0)) <|
      .prim (.cmp .neq .i64) (.mk2 tI tI (.vr 7) (.vr 8)) <|
      .ite (.vr 9) (
       .ret (.cb false)) (
       .prim (.llen 88 tSaved) (pjA tStage 5 (.p1 tStage tStage (.vr 0))) <|
       .prim (.llen 88 tSaved) (pjA (.pair tStage tStage) 6 (.vr 0)) <|
       .prim (.cmp .neq .i64) (.mk2 tI tI (.vr 10) (.vr 11)) <|
       .ite (.vr 12) (
        .ret (.cb false)) (
        .call 0 (.mk2 tRows tRows (pjA tStage 6 (.p1 tStage tStage (.vr 0))) (pjA (.pair tStage tStage) 7 (.vr 0))) <|
        .prim .not (.vr 13) <|
        .ite (.vr 14) (
         .ret (.cb false)) (
         .call 1 (.mk2 tInts tInts (pjA tStage 7 (.p1 tStage tStage (.vr 0))) (pjA (.pair tStage tStage) 8 (.vr 0))) <|
         .prim .not (.vr 15) <|
         .ite (.vr 16) (
          .ret (.cb false)) (
          .call 1 (.mk2 tInts tInts (pjA tStage 8 (.p1 tStage tStage (.vr 0))) (pjA (.pair tStage tStage) 9 (.vr 0))) <|
          .prim .not (.vr 17) <|
          .ite (.vr 18) (
           .ret (.cb false)) (
           .call 1 (.mk2 tInts tInts (pjA tStage 9 (.p1 tStage tStage (.vr 0))) (pjA (.pair tStage tStage) 10 (.vr 0))) <|
           .prim .not (.vr 19) <|
           .ite (.vr 20) (
            .ret (.cb false)) (
            .call 1 (.mk2 tInts tInts (pjA tStage 10 (.p1 tStage tStage (.vr 0))) (pjA (.pair tStage tStage) 11 (.vr 0))) <|
            .prim .not (.vr 21) <|
            .ite (.vr 22) (
             .ret (.cb false)) (
             .call 2 (.mk2 tGrads tGrads (prA tStage 11 (.p1 tStage tStage (.vr 0))) (prA (.pair tStage tStage) 12 (.vr 0))) <|
             .prim .not (.vr 23) <|
             .ite (.vr 24) (
              .ret (.cb false)) (
              .loop tI (.ci .i64 0) <|
               .prim (.llen 84 tIns) (pjA tStage 1 (.p1 tStage tStage (.vr 0))) <|
               .prim (.cmp .lss .i64) (.mk2 tI tI (.vr 25) (.vr 26)) <|
               .ite (.vr 27) (
                .prim (.lidx 84 tIns) (.mk2 tPlan tI (pjA tStage 1 (.p1 tStage tStage (.vr 0))) (.vr 25)) <|
                .prim (.lidx 84 tIns) (.mk2 tPlan tI (pjA (.pair tStage tStage) 2 (.vr 0)) (.vr 25)) <|
                .prim (.eqv true tIns) (.mk2 tIns tIns (.vr 28) (.vr 29)) <|
                .ite (.vr 30) (
                 .ret (.cb false)) (
                 .prim (.ar .add .i64) (.mk2 tI tI (.vr 25) (.ci .i64 1)) <|
                 .again 0 (.vr 31))) (
                .loop tI (.ci .i64 0) <|
                 .prim (.llen 86 tOp) (pjA tStage 2 (.p1 tStage tStage (.vr 0))) <|
                 .prim (.cmp .lss .i64) (.mk2 tI tI (.vr 28) (.vr 29)) <|
                 .ite (.vr 30) (
                  .prim (.lidx 86 tOp) (.mk2 tModel tI (pjA tStage 2 (.p1 tStage tStage (.vr 0))) (.vr 28)) <|
                  .prim (.lidx 86 tOp) (.mk2 tModel tI (pjA (.pair tStage tStage) 3 (.vr 0)) (.vr 28)) <|
                  .call 3 (.mk2 tOp tOp (.vr 31) (.vr 32)) <|
                  .prim .not (.vr 33) <|
                  .ite (.vr 34) (
                   .ret (.cb false)) (
                   .prim (.ar .add .i64) (.mk2 tI tI (.vr 28) (.ci .i64 1)) <|
                   .again 0 (.vr 35))) (
                  .loop tI (.ci .i64 0) <|
                   .prim (.llen 88 tSaved) (pjA tStage 5 (.p1 tStage tStage (.vr 0))) <|
                   .prim (.cmp .lss .i64) (.mk2 tI tI (.vr 31) (.vr 32)) <|
                   .ite (.vr 33) (
                    .prim (.lidx 88 tSaved) (.mk2 (.slice 88 tSaved) tI (pjA tStage 5 (.p1 tStage tStage (.vr 0))) (.vr 31)) <|
                    .prim (.lidx 88 tSaved) (.mk2 (.slice 88 tSaved) tI (pjA (.pair tStage tStage) 6 (.vr 0)) (.vr 31)) <|
                    .prim (.cmp .neq .i64) (.mk2 tI tI (.p1 tI tRows (.vr 34)) (.p1 tI tRows (.vr 35))) <|
                    .ite (.vr 36) (
                     .ret (.cb false)) (
                     .prim (.lidx 88 tSaved) (.mk2 (.slice 88 tSaved) tI (pjA tStage 5 (.p1 tStage tStage (.vr 0))) (.vr 31)) <|
                     .prim (.lidx 88 tSaved) (.mk2 (.slice 88 tSaved) tI (pjA (.pair tStage tStage) 6 (.vr 0)) (.vr 31)) <|
                     .call 0 (.mk2 tRows tRows (prA tSaved 1 (.vr 37)) (prA tSaved 1 (.vr 38))) <|
                     .prim .not (.vr 39) <|
                     .ite (.vr 40) (
                      .ret (.cb false)) (
                      .prim (.ar .add .i64) (.mk2 tI tI (.vr 31) (.ci .i64 1)) <|
                      .again 0 (.vr 41)))) (
                    .ret (.cb true))))))))))))))))
set_option maxRecDepth 100000 in
theorem e_s_l13SameStage : exFn Try.prog [c_s_SameRows, c_s_SameVec, c_s_SameGrads, c_s_SameOp] c_s_l13SameStage false 3000 ⟨[(2988, 25, drd 101 8 ++ [.dr 0, .dr 1, .tm 5 0]), (2978, 28, drd 106 102 ++ [.dr 5, .tm 6 0]), (2968, 31, drd 124 120 ++ [.dr 6, .tm 7 0])], []⟩ = .ok t_s_l13SameStage := by kernel_rfl
/- loops: Int ¦ Int ¦ Int -/
set_option maxHeartbeats 2000000 in
theorem v_s_l13SameStage (x : StageD × StageD) (hx : okD (.pair tStage tStage) x) (hp : (fun _ => True) x) : t_s_l13SameStage.wp [c_s_SameRows, c_s_SameVec, c_s_SameGrads, c_s_SameOp] [⟨(.pair tStage tStage), x⟩] [] (fun v => v.as .bool = (fun x => eqB x.1 x.2) x) := by
  obtain ⟨a, b⟩ := x
  have e : (a = b) ↔ (a.1 = b.1 ∧ a.2.1 = b.2.1 ∧ a.2.2.1 = b.2.2.1 ∧ a.2.2.2.1 = b.2.2.2.1 ∧ a.2.2.2.2.1 = b.2.2.2.2.1 ∧ a.2.2.2.2.2.1 = b.2.2.2.2.2.1 ∧ a.2.2.2.2.2.2.1 = b.2.2.2.2.2.2.1 ∧ a.2.2.2.2.2.2.2.1 = b.2.2.2.2.2.2.2.1 ∧ a.2.2.2.2.2.2.2.2.1 = b.2.2.2.2.2.2.2.2.1 ∧ a.2.2.2.2.2.2.2.2.2.1 = b.2.2.2.2.2.2.2.2.2.1 ∧ a.2.2.2.2.2.2.2.2.2.2.1 = b.2.2.2.2.2.2.2.2.2.2.1 ∧ a.2.2.2.2.2.2.2.2.2.2.2 = b.2.2.2.2.2.2.2.2.2.2.2) := by simp only [Prod.ext_iff, and_assoc]
  have hmx : ∀ {n : Nat}, n ≤ maxLen → n ≤ 9223372036854775807 := fun h => by unfold maxLen at h; omega
  have hm1 : a.2.1.length ≤ 9223372036854775807 := hmx hx.1.2.1.1
  have hm2 : a.2.2.1.length ≤ 9223372036854775807 := hmx hx.1.2.2.1.1
  have hm5 : a.2.2.2.2.2.1.length ≤ 9223372036854775807 := hmx hx.1.2.2.2.2.2.1.1
  delta t_s_l13SameStage c_s_SameRows c_s_SameVec c_s_SameGrads c_s_SameOp; refine vcx ?_; try with_reducible exact True.intro
  simp only [neqI_t, neqI_f, lenN, notB_t, notB_f, beqB_t, beqB_f, beqP_t, beqP_f, eqB_iff, eqB_no]
  (repeat' first | intro _ | (with_reducible apply And.intro))
  all_goals first | (exact eqF fun h => ‹¬ _ = _› (by rw [h])) | skip
  refine ⟨fun s => ∃ k : Nat, k ≤ a.2.1.length ∧ s = (k : Int) ∧ ∀ i, i < k → a.2.1.getD i (zeroD tIns) = b.2.1.getD i (zeroD tIns), fun s => a.2.1.length - (s : Int).toNat, ⟨0, by omega, rfl, by omega⟩, fun s _ hI => ?_⟩
  obtain ⟨k, hk, rfl, ha⟩ := hI
  try (refine dcx ?_; try with_reducible exact True.intro)
  (repeat' first | intro _ | (with_reducible apply And.intro))
  all_goals first | omega | (exact eqF fun h => ‹¬ _ = _› (by rw [h])) | (refine ⟨k + 1, by omega, rfl, fun i hi => ?_⟩; rcases Nat.lt_or_eq_of_le (Nat.le_of_lt_succ hi) with h | rfl; exact ha i h; exact (by assumption)) | skip
  have f1 : a.2.1 = b.2.1 := ext_getD (by assumption) fun i hi => ha i (by omega)
  refine ⟨fun s => ∃ l : Nat, l ≤ a.2.2.1.length ∧ s = (l : Int) ∧ ∀ i, i < l → a.2.2.1.getD i (zeroD tOp) = b.2.2.1.getD i (zeroD tOp), fun s => a.2.2.1.length - (s : Int).toNat, ⟨0, by omega, rfl, by omega⟩, fun s _ hI => ?_⟩
  obtain ⟨l, hl, rfl, hc⟩ := hI
  try (refine dcx ?_; try with_reducible exact True.intro)
  (repeat' first | intro _ | (with_reducible apply And.intro))
  all_goals first | omega | (exact eqF fun h => ‹¬ _ = _› (by rw [h])) | (refine ⟨l + 1, by omega, rfl, fun i hi => ?_⟩; rcases Nat.lt_or_eq_of_le (Nat.le_of_lt_succ hi) with h | rfl; exact hc i h; exact (by assumption)) | skip
  have f2 : a.2.2.1 = b.2.2.1 := ext_getD (by assumption) fun i hi => hc i (by omega)
  refine ⟨fun s => ∃ j : Nat, j ≤ a.2.2.2.2.2.1.length ∧ s = (j : Int) ∧ ∀ i, i < j → a.2.2.2.2.2.1.getD i (zeroD tSaved) = b.2.2.2.2.2.1.getD i (zeroD tSaved), fun s => a.2.2.2.2.2.1.length - (s : Int).toNat, ⟨0, by omega, rfl, by omega⟩, fun s _ hI => ?_⟩
  obtain ⟨j, hj, rfl, hb⟩ := hI
  try (refine dcx ?_; try with_reducible exact True.intro)
  (repeat' first | intro _ | (with_reducible apply And.intro))
  all_goals first | omega | (exact eqF fun h => ‹¬ _ = _› (by rw [h])) | (refine ⟨j + 1, by omega, rfl, fun i hi => ?_⟩; rcases Nat.lt_or_eq_of_le (Nat.le_of_lt_succ hi) with h | rfl; exact hb i h; exact Prod.ext (by assumption) (by assumption)) | skip
  all_goals have f5 : a.2.2.2.2.2.1 = b.2.2.2.2.2.1 := ext_getD (by assumption) fun i hi => hb i (by omega)
  all_goals first | (rw [Bool.eq_iff_iff, eqB_iff, eqB_iff, e]; simp_all; done) | (refine eqT (e.2 ?_); simp_all; done) | (refine eqF fun h => ?_; rw [e] at h; simp_all; done)
theorem h_s_l13SameStage : Con.Holds Try.prog c_s_l13SameStage := tree_ok mixedP (consAt h_s_SameRows (consAt h_s_SameVec (consAt h_s_SameGrads (consAt h_s_SameOp consNil)))) e_s_l13SameStage fun x hx hp => v_s_l13SameStage x hx hp

/-! impl.SamePipe -/

noncomputable def c_i_SamePipe : Con := ⟨9, (.pair tPipe tPipe), .bool, [.val ⟨true, tPipe, []⟩, .val ⟨true, tPipe, []⟩], [⟨false, .bool, [0]⟩], false, none,
  ((fun _ => True) : (PipeD × PipeD) → Prop),
  ((fun x => eqB x.1 x.2) : (PipeD × PipeD) → (Bool))⟩
def t_i_SamePipe : T :=
  .prim (.llen 54 tStage) (pjA tPipe 1 (.p1 tPipe tPipe (.vr 0))) <|
  .prim (.llen 54 tStage) (pjA (.pair tPipe tPipe) 2 (.vr 0)) <|
  .prim (.cmp .neq .i64) (.mk2 tI tI (.vr 1) (.vr 2)) <|
  .ite (.vr 3) (
   .ret (.cb false)) (
   .call 0 (.mk2 tBatch tBatch (.p1 tBatch (.pair (.slice 54 tStage) (.pair tQueues tQueues)) (.p1 tPipe tPipe (.vr 0))) (pjA (.pair tPipe tPipe) 1 (.vr 0))) <|
   .prim .not (.vr 4) <|
   .ite (.vr 5) (
    .ret (.cb false)) (
    .prim (.llen 54 tStage) (pjA tPipe 1 (.p1 tPipe tPipe (.vr 0))) <|
    .loop tI (.ci .i64 0) <|
     .prim (.cmp .lss .i64) (.mk2 tI tI (.vr 7) (.vr 6)) <|
     .ite (.vr 8) (
      .prim (.lidx 54 tStage) (.mk2 (.slice 54 tStage) tI (pjA tPipe 1 (.p1 tPipe tPipe (.vr 0))) (.vr 7)) <|
      .prim (.lidx 54 tStage) (.mk2 (.slice 54 tStage) tI (pjA (.pair tPipe tPipe) 2 (.vr 0)) (.vr 7)) <|
      .call 1 (.mk2 tStage tStage (.vr 9) (.vr 10)) <|
      .prim .not (.vr 11) <|
      .ite (.vr 12) (
       .ret (.cb false)) (
       .prim (.ar .add .i64) (.mk2 tI tI (.vr 7) (.ci .i64 1)) <|
       .again 0 (.vr 13))) (
      .call 2 (.mk2 tQueues tQueues (pjA tPipe 2 (.p1 tPipe tPipe (.vr 0))) (pjA (.pair tPipe tPipe) 3 (.vr 0))) <|
      .ite (.vr 9) (
       .call 2 (.mk2 tQueues tQueues (prA tPipe 3 (.p1 tPipe tPipe (.vr 0))) (prA (.pair tPipe tPipe) 4 (.vr 0))) <|
       .ret (.vr 10)) (
       .ret (.cb false)))))
set_option maxRecDepth 100000 in
theorem e_i_SamePipe : exFn Try.prog [c_i_samePairs, c_i_sameStage, c_i_sameQueues] c_i_SamePipe false 3000 ⟨[(2988, 7, drd 22 6 ++ [.dr 0, .dr 1, .tm 24 0])], []⟩ = .ok t_i_SamePipe := by kernel_rfl
/- loops: Int -/
set_option maxHeartbeats 2000000 in
theorem v_i_SamePipe (x : PipeD × PipeD) (hx : okD (.pair tPipe tPipe) x) (hp : (fun _ => True) x) : t_i_SamePipe.wp [c_i_samePairs, c_i_sameStage, c_i_sameQueues] [⟨(.pair tPipe tPipe), x⟩] [] (fun v => v.as .bool = (fun x => eqB x.1 x.2) x) := by
  obtain ⟨a, b⟩ := x
  have e : (a = b) ↔ (a.1 = b.1 ∧ a.2.1 = b.2.1 ∧ a.2.2.1 = b.2.2.1 ∧ a.2.2.2 = b.2.2.2) := by simp only [Prod.ext_iff, and_assoc]
  have hmx : ∀ {n : Nat}, n ≤ maxLen → n ≤ 9223372036854775807 := fun h => by unfold maxLen at h; omega
  have hm0 : a.1.length ≤ 9223372036854775807 := hmx hx.1.1.1
  have hm1 : a.2.1.length ≤ 9223372036854775807 := hmx hx.1.2.1.1
  delta t_i_SamePipe c_i_samePairs c_i_sameStage c_i_sameQueues; refine vcx ?_; try with_reducible exact True.intro
  simp only [neqI_t, neqI_f, lenN, notB_t, notB_f, beqB_t, beqB_f, beqP_t, beqP_f, eqB_iff, eqB_no]
  (repeat' first | intro _ | (with_reducible apply And.intro))
  all_goals first | (exact eqF fun h => ‹¬ _ = _› (by rw [h])) | skip
  refine ⟨fun s => ∃ k : Nat, k ≤ a.2.1.length ∧ s = (k : Int) ∧ ∀ i, i < k → a.2.1.getD i (zeroD (tStage)) = b.2.1.getD i (zeroD (tStage)), fun s => a.2.1.length - (s : Int).toNat, ⟨0, by omega, rfl, by omega⟩, fun s _ hI => ?_⟩
  obtain ⟨k, hk, rfl, ha⟩ := hI
  try (refine dcx ?_; try with_reducible exact True.intro)
  (repeat' first | intro _ | (with_reducible apply And.intro))
  all_goals first | omega | (exact eqF fun h => ‹¬ _ = _› (by rw [h])) | (refine ⟨k + 1, by omega, rfl, fun i hi => ?_⟩; rcases Nat.lt_or_eq_of_le (Nat.le_of_lt_succ hi) with h | rfl; exact ha i h; exact (by assumption)) | skip
  all_goals have f1 : a.2.1 = b.2.1 := ext_getD (by assumption) fun i hi => ha i (by omega)
  all_goals first | (rw [Bool.eq_iff_iff, eqB_iff, eqB_iff, e]; simp_all; done) | (refine eqT (e.2 ?_); simp_all; done) | (refine eqF fun h => ?_; rw [e] at h; simp_all; done)
theorem h_i_SamePipe : Con.Holds Try.prog c_i_SamePipe := tree_ok mixedP (consAt h_i_samePairs (consAt h_i_sameStage (consAt h_i_sameQueues consNil))) e_i_SamePipe fun x hx hp => v_i_SamePipe x hx hp

/-! spec.SamePipe -/

noncomputable def c_s_SamePipe : Con := ⟨7, (.pair tPipe tPipe), .bool, [.val ⟨true, tPipe, []⟩, .val ⟨true, tPipe, []⟩], [⟨false, .bool, [0]⟩], false, none,
  ((fun _ => True) : (PipeD × PipeD) → Prop),
  ((fun x => eqB x.1 x.2) : (PipeD × PipeD) → (Bool))⟩
def t_s_SamePipe : T :=
  .prim (.llen 54 tStage) (pjA tPipe 1 (.p1 tPipe tPipe (.vr 0))) <|
  .prim (.llen 54 tStage) (pjA (.pair tPipe tPipe) 2 (.vr 0)) <|
  .prim (.cmp .neq .i64) (.mk2 tI tI (.vr 1) (.vr 2)) <|
  .ite (.vr 3) (
   .ret (.cb false)) (
   .prim (.llen 68 tPair) (.p1 tBatch (.pair (.slice 54 tStage) (.pair tQueues tQueues)) (.p1 tPipe tPipe (.vr 0))) <|
   .prim (.llen 68 tPair) (pjA (.pair tPipe tPipe) 1 (.vr 0)) <|
   .prim (.cmp .neq .i64) (.mk2 tI tI (.vr 4) (.vr 5)) <|
   .ite (.vr 6) (
    .ret (.cb false)) (
    .call 0 (.mk2 tQueues tQueues (pjA tPipe 2 (.p1 tPipe tPipe (.vr 0))) (pjA (.pair tPipe tPipe) 3 (.vr 0))) <|
    .prim .not (.vr 7) <|
    .ite (.vr 8) (
     .ret (.cb false)) (
     .call 0 (.mk2 tQueues tQueues (prA tPipe 3 (.p1 tPipe tPipe (.vr 0))) (prA (.pair tPipe tPipe) 4 (.vr 0))) <|
     .prim .not (.vr 9) <|
     .ite (.vr 10) (
      .ret (.cb false)) (
      .loop tI (.ci .i64 0) <|
       .prim (.llen 54 tStage) (pjA tPipe 1 (.p1 tPipe tPipe (.vr 0))) <|
       .prim (.cmp .lss .i64) (.mk2 tI tI (.vr 11) (.vr 12)) <|
       .ite (.vr 13) (
        .prim (.lidx 54 tStage) (.mk2 (.slice 54 tStage) tI (pjA tPipe 1 (.p1 tPipe tPipe (.vr 0))) (.vr 11)) <|
        .prim (.lidx 54 tStage) (.mk2 (.slice 54 tStage) tI (pjA (.pair tPipe tPipe) 2 (.vr 0)) (.vr 11)) <|
        .call 1 (.mk2 tStage tStage (.vr 14) (.vr 15)) <|
        .prim .not (.vr 16) <|
        .ite (.vr 17) (
         .ret (.cb false)) (
         .prim (.ar .add .i64) (.mk2 tI tI (.vr 11) (.ci .i64 1)) <|
         .again 0 (.vr 18))) (
        .loop tI (.ci .i64 0) <|
         .prim (.llen 68 tPair) (.p1 tBatch (.pair (.slice 54 tStage) (.pair tQueues tQueues)) (.p1 tPipe tPipe (.vr 0))) <|
         .prim (.cmp .lss .i64) (.mk2 tI tI (.vr 14) (.vr 15)) <|
         .ite (.vr 16) (
          .prim (.lidx 68 tPair) (.mk2 tBatch tI (.p1 tBatch (.pair (.slice 54 tStage) (.pair tQueues tQueues)) (.p1 tPipe tPipe (.vr 0))) (.vr 14)) <|
          .prim (.lidx 68 tPair) (.mk2 tBatch tI (pjA (.pair tPipe tPipe) 1 (.vr 0)) (.vr 14)) <|
          .call 2 (.mk2 tInts tInts (.p1 tInts tInts (.vr 17)) (.p1 tInts tInts (.vr 18))) <|
          .prim .not (.vr 19) <|
          .ite (.vr 20) (
           .ret (.cb false)) (
           .prim (.lidx 68 tPair) (.mk2 tBatch tI (.p1 tBatch (.pair (.slice 54 tStage) (.pair tQueues tQueues)) (.p1 tPipe tPipe (.vr 0))) (.vr 14)) <|
           .prim (.lidx 68 tPair) (.mk2 tBatch tI (pjA (.pair tPipe tPipe) 1 (.vr 0)) (.vr 14)) <|
           .call 2 (.mk2 tInts tInts (prA tPair 1 (.vr 21)) (prA tPair 1 (.vr 22))) <|
           .prim .not (.vr 23) <|
           .ite (.vr 24) (
            .ret (.cb false)) (
            .prim (.ar .add .i64) (.mk2 tI tI (.vr 14) (.ci .i64 1)) <|
            .again 0 (.vr 25)))) (
          .ret (.cb true)))))))
set_option maxRecDepth 100000 in
theorem e_s_SamePipe : exFn Try.prog [c_s_l13SameQueues, c_s_l13SameStage, c_s_SameVec] c_s_SamePipe false 3000 ⟨[(2988, 11, drd 38 7 ++ [.dr 0, .dr 1, .tm 5 0]), (2978, 14, drd 43 39 ++ [.dr 5, .tm 6 0])], []⟩ = .ok t_s_SamePipe := by kernel_rfl
/- loops: Int ¦ Int -/
set_option maxHeartbeats 2000000 in
theorem v_s_SamePipe (x : PipeD × PipeD) (hx : okD (.pair tPipe tPipe) x) (hp : (fun _ => True) x) : t_s_SamePipe.wp [c_s_l13SameQueues, c_s_l13SameStage, c_s_SameVec] [⟨(.pair tPipe tPipe), x⟩] [] (fun v => v.as .bool = (fun x => eqB x.1 x.2) x) := by
  obtain ⟨a, b⟩ := x
  have e : (a = b) ↔ (a.1 = b.1 ∧ a.2.1 = b.2.1 ∧ a.2.2.1 = b.2.2.1 ∧ a.2.2.2 = b.2.2.2) := by simp only [Prod.ext_iff, and_assoc]
  have hmx : ∀ {n : Nat}, n ≤ maxLen → n ≤ 9223372036854775807 := fun h => by unfold maxLen at h; omega
  have hm0 : a.1.length ≤ 9223372036854775807 := hmx hx.1.1.1
  have hm1 : a.2.1.length ≤ 9223372036854775807 := hmx hx.1.2.1.1
  delta t_s_SamePipe c_s_l13SameQueues c_s_l13SameStage c_s_SameVec; refine vcx ?_; try with_reducible exact True.intro
  simp only [neqI_t, neqI_f, lenN, notB_t, notB_f, beqB_t, beqB_f, beqP_t, beqP_f, eqB_iff, eqB_no]
  (repeat' first | intro _ | (with_reducible apply And.intro))
  all_goals first | (exact eqF fun h => ‹¬ _ = _› (by rw [h])) | skip
  refine ⟨fun s => ∃ k : Nat, k ≤ a.2.1.length ∧ s = (k : Int) ∧ ∀ i, i < k → a.2.1.getD i (zeroD (tStage)) = b.2.1.getD i (zeroD (tStage)), fun s => a.2.1.length - (s : Int).toNat, ⟨0, by omega, rfl, by omega⟩, fun s _ hI => ?_⟩
  obtain ⟨k, hk, rfl, ha⟩ := hI
  try (refine dcx ?_; try with_reducible exact True.intro)
  (repeat' first | intro _ | (with_reducible apply And.intro))
  all_goals first | omega | (exact eqF fun h => ‹¬ _ = _› (by rw [h])) | (refine ⟨k + 1, by omega, rfl, fun i hi => ?_⟩; rcases Nat.lt_or_eq_of_le (Nat.le_of_lt_succ hi) with h | rfl; exact ha i h; exact (by assumption)) | skip
  all_goals have f1 : a.2.1 = b.2.1 := ext_getD (by assumption) fun i hi => ha i (by omega)
  refine ⟨fun s => ∃ j : Nat, j ≤ a.1.length ∧ s = (j : Int) ∧ ∀ i, i < j → a.1.getD i (zeroD (tPair)) = b.1.getD i (zeroD (tPair)), fun s => a.1.length - (s : Int).toNat, ⟨0, by omega, rfl, by omega⟩, fun s _ hI => ?_⟩
  obtain ⟨j, hj, rfl, hb⟩ := hI
  try (refine dcx ?_; try with_reducible exact True.intro)
  (repeat' first | intro _ | (with_reducible apply And.intro))
  all_goals first | omega | (exact eqF fun h => ‹¬ _ = _› (by rw [h])) | (refine ⟨j + 1, by omega, rfl, fun i hi => ?_⟩; rcases Nat.lt_or_eq_of_le (Nat.le_of_lt_succ hi) with h | rfl; exact hb i h; exact Prod.ext (by assumption) (by assumption)) | skip
  all_goals have f0 : a.1 = b.1 := ext_getD (by assumption) fun i hi => hb i (by omega)
  all_goals first | (rw [Bool.eq_iff_iff, eqB_iff, eqB_iff, e]; simp_all; done) | (refine eqT (e.2 ?_); simp_all; done) | (refine eqF fun h => ?_; rw [e] at h; simp_all; done)
theorem h_s_SamePipe : Con.Holds Try.prog c_s_SamePipe := tree_ok mixedP (consAt h_s_l13SameQueues (consAt h_s_l13SameStage (consAt h_s_SameVec consNil))) e_s_SamePipe fun x hx hp => v_s_SamePipe x hx hp
end Go.Proofs.Ytbbbpbioehnblaa
