/- Zero2: trees, and what they say. -/
import Derived.Test.YtiihghfoeinbbaaGreatOps2
namespace Go.Proofs.YtiihghfoeinbbaaGreat
open Go.ChangeShapes Go.WideShapes Go.ChangeAt Go.RowKit Go.Deep
set_option linter.unusedVariables false
set_option linter.unusedSimpArgs false
def zeroRows (m : List OpD) : List (List Int) := m.map fun o => List.replicate o.2.2.2.length 0
def zeroG (m : List OpD) : GradsD := if modelB m = true then (zeroRows m, 0, false) else ([], 0, false)
def fitAt (m : List OpD) (g : List (List Int)) (i : Nat) : Bool := decide ((g.getD i []).length = (m.getD i zOp).2.2.2.length)
def fitB (m : List OpD) (g : List (List Int)) : Bool := decide (g.length = m.length) && (List.range m.length).all (fitAt m g)
theorem fitB_iff (m : List OpD) (g : List (List Int)) : fitB m g = true ↔ g.length = m.length ∧ ∀ i, i < m.length → fitAt m g i = true := by
  unfold fitB; simp only [Bool.and_eq_true, decide_eq_true_eq, List.all_eq_true, List.mem_range]
theorem fitAt_iff (m : List OpD) (g : List (List Int)) {i : Nat} (h : i < m.length) (h' : i < g.length) : fitAt m g i = true ↔ g[i].length = m[i].2.2.2.length := by
  unfold fitAt
  rw [getD_at h, getD_at h', decide_eq_true_eq]
theorem fitB_bad {m : List OpD} {g : List (List Int)} {i : Nat} (h : i < m.length) (hb : ¬ fitAt m g i = true) : fitB m g = false := by
  refine Bool.eq_false_iff.2 ?_
  rw [ne_eq, fitB_iff]
  exact fun hh => hb (hh.2 i h)
def swingB (m : List OpD) (s : SwingD) : Bool := modelB m && (decide (0 ≤ s.2) && (fitB m s.1 && s.1.all fun r => r.all fixB))
def ModelP (m : List OpD) : Prop := List.length m ≤ 1000000000 ∧ ∀ o ∈ m, List.length o.2.2.2 ≤ 1000000000
def RowsP (m : List (List Int)) : Prop := List.length m ≤ 1000000000 ∧ ∀ o ∈ m, List.length o ≤ 1000000000
theorem zeroRows_next (m : List OpD) {k : Nat} (h : k < m.length) : (zeroRows m).take k ++ [List.replicate m[k].2.2.2.length 0] = (zeroRows m).take (k + 1) := by
  have h' : k < (zeroRows m).length := by unfold zeroRows; rw [List.length_map]; exact h
  have e : (zeroRows m)[k]'h' = List.replicate m[k].2.2.2.length 0 := List.getElem_map ..
  rw [List.take_succ_eq_append_getElem h', e]
theorem zeroRows_len (m : List OpD) : (zeroRows m).length = m.length := List.length_map _
noncomputable def c_i_gradsFit : Con := ⟨128, (.pair tModel tRows), .bool, [.val ⟨true, tModel, []⟩, .val ⟨false, tRows, []⟩], [⟨false, .bool, [0]⟩], false, none,
  ((fun _ => True) : (ModelD × RowsD) → Prop),
  ((fun x => fitB x.1 x.2) : (ModelD × RowsD) → (Bool))⟩
def t_i_gradsFit : T :=
  .prim (.llen 156 tInts) (prA (.pair tModel tRows) 1 (.vr 0)) <|
  .prim (.llen 146 tOp) (.p1 tModel tRows (.vr 0)) <|
  .prim (.cmp .neq .i64) (.mk2 tI tI (.vr 1) (.vr 2)) <|
  .ite (.vr 3) (
   .ret (.cb false)) (
   .prim (.llen 146 tOp) (.p1 tModel tRows (.vr 0)) <|
   .loop tI (.ci .i64 0) <|
    .prim (.cmp .lss .i64) (.mk2 tI tI (.vr 5) (.vr 4)) <|
    .ite (.vr 6) (
     .prim (.lidx 146 tOp) (.mk2 tModel tI (.p1 tModel tRows (.vr 0)) (.vr 5)) <|
     .prim (.lidx 156 tInts) (.mk2 tRows tI (prA (.pair tModel tRows) 1 (.vr 0)) (.vr 5)) <|
     .prim (.llen 3 tI) (.vr 8) <|
     .prim (.llen 3 tI) (prA tOp 3 (.vr 7)) <|
     .prim (.cmp .neq .i64) (.mk2 tI tI (.vr 9) (.vr 10)) <|
     .ite (.vr 11) (
      .ret (.cb false)) (
      .prim (.ar .add .i64) (.mk2 tI tI (.vr 5) (.ci .i64 1)) <|
      .again 0 (.vr 12))) (
     .ret (.cb true)))
set_option maxRecDepth 100000 in
theorem e_i_gradsFit : exFn Tryz.prog [] c_i_gradsFit false 3000 ⟨[(2988, 2005, drd 13 7 ++ [.dr 2, .dr 0, .tm 16 0])], []⟩ = .ok t_i_gradsFit := by kernel_rfl
theorem v_i_gradsFit (x : ModelD × RowsD) (hx : okD (.pair tModel tRows) x) (hp : (fun _ => True) x) : t_i_gradsFit.wp [] [⟨(.pair tModel tRows), x⟩] [] (fun v => v.as .bool = (fun x => fitB x.1 x.2) x) := by
  obtain ⟨m, g⟩ := x
  have hm1 : m.length ≤ 9223372036854775807 := hx.1.1
  delta t_i_gradsFit; refine vcx ?_; try with_reducible exact True.intro
  (repeat' first | intro _ | (with_reducible apply And.intro))
  all_goals simp only [Int.toNat_natCast, Bool.not_eq_true', Bool.not_eq_false', Bool.and_eq_true, Bool.and_eq_false_iff, decide_eq_true_eq, decide_eq_false_iff_not, Int.not_lt, Int.not_le, ge_iff_le, gt_iff_lt, List.length_cons, List.length_nil, List.length_append, Nat.zero_add, List.nil_append, beq_iff_eq, beq_eq_false_iff_ne, bne_iff_ne, bne_eq_false_iff_eq, ne_eq, toNat_pred, toNat_succ, toNat_l0, toNat_l1] at *
  · exact (Bool.eq_false_iff.2 fun h => by rw [fitB_iff] at h; omega).symm
  refine ⟨fun s => ∃ k : Nat, k ≤ m.length ∧ s = (k : Int) ∧ ∀ i, i < k → fitAt m g i = true, fun s => m.length - (s : Int).toNat, ⟨0, by omega, rfl, by omega⟩, fun s _ hI => ?_⟩
  obtain ⟨k, hk, rfl, ha⟩ := hI
  (refine dcx ?_; try with_reducible exact True.intro)
  constructor
  · intro hlt
    have hk' : k < m.length := by omega
    have hk2 : k < g.length := by omega
    rw [getD_at hk', getD_at hk2]
    have e := fitAt_iff m g hk' hk2
    refine ⟨by omega, fun _ => ⟨by omega, fun _ _ _ => ⟨fun h => (fitB_bad hk' fun h2 => ?_).symm, fun h => ⟨by omega, fun _ => ⟨⟨k + 1, by omega, rfl, fun i hi => ?_⟩, by omega⟩⟩⟩⟩⟩
    · have := e.1 h2; omega
    · rcases Nat.lt_or_eq_of_le (Nat.le_of_lt_succ hi) with h' | rfl
      · exact ha i h'
      · exact e.2 (by omega)
  · intro hge
    have : k = m.length := by omega
    subst this
    exact ((fitB_iff m g).2 ⟨by omega, ha⟩).symm
theorem h_i_gradsFit : Con.Holds Tryz.prog c_i_gradsFit := tree_ok mixedP consNil e_i_gradsFit fun x hx hp => v_i_gradsFit x hx hp
noncomputable def c_i_ZeroGrads : Con := ⟨124, tModel, tGrads, [.val ⟨true, tModel, []⟩], [⟨true, tGrads, [2, 0, 0]⟩], false, none,
  ((fun x => ModelP x) : (ModelD) → Prop),
  ((fun x => zeroG x) : (ModelD) → (GradsD))⟩
def t_i_ZeroGrads : T :=
  .call 0 (.vr 0) <|
  .prim .not (.vr 1) <|
  .ite (.vr 2) (
   .ret (mkA tGrads [(.nl 156 tInts), (.ci .i64 0), (.cb false)])) (
   .prim (.llen 146 tOp) (.vr 0) <|
   .loop tSaved (.mk2 tI tRows (.ci .i64 0) (.nl 156 tInts)) <|
    .prim (.cmp .lss .i64) (.mk2 tI tI (.p1 tI tRows (.vr 4)) (.vr 3)) <|
    .ite (.vr 5) (
     .prim (.lidx 146 tOp) (.mk2 tModel tI (.vr 0) (.p1 tI tRows (.vr 4))) <|
     .prim (.llen 3 tI) (prA tOp 3 (.vr 6)) <|
     .prim (.rep 3 tI 8) (.vr 7) <|
     .prim (.lit 156 tInts 1) (.vr 8) <|
     .prim (.lapp 156 tInts 24) (.mk2 tRows tRows (prA tSaved 1 (.vr 4)) (.vr 9)) <|
     .prim (.ar .add .i64) (.mk2 tI tI (.p1 tI tRows (.vr 4)) (.ci .i64 1)) <|
     .again 0 (.mk2 tI tRows (.vr 11) (.vr 10))) (
     .ret (mkA tGrads [(prA tSaved 1 (.vr 4)), (.ci .i64 0), (.cb false)])))
set_option maxRecDepth 100000 in
theorem e_i_ZeroGrads : exFn Tryz.prog [c_i_ModelOk] c_i_ZeroGrads false 3000 ⟨[(2986, 2004, [.dr 11, .dr 10] ++ drd 8 6 ++ [.dr 1, .dr 0, .tm 14 0, .sl 6])], [(2976, 6007, [23], [])]⟩ = .ok t_i_ZeroGrads := by kernel_rfl
theorem v_i_ZeroGrads (x : ModelD) (hx : okD tModel x) (hp : (fun x => ModelP x) x) : t_i_ZeroGrads.wp [c_i_ModelOk] [⟨tModel, x⟩] [] (fun v => v.as tGrads = (fun x => zeroG x) x) := by
  have hq : ModelP x := hp
  obtain ⟨hp1, hp2⟩ : ModelP x := hp
  delta t_i_ZeroGrads c_i_ModelOk; refine vcx ?_; try with_reducible exact True.intro
  refine ⟨fun hb => ?_, fun hb _ => ?_⟩
  all_goals simp only [Int.toNat_natCast, Bool.not_eq_true', Bool.not_eq_false', Bool.and_eq_true, Bool.and_eq_false_iff, decide_eq_true_eq, decide_eq_false_iff_not, Int.not_lt, Int.not_le, ge_iff_le, gt_iff_lt, List.length_cons, List.length_nil, List.length_append, Nat.zero_add, List.nil_append, beq_iff_eq, beq_eq_false_iff_ne, bne_iff_ne, bne_eq_false_iff_eq, ne_eq, toNat_pred, toNat_succ, toNat_l0, toNat_l1] at hb
  · unfold zeroG; rw [hb]; rfl
  refine ⟨fun s => ∃ k : Nat, k ≤ x.length ∧ s = ((k : Int), (zeroRows x).take k), fun s => x.length - (s.1 : Int).toNat, ⟨0, by omega, by simp⟩, fun s _ hI => ?_⟩
  obtain ⟨k, hk, rfl⟩ := hI
  dsimp only
  have hl : List.length ((zeroRows x).take k) = k := by rw [List.length_take, zeroRows_len]; omega
  simp only [Int.toNat_natCast, Bool.not_eq_true', Bool.not_eq_false', Bool.and_eq_true, Bool.and_eq_false_iff, decide_eq_true_eq, decide_eq_false_iff_not, Int.not_lt, Int.not_le, ge_iff_le, gt_iff_lt, List.length_cons, List.length_nil, List.length_append, Nat.zero_add, List.nil_append, beq_iff_eq, beq_eq_false_iff_ne, bne_iff_ne, bne_eq_false_iff_eq, ne_eq, toNat_pred, toNat_succ, toNat_l0, toNat_l1, hl]
  constructor
  · intro hlt
    have hk' : k < x.length := by omega
    rw [getD_at hk']
    have hm := hp2 _ (List.getElem_mem hk')
    have e := zeroRows_next x hk'
    (repeat' first | intro _ | (with_reducible apply And.intro))
    all_goals first | omega | (unfold maxLen; omega) | (exact ⟨k + 1, by omega, by rw [← e]; rfl⟩)
  · intro hge
    have : k = x.length := by omega
    subst this
    unfold zeroG
    rw [if_pos hb, take_ge (by rw [zeroRows_len]; omega)]
theorem h_i_ZeroGrads : Con.Holds Tryz.prog c_i_ZeroGrads := tree_ok mixedP (consAt h_i_ModelOk consNil) e_i_ZeroGrads fun x hx hp => v_i_ZeroGrads x hx hp
noncomputable def c_s_ZeroGrads : Con := ⟨114, tModel, tGrads, [.val ⟨true, tModel, []⟩], [⟨true, tGrads, [2, 0, 0]⟩], false, none,
  ((fun x => ModelP x) : (ModelD) → Prop),
  ((fun x => zeroG x) : (ModelD) → (GradsD))⟩
def t_s_ZeroGrads : T :=
  .loop tSaved (.mk2 tI tRows (.ci .i64 0) (.nl 156 tInts)) <|
   .prim (.llen 146 tOp) (.vr 0) <|
   .prim (.cmp .lss .i64) (.mk2 tI tI (.p1 tI tRows (.vr 1)) (.vr 2)) <|
   .ite (.vr 3) (
    .call 0 (.vr 0) <|
    .ite (.vr 4) (
     .prim (.lidx 146 tOp) (.mk2 tModel tI (.vr 0) (.p1 tI tRows (.vr 1))) <|
     .prim (.llen 3 tI) (prA tOp 3 (.vr 5)) <|
     .prim (.rep 3 tI 8) (.vr 6) <|
     .prim (.lit 156 tInts 1) (.vr 7) <|
     .prim (.lapp 156 tInts 24) (.mk2 tRows tRows (prA tSaved 1 (.vr 1)) (.vr 8)) <|
     .prim (.ar .add .i64) (.mk2 tI tI (.p1 tI tRows (.vr 1)) (.ci .i64 1)) <|
     .again 0 (.mk2 tI tRows (.vr 10) (.vr 9))) (
     .ret (mkA tGrads [(prA tSaved 1 (.vr 1)), (.ci .i64 0), (.cb false)]))) (
    .ret (mkA tGrads [(prA tSaved 1 (.vr 1)), (.ci .i64 0), (.cb false)]))
set_option maxRecDepth 100000 in
theorem e_s_ZeroGrads : exFn Tryz.prog [c_s_ModelOk] c_s_ZeroGrads false 3000 ⟨[(2991, 1001, [.dr 5, .dr 0, .tm 4 0, .sl 6])], [(2983, 7005, [26], [])]⟩ = .ok t_s_ZeroGrads := by kernel_rfl
theorem v_s_ZeroGrads (x : ModelD) (hx : okD tModel x) (hp : (fun x => ModelP x) x) : t_s_ZeroGrads.wp [c_s_ModelOk] [⟨tModel, x⟩] [] (fun v => v.as tGrads = (fun x => zeroG x) x) := by
  have hq : ModelP x := hp
  obtain ⟨hp1, hp2⟩ : ModelP x := hp
  delta t_s_ZeroGrads c_s_ModelOk; refine vcx ?_; try with_reducible exact True.intro
  refine ⟨fun s => ∃ k : Nat, k ≤ x.length ∧ (k = 0 ∨ modelB x = true) ∧ s = ((k : Int), (zeroRows x).take k), fun s => x.length - (s.1 : Int).toNat, ⟨0, by omega, .inl rfl, by simp⟩, fun s _ hI => ?_⟩
  obtain ⟨k, hk, hz, rfl⟩ := hI
  dsimp only
  have hl : List.length ((zeroRows x).take k) = k := by rw [List.length_take, zeroRows_len]; omega
  simp only [Int.toNat_natCast, Bool.not_eq_true', Bool.not_eq_false', Bool.and_eq_true, Bool.and_eq_false_iff, decide_eq_true_eq, decide_eq_false_iff_not, Int.not_lt, Int.not_le, ge_iff_le, gt_iff_lt, List.length_cons, List.length_nil, List.length_append, Nat.zero_add, List.nil_append, beq_iff_eq, beq_eq_false_iff_ne, bne_iff_ne, bne_eq_false_iff_eq, ne_eq, toNat_pred, toNat_succ, toNat_l0, toNat_l1, hl]
  intro _
  have fin : k = x.length ∨ modelB x = false → ((zeroRows x).take k, (0 : Int), false) = zeroG x := fun h => by
    unfold zeroG
    cases hb : modelB x
    · have : k = 0 := hz.elim id fun h => by rw [hb] at h; cases h
      subst this
      rfl
    · have : k = x.length := h.elim id fun h => by rw [hb] at h; cases h
      rw [if_pos rfl, take_ge (by rw [zeroRows_len]; omega)]
  constructor
  · intro hlt
    have hk' : k < x.length := by omega
    rw [getD_at hk']
    have hm := hp2 _ (List.getElem_mem hk')
    have e := zeroRows_next x hk'
    (repeat' first | intro _ | (with_reducible apply And.intro))
    all_goals first | omega | (unfold maxLen; omega) | exact hm | exact hp2 _ ‹_› | (exact ⟨k + 1, by omega, .inr (by assumption), by rw [← e]; rfl⟩) | exact fin (.inr (by assumption))
  · intro hge
    exact fin (.inl (by omega))
theorem h_s_ZeroGrads : Con.Holds Tryz.prog c_s_ZeroGrads := tree_ok mixedP (consAt h_s_ModelOk consNil) e_s_ZeroGrads fun x hx hp => v_s_ZeroGrads x hx hp
end Go.Proofs.YtiihghfoeinbbaaGreat
