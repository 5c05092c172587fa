/- Rd6: trees, and what they say. -/
import Derived.Test.YtllphmcjocidaaaGreatDoorRd5
import Derived.Test.YtllphmcjocidaaaGreatDoorRdN
namespace Go.Proofs.YtllphmcjocidaaaGreatDoor
open Go.ChangeShapes Go.WideShapes Go.ChangeAt Go.RowKit Go.Deep
set_option linter.unusedVariables false
set_option linter.unusedSimpArgs false
theorem cutSuf_t {w : ByteArray} (h : (cutSuf w ⟨#[10]⟩).2 = true) : w.data.toList = (cutSuf w ⟨#[10]⟩).1.data.toList ++ [10] := by
  have h1 : Go.Lib.hasSuffix w.data.toList [10] = true := h
  obtain ⟨t, ht⟩ := List.isSuffixOf_iff_suffix.1 h1
  show w.data.toList = (ofL (Go.Lib.trimSuffix w.data.toList [10])).data.toList ++ [10]
  rw [ofL_list]
  unfold Go.Lib.trimSuffix
  rw [if_pos h1, ← ht, List.length_append, Nat.add_sub_cancel, List.take_left]
theorem cutSuf_app (t : ByteArray) : cutSuf (t ++ nlB) ⟨#[10]⟩ = (t, true) := by
  have h1 : Go.Lib.hasSuffix (t ++ nlB).data.toList [10] = true := by
    rw [ba_list]
    exact List.isSuffixOf_iff_suffix.2 ⟨t.data.toList, rfl⟩
  refine Prod.ext ?_ h1
  show ofL (Go.Lib.trimSuffix (t ++ nlB).data.toList [10]) = t
  unfold Go.Lib.trimSuffix
  rw [if_pos h1, ba_list]
  have e : nlB.data.toList = [10] := rfl
  rw [e, List.length_append, Nat.add_sub_cancel, List.take_left, ofL_data]
/-- The first k lines, read. -/
noncomputable def opsA (W : List ByteArray) (k : Nat) : List OpD := (W.take k).map fun w => (rdOp (cutSuf w ⟨#[10]⟩).1).1
def lineOk (w : ByteArray) : Prop := (cutSuf w ⟨#[10]⟩).2 = true ∧ (rdOp (cutSuf w ⟨#[10]⟩).1).2 = true
theorem opsA_next {W : List ByteArray} {k : Nat} (h : k < W.length) : opsA W (k + 1) = opsA W k ++ [(rdOp (cutSuf W[k] ⟨#[10]⟩).1).1] := by
  unfold opsA
  rw [List.take_succ_eq_append_getElem h, List.map_append]; rfl
theorem opsA_len {W : List ByteArray} {k : Nat} (h : k ≤ W.length) : (opsA W k).length = k := by
  unfold opsA; rw [List.length_map, List.length_take]; omega
theorem line_op {w : ByteArray} (h : lineOk w) : opB (rdOp (cutSuf w ⟨#[10]⟩).1).1 = true ∧ (opT (rdOp (cutSuf w ⟨#[10]⟩).1).1 ++ nlB).data.toList = w.data.toList := by
  obtain ⟨h1, h2⟩ := rdOp_t h.2
  refine ⟨h1, ?_⟩
  rw [h2, ba_list, cutSuf_t h.1]; rfl
theorem lines_fin {x : ByteArray} {k : Nat} (hk : k ≤ (aftS x).length) (hg : ∀ w ∈ (aftS x).take k, lineOk w) (he : ((aftS x).drop k).map (fun w => w.data.toList) = [] ∨ ((aftS x).drop k).map (fun w => w.data.toList) = [[]]) :
    modL (opsA (aftS x) k) = x.data.toList ∧ ∀ o ∈ opsA (aftS x) k, opB o = true := by
  constructor
  · have h1 := aftS_flat x
    rw [← List.take_append_drop k (aftS x), List.map_append, List.flatten_append] at h1
    have h2 : (((aftS x).drop k).map (fun w => w.data.toList)).flatten = [] := by rcases he with e | e <;> rw [e] <;> rfl
    rw [h2, List.append_nil] at h1
    rw [← h1, ← mod_flat]
    unfold opsA
    rw [List.map_map]
    exact congrArg List.flatten (List.map_congr_left fun w hw => (line_op (hg w hw)).2)
  · intro o ho
    obtain ⟨w, hw, rfl⟩ := List.mem_map.1 ho
    exact (line_op (hg w hw)).1
theorem rdModel_end {x : ByteArray} {m : ModelD} (h1 : modL m = x.data.toList) (h2 : ∀ o ∈ m, opB o = true) : (modelB m = true → (m, true) = rdModel x) ∧ (modelB m = false → ([], false) = rdModel x) := by
  constructor
  · intro h
    refine (rdModel_yes h ?_).symm
    rw [← ofL_data (modelT m), modelT_list h, h1, ofL_data]
  · intro h
    refine rdModel_no fun m' hm e => ?_
    have h3 : modL m' = modL m := by rw [h1, ← e, modelT_list hm]
    rw [modL_inj (modelB_ops hm) h2 h3, h] at hm
    cases hm
theorem lines_at {x : ByteArray} {m : ModelD} (hm : modelB m = true) (e : modelT m = x) {k : Nat} (hk : k < (aftS x).length) : (k + 1 = (aftS x).length ∧ (aftS x)[k] = ⟨#[]⟩) ∨ (k < 8 ∧ lineOk (aftS x)[k]) := by
  have hW : aftS x = m.map (fun o => opT o ++ nlB) ++ [⟨#[]⟩] := by rw [← e, aftS_model hm]
  have hl := ((modelB_iff m).1 hm).2.1
  have hlen : (aftS x).length = m.length + 1 := by rw [hW]; simp
  rcases Nat.lt_or_ge k m.length with h | h
  · right
    refine ⟨by omega, ?_⟩
    have e1 : (aftS x)[k] = opT m[k] ++ nlB := by
      have : (aftS x)[k]? = some (opT m[k] ++ nlB) := by
        rw [hW, List.getElem?_append_left (by rw [List.length_map]; exact h), List.getElem?_map, List.getElem?_eq_getElem h]; rfl
      exact Option.some.inj ((List.getElem?_eq_getElem hk).symm.trans this)
    rw [e1]
    unfold lineOk
    rw [cutSuf_app, rdOp_opT (modelB_ops hm _ (List.getElem_mem h))]
    exact ⟨rfl, rfl⟩
  · left
    refine ⟨by omega, ?_⟩
    have hk' : k = m.length := by omega
    have : (aftS x)[k]? = some (⟨#[]⟩ : ByteArray) := by
      rw [hW, List.getElem?_append_right (by rw [List.length_map]; exact h), List.length_map, hk', Nat.sub_self]; rfl
    exact Option.some.inj ((List.getElem?_eq_getElem hk).symm.trans this)

/-! impl.ReadModel -/

noncomputable def c_i_ReadModel : Con := ⟨6, .str, (.pair tModel .bool), [.val ⟨false, .str, []⟩], [⟨true, tModel, [2]⟩, ⟨false, .bool, [0]⟩], false, none,
  ((fun x => x.size ≤ 1048576) : (ByteArray) → Prop),
  ((fun x => rdModel x) : (ByteArray) → (ModelD × Bool))⟩
def t_i_ReadModel : T :=
  .call 0 (.mk2 .str .str (.vr 0) (.cs ⟨#[10]⟩)) <|
  .prim (.llen 9 .str) (.vr 1) <|
  .loop (.pair tI tModel) (.mk2 tI tModel (.ci .i64 0) (.nl 34 tOp)) <|
   .prim (.cmp .lss .i64) (.mk2 tI tI (.p1 tI tModel (.vr 3)) (.vr 2)) <|
   .ite (.vr 4) (
    .prim (.lidx 9 .str) (.mk2 (.slice 9 .str) tI (.vr 1) (.p1 tI tModel (.vr 3))) <|
    .prim (.llen 9 .str) (.vr 1) <|
    .prim (.ar .sub .i64) (.mk2 tI tI (.vr 6) (.ci .i64 1)) <|
    .prim (.cmp .eql .i64) (.mk2 tI tI (.p1 tI tModel (.vr 3)) (.vr 7)) <|
    .ite (.vr 8) (
     .prim (.seq false) (.mk2 .str .str (.vr 5) (.cs ⟨#[]⟩)) <|
     .ite (.vr 9) (
      .call 1 (prA (.pair tI tModel) 1 (.vr 3)) <|
      .prim .not (.vr 10) <|
      .ite (.vr 11) (
       .ret (.mk2 tModel .bool (.nl 34 tOp) (.cb false))) (
       .ret (.mk2 tModel .bool (prA (.pair tI tModel) 1 (.vr 3)) (.cb true)))) (
      .call 2 (.mk2 .str .str (.vr 5) (.cs ⟨#[10]⟩)) <|
      .call 3 (.p1 .str .bool (.vr 10)) <|
      .prim .not (prA (.pair .str .bool) 1 (.vr 10)) <|
      .ite (.vr 12) (
       .ret (.mk2 tModel .bool (.nl 34 tOp) (.cb false))) (
       .prim .not (prA (.pair tOp .bool) 1 (.vr 11)) <|
       .ite (.vr 13) (
        .ret (.mk2 tModel .bool (.nl 34 tOp) (.cb false))) (
        .prim (.llen 34 tOp) (prA (.pair tI tModel) 1 (.vr 3)) <|
        .prim (.cmp .eql .i64) (.mk2 tI tI (.vr 14) (.ci .i64 8)) <|
        .ite (.vr 15) (
         .ret (.mk2 tModel .bool (.nl 34 tOp) (.cb false))) (
         .prim (.lit 34 tOp 1) (.p1 tOp .bool (.vr 11)) <|
         .prim (.lapp 34 tOp 48) (.mk2 tModel tModel (prA (.pair tI tModel) 1 (.vr 3)) (.vr 16)) <|
         .prim (.ar .add .i64) (.mk2 tI tI (.p1 tI tModel (.vr 3)) (.ci .i64 1)) <|
         .again 0 (.mk2 tI tModel (.vr 18) (.vr 17))))))) (
     .call 2 (.mk2 .str .str (.vr 5) (.cs ⟨#[10]⟩)) <|
     .call 3 (.p1 .str .bool (.vr 9)) <|
     .prim .not (prA (.pair .str .bool) 1 (.vr 9)) <|
     .ite (.vr 11) (
      .ret (.mk2 tModel .bool (.nl 34 tOp) (.cb false))) (
      .prim .not (prA (.pair tOp .bool) 1 (.vr 10)) <|
      .ite (.vr 12) (
       .ret (.mk2 tModel .bool (.nl 34 tOp) (.cb false))) (
       .prim (.llen 34 tOp) (prA (.pair tI tModel) 1 (.vr 3)) <|
       .prim (.cmp .eql .i64) (.mk2 tI tI (.vr 13) (.ci .i64 8)) <|
       .ite (.vr 14) (
        .ret (.mk2 tModel .bool (.nl 34 tOp) (.cb false))) (
        .prim (.lit 34 tOp 1) (.p1 tOp .bool (.vr 10)) <|
        .prim (.lapp 34 tOp 48) (.mk2 tModel tModel (prA (.pair tI tModel) 1 (.vr 3)) (.vr 15)) <|
        .prim (.ar .add .i64) (.mk2 tI tI (.p1 tI tModel (.vr 3)) (.ci .i64 1)) <|
        .again 0 (.mk2 tI tModel (.vr 17) (.vr 16))))))) (
    .call 1 (prA (.pair tI tModel) 1 (.vr 3)) <|
    .prim .not (.vr 5) <|
    .ite (.vr 6) (
     .ret (.mk2 tModel .bool (.nl 34 tOp) (.cb false))) (
     .ret (.mk2 tModel .bool (prA (.pair tI tModel) 1 (.vr 3)) (.cb true))))
set_option maxRecDepth 100000 in
theorem e_i_ReadModel : exFn Tryz.prog [c_t_SplitAfter, c_i_ModelOk, c_t_CutSuffix, c_i_ReadOp] c_i_ReadModel false 3000 ⟨[(2989, 1003, drd 14 12 ++ [.dr 0, .tm 17 0, .sl 6])], [(2965, 67016, [], [7]), (2965, 33015, [], [7])]⟩ = .ok t_i_ReadModel := by kernel_rfl
/- loops: (Int) × (List ((Int) × ((Int) × ((Int) × (List (Int)))))) -/
theorem v_i_ReadModel (x : ByteArray) (hx : okD .str x) (hp : (fun x => x.size ≤ 1048576) x) : t_i_ReadModel.wp [c_t_SplitAfter, c_i_ModelOk, c_t_CutSuffix, c_i_ReadOp] [⟨.str, x⟩] [] (fun v => v.as (.pair tModel .bool) = (fun x => rdModel x) x) := by
  have hs : x.size ≤ 1048576 := hp
  have hW1 : ∀ w ∈ aftS x, w.size ≤ 1048576 := fun w h => Nat.le_trans (aftS_size x w h) hs
  have hW2 : (aftS x).length ≤ 1048577 := by
    have h1 := aftS_len x
    have h2 := cutL_count 10 x.data.toList
    have h3 := ba_len x
    omega
  have LF := fun (k : Nat) (hk : k ≤ (aftS x).length) => lines_fin (x := x) hk
  have LA := fun (m : ModelD) (hm : modelB m = true) (e : modelT m = x) (k : Nat) (hk : k < (aftS x).length) => lines_at hm e hk
  delta t_i_ReadModel c_t_SplitAfter c_i_ModelOk c_t_CutSuffix c_i_ReadOp; refine vcx ?_; try with_reducible exact True.intro
  (refine dcx ?_; try with_reducible exact True.intro)
  generalize aftS x = W at hW1 hW2 LF LA ⊢
  change List ByteArray at W
  refine ⟨⟨hs, rfl⟩, fun _ _ => ?_⟩
  refine loopG (fun k => ((k : Int), opsA W k)) (fun k => k ≤ 8 ∧ ∀ w ∈ W.take k, lineOk w) W.length rfl ⟨by omega, fun w h => by simp at h⟩ fun I μ k hk hg _ go => ?_
  try dsimp only
  (refine dcx ?_; try with_reducible exact True.intro)
  have pl := opsA_len hk
  have hi : ∀ h : k < W.length, W.getD k (zeroD Ty.str) = W[k] := fun h => getD_at h
  have GO : ∀ h : k < W.length, k ≠ 8 → lineOk W[k] → I ((k : Int) + 1, opsA W k ++ [(rdOp (cutSuf W[k] ⟨#[10]⟩).1).1]) ∧ μ ((k : Int) + 1, opsA W k ++ [(rdOp (cutSuf W[k] ⟨#[10]⟩).1).1]) < μ ((k : Int), opsA W k) := fun h h8 hl =>
    go _ h ⟨by have := hg.1; omega, fun w hw => by
      rw [List.take_succ_eq_append_getElem h, List.mem_append] at hw
      rcases hw with hw | hw
      · exact hg.2 w hw
      · rw [List.mem_singleton.1 hw]; exact hl⟩ (by rw [opsA_next h]; exact Prod.ext (by show (k : Int) + 1 = ((k + 1 : Nat) : Int); omega) rfl)
  clear go
  refine ⟨fun hlt => ?_, fun hge => ?_⟩
  · have hkl : k < W.length := by omega
    rw [hi hkl]
    have hz : W[k].size ≤ 1048576 := hW1 _ (List.getElem_mem hkl)
    have hz2 := cutSuf_size W[k] ⟨#[10]⟩
    have LE : k + 1 = W.length → W[k] = ⟨#[]⟩ → (modelB (opsA W k) = true → (opsA W k, true) = rdModel x) ∧ (modelB (opsA W k) = false → ([], false) = rdModel x) := fun h1 h2 => by
      have hd : W.drop k = [W[k]] := by rw [List.drop_eq_getElem_cons hkl, List.drop_of_length_le (by omega)]
      obtain ⟨g1, g2⟩ := LF k hk hg.2 (.inr (by rw [hd, h2]; rfl))
      exact rdModel_end g1 g2
    have NO : ¬ (k + 1 = W.length ∧ W[k] = ⟨#[]⟩) → ¬ (k < 8 ∧ lineOk W[k]) → ([], false) = rdModel x := fun h1 h2 => rdModel_no fun m hm e => by
      rcases LA m hm e k hkl with h | h
      · exact h1 h
      · exact h2 h
    unfold lineOk at GO NO
    clear LA LF
    have NA : ¬ (k + 1 = W.length ∧ W[k] = ⟨#[]⟩) → (cutSuf W[k] ⟨#[10]⟩).2 = false → ([], false) = rdModel x := fun h1 h2 => NO h1 fun h => by rw [h.2.1] at h2; cases h2
    have NB : ¬ (k + 1 = W.length ∧ W[k] = ⟨#[]⟩) → (rdOp (cutSuf W[k] ⟨#[10]⟩).1).2 = false → ([], false) = rdModel x := fun h1 h2 => NO h1 fun h => by rw [h.2.2] at h2; cases h2
    have NC : ¬ (k + 1 = W.length ∧ W[k] = ⟨#[]⟩) → ((List.length (opsA W k) : Nat) : Int) = 8 → ([], false) = rdModel x := fun h1 h2 => NO h1 fun h => by omega
    (repeat' first | intro _ | (with_reducible apply And.intro))
    all_goals first
    | omega
    | (unfold maxLen; omega)
    | exact (GO hkl (by omega) ⟨by assumption, by assumption⟩).1
    | exact (GO hkl (by omega) ⟨by assumption, by assumption⟩).2
    | exact (LE (by omega) (Classical.not_not.1 (by assumption))).2 (by assumption)
    | exact (LE (by omega) (Classical.not_not.1 (by assumption))).1 (by assumption)
    | exact NA (fun h => by first | omega | exact absurd h.2 (by assumption)) (by assumption)
    | exact NB (fun h => by first | omega | exact absurd h.2 (by assumption)) (by assumption)
    | exact NC (fun h => by first | omega | exact absurd h.2 (by assumption)) (by assumption)
    | skip
  · obtain rfl : k = W.length := by omega
    obtain ⟨g1, g2⟩ := LF W.length (Nat.le_refl _) hg.2 (.inl (by rw [List.drop_of_length_le (Nat.le_refl _)]; rfl))
    obtain ⟨r1, r2⟩ := rdModel_end g1 g2
    exact ⟨r2, r1⟩
theorem h_i_ReadModel : Con.Holds Tryz.prog c_i_ReadModel := tree_ok mixedP (consAt h_t_SplitAfter (consAt h_i_ModelOk (consAt h_t_CutSuffix (consAt h_i_ReadOp consNil)))) e_i_ReadModel fun x hx hp => v_i_ReadModel x hx hp

/-! spec.ReadModel -/

noncomputable def c_s_ReadModel : Con := ⟨5, .str, (.pair tModel .bool), [.val ⟨false, .str, []⟩], [⟨true, tModel, [2]⟩, ⟨false, .bool, [0]⟩], false, none,
  ((fun x => x.size ≤ 1048576) : (ByteArray) → Prop),
  ((fun x => rdModel x) : (ByteArray) → (ModelD × Bool))⟩
def t_s_ReadModel : T :=
  .call 0 (.mk2 .str (.int .u8) (.vr 0) (.ci .u8 10)) <|
  .loop (.pair tI tModel) (.mk2 tI tModel (.ci .i64 0) (.nl 34 tOp)) <|
   .prim (.ar .add .i64) (.mk2 tI tI (.p1 tI tModel (.vr 2)) (.ci .i64 1)) <|
   .prim (.llen 9 .str) (.vr 1) <|
   .prim (.cmp .lss .i64) (.mk2 tI tI (.vr 3) (.vr 4)) <|
   .ite (.vr 5) (
    .prim (.lidx 9 .str) (.mk2 (.slice 9 .str) tI (.vr 1) (.p1 tI tModel (.vr 2))) <|
    .prim (.lidx 9 .str) (.mk2 (.slice 9 .str) tI (.vr 1) (.p1 tI tModel (.vr 2))) <|
    .call 1 (.vr 7) <|
    .prim .not (prA (.pair tOp .bool) 1 (.vr 8)) <|
    .ite (.vr 9) (
     .ret (.mk2 tModel .bool (.nl 34 tOp) (.cb false))) (
     .prim (.lit 34 tOp 1) (.p1 tOp .bool (.vr 8)) <|
     .prim (.lapp 34 tOp 48) (.mk2 tModel tModel (prA (.pair tI tModel) 1 (.vr 2)) (.vr 10)) <|
     .prim (.ar .add .i64) (.mk2 tI tI (.p1 tI tModel (.vr 2)) (.ci .i64 1)) <|
     .again 0 (.mk2 tI tModel (.vr 12) (.vr 11)))) (
    .prim (.seq false) (.mk2 .str .str (.vr 0) (.cs ⟨#[]⟩)) <|
    .ite (.vr 6) (
     .ret (.mk2 tModel .bool (.nl 34 tOp) (.cb false))) (
     .call 2 (prA (.pair tI tModel) 1 (.vr 2)) <|
     .prim (.seq true) (.mk2 .str .str (.vr 7) (.vr 0)) <|
     .ite (.vr 8) (
      .ret (.mk2 tModel .bool (.nl 34 tOp) (.cb false))) (
      .ret (.mk2 tModel .bool (prA (.pair tI tModel) 1 (.vr 2)) (.cb true)))))
set_option maxRecDepth 100000 in
theorem e_s_ReadModel : exFn Tryz.prog [c_s_l18Split, c_s_ReadOp, c_s_ShowModel] c_s_ReadModel false 3000 ⟨[(2989, 1002, drd 11 9 ++ [.tm 6 0, .sl 5])], [(2974, 5010, [], [7])]⟩ = .ok t_s_ReadModel := by kernel_rfl
/- loops: (Int) × (List ((Int) × ((Int) × ((Int) × (List (Int)))))) -/
theorem v_s_ReadModel (x : ByteArray) (hx : okD .str x) (hp : (fun x => x.size ≤ 1048576) x) : t_s_ReadModel.wp [c_s_l18Split, c_s_ReadOp, c_s_ShowModel] [⟨.str, x⟩] [] (fun v => v.as (.pair tModel .bool) = (fun x => rdModel x) x) := by
  have hs : x.size ≤ 1048576 := hp
  have hW1 : ∀ w ∈ cutS x 10, w.size ≤ 1048576 := fun w h => Nat.le_trans (cutS_size x 10 w h) hs
  have hW2 : (cutS x 10).length ≤ 1048577 := Nat.le_trans (cutS_count x 10) (by omega)
  have hW3 : 1 ≤ (cutS x 10).length := by
    unfold cutS
    rw [List.length_map]
    exact List.length_pos_iff.2 (cutL_ne _ _)
  have LA : ∀ m, modelB m = true → modelT m = x → cutS x 10 = m.map opT ++ [⟨#[]⟩] := fun m hm e => by rw [← e]; exact cutS_model hm
  delta t_s_ReadModel c_s_l18Split c_s_ReadOp c_s_ShowModel; refine vcx ?_; try with_reducible exact True.intro
  (refine dcx ?_; try with_reducible exact True.intro)
  generalize cutS x 10 = W at hW1 hW2 hW3 LA ⊢
  change List ByteArray at W
  refine ⟨hs, fun _ => ?_⟩
  refine loopG (fun k => ((k : Int), opsK W k)) (fun k => ∀ w ∈ W.take k, (rdOp w).2 = true) (W.length - 1) rfl (fun w h => by simp at h) fun I μ k hk hg _ go => ?_
  try dsimp only
  (refine dcx ?_; try with_reducible exact True.intro)
  have pl := opsK_len (W := W) (k := k) (by omega)
  have hi : ∀ h : k < W.length, W.getD k (zeroD Ty.str) = W[k] := fun h => getD_at h
  refine ⟨⟨by omega, by omega⟩, fun _ _ => ⟨fun hlt => ?_, fun hge => ?_⟩⟩
  · have hkl : k < W.length := by omega
    rw [hi hkl]
    have hz : W[k].size ≤ 1048576 := hW1 _ (List.getElem_mem hkl)
    refine ⟨⟨by omega, by omega⟩, fun _ => ⟨⟨by omega, by omega⟩, fun _ => ⟨hz, fun _ => ⟨fun hf => rdModel_no fun m hm e => ?_, fun ht _ => ⟨⟨by omega, by unfold maxLen; omega⟩, fun _ => ⟨⟨by omega, by omega⟩, fun _ => go _ (by omega) ?_ ?_⟩⟩⟩⟩⟩⟩
    · have hW := LA m hm e
      have hlen : W.length = m.length + 1 := by rw [hW]; simp
      have hkm : k < m.length := by omega
      have e1 : W[k] = opT m[k] := by
        have : W[k]? = some (opT m[k]) := by
          rw [hW, List.getElem?_append_left (by rw [List.length_map]; exact hkm), List.getElem?_map, List.getElem?_eq_getElem hkm]; rfl
        exact Option.some.inj ((List.getElem?_eq_getElem hkl).symm.trans this)
      rw [e1, rdOp_opT (modelB_ops hm _ (List.getElem_mem hkm))] at hf
      cases hf
    · intro w hw
      rw [List.take_succ_eq_append_getElem hkl, List.mem_append] at hw
      rcases hw with hw | hw
      · exact hg w hw
      · rw [List.mem_singleton.1 hw]; exact ht
    · rw [opsK_next hkl]; exact Prod.ext (by show (k : Int) + 1 = ((k + 1 : Nat) : Int); omega) rfl
  · obtain rfl : k = W.length - 1 := by omega
    have FIN : ∀ m, modelB m = true → modelT m = x → opsK W (W.length - 1) = m := fun m hm e => by
      have hW := LA m hm e
      have hlen : W.length - 1 = m.length := by rw [hW]; simp
      rw [hlen, hW, opsK_all (modelB_ops hm) (Nat.le_refl _), List.take_length]
    refine ⟨fun h => rdModel_no fun m hm e => modelT_ne hm (e.trans (Classical.not_not.1 h)), fun hne => ?_⟩
    have key : (¬ modelT (opsK W (W.length - 1)) = x → ([], false) = rdModel x) ∧ (¬ ¬ modelT (opsK W (W.length - 1)) = x → (opsK W (W.length - 1), true) = rdModel x) := by
      refine ⟨fun h => rdModel_no fun m hm e => h (by rw [FIN m hm e]; exact e), fun h => (rdModel_yes ?_ (Classical.not_not.1 h)).symm⟩
      refine Classical.byContradiction fun hb => hne ?_
      rw [← Classical.not_not.1 h]; unfold modelT; rw [if_neg hb]
    exact fun _ => ⟨key.1, fun h => key.2 (fun hn => hn h)⟩
theorem h_s_ReadModel : Con.Holds Tryz.prog c_s_ReadModel := tree_ok mixedP (consAt h_s_l18Split (consAt h_s_ReadOp (consAt h_s_ShowModel consNil))) e_s_ReadModel fun x hx hp => v_s_ReadModel x hx hp
end Go.Proofs.YtllphmcjocidaaaGreatDoor
