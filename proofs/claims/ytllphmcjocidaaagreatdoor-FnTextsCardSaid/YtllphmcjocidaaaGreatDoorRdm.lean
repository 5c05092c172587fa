/- Texts of models, read back: plain law. No program in sight. -/
import Derived.Test.YtllphmcjocidaaaGreatDoorRd4
import Derived.Test.YtllphmcjocidaaaGreatDoorDec5
namespace Go.Proofs.YtllphmcjocidaaaGreatDoor
open Go.Lib
set_option linter.unusedVariables false
set_option linter.unusedSimpArgs false
/-- Cut behind each byte c. -/
def aft (c : UInt8) : List (List UInt8) → List (List UInt8)
  | [] => []
  | [w] => [w]
  | w :: v :: r => (w ++ [c]) :: aft c (v :: r)
theorem aft_cons (c : UInt8) (w : List UInt8) {ws : List (List UInt8)} (h : ws ≠ []) : aft c (w :: ws) = (w ++ [c]) :: aft c ws := by
  cases ws with
  | nil => exact absurd rfl h
  | cons v r => rfl
theorem aft_len (c : UInt8) : (ws : List (List UInt8)) → (aft c ws).length = ws.length
  | [] => rfl
  | [_] => rfl
  | w :: v :: r => by rw [aft, List.length_cons, aft_len c (v :: r), List.length_cons, List.length_cons, List.length_cons]
theorem cutL_ne (c : UInt8) (s : List UInt8) : cutL c s ≠ [] := fun h => by
  cases s with
  | nil => cases h
  | cons b l =>
    rw [cutL] at h
    split at h
    · cases h
    · split at h <;> cases h
theorem splitK_aft {c : UInt8} : (k : Nat) → {s : List UInt8} → s.count c ≤ k → splitK [c] 1 k s = aft c (cutL c s)
  | k, s, h => by
    by_cases hc : c ∈ s
    · obtain ⟨w, l, rfl, hw⟩ := first_at hc
      have h0 : List.count c w = 0 := List.count_eq_zero.2 hw
      rw [List.count_append, List.count_cons_self, h0] at h
      obtain ⟨k', rfl⟩ : ∃ k', k = k' + 1 := ⟨k - 1, by omega⟩
      have h1 : ¬ (index (w ++ c :: l) [c] == -1) = true := by rw [idx_at hw, beq_iff_eq]; omega
      rw [splitK, if_neg h1, idx_at hw, cutL_app hw, aft_cons c w (cutL_ne c l)]
      have e1 : (w ++ c :: l).take ((w.length : Int).toNat + 1) = w ++ [c] := by
        rw [Int.toNat_natCast, List.take_append, List.take_of_length_le (show w.length ≤ w.length + 1 by omega), Nat.add_sub_cancel_left]; rfl
      have e2 : (w ++ c :: l).drop ((w.length : Int).toNat + [c].length) = l := by
        rw [Int.toNat_natCast, List.length_singleton, List.drop_append]; simp
      rw [e1, e2, splitK_aft k' (by omega)]
    · have h1 : (index s [c] == -1) = true := by rw [idx_no hc]; rfl
      rw [cutL_word hc]
      cases k with
      | zero => rfl
      | succ k => rw [splitK, if_pos h1]; rfl
theorem aft_flat (c : UInt8) : (n : Nat) → (s : List UInt8) → s.length ≤ n → (aft c (cutL c s)).flatten = s
  | 0, s, h => by
    have : s = [] := List.eq_nil_of_length_eq_zero (by omega)
    subst this; rfl
  | n + 1, s, h => by
    by_cases hc : c ∈ s
    · obtain ⟨w, l, rfl, hw⟩ := first_at hc
      rw [cutL_app hw, aft_cons c w (cutL_ne c l), List.flatten_cons, aft_flat c n l (by rw [List.length_append, List.length_cons] at h; omega)]
      simp
    · rw [cutL_word hc]; simp [aft]
/-- A model's text, as bytes. -/
def modL : List OpD → List UInt8
  | [] => []
  | o :: l => (opT o).data.toList ++ 10 :: modL l
theorem modS_list (l : List OpD) : (modS l).data.toList = modL l := by
  have h : ∀ (l : List OpD) (s : ByteArray), ((l.map fun o => opT o ++ nlB).foldl (fun s x => s ++ x) s).data.toList = s.data.toList ++ modL l := by
    intro l
    induction l with
    | nil => intro s; simp [modL]
    | cons o l ih =>
      intro s
      rw [List.map_cons, List.foldl_cons, ih, ba_list, ba_list, modL]
      have e : nlB.data.toList = [10] := rfl
      rw [e]; simp
  have := h l ⟨#[]⟩
  unfold modS
  rw [this]; rfl
theorem join_no {c b : UInt8} (hb : c ≠ b) : (ws : List (List UInt8)) → (∀ w ∈ ws, c ∉ w) → c ∉ join ws [b]
  | [], _ => by simp [join]
  | [w], h => by rw [join_one]; exact h w (by simp)
  | w :: y :: r, h => by
    have ih := join_no hb (y :: r) (fun v hv => h v (List.mem_cons_of_mem _ hv))
    rw [join_cons, joinTail_cons]
    rw [join_cons] at ih
    intro hm
    rcases List.mem_append.1 hm with hm | hm
    · exact h w (by simp) hm
    · rcases List.mem_cons.1 hm with hm | hm
      · exact hb hm
      · exact ih hm
theorem opW_no10 (k : Int) : (10 : UInt8) ∉ (opW k).data.toList := by
  unfold opW
  repeat' split
  all_goals decide
theorem fixL_no10 (a : Int) : (10 : UInt8) ∉ fixL a := by
  have h1 : ∀ n, (10 : UInt8) ∉ itoa n := fun n => no_byte n (by decide) (.inl (by decide))
  unfold fixL
  split
  · simp [h1]
  · simp [h1]
theorem opT_no10 {o : OpD} (h : opB o = true) : (10 : UInt8) ∉ (opT o).data.toList := by
  rw [opT_list h]
  refine join_no (by decide) _ fun w hw => ?_
  have h1 : ∀ n, (10 : UInt8) ∉ itoa n := fun n => no_byte n (by decide) (.inl (by decide))
  unfold wordsL at hw
  simp only [List.mem_cons, List.mem_map] at hw
  rcases hw with rfl | rfl | rfl | ⟨p, _, rfl⟩
  · exact opW_no10 _
  · exact h1 _
  · exact h1 _
  · exact fixL_no10 p
theorem modL_cut : (l : List OpD) → (∀ o ∈ l, opB o = true) → cutL 10 (modL l) = l.map (fun o => (opT o).data.toList) ++ [[]]
  | [], _ => rfl
  | o :: l, h => by
    rw [modL, cutL_app (opT_no10 (h o (by simp))), modL_cut l fun p hp => h p (List.mem_cons_of_mem _ hp)]; rfl
theorem aft_snoc (c : UInt8) : (ws : List (List UInt8)) → aft c (ws ++ [[]]) = ws.map (· ++ [c]) ++ [[]]
  | [] => rfl
  | w :: ws => by
    rw [List.cons_append, aft_cons c w (by simp), aft_snoc c ws]; rfl
theorem modL_inj {l l' : List OpD} (h : ∀ o ∈ l, opB o = true) (h' : ∀ o ∈ l', opB o = true) (e : modL l = modL l') : l = l' := by
  have h1 := modL_cut l h
  rw [e, modL_cut l' h'] at h1
  have h2 := List.append_cancel_right h1
  clear h1 e
  induction l' generalizing l with
  | nil =>
    cases l with
    | nil => rfl
    | cons o l => cases h2
  | cons o' l' ih =>
    cases l with
    | nil => cases h2
    | cons o l =>
      rw [List.map_cons, List.map_cons] at h2
      obtain ⟨e1, e2⟩ := List.cons.inj h2
      have e3 : opT o' = opT o := by rw [← ofL_data (opT o'), ← ofL_data (opT o), e1]
      rw [opT_inj (h' o' (by simp)) (h o (by simp)) e3, ih (l := l) (fun p hp => h p (List.mem_cons_of_mem _ hp)) (fun p hp => h' p (List.mem_cons_of_mem _ hp)) e2]
theorem modelB_ops {m : List OpD} (h : modelB m = true) : ∀ o ∈ m, opB o = true := fun o ho => by
  obtain ⟨i, hi, rfl⟩ := List.getElem_of_mem ho
  have := ((modelB_iff m).1 h).2.2 i hi
  exact ((okAt_iff m hi).1 this).1
theorem modelT_list {m : List OpD} (h : modelB m = true) : (modelT m).data.toList = modL m := by
  unfold modelT; rw [if_pos h, modS_list]
theorem modelT_inj {m m' : List OpD} (h : modelB m = true) (h' : modelB m' = true) (e : modelT m = modelT m') : m = m' := by
  refine modL_inj (modelB_ops h) (modelB_ops h') ?_
  rw [← modelT_list h, ← modelT_list h', e]
theorem modelT_ne {m : List OpD} (h : modelB m = true) : modelT m ≠ ⟨#[]⟩ := fun e => by
  have h1 := modelT_list h
  rw [e] at h1
  have h2 := ((modelB_iff m).1 h).1
  cases m with
  | nil => simp at h2
  | cons o l => rw [modL] at h1; simp at h1
noncomputable def rdModel (s : ByteArray) : ModelD × Bool := open Classical in if h : ∃ m, modelB m = true ∧ modelT m = s then (Classical.choose h, true) else ([], false)
theorem rdModel_yes {s : ByteArray} {m : ModelD} (h1 : modelB m = true) (h2 : modelT m = s) : rdModel s = (m, true) := by
  have h : ∃ m, modelB m = true ∧ modelT m = s := ⟨m, h1, h2⟩
  unfold rdModel
  rw [dif_pos h]
  obtain ⟨g1, g2⟩ := Classical.choose_spec h
  exact Prod.ext (modelT_inj g1 h1 (g2.trans h2.symm)) rfl
theorem rdModel_no {s : ByteArray} (h : ∀ m, modelB m = true → modelT m = s → False) : ([], false) = rdModel s := by
  unfold rdModel
  rw [dif_neg (fun ⟨a, h1, h2⟩ => h a h1 h2)]
theorem rdOp_opT {o : OpD} (h : opB o = true) : rdOp (opT o) = (o, true) := rdOp_yes h rfl
theorem rdOp_t {s : ByteArray} (h : (rdOp s).2 = true) : opB (rdOp s).1 = true ∧ opT (rdOp s).1 = s := by
  unfold rdOp at h ⊢
  split at h
  · rename_i hh
    rw [dif_pos hh]
    exact Classical.choose_spec hh
  · cases h
/-- The first k pieces, read. -/
noncomputable def opsK (W : List ByteArray) (k : Nat) : List OpD := (W.take k).map fun w => (rdOp w).1
theorem opsK_next {W : List ByteArray} {k : Nat} (h : k < W.length) : opsK W (k + 1) = opsK W k ++ [(rdOp W[k]).1] := by
  unfold opsK
  rw [List.take_succ_eq_append_getElem h, List.map_append]; rfl
theorem opsK_len {W : List ByteArray} {k : Nat} (h : k ≤ W.length) : (opsK W k).length = k := by
  unfold opsK; rw [List.length_map, List.length_take]; omega
theorem cutS_model {m : List OpD} (h : modelB m = true) : cutS (modelT m) 10 = m.map opT ++ [⟨#[]⟩] := by
  unfold cutS
  rw [show UInt8.ofNat (10 : Int).toNat = 10 from rfl, modelT_list h, modL_cut m (modelB_ops h), List.map_append, List.map_map]
  refine congr (congrArg _ (List.map_congr_left fun o _ => ofL_data _)) rfl
theorem opsK_all {m : List OpD} (h : ∀ o ∈ m, opB o = true) {k : Nat} (hk : k ≤ m.length) : opsK (m.map opT ++ [⟨#[]⟩]) k = m.take k := by
  unfold opsK
  rw [List.take_append_of_le_length (by rw [List.length_map]; exact hk), ← List.map_take, List.map_map]
  exact (List.map_congr_left fun o ho => by show (rdOp (opT o)).1 = id o; rw [rdOp_opT (h o (List.mem_of_mem_take ho))]; rfl).trans (List.map_id _)
noncomputable def aftS (s : ByteArray) : List ByteArray := (aft 10 (cutL 10 s.data.toList)).map ofL
theorem aftS_model {m : List OpD} (h : modelB m = true) : aftS (modelT m) = m.map (fun o => opT o ++ nlB) ++ [⟨#[]⟩] := by
  unfold aftS
  rw [modelT_list h, modL_cut m (modelB_ops h), aft_snoc, List.map_append, List.map_map, List.map_map]
  refine congr (congrArg _ (List.map_congr_left fun o _ => ?_)) rfl
  show ofL ((opT o).data.toList ++ [10]) = opT o ++ nlB
  rw [← ofL_data (opT o ++ nlB), ba_list]; rfl
theorem aftS_len (s : ByteArray) : (aftS s).length = (cutL 10 s.data.toList).length := by unfold aftS; rw [List.length_map, aft_len]
theorem aftS_flat (s : ByteArray) : ((aftS s).map fun w => w.data.toList).flatten = s.data.toList := by
  unfold aftS
  rw [List.map_map]
  have : List.map ((fun w : ByteArray => w.data.toList) ∘ ofL) (aft 10 (cutL 10 s.data.toList)) = aft 10 (cutL 10 s.data.toList) := (List.map_congr_left fun w _ => ofL_list w).trans (List.map_id _)
  rw [this]
  exact aft_flat 10 _ _ (Nat.le_refl _)
theorem mem_flat {w : List UInt8} : {L : List (List UInt8)} → w ∈ L → w.length ≤ L.flatten.length
  | [], h => by cases h
  | v :: L, h => by
    rw [List.flatten_cons, List.length_append]
    rcases List.mem_cons.1 h with rfl | h
    · omega
    · have := mem_flat h; omega
theorem aftS_size (s : ByteArray) : ∀ w ∈ aftS s, w.size ≤ s.size := fun w h => by
  have h1 := aftS_flat s
  rw [← ba_len s, ← h1, ← ba_len w]
  exact mem_flat (List.mem_map_of_mem h)
theorem mod_flat : (l : List OpD) → (l.map fun o => (opT o ++ nlB).data.toList).flatten = modL l
  | [] => rfl
  | o :: l => by
    rw [List.map_cons, List.flatten_cons, mod_flat l, ba_list, modL]
    have e : nlB.data.toList = [10] := rfl
    rw [e]; simp
end Go.Proofs.YtllphmcjocidaaaGreatDoor
