/- Train2: trees, and what they say. -/
import Derived.Test.YtiihghfoeinbbaaGreatSeq5
import Derived.Test.YtiihghfoeinbbaaGreatLearnS
namespace Go.Proofs.YtiihghfoeinbbaaGreat
open Go.ChangeShapes Go.WideShapes Go.ChangeAt Go.RowKit Go.Deep
set_option linter.unusedVariables false
set_option linter.unusedSimpArgs false
def stopB (B : Nat → Bool) : Nat → Nat
  | 0 => 0
  | n + 1 => if stopB B n = n ∧ B n = true then n + 1 else stopB B n
theorem stop_all (B : Nat → Bool) : (k : Nat) → (∀ i, i < k → B i = true) → stopB B k = k
  | 0, _ => rfl
  | k + 1, h => by show (if _ then _ else _) = _; rw [if_pos ⟨stop_all B k fun i hi => h i (by omega), h k (by omega)⟩]
theorem stop_eq (B : Nat → Bool) (k : Nat) : (n : Nat) → k ≤ n → (∀ i, i < k → B i = true) → (k = n ∨ B k = false) → stopB B n = k
  | 0, h, _, _ => by show 0 = k; omega
  | n + 1, h, ha, hb => by
    by_cases hk : k = n + 1
    · subst hk; exact stop_all B _ ha
    · have hbk : B k = false := hb.resolve_left hk
      have ih := stop_eq B k n (by omega) ha (Or.inr hbk)
      show (if _ then _ else _) = _
      rw [ih, if_neg]
      rintro ⟨rfl, h2⟩
      rw [hbk] at h2; exact Bool.noConfusion h2
def taK (m : List OpD) (bs : List (List PairD)) (r : Int) : Nat → List OpD × (List Int × Bool)
  | 0 => (m, [], false)
  | k + 1 => ((learnF (taK m bs r k).1 (seqF (taK m bs r k).1 (bs.getD k [])) r).1, (taK m bs r k).2.1 ++ [(seqF (taK m bs r k).1 (bs.getD k [])).2.1], ((taK m bs r k).2.2 || (learnF (taK m bs r k).1 (seqF (taK m bs r k).1 (bs.getD k [])) r).2) || (seqF (taK m bs r k).1 (bs.getD k [])).2.2)
def taB (m : List OpD) (bs : List (List PairD)) (r : Int) (k : Nat) : Bool := batchB (taK m bs r k).1 (bs.getD k [])
def taF (m : List OpD) (bs : List (List PairD)) (r : Int) : List OpD × (List Int × Bool) := taK m bs r (stopB (taB m bs r) (min bs.length 20))
theorem taF_eq {m : List OpD} {bs : List (List PairD)} {r : Int} {k : Nat} (h1 : k ≤ min bs.length 20) (h2 : ∀ i, i < k → taB m bs r i = true) (h3 : k = min bs.length 20 ∨ taB m bs r k = false) : taK m bs r k = taF m bs r := by
  unfold taF; rw [stop_eq _ k _ h1 h2 h3]
theorem taK_sz (m : List OpD) (bs : List (List PairD)) (r : Int) : (k : Nat) → szT tModel (taK m bs r k).1 = szT tModel m
  | 0 => rfl
  | k + 1 => (learnF_sz _ _ _).trans (taK_sz m bs r k)
theorem taK_len (m : List OpD) (bs : List (List PairD)) (r : Int) : (k : Nat) → (taK m bs r k).2.1.length = k
  | 0 => rfl
  | k + 1 => by show (_ ++ [_]).length = _; rw [List.length_append, taK_len m bs r k]; rfl
theorem szR_le (l : RowsD) (h : ∀ r ∈ l, List.length r ≤ 36) : szT tRows l ≤ l.length * 37 := by
  show l.length + (l.map (szT tInts)).sum ≤ _
  induction l with
  | nil => exact Nat.le_refl _
  | cons a l ih =>
    have h1 := ih fun r hr => h r (List.mem_cons_of_mem _ hr)
    have h2 := h a List.mem_cons_self
    rw [List.map_cons, List.sum_cons, szT_ints, List.length_cons]
    omega
theorem seqF_sz (m : List OpD) (b : List PairD) : szT tGrads (seqF m b) ≤ 1000000000 := by
  have h : GB (seqF m b) := by
    unfold seqF
    split
    · exact seqK_GB m b _
    · exact ⟨Nat.zero_le _, fun r hr => by cases hr⟩
  have h1 := szR_le _ h.2
  have h2 := h.1
  show szT tRows (seqF m b).1 + (0 + 0) ≤ _
  omega
noncomputable def c_i_TrainAlone : Con := ⟨13, (.pair tModel (.pair (.slice 96 tBatch) tI)), (.pair tModel (.pair tInts .bool)), [.val ⟨true, tModel, []⟩, .val ⟨false, (.slice 96 tBatch), []⟩, .val ⟨false, tI, []⟩], [⟨true, tModel, [1]⟩, ⟨false, tInts, [1]⟩, ⟨false, .bool, [0]⟩], false, none,
  ((fun x => szT tModel x.1 ≤ 1000000000) : (ModelD × ((List BatchD) × Int)) → Prop),
  ((fun x => taF x.1 x.2.1 x.2.2) : (ModelD × ((List BatchD) × Int)) → (ModelD × (IntsD × Bool)))⟩
def t_i_TrainAlone : T :=
  .call 0 (.p1 tModel (.pair (.slice 96 tBatch) tI) (.vr 0)) <|
  .prim (.llen 96 tBatch) (pjA (.pair tModel (.pair (.slice 96 tBatch) tI)) 1 (.vr 0)) <|
  .prim (.mn .i64) (.mk2 tI tI (.vr 2) (.ci .i64 20)) <|
  .prim (.lsub 96 tBatch) (mkA (.pair (.slice 96 tBatch) tIns) [(pjA (.pair tModel (.pair (.slice 96 tBatch) tI)) 1 (.vr 0)), (.ci .i64 0), (.vr 3)]) <|
  .prim (.llen 96 tBatch) (.vr 4) <|
  .loop (.pair tI (.pair .bool (.pair tModel (.pair tModel tInts)))) (mkA (.pair tI (.pair .bool (.pair tModel (.pair tModel tInts)))) [(.ci .i64 0), (.cb false), (.vr 1), (.vr 1), (.nl 3 tI)]) <|
   .prim (.cmp .lss .i64) (.mk2 tI tI (.p1 tI (.pair .bool (.pair tModel (.pair tModel tInts))) (.vr 6)) (.vr 5)) <|
   .ite (.vr 7) (
    .prim (.lidx 96 tBatch) (.mk2 (.slice 96 tBatch) tI (.vr 4) (.p1 tI (.pair .bool (.pair tModel (.pair tModel tInts))) (.vr 6))) <|
    .call 1 (.mk2 tModel tBatch (pjA (.pair tI (.pair .bool (.pair tModel (.pair tModel tInts)))) 2 (.vr 6)) (.vr 8)) <|
    .prim .not (.vr 9) <|
    .ite (.vr 10) (
     .ret (mkA (.pair tModel (.pair tInts .bool)) [(pjA (.pair tI (.pair .bool (.pair tModel (.pair tModel tInts)))) 2 (.vr 6)), (prA (.pair tI (.pair .bool (.pair tModel (.pair tModel tInts)))) 4 (.vr 6)), (pjA (.pair tI (.pair .bool (.pair tModel (.pair tModel tInts)))) 1 (.vr 6))])) (
     .call 2 (.mk2 tModel tBatch (pjA (.pair tI (.pair .bool (.pair tModel (.pair tModel tInts)))) 2 (.vr 6)) (.vr 8)) <|
     .call 3 (mkA (.pair tModel (.pair tGrads tI)) [(pjA (.pair tI (.pair .bool (.pair tModel (.pair tModel tInts)))) 2 (.vr 6)), (.vr 11), (prA (.pair tModel (.pair (.slice 96 tBatch) tI)) 2 (.vr 0))]) <|
     .prim (.lit 3 tI 1) (pjA tGrads 1 (.vr 11)) <|
     .prim (.lapp 3 tI 8) (.mk2 tInts tInts (prA (.pair tI (.pair .bool (.pair tModel (.pair tModel tInts)))) 4 (.vr 6)) (.vr 13)) <|
     .ite (pjA (.pair tI (.pair .bool (.pair tModel (.pair tModel tInts)))) 1 (.vr 6)) (
      .prim (.ar .add .i64) (.mk2 tI tI (.p1 tI (.pair .bool (.pair tModel (.pair tModel tInts))) (.vr 6)) (.ci .i64 1)) <|
      .again 0 (mkA (.pair tI (.pair .bool (.pair tModel (.pair tModel tInts)))) [(.vr 15), (.cb true), (.p1 tModel .bool (.vr 12)), (.p1 tModel .bool (.vr 12)), (.vr 14)])) (
      .ite (prA (.pair tModel .bool) 1 (.vr 12)) (
       .prim (.ar .add .i64) (.mk2 tI tI (.p1 tI (.pair .bool (.pair tModel (.pair tModel tInts))) (.vr 6)) (.ci .i64 1)) <|
       .again 0 (mkA (.pair tI (.pair .bool (.pair tModel (.pair tModel tInts)))) [(.vr 15), (.cb true), (.p1 tModel .bool (.vr 12)), (.p1 tModel .bool (.vr 12)), (.vr 14)])) (
       .prim (.ar .add .i64) (.mk2 tI tI (.p1 tI (.pair .bool (.pair tModel (.pair tModel tInts))) (.vr 6)) (.ci .i64 1)) <|
       .again 0 (mkA (.pair tI (.pair .bool (.pair tModel (.pair tModel tInts)))) [(.vr 15), (prA tGrads 2 (.vr 11)), (.p1 tModel .bool (.vr 12)), (.p1 tModel .bool (.vr 12)), (.vr 14)]))))) (
    .ret (mkA (.pair tModel (.pair tInts .bool)) [(pjA (.pair tI (.pair .bool (.pair tModel (.pair tModel tInts)))) 2 (.vr 6)), (prA (.pair tI (.pair .bool (.pair tModel (.pair tModel tInts)))) 4 (.vr 6)), (pjA (.pair tI (.pair .bool (.pair tModel (.pair tModel tInts)))) 1 (.vr 6))]))
set_option maxRecDepth 100000 in
theorem e_i_TrainAlone : exFn Tryz.prog [c_i_copyModel, c_i_BatchOk, c_i_Sequential, c_i_Learn] c_i_TrainAlone false 3000 ⟨[(2987, 1006, drd 22 16 ++ [.dr 0, .dr 1, .tm 25 0, .tm 10 0, .on 9, .sl 4, .bx 1 0, .sl 5])], []⟩ = .ok t_i_TrainAlone := by kernel_rfl
theorem v_i_TrainAlone (x : ModelD × ((List BatchD) × Int)) (hx : okD (.pair tModel (.pair (.slice 96 tBatch) tI)) x) (hp : (fun x => szT tModel x.1 ≤ 1000000000) x) : t_i_TrainAlone.wp [c_i_copyModel, c_i_BatchOk, c_i_Sequential, c_i_Learn] [⟨(.pair tModel (.pair (.slice 96 tBatch) tI)), x⟩] [] (fun v => v.as (.pair tModel (.pair tInts .bool)) = (fun x => taF x.1 x.2.1 x.2.2) x) := by
  obtain ⟨m, bs, rate⟩ := x
  have hq : szT tModel m ≤ 1000000000 := hp
  delta t_i_TrainAlone c_i_copyModel c_i_BatchOk c_i_Sequential c_i_Learn; refine vcx ?_; try with_reducible exact True.intro
  (refine dcx ?_; try with_reducible exact True.intro)
  refine ⟨hq, fun _ hbl _ => ⟨by omega, fun _ _ => ?_⟩⟩
  obtain ⟨L, hL⟩ : ∃ L, L = min bs.length 20 := ⟨_, rfl⟩
  have eL : (min (bs.length : Int) 20).toNat = L := by omega
  have hLl : (bs.take L).length = L := by rw [List.length_take]; omega
  rw [eL, List.drop_zero]
  refine loopG (fun k => ((k : Int), (taK m bs rate k).2.2, (taK m bs rate k).1, (taK m bs rate k).1, (taK m bs rate k).2.1)) (fun k => ∀ i, i < k → taB m bs rate i = true) L rfl (by omega) fun I μ k hk hG _ go => ?_
  dsimp only
  (refine dcx ?_; try with_reducible exact True.intro)
  have hfin := fun h3 => taF_eq (m := m) (bs := bs) (r := rate) (k := k) (by omega) hG h3
  have hlen := taK_len m bs rate k
  have hsz := taK_sz m bs rate k
  have hT : k < L → (bs.take L).getD k (zeroD tBatch) = bs.getD k [] := fun h => by
    rw [getD_at (by omega), getD_at (by omega), List.getElem_take]
  by_cases hkL : k < L
  · rw [hT hkL, hLl]
    have hB : taB m bs rate k = batchB (taK m bs rate k).1 (bs.getD k []) := rfl
    have hnext : taB m bs rate k = true → ∀ i, i < k + 1 → taB m bs rate i = true := fun h i hi => by
      rcases Nat.lt_or_eq_of_le (Nat.le_of_lt_succ hi) with h' | rfl
      · exact hG i h'
      · exact h
    have hs2 := seqF_sz (taK m bs rate k).1 (bs.getD k [])
    have hF1 : k = min bs.length 20 → taK m bs rate k = taF m bs rate := fun h => hfin (.inl h)
    have hF2 : batchB (taK m bs rate k).1 (bs.getD k []) = false → taK m bs rate k = taF m bs rate := fun h => hfin (.inr h)
    rw [hB] at hnext
    simp only [taK] at go
    clear hfin hB hG
    generalize bs.getD k [] = b at *
    generalize taK m bs rate k = s at *
    obtain ⟨sm, sl, sf⟩ := s
    dsimp only at *
    (repeat' first | intro _ | (refine go2 _ ?_ ?_ ?_) | (refine go2 _ ?_ ?_) | (refine go _ ?_ ?_ ?_) | (refine go _ ?_ ?_) | (with_reducible apply And.intro))
    all_goals first | omega | (unfold maxLen; omega) | exact ⟨by show szT tModel sm ≤ _; omega, hs2⟩ | exact hF2 (by assumption) | exact hF1 (by omega) | exact hnext (by assumption) _ (by assumption) | skip
    all_goals first | exact Prod.ext rfl (Prod.ext (or3_t (by assumption)) rfl) | exact Prod.ext rfl (Prod.ext (or3_u (by assumption) (by assumption)) rfl) | exact Prod.ext rfl (Prod.ext (or3_f (by assumption) (by assumption)) rfl) | skip
  · exact ⟨fun h => by omega, fun _ => hfin (.inl (by omega))⟩
theorem h_i_TrainAlone : Con.Holds Tryz.prog c_i_TrainAlone := tree_ok mixedP (consAt h_i_copyModel (consAt h_i_BatchOk (consAt h_i_Sequential (consAt h_i_Learn consNil)))) e_i_TrainAlone fun x hx hp => v_i_TrainAlone x hx hp
noncomputable def c_s_TrainAlone : Con := ⟨10, (.pair tModel (.pair (.slice 96 tBatch) tI)), (.pair tModel (.pair tInts .bool)), [.val ⟨true, tModel, []⟩, .val ⟨false, (.slice 96 tBatch), []⟩, .val ⟨false, tI, []⟩], [⟨true, tModel, [2]⟩, ⟨false, tInts, [2]⟩, ⟨false, .bool, [0]⟩], false, none,
  ((fun x => szT tModel x.1 ≤ 1000000000) : (ModelD × ((List BatchD) × Int)) → Prop),
  ((fun x => taF x.1 x.2.1 x.2.2) : (ModelD × ((List BatchD) × Int)) → (ModelD × (IntsD × Bool)))⟩
def t_s_TrainAlone : T :=
  .call 0 (.p1 tModel (.pair (.slice 96 tBatch) tI) (.vr 0)) <|
  .loop (.pair tI (.pair .bool (.pair tModel tInts))) (mkA (.pair tI (.pair .bool (.pair tModel tInts))) [(.ci .i64 0), (.cb false), (.vr 1), (.nl 3 tI)]) <|
   .prim (.llen 96 tBatch) (pjA (.pair tModel (.pair (.slice 96 tBatch) tI)) 1 (.vr 0)) <|
   .prim (.cmp .lss .i64) (.mk2 tI tI (.p1 tI (.pair .bool (.pair tModel tInts)) (.vr 2)) (.vr 3)) <|
   .ite (.vr 4) (
    .prim (.cmp .lss .i64) (.mk2 tI tI (.p1 tI (.pair .bool (.pair tModel tInts)) (.vr 2)) (.ci .i64 20)) <|
    .ite (.vr 5) (
     .prim (.lidx 96 tBatch) (.mk2 (.slice 96 tBatch) tI (pjA (.pair tModel (.pair (.slice 96 tBatch) tI)) 1 (.vr 0)) (.p1 tI (.pair .bool (.pair tModel tInts)) (.vr 2))) <|
     .call 1 (.mk2 tModel tBatch (pjA (.pair tI (.pair .bool (.pair tModel tInts))) 2 (.vr 2)) (.vr 6)) <|
     .prim .not (.vr 7) <|
     .ite (.vr 8) (
      .ret (mkA (.pair tModel (.pair tInts .bool)) [(pjA (.pair tI (.pair .bool (.pair tModel tInts))) 2 (.vr 2)), (prA (.pair tI (.pair .bool (.pair tModel tInts))) 3 (.vr 2)), (pjA (.pair tI (.pair .bool (.pair tModel tInts))) 1 (.vr 2))])) (
      .prim (.lidx 96 tBatch) (.mk2 (.slice 96 tBatch) tI (pjA (.pair tModel (.pair (.slice 96 tBatch) tI)) 1 (.vr 0)) (.p1 tI (.pair .bool (.pair tModel tInts)) (.vr 2))) <|
      .call 2 (.mk2 tModel tBatch (pjA (.pair tI (.pair .bool (.pair tModel tInts))) 2 (.vr 2)) (.vr 9)) <|
      .call 3 (mkA (.pair tModel (.pair tGrads tI)) [(pjA (.pair tI (.pair .bool (.pair tModel tInts))) 2 (.vr 2)), (.vr 10), (prA (.pair tModel (.pair (.slice 96 tBatch) tI)) 2 (.vr 0))]) <|
      .ite (pjA (.pair tI (.pair .bool (.pair tModel tInts))) 1 (.vr 2)) (
       .prim (.lit 3 tI 1) (pjA tGrads 1 (.vr 10)) <|
       .prim (.lapp 3 tI 8) (.mk2 tInts tInts (prA (.pair tI (.pair .bool (.pair tModel tInts))) 3 (.vr 2)) (.vr 12)) <|
       .prim (.ar .add .i64) (.mk2 tI tI (.p1 tI (.pair .bool (.pair tModel tInts)) (.vr 2)) (.ci .i64 1)) <|
       .again 0 (mkA (.pair tI (.pair .bool (.pair tModel tInts))) [(.vr 14), (.cb true), (.p1 tModel .bool (.vr 11)), (.vr 13)])) (
       .ite (prA (.pair tModel .bool) 1 (.vr 11)) (
        .prim (.lit 3 tI 1) (pjA tGrads 1 (.vr 10)) <|
        .prim (.lapp 3 tI 8) (.mk2 tInts tInts (prA (.pair tI (.pair .bool (.pair tModel tInts))) 3 (.vr 2)) (.vr 12)) <|
        .prim (.ar .add .i64) (.mk2 tI tI (.p1 tI (.pair .bool (.pair tModel tInts)) (.vr 2)) (.ci .i64 1)) <|
        .again 0 (mkA (.pair tI (.pair .bool (.pair tModel tInts))) [(.vr 14), (.cb true), (.p1 tModel .bool (.vr 11)), (.vr 13)])) (
        .prim (.lit 3 tI 1) (pjA tGrads 1 (.vr 10)) <|
        .prim (.lapp 3 tI 8) (.mk2 tInts tInts (prA (.pair tI (.pair .bool (.pair tModel tInts))) 3 (.vr 2)) (.vr 12)) <|
        .prim (.ar .add .i64) (.mk2 tI tI (.p1 tI (.pair .bool (.pair tModel tInts)) (.vr 2)) (.ci .i64 1)) <|
        .again 0 (mkA (.pair tI (.pair .bool (.pair tModel tInts))) [(.vr 14), (prA tGrads 2 (.vr 10)), (.p1 tModel .bool (.vr 11)), (.vr 13)]))))) (
     .ret (mkA (.pair tModel (.pair tInts .bool)) [(pjA (.pair tI (.pair .bool (.pair tModel tInts))) 2 (.vr 2)), (prA (.pair tI (.pair .bool (.pair tModel tInts))) 3 (.vr 2)), (pjA (.pair tI (.pair .bool (.pair tModel tInts))) 1 (.vr 2))]))) (
    .ret (mkA (.pair tModel (.pair tInts .bool)) [(pjA (.pair tI (.pair .bool (.pair tModel tInts))) 2 (.vr 2)), (prA (.pair tI (.pair .bool (.pair tModel tInts))) 3 (.vr 2)), (pjA (.pair tI (.pair .bool (.pair tModel tInts))) 1 (.vr 2))]))
set_option maxRecDepth 100000 in
theorem e_s_TrainAlone : exFn Tryz.prog [c_s_l11Ops, c_s_BatchOk, c_s_Sequential, c_s_Learn] c_s_TrainAlone false 3000 ⟨[(2987, 1002, drd 19 15 ++ [.dr 0, .tm 11 0, .tm 10 0, .on 9, .sl 4, .sl 5])], []⟩ = .ok t_s_TrainAlone := by kernel_rfl
theorem v_s_TrainAlone (x : ModelD × ((List BatchD) × Int)) (hx : okD (.pair tModel (.pair (.slice 96 tBatch) tI)) x) (hp : (fun x => szT tModel x.1 ≤ 1000000000) x) : t_s_TrainAlone.wp [c_s_l11Ops, c_s_BatchOk, c_s_Sequential, c_s_Learn] [⟨(.pair tModel (.pair (.slice 96 tBatch) tI)), x⟩] [] (fun v => v.as (.pair tModel (.pair tInts .bool)) = (fun x => taF x.1 x.2.1 x.2.2) x) := by
  obtain ⟨m, bs, rate⟩ := x
  have hq : szT tModel m ≤ 1000000000 := hp
  delta t_s_TrainAlone c_s_l11Ops c_s_BatchOk c_s_Sequential c_s_Learn; refine vcx ?_; try with_reducible exact True.intro
  (refine dcx ?_; try with_reducible exact True.intro)
  refine ⟨hq, fun _ => ?_⟩
  refine loopG (fun k => ((k : Int), (taK m bs rate k).2.2, (taK m bs rate k).1, (taK m bs rate k).2.1)) (fun k => ∀ i, i < k → taB m bs rate i = true) (min bs.length 20) rfl (by omega) fun I μ k hk hG _ go => ?_
  dsimp only
  (refine dcx ?_; try with_reducible exact True.intro)
  have hfin := fun h3 => taF_eq (m := m) (bs := bs) (r := rate) (k := k) hk hG h3
  have hlen := taK_len m bs rate k
  have hsz := taK_sz m bs rate k
  rw [show bs.getD k (zeroD tBatch) = bs.getD k [] from rfl]
  have hB : taB m bs rate k = batchB (taK m bs rate k).1 (bs.getD k []) := rfl
  have hnext : taB m bs rate k = true → ∀ i, i < k + 1 → taB m bs rate i = true := fun h i hi => by
    rcases Nat.lt_or_eq_of_le (Nat.le_of_lt_succ hi) with h' | rfl
    · exact hG i h'
    · exact h
  have hs2 := seqF_sz (taK m bs rate k).1 (bs.getD k [])
  have hF1 : k = min bs.length 20 → taK m bs rate k = taF m bs rate := fun h => hfin (.inl h)
  have hF2 : batchB (taK m bs rate k).1 (bs.getD k []) = false → taK m bs rate k = taF m bs rate := fun h => hfin (.inr h)
  rw [hB] at hnext
  simp only [taK] at go
  clear hfin hB hG
  generalize bs.getD k [] = b at *
  generalize taK m bs rate k = s at *
  obtain ⟨sm, sl, sf⟩ := s
  dsimp only at *
  (repeat' first | intro _ | (refine go2 _ ?_ ?_ ?_) | (refine go2 _ ?_ ?_) | (refine go _ ?_ ?_ ?_) | (refine go _ ?_ ?_) | (with_reducible apply And.intro))
  all_goals first | omega | (unfold maxLen; omega) | exact ⟨by show szT tModel sm ≤ _; omega, hs2⟩ | exact hF2 (by assumption) | exact hF1 (by omega) | exact hnext (by assumption) _ (by assumption) | skip
  all_goals first | exact Prod.ext rfl (Prod.ext (or3_t (by assumption)) rfl) | exact Prod.ext rfl (Prod.ext (or3_u (by assumption) (by assumption)) rfl) | exact Prod.ext rfl (Prod.ext (or3_f (by assumption) (by assumption)) rfl) | skip
theorem h_s_TrainAlone : Con.Holds Tryz.prog c_s_TrainAlone := tree_ok mixedP (consAt h_s_l11Ops (consAt h_s_BatchOk (consAt h_s_Sequential (consAt h_s_Learn consNil)))) e_s_TrainAlone fun x hx hp => v_s_TrainAlone x hx hp
end Go.Proofs.YtiihghfoeinbbaaGreat
