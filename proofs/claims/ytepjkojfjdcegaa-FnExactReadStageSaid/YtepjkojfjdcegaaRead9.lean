/- Read9: trees, and what they say. -/
import Derived.Test.YtepjkojfjdcegaaRead8
namespace Go.Proofs.Ytepjkojfjdcegaa
open Go.ChangeShapes Go.WideShapes Go.ChangeAt Go.RowKit Go.Deep
set_option linter.unusedVariables false
set_option linter.unusedSimpArgs false
theorem vecO_8 {s : ByteArray} {p : Int} {q : List Int × Int} (h : vecO s p = some q) : p + 8 ≤ q.2 := by
  unfold vecO at h
  split at h
  · rename_i n hn
    have hp := numAt_some hn
    split at h
    · have := numsP_b s n.toNat (p + 8) (by omega) (by omega) q h; omega
    · cases h
  · cases h
theorem vecP_show {s : ByteArray} {p : Nat} {v : List Int} (hv : okV v = true) (h : hasT s p (vecS v)) : vecP s p = (v, ((p + (vecS v).size : Nat) : Int)) := by
  unfold vecP; rw [vecO_show hv h]; rfl
theorem ofP_show {s : ByteArray} {p : Nat} {v : List Int} {n : Int} (hv : okV v = true) (h : hasT s p (vecS v)) (hn : (v.length : Int) = n) : ofP s n p = (v, ((p + (vecS v).size : Nat) : Int)) := by
  unfold ofP
  rw [vecP_show hv h, if_neg]
  rintro (h1 | h1)
  · have h2 : ((p + (vecS v).size : Nat) : Int) < 0 := h1
    omega
  · exact h1 hn
theorem loopP_show {α : Type} {s : ByteArray} {f : Int → α × Int} {g : α → List ByteArray} {P : α → Prop} (hf : ∀ (a : α) (p : Nat), P a → hasT s p (cat ⟨#[]⟩ (g a)) → f p = (a, ((p + (cat ⟨#[]⟩ (g a)).size : Nat) : Int))) :
    (l : List α) → (p : Nat) → (∀ a ∈ l, P a) → hasT s p (cat ⟨#[]⟩ (l.flatMap g)) → loopP f l.length p = (l, ((p + (cat ⟨#[]⟩ (l.flatMap g)).size : Nat) : Int))
  | [], p, _, _ => rfl
  | x :: l, p, hP, h => by
    rw [List.flatMap_cons, catE_app] at h ⊢
    obtain ⟨h1, h2⟩ := hasT_app.1 h
    rw [List.length_cons, loopP_go f _ (Int.natCast_nonneg p), hf x p (hP x List.mem_cons_self) h1]
    dsimp only
    rw [loopP_show hf l _ (fun a ha => hP a (List.mem_cons_of_mem _ ha)) h2, ba_size, Nat.add_assoc]
theorem readRowsP_show {s : ByteArray} {p : Nat} {l : RowsD} (hl : l.length ≤ 20) (hv : ∀ v ∈ l, okV v = true) (h : hasT s p (cat ⟨#[]⟩ (rowsP l))) : readRowsP s p = (l, ((p + (cat ⟨#[]⟩ (rowsP l)).size : Nat) : Int)) := by
  unfold rowsP at h ⊢
  rw [catE_cons, map_fm] at h ⊢
  obtain ⟨h1, h2⟩ := hasT_app.1 h
  have hz := numS_8 (n := (l.length : Int)) (by omega)
  unfold readRowsP numP
  rw [numAt_show h1 (by omega)]
  dsimp only
  rw [Int.toNat_natCast, show min l.length 100 = l.length by omega, show (p : Int) + 8 = ((p + (numS (l.length : Int)).size : Nat) : Int) by rw [hz]; omega,
    loopP_show (P := fun v => okV v = true) (fun a p ha h => ?_) l _ hv h2, ba_size, Nat.add_assoc]
  rw [cat_one, nil_app] at h ⊢
  exact vecP_show ha h
theorem insQ_show {s : ByteArray} (a : InsD) (p : Nat) (ha : okV [a.1, a.2] = true) (h : hasT s p (cat ⟨#[]⟩ (insP a))) : insQ s p = (a, ((p + (cat ⟨#[]⟩ (insP a)).size : Nat) : Int)) := by
  unfold insP at h ⊢
  rw [cat_one, nil_app] at h ⊢
  unfold insQ
  rw [ofP_show (n := 2) ha h rfl]; rfl
theorem opQ_show {s : ByteArray} (a : OpD) (p : Nat) (ha : okV [a.1, a.2.1, a.2.2.1] = true ∧ okV a.2.2.2 = true) (h : hasT s p (cat ⟨#[]⟩ (opP a))) : opQ s p = (a, ((p + (cat ⟨#[]⟩ (opP a)).size : Nat) : Int)) := by
  unfold opP at h ⊢
  rw [catE_cons, cat_one, nil_app] at h ⊢
  obtain ⟨h1, h2⟩ := hasT_app.1 h
  unfold opQ
  rw [ofP_show (n := 3) ha.1 h1 rfl]
  dsimp only
  rw [vecP_show ha.2 h2, ba_size, Nat.add_assoc]; rfl
theorem savQ_show {s : ByteArray} (a : SavedD) (p : Nat) (ha : okV [a.1] = true ∧ a.2.length ≤ 20 ∧ ∀ v ∈ a.2, okV v = true) (h : hasT s p (cat ⟨#[]⟩ (savP a))) : savQ s p = (a, ((p + (cat ⟨#[]⟩ (savP a)).size : Nat) : Int)) := by
  unfold savP at h ⊢
  rw [catE_cons] at h ⊢
  obtain ⟨h1, h2⟩ := hasT_app.1 h
  unfold savQ
  rw [ofP_show (n := 1) ha.1 h1 rfl]
  dsimp only
  rw [readRowsP_show ha.2.1 ha.2.2 h2, ba_size, Nat.add_assoc]; rfl
theorem stageP_cat (x : StageD) : cat ⟨#[]⟩ (stageP x) = vecS (headV x) ++ (cat ⟨#[]⟩ (x.2.1.flatMap insP) ++ (cat ⟨#[]⟩ (x.2.2.1.flatMap opP) ++ (cat ⟨#[]⟩ (x.2.2.2.2.2.1.flatMap savP) ++ (cat ⟨#[]⟩ (rowsP x.2.2.2.2.2.2.1) ++ (vecS x.2.2.2.2.2.2.2.1 ++ (vecS x.2.2.2.2.2.2.2.2.1 ++ (vecS x.2.2.2.2.2.2.2.2.2.1 ++ (vecS x.2.2.2.2.2.2.2.2.2.2.1 ++ cat ⟨#[]⟩ (rowsP x.2.2.2.2.2.2.2.2.2.2.2.1))))))))) := by
  unfold stageP stageT
  simp only [catE_app, catE_cons, cat_one, nil_app, List.cons_append, List.nil_append]
theorem stageQ0_show {s : ByteArray} {p : Nat} {x : StageD} (hx : fitS x) (h : hasT s p (cat ⟨#[]⟩ (stageP x))) : stageQ0 s p = (x, ((p + (cat ⟨#[]⟩ (stageP x)).size : Nat) : Int)) := by
  obtain ⟨f0, f1, f2, f3, f4, f5, f6, f7, f8, f9⟩ := fitS_all hx
  have hm := (modelB_iff _).1 ((stageB_iff x).1 hx.1.1).1
  have hl := hx.1
  rw [stageP_cat] at h ⊢
  obtain ⟨h0, h⟩ := hasT_app.1 h
  obtain ⟨h1, h⟩ := hasT_app.1 h
  obtain ⟨h2, h⟩ := hasT_app.1 h
  obtain ⟨h3, h⟩ := hasT_app.1 h
  obtain ⟨h4, h⟩ := hasT_app.1 h
  obtain ⟨h5, h⟩ := hasT_app.1 h
  obtain ⟨h6, h⟩ := hasT_app.1 h
  obtain ⟨h7, h⟩ := hasT_app.1 h
  obtain ⟨h8, h9⟩ := hasT_app.1 h
  unfold stageQ0
  rw [ofP_show (n := 8) f0 h0 rfl]
  dsimp only
  rw [show min ((headV x).getD 5 0).toNat 100 = x.2.1.length from Nat.min_eq_left hl.2.1, loopP_show insQ_show x.2.1 _ f1 h1]
  unfold K1Q
  dsimp only
  rw [show min ((headV x).getD 6 0).toNat 8 = x.2.2.1.length from Nat.min_eq_left hm.2.1, loopP_show opQ_show x.2.2.1 _ f2 h2]
  unfold K2Q
  dsimp only
  rw [show min ((headV x).getD 7 0).toNat 5 = x.2.2.2.2.2.1.length from Nat.min_eq_left hl.2.2.1, loopP_show savQ_show x.2.2.2.2.2.1 _ f3 h3]
  unfold K3Q finQ
  dsimp only
  rw [readRowsP_show f4.1 f4.2 h4]
  dsimp only
  rw [vecP_show f5 h5]
  dsimp only
  rw [vecP_show f6 h6]
  dsimp only
  rw [vecP_show f7 h7]
  dsimp only
  rw [vecP_show f8 h8]
  dsimp only
  rw [readRowsP_show f9.1 f9.2 h9]
  dsimp only
  simp only [ba_size, Nat.add_assoc]
  show ((_, _, _, decide (b01 _ = 1), decide (b01 _ = 1), _, _, _, _, _, _, _, _, decide (b01 _ = 1)), _) = _
  rw [b01_1, b01_1, b01_1]
  rfl
def MoR {α : Type} (f : RdD → α × RdD) : Prop := ∀ r, (r.2.2 = true → (f r).2.2.2 = true) ∧ @LE.le Int _ r.2.1 (f r).2.2.1
theorem numR_M (lo hi : Int) : MoR (fun r => numR r lo hi) := fun r => by
  show (r.2.2 = true → (numR r lo hi).2.2.2 = true) ∧ @LE.le Int _ r.2.1 (numR r lo hi).2.2.1
  unfold numR
  split
  · rename_i n hn
    split at hn
    · cases hn
    · rename_i hb
      split
      · exact ⟨fun h => absurd h hb, by show r.2.1 ≤ r.2.1 + 8; omega⟩
      · exact ⟨fun _ => rfl, Int.le_refl _⟩
  · exact ⟨fun _ => rfl, Int.le_refl _⟩
theorem numsR_M : (k : Nat) → MoR (numsR k)
  | 0 => fun r => ⟨fun h => h, Int.le_refl _⟩
  | k + 1 => fun r => by
    cases hb : r.2.2 with
    | true => rw [numsR_bad _ hb]; exact ⟨fun _ => hb, Int.le_refl _⟩
    | false =>
      rw [numsR_go _ hb]
      have h1 := numR_M (-1000000000000) 1000000000000 r
      have h2 := numsR_M k (numR r (-1000000000000) 1000000000000).2
      exact ⟨fun h => (by cases h), Int.le_trans h1.2 h2.2⟩
theorem MoR_comp {α β : Type} {f : RdD → α × RdD} {g : RdD → β × RdD} (hf : MoR f) (hg : MoR g) (r : RdD) : (r.2.2 = true → (g (f r).2).2.2.2 = true) ∧ @LE.le Int _ r.2.1 (g (f r).2).2.2.1 :=
  ⟨fun h => (hg _).1 ((hf r).1 h), Int.le_trans (hf r).2 (hg _).2⟩
theorem vecR_M : MoR vecR := fun r => MoR_comp (numR_M 0 200) (numsR_M (numR r 0 200).1.toNat) r
theorem someR_M (n : Int) : MoR (fun r => someR r n) := fun r => by
  have h := vecR_M r
  show (r.2.2 = true → (someR r n).2.2.2 = true) ∧ @LE.le Int _ r.2.1 (someR r n).2.2.1
  unfold someR
  split
  · exact h
  · exact ⟨fun _ => rfl, h.2⟩
theorem loopR_M {α : Type} {f : RdD → α × RdD} (hf : MoR f) : (k : Nat) → MoR (loopR f k)
  | 0 => fun r => ⟨fun h => h, Int.le_refl _⟩
  | k + 1 => fun r => by
    cases hb : r.2.2 with
    | true => rw [loopR_bad _ _ hb]; exact ⟨fun _ => hb, Int.le_refl _⟩
    | false =>
      rw [loopR_go _ _ hb]
      exact ⟨fun h => (by cases h), Int.le_trans (hf r).2 (loopR_M hf k _).2⟩
theorem rowsR_M : MoR rowsR := fun r => MoR_comp (numR_M 0 20) (loopR_M vecR_M (numR r 0 20).1.toNat) r
theorem insF_M : MoR insF := fun r => someR_M 2 r
theorem opF_M : MoR opF := fun r => MoR_comp (someR_M 3) vecR_M r
theorem savF_M : MoR savF := fun r => MoR_comp (someR_M 1) rowsR_M r
theorem stageR_M (r : RdD) : ((someR r 8).2.2.2 = true → (stageR r).2.2.2 = true) ∧ @LE.le Int _ (someR r 8).2.2.1 (stageR r).2.2.1 := by
  have h1 := loopR_M insF_M ((someR r 8).1.getD 5 0).toNat (someR r 8).2
  unfold stageR K1 K2 K3 finR
  generalize loopR insF ((someR r 8).1.getD 5 0).toNat (someR r 8).2 = A at h1 ⊢
  have h2 := loopR_M opF_M ((someR r 8).1.getD 6 0).toNat A.2
  generalize loopR opF ((someR r 8).1.getD 6 0).toNat A.2 = B at h2 ⊢
  have h3 := loopR_M savF_M ((someR r 8).1.getD 7 0).toNat B.2
  generalize loopR savF ((someR r 8).1.getD 7 0).toNat B.2 = C at h3 ⊢
  have h4 := rowsR_M C.2
  have h5 := vecR_M (rowsR C.2).2
  have h6 := vecR_M (vecR (rowsR C.2).2).2
  have h7 := vecR_M (vecR (vecR (rowsR C.2).2).2).2
  have h8 := vecR_M (vecR (vecR (vecR (rowsR C.2).2).2).2).2
  have h9 := rowsR_M (vecR (vecR (vecR (vecR (rowsR C.2).2).2).2).2).2
  exact ⟨fun h => h9.1 (h8.1 (h7.1 (h6.1 (h5.1 (h4.1 (h3.1 (h2.1 (h1.1 h)))))))), Int.le_trans h1.2 (Int.le_trans h2.2 (Int.le_trans h3.2 (Int.le_trans h4.2 (Int.le_trans h5.2 (Int.le_trans h6.2 (Int.le_trans h7.2 (Int.le_trans h8.2 h9.2)))))))⟩
theorem stageR_8 {s : ByteArray} {p : Nat} (h : (stageR (atR s p)).2.2.2 = false) : (p : Int) + 8 ≤ (stageR (atR s p)).2.2.1 := by
  have h1 := stageR_M (atR s p)
  have h2 : (someR (atR s p) 8).2.2.2 = false := by
    cases hb : (someR (atR s p) 8).2.2.2 with
    | true => rw [h1.1 hb] at h; cases h
    | false => rfl
  refine Int.le_trans ?_ h1.2
  unfold someR at h2 ⊢
  split at h2
  · rename_i h3
    rw [if_pos h3]
    have h4 := vecR_vecO s p
    cases hv : vecO s p with
    | none => rw [hv] at h4; exact absurd (h4.symm.trans h2) (by decide)
    | some q => rw [hv] at h4; have h5 := vecO_8 hv; rw [show vecR (atR s p) = _ from h4]; exact h5
  · cases h2
theorem stageQ0_8 {s : ByteArray} {p : Int} (hp : PB s p) (h : 0 ≤ (stageQ0 s p).2) : p + 8 ≤ (stageQ0 s p).2 := by
  have h0 := ofP_G s 8 p hp
  have h1 := loopP_G (insQ_G s) (min ((ofP s 8 p).1.getD 5 0).toNat 100) _ h0.1
  unfold stageQ0 K1Q K2Q K3Q finQ at h ⊢
  generalize loopP (insQ s) (min ((ofP s 8 p).1.getD 5 0).toNat 100) (ofP s 8 p).2 = A at h1 h ⊢
  have h2 := loopP_G (opQ_G s) (min ((ofP s 8 p).1.getD 6 0).toNat 8) _ h1.1
  generalize loopP (opQ s) (min ((ofP s 8 p).1.getD 6 0).toNat 8) A.2 = B at h2 h ⊢
  have h3 := loopP_G (savQ_G s) (min ((ofP s 8 p).1.getD 7 0).toNat 5) _ h2.1
  generalize loopP (savQ s) (min ((ofP s 8 p).1.getD 7 0).toNat 5) B.2 = C at h3 h ⊢
  have g1 := readRowsP_G s _ h3.1
  have g2 := vecP_G s _ g1.1
  have g3 := vecP_G s _ g2.1
  have g4 := vecP_G s _ g3.1
  have g5 := vecP_G s _ g4.1
  have g6 := readRowsP_G s _ g5.1
  have q6 := g6.2 h
  have q5 := g5.2 q6.1
  have q4 := g4.2 q5.1
  have q3 := g3.2 q4.1
  have q2 := g2.2 q3.1
  have q1 := g1.2 q2.1
  have q0 := h3.2 q1.1
  have r2 := h2.2 q0.1
  have r1 := h1.2 r2.1
  have h8 : p + 8 ≤ (ofP s 8 p).2 := by
    have hz := r1.1
    unfold ofP at hz ⊢
    split at hz
    · exact absurd (show (0 : Int) ≤ -1 from hz) (by decide)
    · rename_i h3
      rw [if_neg h3]
      unfold vecP at h3 ⊢
      cases hv : vecO s p with
      | none => rw [hv] at h3; exact absurd (.inl (by decide)) h3
      | some q => exact vecO_8 hv
  have := q6.2; have := q5.2; have := q4.2; have := q3.2; have := q2.2; have := q1.2; have := q0.2; have := r2.2; have := r1.2
  show p + 8 ≤ (readRowsP s _).2
  omega
theorem stageS_fit {x : StageD} (h : ¬ stageS x = ⟨#[]⟩) : fitS x ∧ stageS x = cat ⟨#[]⟩ (stageP x) := by
  unfold stageS at h ⊢
  split at h
  · rename_i h1; rw [if_pos h1]; exact ⟨h1, rfl⟩
  · exact absurd rfl h
theorem shown_of {s : ByteArray} {p q : Nat} {x : StageD} (hp : p < q) (hq : q ≤ s.size) (h : stageS x = s.extract p q) : fitS x ∧ hasT s p (cat ⟨#[]⟩ (stageP x)) ∧ q = p + (cat ⟨#[]⟩ (stageP x)).size := by
  obtain ⟨h1, h2⟩ := hasT_of (s := s) (Nat.le_of_lt hp) hq
  have h3 : ¬ stageS x = ⟨#[]⟩ := fun e => by
    rw [← h, e] at h2
    have : q = p + 0 := h2
    omega
  obtain ⟨f1, f2⟩ := stageS_fit h3
  rw [← h, f2] at h1 h2
  exact ⟨f1, h1, h2⟩
theorem stageQ_show {s : ByteArray} {p : Nat} {x : StageD} (hx : fitS x) (h : hasT s p (cat ⟨#[]⟩ (stageP x))) : stageQ s p = (x, ((p + (cat ⟨#[]⟩ (stageP x)).size : Nat) : Int)) := by
  have h1 := stageQ0_show hx h
  have e : stageS x = cat ⟨#[]⟩ (stageP x) := by unfold stageS; rw [if_pos (show limS x ∧ (stageV x).all okV = true from hx)]
  rw [← stageQ_yes (by rw [h1]; exact Int.natCast_nonneg _) (by rw [h1]; show stageS x = s.extract (p : Int).toNat ((p + (cat ⟨#[]⟩ (stageP x)).size : Nat) : Int).toNat; rw [Int.toNat_natCast, Int.toNat_natCast, hasT_ext h, e]), h1]
theorem stageQ_sound {s : ByteArray} {p : Nat} (hp : p ≤ s.size) (h : 0 ≤ (stageQ s p).2) : ∃ x, fitS x ∧ hasT s p (cat ⟨#[]⟩ (stageP x)) := by
  unfold stageQ at h
  split at h
  · exact absurd h (by decide)
  · rename_i h1
    have h2 : 0 ≤ (stageQ0 s p).2 := by omega
    have h3 : stageS (stageQ0 s p).1 = s.extract (p : Int).toNat (stageQ0 s p).2.toNat := Classical.not_not.1 fun h => h1 (.inr h)
    have hP : PB s p := ⟨by omega, by omega⟩
    have h4 := stageQ0_8 hP h2
    have h5 : (stageQ0 s p).2 ≤ s.size := by
      have a1 := ofP_G s 8 p hP
      have a2 := loopP_G (insQ_G s) (min ((ofP s 8 p).1.getD 5 0).toNat 100) _ a1.1
      have a3 := loopP_G (opQ_G s) (min ((ofP s 8 p).1.getD 6 0).toNat 8) _ a2.1
      have a4 := loopP_G (savQ_G s) (min ((ofP s 8 p).1.getD 7 0).toNat 5) _ a3.1
      exact (readRowsP_G s _ (vecP_G s _ (vecP_G s _ (vecP_G s _ (vecP_G s _ (readRowsP_G s _ a4.1).1).1).1).1).1).1.2
    rw [Int.toNat_natCast] at h3
    obtain ⟨f1, f2, _⟩ := shown_of (by omega) (by omega) h3
    exact ⟨_, f1, f2⟩
def rdStI (s : ByteArray) : StageD × (Int × Bool) := if (stageR (atR s 0)).2.2.2 = true ∨ ¬ stageS (stageR (atR s 0)).1 = s.extract 0 (stageR (atR s 0)).2.2.1.toNat then (zStage, 0, false) else ((stageR (atR s 0)).1, (stageR (atR s 0)).2.2.1, true)
def rdStS (s : ByteArray) : StageD × (Int × Bool) := if (stageQ s 0).2 < 0 then (zStage, 0, false) else ((stageQ s 0).1, (stageQ s 0).2, true)
theorem stageR_P {r : RdD} (h : RdP r) : RdP (stageR r).2 ∧ (stageR r).2.1 = r.1 := by
  have h0 := someR_P 8 h
  have h1 := loopR_P (fun r h => insF_P h) ((someR r 8).1.getD 5 0).toNat h0.1
  have h2 := loopR_P (fun r h => opF_P h) ((someR r 8).1.getD 6 0).toNat h1.1
  have h3 := loopR_P (fun r h => savF_P h) ((someR r 8).1.getD 7 0).toNat h2.1
  have h4 := rowsR_P h3.1
  have h5 := vecR_P h4.1
  have h6 := vecR_P h5.1
  have h7 := vecR_P h6.1
  have h8 := vecR_P h7.1
  have h9 := rowsR_P h8.1
  exact ⟨h9.1, h9.2.trans (h8.2.trans (h7.2.trans (h6.2.trans (h5.2.trans (h4.2.trans (h3.2.trans (h2.2.trans (h1.2.trans h0.2))))))))⟩
theorem rdSt_eq (s : ByteArray) : rdStI s = rdStS s := by
  by_cases hE : ∃ x, fitS x ∧ hasT s 0 (cat ⟨#[]⟩ (stageP x))
  · obtain ⟨x, hx, h⟩ := hE
    have h1 := stageR_show hx h
    have h2 := stageQ_show hx h
    have e : stageS x = cat ⟨#[]⟩ (stageP x) := by unfold stageS; rw [if_pos (show limS x ∧ (stageV x).all okV = true from hx)]
    unfold rdStI rdStS
    rw [h1, show stageQ s 0 = _ from h2, if_neg, if_neg]
    · rfl
    · show ¬ ((0 + (cat ⟨#[]⟩ (stageP x)).size : Nat) : Int) < 0
      omega
    · rintro (h3 | h3)
      · cases h3
      · refine h3 ?_
        show stageS x = s.extract 0 (((0 + (cat ⟨#[]⟩ (stageP x)).size : Nat) : Int)).toNat
        rw [Int.toNat_natCast, hasT_ext h, e]
  · have hP : RdP (atR s 0) := ⟨by show (0 : Int) ≤ ((0 : Nat) : Int); omega, by show ((0 : Nat) : Int) ≤ s.size; omega⟩
    have a : (stageR (atR s 0)).2.2.2 = true ∨ ¬ stageS (stageR (atR s 0)).1 = s.extract 0 (stageR (atR s 0)).2.2.1.toNat := by
      cases hb : (stageR (atR s 0)).2.2.2 with
      | true => exact .inl rfl
      | false =>
        refine .inr fun he => ?_
        have h8 := stageR_8 hb
        have hQ := stageR_P hP
        have hz : (stageR (atR s 0)).2.2.1 ≤ ((stageR (atR s 0)).2.1.size : Int) := hQ.1.2
        rw [hQ.2] at hz
        have hz2 : (stageR (atR s 0)).2.2.1 ≤ (s.size : Int) := hz
        obtain ⟨f1, f2, _⟩ := shown_of (by omega) (by omega) he
        exact hE ⟨_, f1, f2⟩
    have b : (stageQ s 0).2 < 0 := by
      refine Int.not_le.1 fun h => hE ?_
      exact stageQ_sound (Nat.zero_le _) h
    unfold rdStI rdStS
    rw [if_pos a, if_pos b]
noncomputable def c_i_ReadStage : Con := ⟨30, .str, (.pair tStage (.pair tI .bool)), [.val ⟨false, .str, []⟩], [⟨true, tStage, [0, 2, 2, 0, 0, 2, 2, 2, 2, 2, 2, 2, 0, 0]⟩, ⟨false, tI, [0]⟩, ⟨false, .bool, [0]⟩], false, none,
  ((fun _ => True) : (ByteArray) → Prop),
  ((fun x => rdStI x) : (ByteArray) → (StageD × (Int × Bool)))⟩
def t_i_ReadStage : T :=
  .call 0 (mkA (.pair .str (.pair tI .bool)) [(.vr 0), (.ci .i64 0), (.cb false)]) <|
  .ite (prA (.pair tStage (.pair .str (.pair tI .bool))) 3 (.vr 1)) (
   .ret (mkA (.pair tStage (.pair tI .bool)) [(mkA tStage [(.ci .i64 0), (.nl 141 tIns), (.nl 92 tOp), (.cb false), (.cb false), (.nl 146 tSaved), (.nl 90 tInts), (.nl 3 tI), (.nl 3 tI), (.nl 3 tI), (.nl 3 tI), (.nl 90 tInts), (.ci .i64 0), (.cb false)]), (.ci .i64 0), (.cb false)])) (
   .prim .ssub (mkA (.pair .str tIns) [(.vr 0), (.ci .i64 0), (pjA (.pair tStage (.pair .str (.pair tI .bool))) 2 (.vr 1))]) <|
   .call 1 (.p1 tStage (.pair .str (.pair tI .bool)) (.vr 1)) <|
   .prim (.seq true) (.mk2 .str .str (.vr 3) (.vr 2)) <|
   .ite (.vr 4) (
    .ret (mkA (.pair tStage (.pair tI .bool)) [(mkA tStage [(.ci .i64 0), (.nl 141 tIns), (.nl 92 tOp), (.cb false), (.cb false), (.nl 146 tSaved), (.nl 90 tInts), (.nl 3 tI), (.nl 3 tI), (.nl 3 tI), (.nl 3 tI), (.nl 90 tInts), (.ci .i64 0), (.cb false)]), (.ci .i64 0), (.cb false)])) (
    .ret (mkA (.pair tStage (.pair tI .bool)) [(.p1 tStage (.pair .str (.pair tI .bool)) (.vr 1)), (pjA (.pair tStage (.pair .str (.pair tI .bool))) 2 (.vr 1)), (.cb true)])))
set_option maxRecDepth 100000 in
theorem e_i_ReadStage : exFn Try.prog [c_i_reader_stage, c_i_ShowStage] c_i_ReadStage false 3000 ⟨[], []⟩ = .ok t_i_ReadStage := by kernel_rfl
set_option maxHeartbeats 4000000 in
theorem v_i_ReadStage (x : ByteArray) (hx : okD .str x) (hp : (fun _ => True) x) : t_i_ReadStage.wp [c_i_reader_stage, c_i_ShowStage] [⟨.str, x⟩] [] (fun v => v.as (.pair tStage (.pair tI .bool)) = (fun x => rdStI x) x) := by
  have hP : RdP (atR x 0) := ⟨by show (0 : Int) ≤ ((0 : Nat) : Int); omega, by show ((0 : Nat) : Int) ≤ x.size; omega⟩
  have hQ := stageR_P hP
  have hz : 0 ≤ (stageR (atR x 0)).2.2.1 := hQ.1.1
  have hz2 : (stageR (atR x 0)).2.2.1 ≤ ((stageR (atR x 0)).2.1.size : Int) := hQ.1.2
  rw [hQ.2] at hz2
  have hz3 : (stageR (atR x 0)).2.2.1 ≤ (x.size : Int) := hz2
  clear hz2 hQ
  delta t_i_ReadStage c_i_reader_stage c_i_ShowStage; refine vcx ?_; try with_reducible exact True.intro
  have e0 : ((x, ((0 : Int), false)) : RdD) = atR x 0 := rfl
  rw [e0]
  unfold rdStI
  generalize stageR (atR x 0) = q at *
  refine ⟨hP, fun _ => ⟨fun h => ?_, fun h => ⟨⟨by omega, hz, hz3⟩, fun _ _ => ⟨fun h2 => ?_, fun h2 => ?_⟩⟩⟩⟩
  · rw [if_pos (.inl h)]; rfl
  · simp only [Int.toNat_natCast, Bool.not_eq_true', Bool.not_eq_false', Bool.and_eq_true, Bool.and_eq_false_iff, decide_eq_true_eq, decide_eq_false_iff_not, Int.not_lt, Int.not_le, ge_iff_le, gt_iff_lt, List.length_cons, List.length_nil, List.length_append, Nat.zero_add, List.nil_append, beq_iff_eq, beq_eq_false_iff_ne, bne_iff_ne, bne_eq_false_iff_eq, ne_eq, toNat_pred, toNat_succ, toNat_l0, toNat_l1] at h2
    rw [if_pos (.inr h2)]; rfl
  · simp only [Int.toNat_natCast, Bool.not_eq_true', Bool.not_eq_false', Bool.and_eq_true, Bool.and_eq_false_iff, decide_eq_true_eq, decide_eq_false_iff_not, Int.not_lt, Int.not_le, ge_iff_le, gt_iff_lt, List.length_cons, List.length_nil, List.length_append, Nat.zero_add, List.nil_append, beq_iff_eq, beq_eq_false_iff_ne, bne_iff_ne, bne_eq_false_iff_eq, ne_eq, toNat_pred, toNat_succ, toNat_l0, toNat_l1] at h2
    rw [if_neg (fun hh => hh.elim (fun h3 => Bool.noConfusion (h3.symm.trans h)) (fun h3 => h3 h2))]
set_option maxHeartbeats 4000000 in
theorem h_i_ReadStage : Con.Holds Try.prog c_i_ReadStage := tree_ok mixedP (consAt h_i_reader_stage (consAt h_i_ShowStage consNil)) e_i_ReadStage fun x hx hp => v_i_ReadStage x hx hp
noncomputable def c_s_ReadStage : Con := ⟨29, .str, (.pair tStage (.pair tI .bool)), [.val ⟨false, .str, []⟩], [⟨true, tStage, [0, 2, 2, 0, 0, 2, 2, 2, 2, 2, 2, 2, 0, 0]⟩, ⟨false, tI, [0]⟩, ⟨false, .bool, [0]⟩], false, none,
  ((fun _ => True) : (ByteArray) → Prop),
  ((fun x => rdStI x) : (ByteArray) → (StageD × (Int × Bool)))⟩
def t_s_ReadStage : T :=
  .call 0 (.mk2 .str tI (.vr 0) (.ci .i64 0)) <|
  .prim (.cmp .lss .i64) (.mk2 tI tI (prA (.pair tStage tI) 1 (.vr 1)) (.ci .i64 0)) <|
  .ite (.vr 2) (
   .ret (mkA (.pair tStage (.pair tI .bool)) [(mkA tStage [(.ci .i64 0), (.nl 141 tIns), (.nl 92 tOp), (.cb false), (.cb false), (.nl 146 tSaved), (.nl 90 tInts), (.nl 3 tI), (.nl 3 tI), (.nl 3 tI), (.nl 3 tI), (.nl 90 tInts), (.ci .i64 0), (.cb false)]), (.ci .i64 0), (.cb false)])) (
   .ret (mkA (.pair tStage (.pair tI .bool)) [(.p1 tStage tI (.vr 1)), (prA (.pair tStage tI) 1 (.vr 1)), (.cb true)]))
set_option maxRecDepth 100000 in
theorem e_s_ReadStage : exFn Try.prog [c_s_l21Stage] c_s_ReadStage false 3000 ⟨[], []⟩ = .ok t_s_ReadStage := by kernel_rfl
set_option maxHeartbeats 4000000 in
theorem v_s_ReadStage (x : ByteArray) (hx : okD .str x) (hp : (fun _ => True) x) : t_s_ReadStage.wp [c_s_l21Stage] [⟨.str, x⟩] [] (fun v => v.as (.pair tStage (.pair tI .bool)) = (fun x => rdStI x) x) := by
  delta t_s_ReadStage c_s_l21Stage; refine vcx ?_; try with_reducible exact True.intro
  rw [rdSt_eq]
  unfold rdStS
  refine ⟨⟨by omega, by omega⟩, fun _ => ⟨fun h => ?_, fun h => ?_⟩⟩
  · simp only [Int.toNat_natCast, Bool.not_eq_true', Bool.not_eq_false', Bool.and_eq_true, Bool.and_eq_false_iff, decide_eq_true_eq, decide_eq_false_iff_not, Int.not_lt, Int.not_le, ge_iff_le, gt_iff_lt, List.length_cons, List.length_nil, List.length_append, Nat.zero_add, List.nil_append, beq_iff_eq, beq_eq_false_iff_ne, bne_iff_ne, bne_eq_false_iff_eq, ne_eq, toNat_pred, toNat_succ, toNat_l0, toNat_l1] at h; rw [if_pos h]; rfl
  · simp only [Int.toNat_natCast, Bool.not_eq_true', Bool.not_eq_false', Bool.and_eq_true, Bool.and_eq_false_iff, decide_eq_true_eq, decide_eq_false_iff_not, Int.not_lt, Int.not_le, ge_iff_le, gt_iff_lt, List.length_cons, List.length_nil, List.length_append, Nat.zero_add, List.nil_append, beq_iff_eq, beq_eq_false_iff_ne, bne_iff_ne, bne_eq_false_iff_eq, ne_eq, toNat_pred, toNat_succ, toNat_l0, toNat_l1] at h; rw [if_neg (by omega)]
set_option maxHeartbeats 4000000 in
theorem h_s_ReadStage : Con.Holds Try.prog c_s_ReadStage := tree_ok mixedP (consAt h_s_l21Stage consNil) e_s_ReadStage fun x hx hp => v_s_ReadStage x hx hp
end Go.Proofs.Ytepjkojfjdcegaa
