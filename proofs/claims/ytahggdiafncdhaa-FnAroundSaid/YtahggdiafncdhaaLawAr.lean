/- LawAr: trees, and what they say. -/
import Derived.Test.YtahggdiafncdhaaDraw3
import Derived.Test.YtahggdiafncdhaaDraw2
namespace Go.Proofs.Ytahggdiafncdhaa
open Go.ChangeShapes Go.WideShapes Go.ChangeAt Go.RowKit Go.Deep
set_option linter.unusedVariables false
set_option linter.unusedSimpArgs false
/-- What lies at place i of the ring behind s steps. -/
def ptS (l : List GradsD) (s i : Nat) : GradsD := if i + l.length ≤ s then sumK l (l.length - 1) else if i ≤ s then sumK l i else l.getD i ([], 0, false)
theorem ptS_0 {l : List GradsD} (h : 1 ≤ l.length) : mp l.length (ptS l 0) = l := by
  refine Eq.trans (mp_cong fun i hi => ?_) (mp_self l ([], 0, false))
  unfold ptS
  rw [if_neg (by omega)]
  split
  · have : i = 0 := by omega
    subst this
    exact sumK_0 l
  · rfl
theorem mp_set {α : Type} {n k : Nat} {g h : Nat → α} (hk : k < n) (he : ∀ i, i < n → i ≠ k → g i = h i) : (mp n g).set k (h k) = mp n h := by
  refine List.ext_getElem (by rw [List.length_set, mp_len, mp_len]) fun i h1 h2 => ?_
  rw [List.getElem_set]
  rw [mp_len] at h2
  have e : (mp n h)[i] = h i := by rw [← getD_at (by rw [mp_len]; exact h2) (d := h i), mp_getD _ _ _ h2]
  have e2 : (mp n g)[i]'(by rw [mp_len]; exact h2) = g i := by rw [← getD_at (by rw [mp_len]; exact h2) (d := g i), mp_getD _ _ _ h2]
  rw [e, e2]
  split
  · rename_i hh; subst hh; rfl
  · rename_i hh; exact he i h2 (fun e => hh e.symm)
theorem ring_step {l : List GradsD} (h : 1 ≤ l.length) {s : Nat} (hs : s < 2 * l.length - 2) : ringStep (mp l.length (ptS l s), (s : Int)) = (mp l.length (ptS l (s + 1)), (s : Int) + 1) := by
  unfold ringStep
  dsimp only
  rw [mp_len, if_neg (by omega)]
  by_cases h1 : s + 1 < l.length
  · rw [if_pos (by omega), show ((s : Int) + 1).toNat = s + 1 by omega, Int.toNat_natCast, mp_getD _ _ _ (show s < l.length by omega), mp_getD _ _ _ h1]
    have e : addGrads (ptS l s s) (ptS l s (s + 1)) = ptS l (s + 1) (s + 1) := by
      unfold ptS
      rw [if_neg (by omega), if_pos (Nat.le_refl _), if_neg (by omega), if_neg (by omega), if_neg (by omega), if_pos (Nat.le_refl _), sumK_next l h1, getD_at h1]
    rw [e, mp_set h1 fun i hi hne => ?_]
    unfold ptS
    repeat' split
    all_goals first | rfl | (exfalso; omega)
  · rw [if_neg (by omega)]
    obtain ⟨t, ht⟩ : ∃ t, s + 1 = l.length + t := ⟨s + 1 - l.length, by omega⟩
    have ht2 : t < l.length := by omega
    rw [show ((s : Int) - ((l.length : Int) - 1)).toNat = t by omega, show ((l.length : Int) - 1).toNat = l.length - 1 by omega, mp_getD _ _ _ (show l.length - 1 < l.length by omega)]
    have e : ptS l s (l.length - 1) = ptS l (s + 1) t := by
      unfold ptS
      rw [if_neg (by omega), if_pos (by omega), if_pos (by omega)]
    rw [e, mp_set ht2 fun i hi hne => ?_]
    unfold ptS
    repeat' split
    all_goals first | rfl | (exfalso; omega)
theorem ring_end {l : List GradsD} (h : 1 ≤ l.length) {i : Nat} (hi : i < l.length) : ptS l (2 * l.length - 2) i = allG l := by
  have e : sumK l (l.length - 1) = allG l := allG_k (by omega)
  unfold ptS
  by_cases h2 : i + l.length ≤ 2 * l.length - 2
  · rw [if_pos h2, e]
  · rw [if_neg h2, if_pos (by omega), show i = l.length - 1 by omega, e]
theorem ring_stop {l : List GradsD} (h : 1 ≤ l.length) (p : List GradsD) (hp : p.length = l.length) : ringStep (p, ((2 * l.length - 2 : Nat) : Int)) = (p, ((2 * l.length - 2 : Nat) : Int)) := by
  unfold ringStep
  dsimp only
  rw [if_pos (by omega)]
theorem ptS_B {l : List GradsD} (h : 1 ≤ l.length) (hB : ∀ g ∈ l, GradsB g) {s i : Nat} (hi : i < l.length) : GradsB (ptS l s i) := by
  unfold ptS
  split
  · exact sumK_B hB (by omega) _
  · split
    · exact sumK_B hB (by omega) _
    · exact getD_ok hB hi
theorem mpP {α : Type} {Q : α → Prop} {n : Nat} {g : Nat → α} (h : ∀ i, i < n → Q (g i)) : ∀ x ∈ mp n g, Q x := fun x hx => by
  unfold mp at hx
  obtain ⟨i, hi, rfl⟩ := List.mem_map.1 hx
  exact h i (List.mem_range.1 hi)

/-! impl.RingNew -/

noncomputable def c_i_RingNew : Con := ⟨22, (.slice 37 tGrads), tRing, [.val ⟨false, (.slice 37 tGrads), []⟩], [⟨true, tRing, [2, 0]⟩], false, none,
  ((fun x => x.length ≤ 4 ∧ ∀ g ∈ x, GradsB g) : (List GradsD) → Prop),
  ((fun x => (x, 0)) : (List GradsD) → ((List GradsD) × Int))⟩
def t_i_RingNew : T :=
  .prim (.llen 37 tGrads) (.vr 0) <|
  .prim (.mn .i64) (.mk2 tI tI (.vr 1) (.ci .i64 4)) <|
  .prim (.lsub 37 tGrads) (mkA (.pair (.slice 37 tGrads) tIns) [(.vr 0), (.ci .i64 0), (.vr 2)]) <|
  .prim (.llen 37 tGrads) (.vr 3) <|
  .loop (.pair tI (.slice 37 tGrads)) (.mk2 tI (.slice 37 tGrads) (.ci .i64 0) (.nl 37 tGrads)) <|
   .prim (.cmp .lss .i64) (.mk2 tI tI (.p1 tI (.slice 37 tGrads) (.vr 5)) (.vr 4)) <|
   .ite (.vr 6) (
    .prim (.lidx 37 tGrads) (.mk2 (.slice 37 tGrads) tI (.vr 3) (.p1 tI (.slice 37 tGrads) (.vr 5))) <|
    .call 0 (.vr 7) <|
    .prim (.lit 37 tGrads 1) (.vr 8) <|
    .prim (.lapp 37 tGrads 40) (.mk2 (.slice 37 tGrads) (.slice 37 tGrads) (prA (.pair tI (.slice 37 tGrads)) 1 (.vr 5)) (.vr 9)) <|
    .prim (.ar .add .i64) (.mk2 tI tI (.p1 tI (.slice 37 tGrads) (.vr 5)) (.ci .i64 1)) <|
    .again 0 (.mk2 tI (.slice 37 tGrads) (.vr 11) (.vr 10))) (
    .ret (.mk2 (.slice 37 tGrads) tI (prA (.pair tI (.slice 37 tGrads)) 1 (.vr 5)) (.ci .i64 0)))
set_option maxRecDepth 100000 in
theorem e_i_RingNew : exFn Try.prog [c_i_copyGrads] c_i_RingNew false 3000 ⟨[(2991, 1005, drd 10 6 ++ [.dr 0, .tm 13 0, .sl 5])], [(2981, 3008, [20], [])]⟩ = .ok t_i_RingNew := by kernel_rfl
/- loops: (Int) × (List ((List (List (Int))) × ((Int) × (Bool)))) -/
theorem v_i_RingNew (x : List GradsD) (hx : okD (.slice 37 tGrads) x) (hp : (fun x => x.length ≤ 4 ∧ ∀ g ∈ x, GradsB g) x) : t_i_RingNew.wp [c_i_copyGrads] [⟨(.slice 37 tGrads), x⟩] [] (fun v => v.as tRing = (fun x => (x, 0)) x) := by
  obtain ⟨h1, h2⟩ : List.length x ≤ 4 ∧ ∀ g ∈ (x : List GradsD), GradsB g := hp
  change List GradsD at x
  delta t_i_RingNew c_i_copyGrads; refine vcx ?_; try with_reducible exact True.intro
  (refine dcx ?_; try with_reducible exact True.intro)
  have e4 : List.drop (Int.toNat 0) (List.take (min (x.length : Int) 4).toNat x) = x := by
    rw [show (min (x.length : Int) 4).toNat = x.length by omega, List.take_length]
    rfl
  have e0 : Int.toNat 0 = 0 := rfl
  rw [e0] at e4
  rw [e4]
  refine fun _ _ => ⟨by omega, fun _ _ => loopF (fun k => ((k : Int), x.take k)) x.length rfl fun I μ k hk _ go => ?_⟩
  try dsimp only
  (refine dcx ?_; try with_reducible exact True.intro)
  have hl : (x.take k).length = k := by rw [List.length_take]; omega
  refine ⟨fun hlt => ?_, fun hge => ?_⟩
  · have hk' : k < x.length := by omega
    have ho := h2 (x[k]'hk') (List.getElem_mem hk')
    rw [getD_at hk', hl]
    (repeat' first | intro _ | (refine go2 _ ?_ ?_ ?_) | (refine go2 _ ?_ ?_) | (refine go _ ?_ ?_ ?_) | (refine go _ ?_ ?_) | (with_reducible apply And.intro))
    all_goals first | omega | exact ho | exact ho.1 | exact ho.2 _ (by assumption) | (unfold maxLen; omega) | exact pk (take_at hk')
  · have : k = x.length := by omega
    subst this
    rw [List.take_length]
theorem h_i_RingNew : Con.Holds Try.prog c_i_RingNew := tree_ok mixedP (consAt h_i_copyGrads consNil) e_i_RingNew fun x hx hp => v_i_RingNew x hx hp

/-! laws.FnAround -/

noncomputable def c_w_FnAround : Con := ⟨5, (.slice 5 (.int .u8)), .bool, [.val ⟨false, (.slice 5 (.int .u8)), []⟩], [⟨false, .bool, [0]⟩], false, none,
  ((fun _ => True) : (List Int) → Prop),
  ((fun _ => true) : (List Int) → (Bool))⟩
def t_w_FnAround : T :=
  .call 0 (.vr 0) <|
  .ite (.vr 1) (
   .ret (.cb true)) (
   .call 1 (.vr 0) <|
   .call 2 (.vr 2) <|
   .prim (.llen 37 tGrads) (.p1 (.slice 37 tGrads) tI (.vr 3)) <|
   .prim (.llen 37 tGrads) (.vr 2) <|
   .prim (.cmp .neq .i64) (.mk2 tI tI (.vr 4) (.vr 5)) <|
   .ite (.vr 6) (
    .ret (.cb false)) (
    .prim (.cmp .neq .i64) (.mk2 tI tI (prA tRing 1 (.vr 3)) (.ci .i64 0)) <|
    .ite (.vr 7) (
     .ret (.cb false)) (
     .loop (.pair tI (.pair tI (.slice 37 tGrads))) (mkA (.pair tI (.pair tI (.slice 37 tGrads))) [(.ci .i64 0), (prA tRing 1 (.vr 3)), (.p1 (.slice 37 tGrads) tI (.vr 3))]) <|
      .prim (.llen 37 tGrads) (.vr 2) <|
      .prim (.ar .mul .i64) (.mk2 tI tI (.ci .i64 2) (.vr 9)) <|
      .prim (.ar .sub .i64) (.mk2 tI tI (.vr 10) (.ci .i64 2)) <|
      .prim (.cmp .lss .i64) (.mk2 tI tI (.p1 tI (.pair tI (.slice 37 tGrads)) (.vr 8)) (.vr 11)) <|
      .ite (.vr 12) (
       .call 3 (.mk2 (.slice 37 tGrads) tI (prA (.pair tI (.pair tI (.slice 37 tGrads))) 2 (.vr 8)) (pjA (.pair tI (.pair tI (.slice 37 tGrads))) 1 (.vr 8))) <|
       .prim (.ar .add .i64) (.mk2 tI tI (.p1 tI (.pair tI (.slice 37 tGrads)) (.vr 8)) (.ci .i64 1)) <|
       .prim (.cmp .neq .i64) (.mk2 tI tI (prA tRing 1 (.vr 13)) (.vr 14)) <|
       .ite (.vr 15) (
        .ret (.cb false)) (
        .prim (.llen 37 tGrads) (.p1 (.slice 37 tGrads) tI (.vr 13)) <|
        .prim (.llen 37 tGrads) (.vr 2) <|
        .prim (.cmp .neq .i64) (.mk2 tI tI (.vr 16) (.vr 17)) <|
        .ite (.vr 18) (
         .ret (.cb false)) (
         .prim (.ar .add .i64) (.mk2 tI tI (.p1 tI (.pair tI (.slice 37 tGrads)) (.vr 8)) (.ci .i64 1)) <|
         .again 0 (mkA (.pair tI (.pair tI (.slice 37 tGrads))) [(.vr 19), (prA tRing 1 (.vr 13)), (.p1 (.slice 37 tGrads) tI (.vr 13))])))) (
       .call 4 (.vr 2) <|
       .call 3 (.mk2 (.slice 37 tGrads) tI (prA (.pair tI (.pair tI (.slice 37 tGrads))) 2 (.vr 8)) (pjA (.pair tI (.pair tI (.slice 37 tGrads))) 1 (.vr 8))) <|
       .prim (.llen 37 tGrads) (.p1 (.slice 37 tGrads) tI (.vr 14)) <|
       .prim (.llen 37 tGrads) (.vr 2) <|
       .prim (.cmp .neq .i64) (.mk2 tI tI (.vr 15) (.vr 16)) <|
       .ite (.vr 17) (
        .ret (.cb false)) (
        .prim (.cmp .neq .i64) (.mk2 tI tI (prA tRing 1 (.vr 14)) (pjA (.pair tI (.pair tI (.slice 37 tGrads))) 1 (.vr 8))) <|
        .ite (.vr 18) (
         .ret (.cb false)) (
         .loop tI (.ci .i64 0) <|
          .prim (.llen 37 tGrads) (.vr 2) <|
          .prim (.cmp .lss .i64) (.mk2 tI tI (.vr 19) (.vr 20)) <|
          .ite (.vr 21) (
           .prim (.lidx 37 tGrads) (.mk2 (.slice 37 tGrads) tI (prA (.pair tI (.pair tI (.slice 37 tGrads))) 2 (.vr 8)) (.vr 19)) <|
           .prim (.lidx 37 tGrads) (.mk2 (.slice 37 tGrads) tI (prA (.pair tI (.pair tI (.slice 37 tGrads))) 2 (.vr 8)) (.vr 19)) <|
           .call 5 (.mk2 tGrads tGrads (.vr 23) (.vr 13)) <|
           .prim .not (.vr 24) <|
           .ite (.vr 25) (
            .ret (.cb false)) (
            .prim (.lidx 37 tGrads) (.mk2 (.slice 37 tGrads) tI (.p1 (.slice 37 tGrads) tI (.vr 14)) (.vr 19)) <|
            .prim (.lidx 37 tGrads) (.mk2 (.slice 37 tGrads) tI (.p1 (.slice 37 tGrads) tI (.vr 14)) (.vr 19)) <|
            .call 5 (.mk2 tGrads tGrads (.vr 27) (.vr 13)) <|
            .prim .not (.vr 28) <|
            .ite (.vr 29) (
             .ret (.cb false)) (
             .prim (.ar .add .i64) (.mk2 tI tI (.vr 19) (.ci .i64 1)) <|
             .again 0 (.vr 30)))) (
           .ret (.cb true))))))))
set_option maxRecDepth 100000 in
theorem e_w_FnAround : exFn Try.prog [c_w_big, c_s_DrawRingNew, c_i_RingNew, c_i_RingStep, c_s_AllTogether, c_s_SameGrads] c_w_FnAround false 3000 ⟨[(2979, 8008, drd 25 9 ++ [.dr 0, .tm 5 0, .bx 3 1, .sl 2]), (2960, 64019, drd 65 49 ++ drd 31 26 ++ [.dr 5, .tm 8 0])], []⟩ = .ok t_w_FnAround := by kernel_rfl
/- loops: (Int) × ((Int) × (List ((List (List (Int))) × ((Int) × (Bool))))) ¦ Int -/
theorem v_w_FnAround (x : List Int) (hx : okD (.slice 5 (.int .u8)) x) (hp : (fun _ => True) x) : t_w_FnAround.wp [c_w_big, c_s_DrawRingNew, c_i_RingNew, c_i_RingStep, c_s_AllTogether, c_s_SameGrads] [⟨(.slice 5 (.int .u8)), x⟩] [] (fun v => v.as .bool = (fun _ => true) x) := by
  delta t_w_FnAround c_w_big c_s_DrawRingNew c_i_RingNew c_i_RingStep c_s_AllTogether c_s_SameGrads; refine vcx ?_; try with_reducible exact True.intro
  (refine dcx ?_; try with_reducible exact True.intro)
  refine ⟨fun _ => trivial, fun hb => ⟨by omega, fun _ => ?_⟩⟩
  have q := (q_s_DrawRingNew x hx (by show List.length x ≤ 1048576; omega)).2
  generalize f_s_DrawRingNew x = l at q ⊢
  obtain ⟨h1, h4, hG⟩ := q
  change List GradsD at l
  have hB : ∀ g ∈ l, GradsB g := fun g hg => (hG g hg).1.ok
  refine ⟨⟨h4, hB⟩, fun _ _ _ => ⟨fun h => absurd trivial h, fun _ => ⟨fun h => absurd trivial h, fun _ => ?_⟩⟩⟩
  refine loopF (fun k => ((k : Int), (k : Int), mp l.length (ptS l k))) (2 * l.length - 2) (by rw [ptS_0 h1]; rfl) fun I μ k hk _ go => ?_
  try dsimp only
  (refine dcx ?_; try with_reducible exact True.intro)
  have hm : (mp l.length (ptS l k)).length = l.length := mp_len _ _
  have hR : RingB (mp l.length (ptS l k), (k : Int)) := ⟨by show (mp l.length (ptS l k)).length ≤ _; omega, mpP fun i hi => ptS_B h1 hB hi⟩
  refine fun _ => ⟨by omega, fun _ => ⟨by omega, fun _ => ⟨fun hlt => ?_, fun hge => ?_⟩⟩⟩
  · have hk' : k < 2 * l.length - 2 := by omega
    have hm2 : (mp l.length (ptS l (k + 1))).length = l.length := mp_len _ _
    have hgo := go _ hk' rfl
    rw [ring_step h1 hk']
    dsimp only
    rw [hm2]
    have ek : ((k : Int) + 1, (k : Int) + 1, mp l.length (ptS l (k + 1))) = (((k + 1 : Nat) : Int), ((k + 1 : Nat) : Int), mp l.length (ptS l (k + 1))) := pk2 pk1 rfl
    rw [ek]
    (repeat' first | intro _ | (with_reducible apply And.intro))
    all_goals first | omega | exact hR | exact hR.1 | exact hR.2 _ (by assumption) | (exfalso; simp_all; done) | exact hgo.1 | exact hgo.2 | (exfalso; omega)
  · have hk' : k = 2 * l.length - 2 := by omega
    subst hk'
    rw [ring_stop h1 _ hm]
    dsimp only
    rw [hm]
    refine ⟨⟨by omega, hB⟩, fun _ => ⟨hR, fun _ _ _ => ⟨fun h => absurd rfl h, fun _ => ⟨fun h => absurd rfl h, fun _ => ?_⟩⟩⟩⟩
    refine loopF (fun j => (j : Int)) l.length rfl fun I2 μ2 j hj _ go2 => ?_
    try dsimp only
    (refine dcx ?_; try with_reducible exact True.intro)
    refine fun _ => ⟨fun hlt2 => ?_, fun hge2 => trivial⟩
    have hj' : j < l.length := by omega
    have hgo := go2 _ hj' rfl
    rw [mp_getD _ _ _ hj', ring_end h1 hj']
    have e1 : eqB (allG l) (allG l) = true := eqB_iff.2 rfl
    rw [e1, show (j : Int) + 1 = ((j + 1 : Nat) : Int) from pk1]
    (repeat' first | intro _ | (with_reducible apply And.intro))
    all_goals first | omega | exact hgo.1 | exact hgo.2 | (exfalso; simp_all; done)
theorem h_w_FnAround : Con.Holds Try.prog c_w_FnAround := tree_ok mixedP (consAt h_w_big (consAt h_s_DrawRingNew (consAt h_i_RingNew (consAt h_i_RingStep (consAt h_s_AllTogether (consAt h_s_SameGrads consNil)))))) e_w_FnAround fun x hx hp => v_w_FnAround x hx hp
end Go.Proofs.Ytahggdiafncdhaa
