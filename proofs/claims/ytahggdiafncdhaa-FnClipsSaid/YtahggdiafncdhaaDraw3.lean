/- Draw3: trees, and what they say. -/
import Derived.Test.YtahggdiafncdhaaDraw1
import Derived.Test.YtahggdiafncdhaaAll2
namespace Go.Proofs.Ytahggdiafncdhaa
open Go.ChangeShapes Go.WideShapes Go.ChangeAt Go.RowKit Go.Deep
set_option linter.unusedVariables false
set_option linter.unusedSimpArgs false
def GF (g : GradsD) : Prop := ∀ r ∈ g.1, ∀ v ∈ (r : List Int), fixB v = true
theorem fixB_clamp (x : Int) : fixB (clampI x) = true := by
  have := clampI_b x
  exact (fixB_iff _).2 this
theorem fixB_add (a b : Int) : fixB (fixAdd a b).1 = true := fixB_clamp _
theorem zipV_F : (a b : List Int) → ∀ v ∈ zipV a b, fixB v = true
  | [], _, v, h => by simp [zipV] at h
  | _ :: _, [], v, h => by simp [zipV] at h
  | x :: a, y :: b, v, h => by
    rcases List.mem_cons.1 (show v ∈ (fixAdd x y).1 :: zipV a b from h) with rfl | h
    · exact fixB_add x y
    · exact zipV_F a b v h
theorem addRows_F : (a b : List (List Int)) → ∀ r ∈ addRows a b, ∀ v ∈ (r : List Int), fixB v = true
  | [], _, r, h => by simp [addRows] at h
  | _ :: _, [], r, h => by simp [addRows] at h
  | x :: a, y :: b, r, h => by
    rcases List.mem_cons.1 (show r ∈ zipV x y :: addRows a b from h) with rfl | h
    · exact zipV_F x y
    · exact addRows_F a b r h
theorem add_GF (a b : GradsD) : GF (addGrads a b) := addRows_F a.1 b.1
theorem zeroG_GF (m : List OpD) : GF (zeroG m) := by
  unfold zeroG
  split
  · intro r hr v hv
    obtain ⟨o, ho, rfl⟩ := List.mem_map.1 (show r ∈ m.map fun o => List.replicate o.2.2.2.length 0 from hr)
    rw [List.eq_of_mem_replicate hv]
    decide
  · intro r hr; cases hr
theorem seqK_GF (m : List OpD) (b : List PairD) : (k : Nat) → GF (seqK m b k)
  | 0 => zeroG_GF m
  | k + 1 => add_GF _ _
theorem seqF_GF (m : List OpD) (b : List PairD) : GF (seqF m b) := by
  unfold seqF
  split
  · exact seqK_GF m b _
  · intro r hr; cases hr
theorem seqF_GB (m : List OpD) (b : List PairD) : GB (seqF m b) := by
  unfold seqF
  split
  · exact seqK_GB m b _
  · exact ⟨Nat.zero_le _, fun r hr => by cases hr⟩

/-! spec.l23Grads -/

noncomputable def k_s_l23Grads : Con := ⟨61, (.pair (.slice 5 (.int .u8)) tIns), (.pair (.slice 37 tGrads) (.pair (.slice 5 (.int .u8)) tIns)), [.box 148 ⟨true, (.pair (.slice 5 (.int .u8)) tIns), []⟩], [⟨false, (.slice 37 tGrads), [2]⟩], false, none,
  ((fun x => 0 ≤ x.2.1) : (CurD) → Prop),
  ((fun _ => zeroD (.pair (.slice 37 tGrads) (.pair (.slice 5 (.int .u8)) tIns))) : (CurD) → ((List GradsD) × CurD))⟩
def t_s_l23Grads : T :=
  .call 0 (.vr 0) <|
  .call 1 (.mk2 (.pair (.slice 5 (.int .u8)) tIns) tI (prA (.pair tModel (.pair (.slice 5 (.int .u8)) tIns)) 1 (.vr 1)) (.ci .i64 4)) <|
  .prim (.ar .add .i64) (.mk2 tI tI (.ci .i64 1) (.p1 tI (.pair (.slice 5 (.int .u8)) tIns) (.vr 2))) <|
  .loop (.pair tI (.pair (.slice 5 (.int .u8)) (.pair tI (.pair tI (.slice 37 tGrads))))) (mkA (.pair tI (.pair (.slice 5 (.int .u8)) (.pair tI (.pair tI (.slice 37 tGrads))))) [(.vr 3), (pjA (.pair tI (.pair (.slice 5 (.int .u8)) tIns)) 1 (.vr 2)), (pjA (.pair tI (.pair (.slice 5 (.int .u8)) tIns)) 2 (.vr 2)), (prA (.pair tI (.pair (.slice 5 (.int .u8)) tIns)) 3 (.vr 2)), (.nl 37 tGrads)]) <|
   .prim (.cmp .gtr .i64) (.mk2 tI tI (.p1 tI (.pair (.slice 5 (.int .u8)) (.pair tI (.pair tI (.slice 37 tGrads)))) (.vr 4)) (.ci .i64 0)) <|
   .ite (.vr 5) (
    .call 2 (.mk2 (.pair (.slice 5 (.int .u8)) tIns) tModel (mkA (.pair (.slice 5 (.int .u8)) tIns) [(pjA (.pair tI (.pair (.slice 5 (.int .u8)) (.pair tI (.pair tI (.slice 37 tGrads))))) 1 (.vr 4)), (pjA (.pair tI (.pair (.slice 5 (.int .u8)) (.pair tI (.pair tI (.slice 37 tGrads))))) 2 (.vr 4)), (pjA (.pair tI (.pair (.slice 5 (.int .u8)) (.pair tI (.pair tI (.slice 37 tGrads))))) 3 (.vr 4))]) (.p1 tModel (.pair (.slice 5 (.int .u8)) tIns) (.vr 1))) <|
    .call 3 (.mk2 tModel tBatch (.p1 tModel (.pair (.slice 5 (.int .u8)) tIns) (.vr 1)) (.p1 tBatch (.pair (.slice 5 (.int .u8)) tIns) (.vr 6))) <|
    .prim (.lit 37 tGrads 1) (.vr 7) <|
    .prim (.lapp 37 tGrads 40) (.mk2 (.slice 37 tGrads) (.slice 37 tGrads) (prA (.pair tI (.pair (.slice 5 (.int .u8)) (.pair tI (.pair tI (.slice 37 tGrads))))) 4 (.vr 4)) (.vr 8)) <|
    .prim (.ar .sub .i64) (.mk2 tI tI (.p1 tI (.pair (.slice 5 (.int .u8)) (.pair tI (.pair tI (.slice 37 tGrads)))) (.vr 4)) (.ci .i64 1)) <|
    .again 0 (mkA (.pair tI (.pair (.slice 5 (.int .u8)) (.pair tI (.pair tI (.slice 37 tGrads))))) [(.vr 10), (pjA (.pair tBatch (.pair (.slice 5 (.int .u8)) tIns)) 1 (.vr 6)), (pjA (.pair tBatch (.pair (.slice 5 (.int .u8)) tIns)) 2 (.vr 6)), (prA (.pair tBatch (.pair (.slice 5 (.int .u8)) tIns)) 3 (.vr 6)), (.vr 9)])) (
    .ret (mkA (.pair (.slice 37 tGrads) (.pair (.slice 5 (.int .u8)) tIns)) [(prA (.pair tI (.pair (.slice 5 (.int .u8)) (.pair tI (.pair tI (.slice 37 tGrads))))) 4 (.vr 4)), (pjA (.pair tI (.pair (.slice 5 (.int .u8)) (.pair tI (.pair tI (.slice 37 tGrads))))) 1 (.vr 4)), (pjA (.pair tI (.pair (.slice 5 (.int .u8)) (.pair tI (.pair tI (.slice 37 tGrads))))) 2 (.vr 4)), (pjA (.pair tI (.pair (.slice 5 (.int .u8)) (.pair tI (.pair tI (.slice 37 tGrads))))) 3 (.vr 4))]))
set_option maxRecDepth 100000 in
theorem e_s_l23Grads (f : (CurD) → ((List GradsD) × CurD)) : exFn Try.prog [c_s_l6Model, c_s_l1Below, c_s_l6Batch, c_s_Sequential] { k_s_l23Grads with fn := f } false 3000 ⟨[(2989, 1004, drd 11 6 ++ [.tm 5 0, .on 4, .bx 1 0, .bx 1 1, .bx 1 2, .fz 2, .sl 5])], [(2981, 3006, [21], [])]⟩ = .ok t_s_l23Grads := by kernel_rfl
/- loops: (Int) × ((List (Int)) × ((Int) × ((Int) × (List ((List (List (Int))) × ((Int) × (Bool))))))) -/
theorem v_s_l23Grads (x : CurD) (hx : okD (.pair (.slice 5 (.int .u8)) tIns) x) (hp : (fun x => 0 ≤ x.2.1) x) : t_s_l23Grads.wp [c_s_l6Model, c_s_l1Below, c_s_l6Batch, c_s_Sequential] [⟨(.pair (.slice 5 (.int .u8)) tIns), x⟩] [] (fun v => (fun x r => 1 ≤ r.1.length ∧ r.1.length ≤ 4 ∧ (∀ g ∈ r.1, GB g ∧ GF g) ∧ 0 ≤ r.2.2.1 : (CurD) → ((List GradsD) × CurD) → Prop) x (v.as (.pair (.slice 37 tGrads) (.pair (.slice 5 (.int .u8)) tIns)))) := by
  have q1 := q_s_l6Model x hx hp
  delta t_s_l23Grads c_s_l6Model c_s_l1Below c_s_l6Batch c_s_Sequential; refine vcx ?_; try with_reducible exact True.intro
  (refine dcx ?_; try with_reducible exact True.intro)
  refine ⟨hp, fun _ => ?_⟩
  generalize f_s_l6Model x = r at q1 ⊢; obtain ⟨m, c1⟩ := r; obtain ⟨k1, u1⟩ := q1; have km := k1.1; replace k1 : okD tCur c1 := k1.2; dsimp only at u1 ⊢
  refine ⟨u1.2.2.2, fun _ => ?_⟩
  have q2 := q_s_l1Below (c1, 4) ⟨k1, okI (by omega) (by omega)⟩ u1.2.2.2
  generalize f_s_l1Below (c1, 4) = r at q2 ⊢; obtain ⟨n2, c2⟩ := r; obtain ⟨k2, u2⟩ := q2; replace k2 : okD tCur c2 := k2.2; dsimp only at u2 ⊢
  refine ⟨by omega, fun _ => ⟨fun s => @LE.le Int _ 0 s.1 ∧ (List.length s.2.2.2.2 : Int) + s.1 = 1 + n2 ∧ (∀ g ∈ s.2.2.2.2, GB g ∧ GF g) ∧ @LE.le Int _ 0 s.2.2.1, fun s => (s.1 : Int).toNat, ⟨by show 0 ≤ 1 + n2; omega, by show (0 : Int) + (1 + n2) = 1 + n2; omega, fun o h => by simp at h, u2.2.2.2⟩, fun s hs hI => ?_⟩⟩
  obtain ⟨j, b, i, h, l⟩ := s
  obtain ⟨e1, e2, e5, e6⟩ := hI
  change Int at j
  change List GradsD at l
  change 0 ≤ j at e1
  change (l.length : Int) + j = 1 + n2 at e2
  change ∀ g ∈ l, GB g ∧ GF g at e5
  try dsimp only
  refine ⟨fun hlt => ⟨e6, fun _ => ?_⟩, fun hge => ?_⟩
  · have q3 := (q_s_l6Batch ((b, i, h), m) ⟨⟨hs.2.1, hs.2.2.1, hs.2.2.2.1⟩, km⟩ e6).2
    generalize f_s_l6Batch ((b, i, h), m) = r at q3 ⊢; obtain ⟨v3, c3⟩ := r; dsimp only at q3 ⊢
    refine fun _ _ => ⟨⟨by omega, by unfold maxLen; omega⟩, fun _ => ⟨by omega, fun _ => ⟨⟨by omega, ?_, fun p hp => ?_, q3.2.2.2⟩, ?_⟩⟩⟩
    · show (((l ++ [seqF m v3]).length : Nat) : Int) + (j - 1) = 1 + n2
      rw [List.length_append]; simp; omega
    · rcases List.mem_append.1 hp with hp | hp
      · exact e5 p hp
      · rw [List.mem_singleton] at hp
        subst hp
        exact ⟨seqF_GB _ _, seqF_GF _ _⟩
    · show (j - 1).toNat < j.toNat
      omega
  · have hj : j ≤ 0 := by simpa using hge
    exact ⟨by omega, by omega, e5, e6⟩
theorem d_s_l23Grads : ∃ f : (CurD) → ((List GradsD) × CurD), (∀ x, okD (.pair (.slice 5 (.int .u8)) tIns) x → (fun x => 0 ≤ x.2.1) x → (fun x r => 1 ≤ r.1.length ∧ r.1.length ≤ 4 ∧ (∀ g ∈ r.1, GB g ∧ GF g) ∧ 0 ≤ r.2.2.1 : (CurD) → ((List GradsD) × CurD) → Prop) x (f x)) ∧ Con.Holds Try.prog { k_s_l23Grads with fn := f } := rel_ok (C := k_s_l23Grads) mixedP (consAt h_s_l6Model (consAt h_s_l1Below (consAt h_s_l6Batch (consAt h_s_Sequential consNil)))) e_s_l23Grads (fun x r => 1 ≤ r.1.length ∧ r.1.length ≤ 4 ∧ (∀ g ∈ r.1, GB g ∧ GF g) ∧ 0 ≤ r.2.2.1 : (CurD) → ((List GradsD) × CurD) → Prop) fun x hx hp => v_s_l23Grads x hx hp
noncomputable def f_s_l23Grads : (CurD) → ((List GradsD) × CurD) := Classical.choose d_s_l23Grads
noncomputable def c_s_l23Grads : Con := ⟨61, (.pair (.slice 5 (.int .u8)) tIns), (.pair (.slice 37 tGrads) (.pair (.slice 5 (.int .u8)) tIns)), [.box 148 ⟨true, (.pair (.slice 5 (.int .u8)) tIns), []⟩], [⟨false, (.slice 37 tGrads), [2]⟩], false, none,
  ((fun x => 0 ≤ x.2.1) : (CurD) → Prop),
  ((f_s_l23Grads) : (CurD) → ((List GradsD) × CurD))⟩
theorem p_s_l23Grads : ∀ x, okD (.pair (.slice 5 (.int .u8)) tIns) x → (fun x => 0 ≤ x.2.1) x → (fun x r => 1 ≤ r.1.length ∧ r.1.length ≤ 4 ∧ (∀ g ∈ r.1, GB g ∧ GF g) ∧ 0 ≤ r.2.2.1 : (CurD) → ((List GradsD) × CurD) → Prop) x (f_s_l23Grads x) := (Classical.choose_spec d_s_l23Grads).1
theorem h_s_l23Grads : Con.Holds Try.prog c_s_l23Grads := (Classical.choose_spec d_s_l23Grads).2
theorem q_s_l23Grads (x : CurD) (hx : okD (.pair (.slice 5 (.int .u8)) tIns) x) (hp : (fun x => 0 ≤ x.2.1) x) : okD (.pair (.slice 37 tGrads) (.pair (.slice 5 (.int .u8)) tIns)) (f_s_l23Grads x) ∧ (fun x r => 1 ≤ r.1.length ∧ r.1.length ≤ 4 ∧ (∀ g ∈ r.1, GB g ∧ GF g) ∧ 0 ≤ r.2.2.1 : (CurD) → ((List GradsD) × CurD) → Prop) x (f_s_l23Grads x) := ⟨h_s_l23Grads.ok x hp hx, p_s_l23Grads x hx hp⟩

/-! spec.DrawRingNew -/

noncomputable def k_s_DrawRingNew : Con := ⟨21, (.slice 5 (.int .u8)), (.slice 37 tGrads), [.val ⟨false, (.slice 5 (.int .u8)), []⟩], [⟨false, (.slice 37 tGrads), [2]⟩], false, none,
  ((fun x => x.length ≤ 1048576) : (List Int) → Prop),
  ((fun _ => zeroD (.slice 37 tGrads)) : (List Int) → (List GradsD))⟩
def t_s_DrawRingNew : T :=
  .call 0 (.vr 0) <|
  .call 1 (.vr 1) <|
  .ret (.p1 (.slice 37 tGrads) (.pair (.slice 5 (.int .u8)) tIns) (.vr 2))
set_option maxRecDepth 100000 in
theorem e_s_DrawRingNew (f : (List Int) → (List GradsD)) : exFn Try.prog [c_s_l1New, c_s_l23Grads] { k_s_DrawRingNew with fn := f } false 3000 ⟨[], []⟩ = .ok t_s_DrawRingNew := by kernel_rfl
theorem v_s_DrawRingNew (x : List Int) (hx : okD (.slice 5 (.int .u8)) x) (hp : (fun x => x.length ≤ 1048576) x) : t_s_DrawRingNew.wp [c_s_l1New, c_s_l23Grads] [⟨(.slice 5 (.int .u8)), x⟩] [] (fun v => (fun x r => 1 ≤ r.length ∧ r.length ≤ 4 ∧ (∀ g ∈ r, GB g ∧ GF g) : (List Int) → (List GradsD) → Prop) x (v.as (.slice 37 tGrads))) := by
  have hp' : List.length x ≤ 1048576 := hp
  delta t_s_DrawRingNew c_s_l1New c_s_l23Grads; refine vcx ?_; try with_reducible exact True.intro
  (refine dcx ?_; try with_reducible exact True.intro)
  refine ⟨hp', fun hc => ⟨Int.le_refl _, fun _ => ?_⟩⟩
  have q1 := (q_s_l23Grads (newCur x) hc (Int.le_refl _)).2
  exact ⟨q1.1, q1.2.1, q1.2.2.1⟩
theorem d_s_DrawRingNew : ∃ f : (List Int) → (List GradsD), (∀ x, okD (.slice 5 (.int .u8)) x → (fun x => x.length ≤ 1048576) x → (fun x r => 1 ≤ r.length ∧ r.length ≤ 4 ∧ (∀ g ∈ r, GB g ∧ GF g) : (List Int) → (List GradsD) → Prop) x (f x)) ∧ Con.Holds Try.prog { k_s_DrawRingNew with fn := f } := rel_ok (C := k_s_DrawRingNew) mixedP (consAt h_s_l1New (consAt h_s_l23Grads consNil)) e_s_DrawRingNew (fun x r => 1 ≤ r.length ∧ r.length ≤ 4 ∧ (∀ g ∈ r, GB g ∧ GF g) : (List Int) → (List GradsD) → Prop) fun x hx hp => v_s_DrawRingNew x hx hp
noncomputable def f_s_DrawRingNew : (List Int) → (List GradsD) := Classical.choose d_s_DrawRingNew
noncomputable def c_s_DrawRingNew : Con := ⟨21, (.slice 5 (.int .u8)), (.slice 37 tGrads), [.val ⟨false, (.slice 5 (.int .u8)), []⟩], [⟨false, (.slice 37 tGrads), [2]⟩], false, none,
  ((fun x => x.length ≤ 1048576) : (List Int) → Prop),
  ((f_s_DrawRingNew) : (List Int) → (List GradsD))⟩
theorem p_s_DrawRingNew : ∀ x, okD (.slice 5 (.int .u8)) x → (fun x => x.length ≤ 1048576) x → (fun x r => 1 ≤ r.length ∧ r.length ≤ 4 ∧ (∀ g ∈ r, GB g ∧ GF g) : (List Int) → (List GradsD) → Prop) x (f_s_DrawRingNew x) := (Classical.choose_spec d_s_DrawRingNew).1
theorem h_s_DrawRingNew : Con.Holds Try.prog c_s_DrawRingNew := (Classical.choose_spec d_s_DrawRingNew).2
theorem q_s_DrawRingNew (x : List Int) (hx : okD (.slice 5 (.int .u8)) x) (hp : (fun x => x.length ≤ 1048576) x) : okD (.slice 37 tGrads) (f_s_DrawRingNew x) ∧ (fun x r => 1 ≤ r.length ∧ r.length ≤ 4 ∧ (∀ g ∈ r, GB g ∧ GF g) : (List Int) → (List GradsD) → Prop) x (f_s_DrawRingNew x) := ⟨h_s_DrawRingNew.ok x hp hx, p_s_DrawRingNew x hx hp⟩

/-! spec.DrawClip -/

noncomputable def k_s_DrawClip : Con := ⟨14, (.slice 5 (.int .u8)), (.pair tGrads tI), [.val ⟨false, (.slice 5 (.int .u8)), []⟩], [⟨true, tGrads, [0, 0, 0]⟩, ⟨false, tI, [0]⟩], false, none,
  ((fun x => x.length ≤ 1048576) : (List Int) → Prop),
  ((fun _ => zeroD (.pair tGrads tI)) : (List Int) → (GradsD × Int))⟩
def t_s_DrawClip : T :=
  .call 0 (.vr 0) <|
  .call 1 (.vr 1) <|
  .prim (.lidx 37 tGrads) (.mk2 (.slice 37 tGrads) tI (.p1 (.slice 37 tGrads) (.pair (.slice 5 (.int .u8)) tIns) (.vr 2)) (.ci .i64 0)) <|
  .prim (.lit 3 tI 6) (mkA (.pair tI (.pair tI (.pair tI (.pair tI tIns)))) [(.ci .i64 0), (.ci .i64 1), (.ci .i64 65536), (.ci .i64 2147483647), (.ci .i64 2147483648), (.ci .i64 (-1))]) <|
  .call 2 (.mk2 (.pair (.slice 5 (.int .u8)) tIns) tInts (prA (.pair (.slice 37 tGrads) (.pair (.slice 5 (.int .u8)) tIns)) 1 (.vr 2)) (.vr 4)) <|
  .ret (.mk2 tGrads tI (.vr 3) (.p1 tI (.pair (.slice 5 (.int .u8)) tIns) (.vr 5)))
set_option maxRecDepth 100000 in
theorem e_s_DrawClip (f : (List Int) → (GradsD × Int)) : exFn Try.prog [c_s_l1New, c_s_l23Grads, c_s_l1PickInt] { k_s_DrawClip with fn := f } false 3000 ⟨[], [(2992, 1003, [14], [4])]⟩ = .ok t_s_DrawClip := by kernel_rfl
theorem v_s_DrawClip (x : List Int) (hx : okD (.slice 5 (.int .u8)) x) (hp : (fun x => x.length ≤ 1048576) x) : t_s_DrawClip.wp [c_s_l1New, c_s_l23Grads, c_s_l1PickInt] [⟨(.slice 5 (.int .u8)), x⟩] [] (fun v => (fun x r => GB r.1 ∧ GF r.1 : (List Int) → (GradsD × Int) → Prop) x (v.as (.pair tGrads tI))) := by
  have hp' : List.length x ≤ 1048576 := hp
  delta t_s_DrawClip c_s_l1New c_s_l23Grads c_s_l1PickInt; refine vcx ?_; try with_reducible exact True.intro
  (refine dcx ?_; try with_reducible exact True.intro)
  refine ⟨hp', fun hc => ⟨Int.le_refl _, fun _ => ?_⟩⟩
  have q1 := q_s_l23Grads (newCur x) hc (Int.le_refl _)
  generalize f_s_l23Grads (newCur x) = r at q1 ⊢; obtain ⟨l, c1⟩ := r; obtain ⟨k1, u1⟩ := q1; replace k1 : okD tCur c1 := k1.2; dsimp only at u1 ⊢
  have hl0 : 0 < l.length := by omega
  refine ⟨⟨by omega, by omega⟩, fun _ _ => ⟨⟨u1.2.2.2, fun h => by cases h⟩, fun _ => ?_⟩⟩
  rw [getD_at hl0]
  exact u1.2.2.1 _ (List.getElem_mem hl0)
theorem d_s_DrawClip : ∃ f : (List Int) → (GradsD × Int), (∀ x, okD (.slice 5 (.int .u8)) x → (fun x => x.length ≤ 1048576) x → (fun x r => GB r.1 ∧ GF r.1 : (List Int) → (GradsD × Int) → Prop) x (f x)) ∧ Con.Holds Try.prog { k_s_DrawClip with fn := f } := rel_ok (C := k_s_DrawClip) mixedP (consAt h_s_l1New (consAt h_s_l23Grads (consAt h_s_l1PickInt consNil))) e_s_DrawClip (fun x r => GB r.1 ∧ GF r.1 : (List Int) → (GradsD × Int) → Prop) fun x hx hp => v_s_DrawClip x hx hp
noncomputable def f_s_DrawClip : (List Int) → (GradsD × Int) := Classical.choose d_s_DrawClip
noncomputable def c_s_DrawClip : Con := ⟨14, (.slice 5 (.int .u8)), (.pair tGrads tI), [.val ⟨false, (.slice 5 (.int .u8)), []⟩], [⟨true, tGrads, [0, 0, 0]⟩, ⟨false, tI, [0]⟩], false, none,
  ((fun x => x.length ≤ 1048576) : (List Int) → Prop),
  ((f_s_DrawClip) : (List Int) → (GradsD × Int))⟩
theorem p_s_DrawClip : ∀ x, okD (.slice 5 (.int .u8)) x → (fun x => x.length ≤ 1048576) x → (fun x r => GB r.1 ∧ GF r.1 : (List Int) → (GradsD × Int) → Prop) x (f_s_DrawClip x) := (Classical.choose_spec d_s_DrawClip).1
theorem h_s_DrawClip : Con.Holds Try.prog c_s_DrawClip := (Classical.choose_spec d_s_DrawClip).2
theorem q_s_DrawClip (x : List Int) (hx : okD (.slice 5 (.int .u8)) x) (hp : (fun x => x.length ≤ 1048576) x) : okD (.pair tGrads tI) (f_s_DrawClip x) ∧ (fun x r => GB r.1 ∧ GF r.1 : (List Int) → (GradsD × Int) → Prop) x (f_s_DrawClip x) := ⟨h_s_DrawClip.ok x hp hx, p_s_DrawClip x hx hp⟩
end Go.Proofs.Ytahggdiafncdhaa
