/- Draw1: trees, and what they say. -/
import Derived.Test.YtllphmcjocidaaaGreatDoorDrawC
import Derived.Test.YtllphmcjocidaaaGreatDoorLoop
import Derived.Test.YtllphmcjocidaaaGreatDoorSame3
import Derived.Test.YtllphmcjocidaaaGreatDoorOps2
import Derived.Test.YtllphmcjocidaaaGreatDoorZero2
namespace Go.Proofs.YtllphmcjocidaaaGreatDoor
open Go.ChangeShapes Go.WideShapes Go.ChangeAt Go.RowKit Go.Deep
set_option linter.unusedVariables false
set_option linter.unusedSimpArgs false
theorem and_255 (x : Int) : 0 ≤ bitsI .and .i64 x 255 ∧ bitsI .and .i64 x 255 ≤ 255 := and_mask (m := 255) (by decide)
theorem lenM {α : Type} {l : List α} (h : l.length ≤ maxLen) : l.length ≤ 9223372036854775807 := by unfold maxLen at h; omega
theorem tmB {a n : Int} (ha : 0 ≤ a) (hn : 0 < n) : 0 ≤ a.tmod n ∧ a.tmod n < n := by
  rw [Int.tmod_eq_emod_of_nonneg ha]
  exact ⟨Int.emod_nonneg _ (by omega), Int.emod_lt_of_pos _ hn⟩
theorem tdB {a p : Int} (h1 : -600000 ≤ a) (h2 : a ≤ 600000) : -600000 ≤ a.tdiv p ∧ a.tdiv p ≤ 600000 := by
  have h := Int.natAbs_tdiv a p
  have h3 := Nat.div_le_self a.natAbs p.natAbs
  have h4 : a.natAbs.div p.natAbs = a.natAbs / p.natAbs := rfl
  omega
theorem op1_b {m : ModelD} (h : modelB m = true) {k : Nat} (hk : k < m.length) : 1 ≤ m[k].2.1 ∧ m[k].2.1 ≤ 6 ∧ 1 ≤ m[k].2.2.1 ∧ m[k].2.2.1 ≤ 6 := by
  have := ((modelB_iff m).1 h).2.2 k hk
  obtain ⟨⟨_, _, h1, h2, h3, h4, _⟩, _⟩ := (opB_iff _).1 ((okAt_iff m hk).1 this).1
  exact ⟨h1, h2, h3, h4⟩
theorem opSz {k i o : Int} (h1 : 1 ≤ i) (h2 : i ≤ 6) (h3 : 1 ≤ o) (h4 : o ≤ 6) : 0 ≤ opSize (k, i, o, []) ∧ opSize (k, i, o, []) ≤ 36 := by
  have := mul_b h1 h2 h3 h4
  unfold opSize
  dsimp only
  repeat' split
  all_goals omega
theorem opB_mk {k i o : Int} {P : List Int} (k1 : 1 ≤ k) (k5 : k ≤ 5) (h1 : 1 ≤ i) (h2 : i ≤ 6) (h3 : 1 ≤ o) (h4 : o ≤ 6) (hk : k ≠ 1 → i = o) (hl : P.length = (opSize (k, i, o, [])).toNat) (ha : ∀ v ∈ P, fixB v = true) : opB (k, i, o, P) = true := by
  have hs := opSz (k := k) h1 h2 h3 h4
  refine (opB_iff _).2 ⟨⟨k1, k5, h1, h2, h3, h4, hk, ?_⟩, List.all_eq_true.2 ha⟩
  show (P.length : Int) = opSize (k, i, o, [])
  omega
theorem okI {n : Int} (h1 : -9223372036854775808 ≤ n) (h2 : n ≤ 9223372036854775807) : okD tI n := ⟨h1, h2⟩
theorem okL {e : TypeId} {l : List Int} (hl : l.length ≤ 1000) (h : ∀ y ∈ l, -9223372036854775808 ≤ y ∧ y ≤ 9223372036854775807) : okD (.slice e tI) l := ⟨by unfold maxLen; exact Nat.le_trans hl (by decide), h⟩

/-! spec.l1Byte -/

noncomputable def k_s_l1Byte : Con := ⟨75, (.pair (.slice 5 (.int .u8)) tIns), (.pair tI (.pair (.slice 5 (.int .u8)) tIns)), [.box 71 ⟨true, (.pair (.slice 5 (.int .u8)) tIns), []⟩], [⟨false, tI, [0]⟩], false, none,
  ((fun x => 0 ≤ x.2.1) : (CurD) → Prop),
  ((fun _ => zeroD (.pair tI (.pair (.slice 5 (.int .u8)) tIns))) : (CurD) → (Int × CurD))⟩
def t_s_l1Byte : T :=
  .prim (.arw .mul .i64) (.mk2 tI tI (prA (.pair (.slice 5 (.int .u8)) tIns) 2 (.vr 0)) (.ci .i64 6364136223846793005)) <|
  .prim (.arw .add .i64) (.mk2 tI tI (.vr 1) (.ci .i64 1442695040888963407)) <|
  .prim (.shr .i64 .u64) (.mk2 tI (.int .u64) (.vr 2) (.ci .u64 33)) <|
  .prim (.shr .i64 .u64) (.mk2 tI (.int .u64) (.vr 2) (.ci .u64 45)) <|
  .prim (.bits .xor .i64) (.mk2 tI tI (.vr 3) (.vr 4)) <|
  .prim (.bits .and .i64) (.mk2 tI tI (.vr 5) (.ci .i64 255)) <|
  .prim (.llen 5 (.int .u8)) (.p1 (.slice 5 (.int .u8)) tIns (.vr 0)) <|
  .prim (.cmp .lss .i64) (.mk2 tI tI (pjA (.pair (.slice 5 (.int .u8)) tIns) 1 (.vr 0)) (.vr 7)) <|
  .ite (.vr 8) (
   .prim (.lidx 5 (.int .u8)) (.mk2 (.slice 5 (.int .u8)) tI (.p1 (.slice 5 (.int .u8)) tIns (.vr 0)) (pjA (.pair (.slice 5 (.int .u8)) tIns) 1 (.vr 0))) <|
   .prim (.conv .u8 .i64) (.vr 9) <|
   .prim (.arw .add .i64) (.mk2 tI tI (.vr 6) (.vr 10)) <|
   .prim (.bits .and .i64) (.mk2 tI tI (.vr 11) (.ci .i64 255)) <|
   .prim (.arw .add .i64) (.mk2 tI tI (pjA (.pair (.slice 5 (.int .u8)) tIns) 1 (.vr 0)) (.ci .i64 1)) <|
   .ret (mkA (.pair tI (.pair (.slice 5 (.int .u8)) tIns)) [(.vr 12), (.p1 (.slice 5 (.int .u8)) tIns (.vr 0)), (.vr 13), (.vr 2)])) (
   .ret (mkA (.pair tI (.pair (.slice 5 (.int .u8)) tIns)) [(.vr 6), (.p1 (.slice 5 (.int .u8)) tIns (.vr 0)), (pjA (.pair (.slice 5 (.int .u8)) tIns) 1 (.vr 0)), (.vr 2)]))
set_option maxRecDepth 100000 in
theorem e_s_l1Byte (f : (CurD) → (Int × CurD)) : exFn Tryz.prog [] { k_s_l1Byte with fn := f } true 3000 ⟨[], []⟩ = .ok t_s_l1Byte := by kernel_rfl
theorem v_s_l1Byte (x : CurD) (hx : okD (.pair (.slice 5 (.int .u8)) tIns) x) (hp : (fun x => 0 ≤ x.2.1) x) : t_s_l1Byte.wp [] [⟨(.pair (.slice 5 (.int .u8)) tIns), x⟩] [] (fun v => (fun x r => 0 ≤ r.1 ∧ r.1 ≤ 255 ∧ 0 ≤ r.2.2.1 : (CurD) → (Int × CurD) → Prop) x (v.as (.pair tI (.pair (.slice 5 (.int .u8)) tIns)))) := by
  obtain ⟨b, i, h⟩ := x
  change 0 ≤ i at hp
  have hb : b.length ≤ 9223372036854775807 := lenM hx.1.1
  delta t_s_l1Byte; refine vcx ?_; try with_reducible exact True.intro
  (refine dcx ?_; try with_reducible exact True.intro)
  (repeat' first | intro _ | (with_reducible apply And.intro))
  all_goals first | omega | exact (and_255 _).1 | exact (and_255 _).2 | (rw [wrap_in (by show (-9223372036854775808 : Int) ≤ _ ∧ _ ≤ (9223372036854775807 : Int); omega)]; omega)
theorem d_s_l1Byte : ∃ f : (CurD) → (Int × CurD), (∀ x, okD (.pair (.slice 5 (.int .u8)) tIns) x → (fun x => 0 ≤ x.2.1) x → (fun x r => 0 ≤ r.1 ∧ r.1 ≤ 255 ∧ 0 ≤ r.2.2.1 : (CurD) → (Int × CurD) → Prop) x (f x)) ∧ Con.Holds Tryz.prog { k_s_l1Byte with fn := f } := rel_ok (C := k_s_l1Byte) mixedP consNil e_s_l1Byte (fun x r => 0 ≤ r.1 ∧ r.1 ≤ 255 ∧ 0 ≤ r.2.2.1 : (CurD) → (Int × CurD) → Prop) fun x hx hp => v_s_l1Byte x hx hp
noncomputable def f_s_l1Byte : (CurD) → (Int × CurD) := Classical.choose d_s_l1Byte
noncomputable def c_s_l1Byte : Con := ⟨75, (.pair (.slice 5 (.int .u8)) tIns), (.pair tI (.pair (.slice 5 (.int .u8)) tIns)), [.box 71 ⟨true, (.pair (.slice 5 (.int .u8)) tIns), []⟩], [⟨false, tI, [0]⟩], false, none,
  ((fun x => 0 ≤ x.2.1) : (CurD) → Prop),
  ((f_s_l1Byte) : (CurD) → (Int × CurD))⟩
theorem p_s_l1Byte : ∀ x, okD (.pair (.slice 5 (.int .u8)) tIns) x → (fun x => 0 ≤ x.2.1) x → (fun x r => 0 ≤ r.1 ∧ r.1 ≤ 255 ∧ 0 ≤ r.2.2.1 : (CurD) → (Int × CurD) → Prop) x (f_s_l1Byte x) := (Classical.choose_spec d_s_l1Byte).1
theorem h_s_l1Byte : Con.Holds Tryz.prog c_s_l1Byte := (Classical.choose_spec d_s_l1Byte).2
theorem q_s_l1Byte (x : CurD) (hx : okD (.pair (.slice 5 (.int .u8)) tIns) x) (hp : (fun x => 0 ≤ x.2.1) x) : okD (.pair tI (.pair (.slice 5 (.int .u8)) tIns)) (f_s_l1Byte x) ∧ (fun x r => 0 ≤ r.1 ∧ r.1 ≤ 255 ∧ 0 ≤ r.2.2.1 : (CurD) → (Int × CurD) → Prop) x (f_s_l1Byte x) := ⟨h_s_l1Byte.ok x hp hx, p_s_l1Byte x hx hp⟩

/-! spec.l1Below -/

noncomputable def k_s_l1Below : Con := ⟨44, (.pair (.pair (.slice 5 (.int .u8)) tIns) tI), (.pair tI (.pair (.slice 5 (.int .u8)) tIns)), [.box 71 ⟨true, (.pair (.slice 5 (.int .u8)) tIns), []⟩, .val ⟨false, tI, []⟩], [⟨false, tI, [0]⟩], false, none,
  ((fun x => 0 ≤ x.1.2.1) : (CurD × Int) → Prop),
  ((fun _ => zeroD (.pair tI (.pair (.slice 5 (.int .u8)) tIns))) : (CurD × Int) → (Int × CurD))⟩
def t_s_l1Below : T :=
  .prim (.cmp .leq .i64) (.mk2 tI tI (prA (.pair (.pair (.slice 5 (.int .u8)) tIns) tI) 1 (.vr 0)) (.ci .i64 0)) <|
  .ite (.vr 1) (
   .ret (.mk2 tI (.pair (.slice 5 (.int .u8)) tIns) (.ci .i64 0) (.p1 (.pair (.slice 5 (.int .u8)) tIns) tI (.vr 0)))) (
   .prim (.cmp .leq .i64) (.mk2 tI tI (prA (.pair (.pair (.slice 5 (.int .u8)) tIns) tI) 1 (.vr 0)) (.ci .i64 256)) <|
   .ite (.vr 2) (
    .call 0 (.p1 (.pair (.slice 5 (.int .u8)) tIns) tI (.vr 0)) <|
    .prim (.rem .i64) (.mk2 tI tI (.p1 tI (.pair (.slice 5 (.int .u8)) tIns) (.vr 3)) (prA (.pair (.pair (.slice 5 (.int .u8)) tIns) tI) 1 (.vr 0))) <|
    .ret (.mk2 tI (.pair (.slice 5 (.int .u8)) tIns) (.vr 4) (prA (.pair tI (.pair (.slice 5 (.int .u8)) tIns)) 1 (.vr 3)))) (
    .call 0 (.p1 (.pair (.slice 5 (.int .u8)) tIns) tI (.vr 0)) <|
    .call 0 (prA (.pair tI (.pair (.slice 5 (.int .u8)) tIns)) 1 (.vr 3)) <|
    .call 0 (prA (.pair tI (.pair (.slice 5 (.int .u8)) tIns)) 1 (.vr 4)) <|
    .call 0 (prA (.pair tI (.pair (.slice 5 (.int .u8)) tIns)) 1 (.vr 5)) <|
    .prim (.ar .mul .i64) (.mk2 tI tI (.p1 tI (.pair (.slice 5 (.int .u8)) tIns) (.vr 3)) (.ci .i64 16777216)) <|
    .prim (.ar .mul .i64) (.mk2 tI tI (.p1 tI (.pair (.slice 5 (.int .u8)) tIns) (.vr 4)) (.ci .i64 65536)) <|
    .prim (.ar .add .i64) (.mk2 tI tI (.vr 7) (.vr 8)) <|
    .prim (.ar .mul .i64) (.mk2 tI tI (.p1 tI (.pair (.slice 5 (.int .u8)) tIns) (.vr 5)) (.ci .i64 256)) <|
    .prim (.ar .add .i64) (.mk2 tI tI (.vr 9) (.vr 10)) <|
    .prim (.ar .add .i64) (.mk2 tI tI (.vr 11) (.p1 tI (.pair (.slice 5 (.int .u8)) tIns) (.vr 6))) <|
    .prim (.rem .i64) (.mk2 tI tI (.vr 12) (prA (.pair (.pair (.slice 5 (.int .u8)) tIns) tI) 1 (.vr 0))) <|
    .ret (.mk2 tI (.pair (.slice 5 (.int .u8)) tIns) (.vr 13) (prA (.pair tI (.pair (.slice 5 (.int .u8)) tIns)) 1 (.vr 6)))))
set_option maxRecDepth 100000 in
theorem e_s_l1Below (f : (CurD × Int) → (Int × CurD)) : exFn Tryz.prog [c_s_l1Byte] { k_s_l1Below with fn := f } false 3000 ⟨[], []⟩ = .ok t_s_l1Below := by kernel_rfl
theorem v_s_l1Below (x : CurD × Int) (hx : okD (.pair (.pair (.slice 5 (.int .u8)) tIns) tI) x) (hp : (fun x => 0 ≤ x.1.2.1) x) : t_s_l1Below.wp [c_s_l1Byte] [⟨(.pair (.pair (.slice 5 (.int .u8)) tIns) tI), x⟩] [] (fun v => (fun x r => 0 ≤ r.1 ∧ (0 < x.2 → r.1 < x.2) ∧ (x.2 ≤ 0 → r.1 = 0) ∧ 0 ≤ r.2.2.1 : (CurD × Int) → (Int × CurD) → Prop) x (v.as (.pair tI (.pair (.slice 5 (.int .u8)) tIns)))) := by
  obtain ⟨⟨b, i, h⟩, n⟩ := x
  change 0 ≤ i at hp
  have q1 := q_s_l1Byte (b, i, h) hx.1 hp
  have q2 := q_s_l1Byte _ q1.1.2 q1.2.2.2
  have q3 := q_s_l1Byte _ q2.1.2 q2.2.2.2
  have q4 := q_s_l1Byte _ q3.1.2 q3.2.2.2
  replace q1 := q1.2
  replace q2 := q2.2
  replace q3 := q3.2
  replace q4 := q4.2
  dsimp only at q1 q2 q3 q4
  delta t_s_l1Below c_s_l1Byte; refine vcx ?_; try with_reducible exact True.intro
  (refine dcx ?_; try with_reducible exact True.intro)
  (repeat' first | intro _ | (with_reducible apply And.intro))
  all_goals first | omega | exact (tmB (by omega) (by omega)).1 | exact (tmB (by omega) (by omega)).2 | trivial
theorem d_s_l1Below : ∃ f : (CurD × Int) → (Int × CurD), (∀ x, okD (.pair (.pair (.slice 5 (.int .u8)) tIns) tI) x → (fun x => 0 ≤ x.1.2.1) x → (fun x r => 0 ≤ r.1 ∧ (0 < x.2 → r.1 < x.2) ∧ (x.2 ≤ 0 → r.1 = 0) ∧ 0 ≤ r.2.2.1 : (CurD × Int) → (Int × CurD) → Prop) x (f x)) ∧ Con.Holds Tryz.prog { k_s_l1Below with fn := f } := rel_ok (C := k_s_l1Below) mixedP (consAt h_s_l1Byte consNil) e_s_l1Below (fun x r => 0 ≤ r.1 ∧ (0 < x.2 → r.1 < x.2) ∧ (x.2 ≤ 0 → r.1 = 0) ∧ 0 ≤ r.2.2.1 : (CurD × Int) → (Int × CurD) → Prop) fun x hx hp => v_s_l1Below x hx hp
noncomputable def f_s_l1Below : (CurD × Int) → (Int × CurD) := Classical.choose d_s_l1Below
noncomputable def c_s_l1Below : Con := ⟨44, (.pair (.pair (.slice 5 (.int .u8)) tIns) tI), (.pair tI (.pair (.slice 5 (.int .u8)) tIns)), [.box 71 ⟨true, (.pair (.slice 5 (.int .u8)) tIns), []⟩, .val ⟨false, tI, []⟩], [⟨false, tI, [0]⟩], false, none,
  ((fun x => 0 ≤ x.1.2.1) : (CurD × Int) → Prop),
  ((f_s_l1Below) : (CurD × Int) → (Int × CurD))⟩
theorem p_s_l1Below : ∀ x, okD (.pair (.pair (.slice 5 (.int .u8)) tIns) tI) x → (fun x => 0 ≤ x.1.2.1) x → (fun x r => 0 ≤ r.1 ∧ (0 < x.2 → r.1 < x.2) ∧ (x.2 ≤ 0 → r.1 = 0) ∧ 0 ≤ r.2.2.1 : (CurD × Int) → (Int × CurD) → Prop) x (f_s_l1Below x) := (Classical.choose_spec d_s_l1Below).1
theorem h_s_l1Below : Con.Holds Tryz.prog c_s_l1Below := (Classical.choose_spec d_s_l1Below).2
theorem q_s_l1Below (x : CurD × Int) (hx : okD (.pair (.pair (.slice 5 (.int .u8)) tIns) tI) x) (hp : (fun x => 0 ≤ x.1.2.1) x) : okD (.pair tI (.pair (.slice 5 (.int .u8)) tIns)) (f_s_l1Below x) ∧ (fun x r => 0 ≤ r.1 ∧ (0 < x.2 → r.1 < x.2) ∧ (x.2 ≤ 0 → r.1 = 0) ∧ 0 ≤ r.2.2.1 : (CurD × Int) → (Int × CurD) → Prop) x (f_s_l1Below x) := ⟨h_s_l1Below.ok x hp hx, p_s_l1Below x hx hp⟩

/-! spec.l1Once -/

noncomputable def k_s_l1Once : Con := ⟨82, (.pair (.pair (.slice 5 (.int .u8)) tIns) tI), (.pair .bool (.pair (.slice 5 (.int .u8)) tIns)), [.box 71 ⟨true, (.pair (.slice 5 (.int .u8)) tIns), []⟩, .val ⟨false, tI, []⟩], [⟨false, .bool, [0]⟩], false, none,
  ((fun x => 0 ≤ x.1.2.1) : (CurD × Int) → Prop),
  ((fun _ => zeroD (.pair .bool (.pair (.slice 5 (.int .u8)) tIns))) : (CurD × Int) → (Bool × CurD))⟩
def t_s_l1Once : T :=
  .call 0 (.vr 0) <|
  .prim (.cmp .eql .i64) (.mk2 tI tI (.p1 tI (.pair (.slice 5 (.int .u8)) tIns) (.vr 1)) (.ci .i64 0)) <|
  .ret (.mk2 .bool (.pair (.slice 5 (.int .u8)) tIns) (.vr 2) (prA (.pair tI (.pair (.slice 5 (.int .u8)) tIns)) 1 (.vr 1)))
set_option maxRecDepth 100000 in
theorem e_s_l1Once (f : (CurD × Int) → (Bool × CurD)) : exFn Tryz.prog [c_s_l1Below] { k_s_l1Once with fn := f } false 3000 ⟨[], []⟩ = .ok t_s_l1Once := by kernel_rfl
theorem v_s_l1Once (x : CurD × Int) (hx : okD (.pair (.pair (.slice 5 (.int .u8)) tIns) tI) x) (hp : (fun x => 0 ≤ x.1.2.1) x) : t_s_l1Once.wp [c_s_l1Below] [⟨(.pair (.pair (.slice 5 (.int .u8)) tIns) tI), x⟩] [] (fun v => (fun x r => 0 ≤ r.2.2.1 : (CurD × Int) → (Bool × CurD) → Prop) x (v.as (.pair .bool (.pair (.slice 5 (.int .u8)) tIns)))) := by
  have q1 := (q_s_l1Below x hx hp).2
  delta t_s_l1Once c_s_l1Below; refine vcx ?_; try with_reducible exact True.intro
  exact ⟨hp, fun _ => q1.2.2.2⟩
theorem d_s_l1Once : ∃ f : (CurD × Int) → (Bool × CurD), (∀ x, okD (.pair (.pair (.slice 5 (.int .u8)) tIns) tI) x → (fun x => 0 ≤ x.1.2.1) x → (fun x r => 0 ≤ r.2.2.1 : (CurD × Int) → (Bool × CurD) → Prop) x (f x)) ∧ Con.Holds Tryz.prog { k_s_l1Once with fn := f } := rel_ok (C := k_s_l1Once) mixedP (consAt h_s_l1Below consNil) e_s_l1Once (fun x r => 0 ≤ r.2.2.1 : (CurD × Int) → (Bool × CurD) → Prop) fun x hx hp => v_s_l1Once x hx hp
noncomputable def f_s_l1Once : (CurD × Int) → (Bool × CurD) := Classical.choose d_s_l1Once
noncomputable def c_s_l1Once : Con := ⟨82, (.pair (.pair (.slice 5 (.int .u8)) tIns) tI), (.pair .bool (.pair (.slice 5 (.int .u8)) tIns)), [.box 71 ⟨true, (.pair (.slice 5 (.int .u8)) tIns), []⟩, .val ⟨false, tI, []⟩], [⟨false, .bool, [0]⟩], false, none,
  ((fun x => 0 ≤ x.1.2.1) : (CurD × Int) → Prop),
  ((f_s_l1Once) : (CurD × Int) → (Bool × CurD))⟩
theorem p_s_l1Once : ∀ x, okD (.pair (.pair (.slice 5 (.int .u8)) tIns) tI) x → (fun x => 0 ≤ x.1.2.1) x → (fun x r => 0 ≤ r.2.2.1 : (CurD × Int) → (Bool × CurD) → Prop) x (f_s_l1Once x) := (Classical.choose_spec d_s_l1Once).1
theorem h_s_l1Once : Con.Holds Tryz.prog c_s_l1Once := (Classical.choose_spec d_s_l1Once).2
theorem q_s_l1Once (x : CurD × Int) (hx : okD (.pair (.pair (.slice 5 (.int .u8)) tIns) tI) x) (hp : (fun x => 0 ≤ x.1.2.1) x) : okD (.pair .bool (.pair (.slice 5 (.int .u8)) tIns)) (f_s_l1Once x) ∧ (fun x r => 0 ≤ r.2.2.1 : (CurD × Int) → (Bool × CurD) → Prop) x (f_s_l1Once x) := ⟨h_s_l1Once.ok x hp hx, p_s_l1Once x hx hp⟩

/-! spec.l1PickInt -/

noncomputable def k_s_l1PickInt : Con := ⟨60, (.pair (.pair (.slice 5 (.int .u8)) tIns) tInts), (.pair tI (.pair (.slice 5 (.int .u8)) tIns)), [.box 71 ⟨true, (.pair (.slice 5 (.int .u8)) tIns), []⟩, .val ⟨false, tInts, []⟩], [⟨false, tI, [0]⟩], false, none,
  ((fun x => 0 ≤ x.1.2.1 ∧ x.2 ≠ []) : (CurD × IntsD) → Prop),
  ((fun _ => zeroD (.pair tI (.pair (.slice 5 (.int .u8)) tIns))) : (CurD × IntsD) → (Int × CurD))⟩
def t_s_l1PickInt : T :=
  .prim (.llen 3 tI) (prA (.pair (.pair (.slice 5 (.int .u8)) tIns) tInts) 1 (.vr 0)) <|
  .call 0 (.mk2 (.pair (.slice 5 (.int .u8)) tIns) tI (.p1 (.pair (.slice 5 (.int .u8)) tIns) tInts (.vr 0)) (.vr 1)) <|
  .prim (.lidx 3 tI) (.mk2 tInts tI (prA (.pair (.pair (.slice 5 (.int .u8)) tIns) tInts) 1 (.vr 0)) (.p1 tI (.pair (.slice 5 (.int .u8)) tIns) (.vr 2))) <|
  .ret (.mk2 tI (.pair (.slice 5 (.int .u8)) tIns) (.vr 3) (prA (.pair tI (.pair (.slice 5 (.int .u8)) tIns)) 1 (.vr 2)))
set_option maxRecDepth 100000 in
theorem e_s_l1PickInt (f : (CurD × IntsD) → (Int × CurD)) : exFn Tryz.prog [c_s_l1Below] { k_s_l1PickInt with fn := f } false 3000 ⟨[], []⟩ = .ok t_s_l1PickInt := by kernel_rfl
theorem v_s_l1PickInt (x : CurD × IntsD) (hx : okD (.pair (.pair (.slice 5 (.int .u8)) tIns) tInts) x) (hp : (fun x => 0 ≤ x.1.2.1 ∧ x.2 ≠ []) x) : t_s_l1PickInt.wp [c_s_l1Below] [⟨(.pair (.pair (.slice 5 (.int .u8)) tIns) tInts), x⟩] [] (fun v => (fun x r => r.1 ∈ x.2 ∧ 0 ≤ r.2.2.1 : (CurD × IntsD) → (Int × CurD) → Prop) x (v.as (.pair tI (.pair (.slice 5 (.int .u8)) tIns)))) := by
  obtain ⟨c, l⟩ := x
  obtain ⟨hp, hl⟩ : 0 ≤ c.2.1 ∧ l ≠ [] := hp
  have hm := lenM (show List.length l ≤ maxLen from hx.2.1)
  have hl0 : 0 < l.length := List.length_pos_iff.2 hl
  have q1 := (q_s_l1Below (c, (l.length : Int)) ⟨hx.1, show (-9223372036854775808 : Int) ≤ _ ∧ _ ≤ (9223372036854775807 : Int) by omega⟩ hp).2
  dsimp only at q1
  delta t_s_l1PickInt c_s_l1Below; refine vcx ?_; try with_reducible exact True.intro
  have hlt : ((f_s_l1Below (c, (l.length : Int))).1 : Int).toNat < l.length := by omega
  refine fun _ => ⟨hp, fun _ => ⟨⟨q1.1, by omega⟩, fun _ => ⟨?_, q1.2.2.2⟩⟩⟩
  rw [getD_at hlt]
  exact List.getElem_mem hlt
theorem d_s_l1PickInt : ∃ f : (CurD × IntsD) → (Int × CurD), (∀ x, okD (.pair (.pair (.slice 5 (.int .u8)) tIns) tInts) x → (fun x => 0 ≤ x.1.2.1 ∧ x.2 ≠ []) x → (fun x r => r.1 ∈ x.2 ∧ 0 ≤ r.2.2.1 : (CurD × IntsD) → (Int × CurD) → Prop) x (f x)) ∧ Con.Holds Tryz.prog { k_s_l1PickInt with fn := f } := rel_ok (C := k_s_l1PickInt) mixedP (consAt h_s_l1Below consNil) e_s_l1PickInt (fun x r => r.1 ∈ x.2 ∧ 0 ≤ r.2.2.1 : (CurD × IntsD) → (Int × CurD) → Prop) fun x hx hp => v_s_l1PickInt x hx hp
noncomputable def f_s_l1PickInt : (CurD × IntsD) → (Int × CurD) := Classical.choose d_s_l1PickInt
noncomputable def c_s_l1PickInt : Con := ⟨60, (.pair (.pair (.slice 5 (.int .u8)) tIns) tInts), (.pair tI (.pair (.slice 5 (.int .u8)) tIns)), [.box 71 ⟨true, (.pair (.slice 5 (.int .u8)) tIns), []⟩, .val ⟨false, tInts, []⟩], [⟨false, tI, [0]⟩], false, none,
  ((fun x => 0 ≤ x.1.2.1 ∧ x.2 ≠ []) : (CurD × IntsD) → Prop),
  ((f_s_l1PickInt) : (CurD × IntsD) → (Int × CurD))⟩
theorem p_s_l1PickInt : ∀ x, okD (.pair (.pair (.slice 5 (.int .u8)) tIns) tInts) x → (fun x => 0 ≤ x.1.2.1 ∧ x.2 ≠ []) x → (fun x r => r.1 ∈ x.2 ∧ 0 ≤ r.2.2.1 : (CurD × IntsD) → (Int × CurD) → Prop) x (f_s_l1PickInt x) := (Classical.choose_spec d_s_l1PickInt).1
theorem h_s_l1PickInt : Con.Holds Tryz.prog c_s_l1PickInt := (Classical.choose_spec d_s_l1PickInt).2
theorem q_s_l1PickInt (x : CurD × IntsD) (hx : okD (.pair (.pair (.slice 5 (.int .u8)) tIns) tInts) x) (hp : (fun x => 0 ≤ x.1.2.1 ∧ x.2 ≠ []) x) : okD (.pair tI (.pair (.slice 5 (.int .u8)) tIns)) (f_s_l1PickInt x) ∧ (fun x r => r.1 ∈ x.2 ∧ 0 ≤ r.2.2.1 : (CurD × IntsD) → (Int × CurD) → Prop) x (f_s_l1PickInt x) := ⟨h_s_l1PickInt.ok x hp hx, p_s_l1PickInt x hx hp⟩

/-! spec.l2Fix -/

noncomputable def k_s_l2Fix : Con := ⟨83, (.pair (.slice 5 (.int .u8)) tIns), (.pair tI (.pair (.slice 5 (.int .u8)) tIns)), [.box 71 ⟨true, (.pair (.slice 5 (.int .u8)) tIns), []⟩], [⟨false, tI, [0]⟩], false, none,
  ((fun x => 0 ≤ x.2.1) : (CurD) → Prop),
  ((fun _ => zeroD (.pair tI (.pair (.slice 5 (.int .u8)) tIns))) : (CurD) → (Int × CurD))⟩
def t_s_l2Fix : T :=
  .call 0 (.mk2 (.pair (.slice 5 (.int .u8)) tIns) tI (.vr 0) (.ci .i64 12)) <|
  .prim (.cmp .eql .i64) (.mk2 tI tI (.p1 tI (.pair (.slice 5 (.int .u8)) tIns) (.vr 1)) (.ci .i64 0)) <|
  .ite (.vr 2) (
   .prim (.lit 3 tI 6) (mkA (.pair tI (.pair tI (.pair tI (.pair tI tIns)))) [(.ci .i64 2147483647), (.ci .i64 (-2147483647)), (.ci .i64 2147483646), (.ci .i64 1), (.ci .i64 (-1)), (.ci .i64 0)]) <|
   .call 1 (.mk2 (.pair (.slice 5 (.int .u8)) tIns) tInts (prA (.pair tI (.pair (.slice 5 (.int .u8)) tIns)) 1 (.vr 1)) (.vr 3)) <|
   .ret (.vr 4)) (
   .prim (.cmp .eql .i64) (.mk2 tI tI (.p1 tI (.pair (.slice 5 (.int .u8)) tIns) (.vr 1)) (.ci .i64 1)) <|
   .ite (.vr 3) (
    .call 0 (.mk2 (.pair (.slice 5 (.int .u8)) tIns) tI (prA (.pair tI (.pair (.slice 5 (.int .u8)) tIns)) 1 (.vr 1)) (.ci .i64 4000)) <|
    .prim (.ar .sub .i64) (.mk2 tI tI (.p1 tI (.pair (.slice 5 (.int .u8)) tIns) (.vr 4)) (.ci .i64 2000)) <|
    .prim (.ar .mul .i64) (.mk2 tI tI (.vr 5) (.ci .i64 997)) <|
    .ret (.mk2 tI (.pair (.slice 5 (.int .u8)) tIns) (.vr 6) (prA (.pair tI (.pair (.slice 5 (.int .u8)) tIns)) 1 (.vr 4)))) (
    .prim (.cmp .eql .i64) (.mk2 tI tI (.p1 tI (.pair (.slice 5 (.int .u8)) tIns) (.vr 1)) (.ci .i64 2)) <|
    .ite (.vr 4) (
     .call 0 (.mk2 (.pair (.slice 5 (.int .u8)) tIns) tI (prA (.pair tI (.pair (.slice 5 (.int .u8)) tIns)) 1 (.vr 1)) (.ci .i64 9)) <|
     .prim (.ar .sub .i64) (.mk2 tI tI (.p1 tI (.pair (.slice 5 (.int .u8)) tIns) (.vr 5)) (.ci .i64 4)) <|
     .ret (.mk2 tI (.pair (.slice 5 (.int .u8)) tIns) (.vr 6) (prA (.pair tI (.pair (.slice 5 (.int .u8)) tIns)) 1 (.vr 5)))) (
     .call 0 (.mk2 (.pair (.slice 5 (.int .u8)) tIns) tI (prA (.pair tI (.pair (.slice 5 (.int .u8)) tIns)) 1 (.vr 1)) (.ci .i64 17)) <|
     .prim (.ar .sub .i64) (.mk2 tI tI (.p1 tI (.pair (.slice 5 (.int .u8)) tIns) (.vr 5)) (.ci .i64 8)) <|
     .prim (.ar .mul .i64) (.mk2 tI tI (.vr 6) (.ci .i64 65536)) <|
     .prim (.lit 3 tI 5) (mkA (.pair tI (.pair tI (.pair tI tIns))) [(.ci .i64 1), (.ci .i64 1), (.ci .i64 2), (.ci .i64 4), (.ci .i64 3)]) <|
     .call 1 (.mk2 (.pair (.slice 5 (.int .u8)) tIns) tInts (prA (.pair tI (.pair (.slice 5 (.int .u8)) tIns)) 1 (.vr 5)) (.vr 8)) <|
     .prim (.quo .i64) (.mk2 tI tI (.vr 7) (.p1 tI (.pair (.slice 5 (.int .u8)) tIns) (.vr 9))) <|
     .ret (.mk2 tI (.pair (.slice 5 (.int .u8)) tIns) (.vr 10) (prA (.pair tI (.pair (.slice 5 (.int .u8)) tIns)) 1 (.vr 9))))))
set_option maxRecDepth 100000 in
theorem e_s_l2Fix (f : (CurD) → (Int × CurD)) : exFn Tryz.prog [c_s_l1Below, c_s_l1PickInt] { k_s_l2Fix with fn := f } false 3000 ⟨[], [(2989, 3003, [8], []), (2981, 8005, [26], [])]⟩ = .ok t_s_l2Fix := by kernel_rfl
theorem v_s_l2Fix (x : CurD) (hx : okD (.pair (.slice 5 (.int .u8)) tIns) x) (hp : (fun x => 0 ≤ x.2.1) x) : t_s_l2Fix.wp [c_s_l1Below, c_s_l1PickInt] [⟨(.pair (.slice 5 (.int .u8)) tIns), x⟩] [] (fun v => (fun x r => fixB r.1 = true ∧ 0 ≤ r.2.2.1 : (CurD) → (Int × CurD) → Prop) x (v.as (.pair tI (.pair (.slice 5 (.int .u8)) tIns)))) := by
  have q1 := q_s_l1Below (x, 12) ⟨hx, okI (by omega) (by omega)⟩ hp
  delta t_s_l2Fix c_s_l1Below c_s_l1PickInt; refine vcx ?_; try with_reducible exact True.intro
  (refine dcx ?_; try with_reducible exact True.intro)
  refine ⟨hp, fun _ => ?_⟩
  generalize f_s_l1Below (x, 12) = r at q1 ⊢; obtain ⟨n1, c1⟩ := r; obtain ⟨kq1, uq1⟩ := q1; replace kq1 : okD tCur c1 := kq1.2; dsimp only at uq1 ⊢
  refine ⟨fun _ _ => ⟨⟨uq1.2.2.2, fun h => by cases h⟩, fun _ => ?_⟩, fun _ => ⟨fun _ => ⟨uq1.2.2.2, fun _ => ?_⟩, fun _ => ⟨fun _ => ⟨uq1.2.2.2, fun _ => ?_⟩, fun _ => ⟨uq1.2.2.2, fun _ => ?_⟩⟩⟩⟩
  · have b0 := (q_s_l1PickInt (c1, [2147483647, -2147483647, 2147483646, 1, -1, 0]) ⟨kq1, okL (e := 3) (by show 6 ≤ 1000; omega) (by intro y hy; simp at hy; omega)⟩ ⟨uq1.2.2.2, by simp⟩).2
    generalize f_s_l1PickInt (c1, [2147483647, -2147483647, 2147483646, 1, -1, 0]) = r at b0 ⊢
    have := b0.1
    simp only [List.mem_cons, List.mem_nil_iff, or_false] at this
    exact ⟨(fixB_iff _).2 ⟨by omega, by omega⟩, b0.2⟩
  · have a1 := (q_s_l1Below (c1, 4000) ⟨kq1, okI (by omega) (by omega)⟩ uq1.2.2.2).2
    generalize f_s_l1Below (c1, 4000) = r at a1 ⊢
    dsimp only at a1
    (repeat' first | intro _ | (with_reducible apply And.intro))
    all_goals first | omega | exact (fixB_iff _).2 ⟨by omega, by omega⟩
  · have a1 := (q_s_l1Below (c1, 9) ⟨kq1, okI (by omega) (by omega)⟩ uq1.2.2.2).2
    generalize f_s_l1Below (c1, 9) = r at a1 ⊢
    dsimp only at a1
    (repeat' first | intro _ | (with_reducible apply And.intro))
    all_goals first | omega | exact (fixB_iff _).2 ⟨by omega, by omega⟩
  · have q2 := q_s_l1Below (c1, 17) ⟨kq1, okI (by omega) (by omega)⟩ uq1.2.2.2
    generalize f_s_l1Below (c1, 17) = r at q2 ⊢; obtain ⟨n2, c2⟩ := r; obtain ⟨kq2, uq2⟩ := q2; replace kq2 : okD tCur c2 := kq2.2; dsimp only at uq2 ⊢
    refine ⟨by omega, fun _ => ⟨by omega, fun _ _ => ⟨⟨uq2.2.2.2, fun h => by cases h⟩, fun _ => ?_⟩⟩⟩
    have b0 := (q_s_l1PickInt (c2, [1, 1, 2, 4, 3]) ⟨kq2, okL (e := 3) (by show 5 ≤ 1000; omega) (by intro y hy; simp at hy; omega)⟩ ⟨uq2.2.2.2, by simp⟩).2
    generalize f_s_l1PickInt (c2, [1, 1, 2, 4, 3]) = r at b0 ⊢
    have := b0.1
    simp only [List.mem_cons, List.mem_nil_iff, or_false] at this
    have t1 := tdB (a := (n2 - 8) * 65536) (p := r.1) (by omega) (by omega)
    (repeat' first | intro _ | (with_reducible apply And.intro))
    all_goals first | omega | exact (fixB_iff _).2 ⟨by omega, by omega⟩ | exact b0.2
theorem d_s_l2Fix : ∃ f : (CurD) → (Int × CurD), (∀ x, okD (.pair (.slice 5 (.int .u8)) tIns) x → (fun x => 0 ≤ x.2.1) x → (fun x r => fixB r.1 = true ∧ 0 ≤ r.2.2.1 : (CurD) → (Int × CurD) → Prop) x (f x)) ∧ Con.Holds Tryz.prog { k_s_l2Fix with fn := f } := rel_ok (C := k_s_l2Fix) mixedP (consAt h_s_l1Below (consAt h_s_l1PickInt consNil)) e_s_l2Fix (fun x r => fixB r.1 = true ∧ 0 ≤ r.2.2.1 : (CurD) → (Int × CurD) → Prop) fun x hx hp => v_s_l2Fix x hx hp
noncomputable def f_s_l2Fix : (CurD) → (Int × CurD) := Classical.choose d_s_l2Fix
noncomputable def c_s_l2Fix : Con := ⟨83, (.pair (.slice 5 (.int .u8)) tIns), (.pair tI (.pair (.slice 5 (.int .u8)) tIns)), [.box 71 ⟨true, (.pair (.slice 5 (.int .u8)) tIns), []⟩], [⟨false, tI, [0]⟩], false, none,
  ((fun x => 0 ≤ x.2.1) : (CurD) → Prop),
  ((f_s_l2Fix) : (CurD) → (Int × CurD))⟩
theorem p_s_l2Fix : ∀ x, okD (.pair (.slice 5 (.int .u8)) tIns) x → (fun x => 0 ≤ x.2.1) x → (fun x r => fixB r.1 = true ∧ 0 ≤ r.2.2.1 : (CurD) → (Int × CurD) → Prop) x (f_s_l2Fix x) := (Classical.choose_spec d_s_l2Fix).1
theorem h_s_l2Fix : Con.Holds Tryz.prog c_s_l2Fix := (Classical.choose_spec d_s_l2Fix).2
theorem q_s_l2Fix (x : CurD) (hx : okD (.pair (.slice 5 (.int .u8)) tIns) x) (hp : (fun x => 0 ≤ x.2.1) x) : okD (.pair tI (.pair (.slice 5 (.int .u8)) tIns)) (f_s_l2Fix x) ∧ (fun x r => fixB r.1 = true ∧ 0 ≤ r.2.2.1 : (CurD) → (Int × CurD) → Prop) x (f_s_l2Fix x) := ⟨h_s_l2Fix.ok x hp hx, p_s_l2Fix x hx hp⟩

/-! spec.l3Vec -/

noncomputable def k_s_l3Vec : Con := ⟨74, (.pair (.pair (.slice 5 (.int .u8)) tIns) tI), (.pair tInts (.pair (.slice 5 (.int .u8)) tIns)), [.box 71 ⟨true, (.pair (.slice 5 (.int .u8)) tIns), []⟩, .val ⟨false, tI, []⟩], [⟨false, tInts, [2]⟩], false, none,
  ((fun x => 0 ≤ x.1.2.1 ∧ x.2 ≤ 1000) : (CurD × Int) → Prop),
  ((fun _ => zeroD (.pair tInts (.pair (.slice 5 (.int .u8)) tIns))) : (CurD × Int) → (IntsD × CurD))⟩
def t_s_l3Vec : T :=
  .loop (.pair tI (.pair (.slice 5 (.int .u8)) (.pair tI tItem))) (mkA (.pair tI (.pair (.slice 5 (.int .u8)) (.pair tI tItem))) [(.ci .i64 0), (.p1 (.slice 5 (.int .u8)) tIns (.p1 (.pair (.slice 5 (.int .u8)) tIns) tI (.vr 0))), (pjA (.pair (.slice 5 (.int .u8)) tIns) 1 (.p1 (.pair (.slice 5 (.int .u8)) tIns) tI (.vr 0))), (prA (.pair (.slice 5 (.int .u8)) tIns) 2 (.p1 (.pair (.slice 5 (.int .u8)) tIns) tI (.vr 0))), (.nl 3 tI)]) <|
   .prim (.cmp .lss .i64) (.mk2 tI tI (.p1 tI (.pair (.slice 5 (.int .u8)) (.pair tI tItem)) (.vr 1)) (prA (.pair (.pair (.slice 5 (.int .u8)) tIns) tI) 1 (.vr 0))) <|
   .ite (.vr 2) (
    .call 0 (mkA (.pair (.slice 5 (.int .u8)) tIns) [(pjA (.pair tI (.pair (.slice 5 (.int .u8)) (.pair tI tItem))) 1 (.vr 1)), (pjA (.pair tI (.pair (.slice 5 (.int .u8)) (.pair tI tItem))) 2 (.vr 1)), (pjA (.pair tI (.pair (.slice 5 (.int .u8)) (.pair tI tItem))) 3 (.vr 1))]) <|
    .prim (.lit 3 tI 1) (.p1 tI (.pair (.slice 5 (.int .u8)) tIns) (.vr 3)) <|
    .prim (.lapp 3 tI 8) (.mk2 tInts tInts (prA (.pair tI (.pair (.slice 5 (.int .u8)) (.pair tI tItem))) 4 (.vr 1)) (.vr 4)) <|
    .prim (.ar .add .i64) (.mk2 tI tI (.p1 tI (.pair (.slice 5 (.int .u8)) (.pair tI tItem)) (.vr 1)) (.ci .i64 1)) <|
    .again 0 (mkA (.pair tI (.pair (.slice 5 (.int .u8)) (.pair tI tItem))) [(.vr 6), (pjA (.pair tI (.pair (.slice 5 (.int .u8)) tIns)) 1 (.vr 3)), (pjA (.pair tI (.pair (.slice 5 (.int .u8)) tIns)) 2 (.vr 3)), (prA (.pair tI (.pair (.slice 5 (.int .u8)) tIns)) 3 (.vr 3)), (.vr 5)])) (
    .ret (mkA (.pair tInts (.pair (.slice 5 (.int .u8)) tIns)) [(prA (.pair tI (.pair (.slice 5 (.int .u8)) (.pair tI tItem))) 4 (.vr 1)), (pjA (.pair tI (.pair (.slice 5 (.int .u8)) (.pair tI tItem))) 1 (.vr 1)), (pjA (.pair tI (.pair (.slice 5 (.int .u8)) (.pair tI tItem))) 2 (.vr 1)), (pjA (.pair tI (.pair (.slice 5 (.int .u8)) (.pair tI tItem))) 3 (.vr 1))]))
set_option maxRecDepth 100000 in
theorem e_s_l3Vec (f : (CurD × Int) → (IntsD × CurD)) : exFn Tryz.prog [c_s_l2Fix] { k_s_l3Vec with fn := f } false 3000 ⟨[(2991, 1001, [.dr 7, .tm 6 0, .on 5, .bx 1 0, .bx 1 1, .bx 1 2, .sl 2])], []⟩ = .ok t_s_l3Vec := by kernel_rfl
/- loops: (Int) × ((List (Int)) × ((Int) × ((Int) × (List (Int))))) -/
theorem v_s_l3Vec (x : CurD × Int) (hx : okD (.pair (.pair (.slice 5 (.int .u8)) tIns) tI) x) (hp : (fun x => 0 ≤ x.1.2.1 ∧ x.2 ≤ 1000) x) : t_s_l3Vec.wp [c_s_l2Fix] [⟨(.pair (.pair (.slice 5 (.int .u8)) tIns) tI), x⟩] [] (fun v => (fun x r => r.1.length = x.2.toNat ∧ (∀ v ∈ r.1, fixB v = true) ∧ 0 ≤ r.2.2.1 : (CurD × Int) → (IntsD × CurD) → Prop) x (v.as (.pair tInts (.pair (.slice 5 (.int .u8)) tIns)))) := by
  obtain ⟨c, n⟩ := x
  obtain ⟨hp, hn⟩ : 0 ≤ c.2.1 ∧ n ≤ 1000 := hp
  delta t_s_l3Vec c_s_l2Fix; refine vcx ?_; try with_reducible exact True.intro
  refine ⟨fun s => ∃ k : Nat, k ≤ n.toNat ∧ s.1 = (k : Int) ∧ List.length s.2.2.2.2 = k ∧ (∀ v ∈ s.2.2.2.2, fixB v = true) ∧ @LE.le Int _ 0 s.2.2.1, fun s => (n - s.1 : Int).toNat, ⟨0, Nat.zero_le _, rfl, rfl, fun v h => by simp at h, hp⟩, fun s hs hI => ?_⟩
  obtain ⟨j, b, i, h, l⟩ := s
  obtain ⟨k, hk, e1, e2, e3, e4⟩ := hI
  change Int at j
  change j = (k : Int) at e1
  subst e1
  change List Int at l
  change l.length = k at e2
  change ∀ v ∈ l, fixB v = true at e3
  change 0 ≤ (i : Int) at e4
  have q := (q_s_l2Fix (b, i, h) ⟨hs.2.1, hs.2.2.1, hs.2.2.2.1⟩ e4).2
  try dsimp only
  (refine dcx ?_; try with_reducible exact True.intro)
  refine ⟨fun hlt => ⟨e4, fun _ _ => ⟨⟨by omega, by unfold maxLen; omega⟩, fun _ => ⟨by omega, fun _ => ⟨⟨k + 1, by omega, pk1, by rw [e2], fun v hv => ?_, q.2⟩, by omega⟩⟩⟩⟩, fun hge => ⟨by omega, e3, e4⟩⟩
  rcases List.mem_append.1 hv with hv | hv
  · exact e3 v hv
  · rw [List.mem_singleton] at hv
    rw [hv]; exact q.1
theorem d_s_l3Vec : ∃ f : (CurD × Int) → (IntsD × CurD), (∀ x, okD (.pair (.pair (.slice 5 (.int .u8)) tIns) tI) x → (fun x => 0 ≤ x.1.2.1 ∧ x.2 ≤ 1000) x → (fun x r => r.1.length = x.2.toNat ∧ (∀ v ∈ r.1, fixB v = true) ∧ 0 ≤ r.2.2.1 : (CurD × Int) → (IntsD × CurD) → Prop) x (f x)) ∧ Con.Holds Tryz.prog { k_s_l3Vec with fn := f } := rel_ok (C := k_s_l3Vec) mixedP (consAt h_s_l2Fix consNil) e_s_l3Vec (fun x r => r.1.length = x.2.toNat ∧ (∀ v ∈ r.1, fixB v = true) ∧ 0 ≤ r.2.2.1 : (CurD × Int) → (IntsD × CurD) → Prop) fun x hx hp => v_s_l3Vec x hx hp
noncomputable def f_s_l3Vec : (CurD × Int) → (IntsD × CurD) := Classical.choose d_s_l3Vec
noncomputable def c_s_l3Vec : Con := ⟨74, (.pair (.pair (.slice 5 (.int .u8)) tIns) tI), (.pair tInts (.pair (.slice 5 (.int .u8)) tIns)), [.box 71 ⟨true, (.pair (.slice 5 (.int .u8)) tIns), []⟩, .val ⟨false, tI, []⟩], [⟨false, tInts, [2]⟩], false, none,
  ((fun x => 0 ≤ x.1.2.1 ∧ x.2 ≤ 1000) : (CurD × Int) → Prop),
  ((f_s_l3Vec) : (CurD × Int) → (IntsD × CurD))⟩
theorem p_s_l3Vec : ∀ x, okD (.pair (.pair (.slice 5 (.int .u8)) tIns) tI) x → (fun x => 0 ≤ x.1.2.1 ∧ x.2 ≤ 1000) x → (fun x r => r.1.length = x.2.toNat ∧ (∀ v ∈ r.1, fixB v = true) ∧ 0 ≤ r.2.2.1 : (CurD × Int) → (IntsD × CurD) → Prop) x (f_s_l3Vec x) := (Classical.choose_spec d_s_l3Vec).1
theorem h_s_l3Vec : Con.Holds Tryz.prog c_s_l3Vec := (Classical.choose_spec d_s_l3Vec).2
theorem q_s_l3Vec (x : CurD × Int) (hx : okD (.pair (.pair (.slice 5 (.int .u8)) tIns) tI) x) (hp : (fun x => 0 ≤ x.1.2.1 ∧ x.2 ≤ 1000) x) : okD (.pair tInts (.pair (.slice 5 (.int .u8)) tIns)) (f_s_l3Vec x) ∧ (fun x r => r.1.length = x.2.toNat ∧ (∀ v ∈ r.1, fixB v = true) ∧ 0 ≤ r.2.2.1 : (CurD × Int) → (IntsD × CurD) → Prop) x (f_s_l3Vec x) := ⟨h_s_l3Vec.ok x hp hx, p_s_l3Vec x hx hp⟩

/-! spec.l2Raw -/

noncomputable def k_s_l2Raw : Con := ⟨61, (.pair (.slice 5 (.int .u8)) tIns), (.pair tI (.pair (.slice 5 (.int .u8)) tIns)), [.box 71 ⟨true, (.pair (.slice 5 (.int .u8)) tIns), []⟩], [⟨false, tI, [0]⟩], false, none,
  ((fun x => 0 ≤ x.2.1) : (CurD) → Prop),
  ((fun _ => zeroD (.pair tI (.pair (.slice 5 (.int .u8)) tIns))) : (CurD) → (Int × CurD))⟩
def t_s_l2Raw : T :=
  .call 0 (.mk2 (.pair (.slice 5 (.int .u8)) tIns) tI (.vr 0) (.ci .i64 8)) <|
  .ite (.p1 .bool (.pair (.slice 5 (.int .u8)) tIns) (.vr 1)) (
   .prim (.lit 3 tI 4) (mkA (.pair tI (.pair tI tIns)) [(.ci .i64 2147483648), (.ci .i64 (-2147483648)), (.ci .i64 9223372036854775807), (.ci .i64 (-9223372036854775807))]) <|
   .call 1 (.mk2 (.pair (.slice 5 (.int .u8)) tIns) tInts (prA (.pair .bool (.pair (.slice 5 (.int .u8)) tIns)) 1 (.vr 1)) (.vr 2)) <|
   .ret (.vr 3)) (
   .call 2 (prA (.pair .bool (.pair (.slice 5 (.int .u8)) tIns)) 1 (.vr 1)) <|
   .ret (.vr 2))
set_option maxRecDepth 100000 in
theorem e_s_l2Raw (f : (CurD) → (Int × CurD)) : exFn Tryz.prog [c_s_l1Once, c_s_l1PickInt, c_s_l2Fix] { k_s_l2Raw with fn := f } false 3000 ⟨[], [(2992, 3002, [6], [])]⟩ = .ok t_s_l2Raw := by kernel_rfl
theorem v_s_l2Raw (x : CurD) (hx : okD (.pair (.slice 5 (.int .u8)) tIns) x) (hp : (fun x => 0 ≤ x.2.1) x) : t_s_l2Raw.wp [c_s_l1Once, c_s_l1PickInt, c_s_l2Fix] [⟨(.pair (.slice 5 (.int .u8)) tIns), x⟩] [] (fun v => (fun x r => 0 ≤ r.2.2.1 : (CurD) → (Int × CurD) → Prop) x (v.as (.pair tI (.pair (.slice 5 (.int .u8)) tIns)))) := by
  have q1 := q_s_l1Once (x, 8) ⟨hx, okI (by omega) (by omega)⟩ hp
  delta t_s_l2Raw c_s_l1Once c_s_l1PickInt c_s_l2Fix; refine vcx ?_; try with_reducible exact True.intro
  (refine dcx ?_; try with_reducible exact True.intro)
  refine ⟨hp, fun _ => ?_⟩
  generalize f_s_l1Once (x, 8) = r at q1 ⊢; obtain ⟨n1, c1⟩ := r; obtain ⟨k1, u1⟩ := q1; replace k1 : okD tCur c1 := k1.2; dsimp only at u1 ⊢
  refine ⟨fun _ _ => ⟨⟨u1, fun h => by cases h⟩, fun _ => ?_⟩, fun _ => ⟨u1, fun _ => ?_⟩⟩
  · exact (q_s_l1PickInt (c1, [2147483648, -2147483648, 9223372036854775807, -9223372036854775807]) ⟨k1, okL (e := 3) (by show 4 ≤ 1000; omega) (by intro y hy; simp at hy; omega)⟩ ⟨u1, by simp⟩).2.2
  · exact (q_s_l2Fix c1 k1 u1).2.2
theorem d_s_l2Raw : ∃ f : (CurD) → (Int × CurD), (∀ x, okD (.pair (.slice 5 (.int .u8)) tIns) x → (fun x => 0 ≤ x.2.1) x → (fun x r => 0 ≤ r.2.2.1 : (CurD) → (Int × CurD) → Prop) x (f x)) ∧ Con.Holds Tryz.prog { k_s_l2Raw with fn := f } := rel_ok (C := k_s_l2Raw) mixedP (consAt h_s_l1Once (consAt h_s_l1PickInt (consAt h_s_l2Fix consNil))) e_s_l2Raw (fun x r => 0 ≤ r.2.2.1 : (CurD) → (Int × CurD) → Prop) fun x hx hp => v_s_l2Raw x hx hp
noncomputable def f_s_l2Raw : (CurD) → (Int × CurD) := Classical.choose d_s_l2Raw
noncomputable def c_s_l2Raw : Con := ⟨61, (.pair (.slice 5 (.int .u8)) tIns), (.pair tI (.pair (.slice 5 (.int .u8)) tIns)), [.box 71 ⟨true, (.pair (.slice 5 (.int .u8)) tIns), []⟩], [⟨false, tI, [0]⟩], false, none,
  ((fun x => 0 ≤ x.2.1) : (CurD) → Prop),
  ((f_s_l2Raw) : (CurD) → (Int × CurD))⟩
theorem p_s_l2Raw : ∀ x, okD (.pair (.slice 5 (.int .u8)) tIns) x → (fun x => 0 ≤ x.2.1) x → (fun x r => 0 ≤ r.2.2.1 : (CurD) → (Int × CurD) → Prop) x (f_s_l2Raw x) := (Classical.choose_spec d_s_l2Raw).1
theorem h_s_l2Raw : Con.Holds Tryz.prog c_s_l2Raw := (Classical.choose_spec d_s_l2Raw).2
theorem q_s_l2Raw (x : CurD) (hx : okD (.pair (.slice 5 (.int .u8)) tIns) x) (hp : (fun x => 0 ≤ x.2.1) x) : okD (.pair tI (.pair (.slice 5 (.int .u8)) tIns)) (f_s_l2Raw x) ∧ (fun x r => 0 ≤ r.2.2.1 : (CurD) → (Int × CurD) → Prop) x (f_s_l2Raw x) := ⟨h_s_l2Raw.ok x hp hx, p_s_l2Raw x hx hp⟩

/-! spec.l5Op -/

noncomputable def k_s_l5Op : Con := ⟨43, (.pair (.pair (.slice 5 (.int .u8)) tIns) tI), (.pair tOp (.pair (.slice 5 (.int .u8)) tIns)), [.box 71 ⟨true, (.pair (.slice 5 (.int .u8)) tIns), []⟩, .val ⟨false, tI, []⟩], [⟨true, tOp, [0, 0, 0, 2]⟩], false, none,
  ((fun x => 0 ≤ x.1.2.1 ∧ 1 ≤ x.2 ∧ x.2 ≤ 6) : (CurD × Int) → Prop),
  ((fun _ => zeroD (.pair tOp (.pair (.slice 5 (.int .u8)) tIns))) : (CurD × Int) → (OpD × CurD))⟩
def t_s_l5Op : T :=
  .call 0 (.mk2 (.pair (.slice 5 (.int .u8)) tIns) tI (.p1 (.pair (.slice 5 (.int .u8)) tIns) tI (.vr 0)) (.ci .i64 5)) <|
  .prim (.ar .add .i64) (.mk2 tI tI (.ci .i64 1) (.p1 tI (.pair (.slice 5 (.int .u8)) tIns) (.vr 1))) <|
  .prim (.cmp .eql .i64) (.mk2 tI tI (.vr 2) (.ci .i64 1)) <|
  .ite (.vr 3) (
   .call 0 (.mk2 (.pair (.slice 5 (.int .u8)) tIns) tI (prA (.pair tI (.pair (.slice 5 (.int .u8)) tIns)) 1 (.vr 1)) (.ci .i64 3)) <|
   .prim (.ar .add .i64) (.mk2 tI tI (.ci .i64 1) (.p1 tI (.pair (.slice 5 (.int .u8)) tIns) (.vr 4))) <|
   .call 1 (mkA tOp [(.vr 2), (prA (.pair (.pair (.slice 5 (.int .u8)) tIns) tI) 1 (.vr 0)), (.vr 5), (.nl 3 tI)]) <|
   .call 2 (.mk2 (.pair (.slice 5 (.int .u8)) tIns) tI (prA (.pair tI (.pair (.slice 5 (.int .u8)) tIns)) 1 (.vr 4)) (.vr 6)) <|
   .ret (.mk2 tOp (.pair (.slice 5 (.int .u8)) tIns) (mkA tOp [(.vr 2), (prA (.pair (.pair (.slice 5 (.int .u8)) tIns) tI) 1 (.vr 0)), (.vr 5), (.p1 tInts (.pair (.slice 5 (.int .u8)) tIns) (.vr 7))]) (prA (.pair tInts (.pair (.slice 5 (.int .u8)) tIns)) 1 (.vr 7)))) (
   .call 1 (mkA tOp [(.vr 2), (prA (.pair (.pair (.slice 5 (.int .u8)) tIns) tI) 1 (.vr 0)), (prA (.pair (.pair (.slice 5 (.int .u8)) tIns) tI) 1 (.vr 0)), (.nl 3 tI)]) <|
   .call 2 (.mk2 (.pair (.slice 5 (.int .u8)) tIns) tI (prA (.pair tI (.pair (.slice 5 (.int .u8)) tIns)) 1 (.vr 1)) (.vr 4)) <|
   .ret (.mk2 tOp (.pair (.slice 5 (.int .u8)) tIns) (mkA tOp [(.vr 2), (prA (.pair (.pair (.slice 5 (.int .u8)) tIns) tI) 1 (.vr 0)), (prA (.pair (.pair (.slice 5 (.int .u8)) tIns) tI) 1 (.vr 0)), (.p1 tInts (.pair (.slice 5 (.int .u8)) tIns) (.vr 5))]) (prA (.pair tInts (.pair (.slice 5 (.int .u8)) tIns)) 1 (.vr 5))))
set_option maxRecDepth 100000 in
theorem e_s_l5Op (f : (CurD × Int) → (OpD × CurD)) : exFn Tryz.prog [c_s_l1Below, c_s_OpSize, c_s_l3Vec] { k_s_l5Op with fn := f } false 3000 ⟨[], []⟩ = .ok t_s_l5Op := by kernel_rfl
theorem v_s_l5Op (x : CurD × Int) (hx : okD (.pair (.pair (.slice 5 (.int .u8)) tIns) tI) x) (hp : (fun x => 0 ≤ x.1.2.1 ∧ 1 ≤ x.2 ∧ x.2 ≤ 6) x) : t_s_l5Op.wp [c_s_l1Below, c_s_OpSize, c_s_l3Vec] [⟨(.pair (.pair (.slice 5 (.int .u8)) tIns) tI), x⟩] [] (fun v => (fun x r => opB r.1 = true ∧ 0 ≤ r.2.2.1 : (CurD × Int) → (OpD × CurD) → Prop) x (v.as (.pair tOp (.pair (.slice 5 (.int .u8)) tIns)))) := by
  obtain ⟨c, n⟩ := x
  obtain ⟨hp, hn1, hn2⟩ : 0 ≤ c.2.1 ∧ 1 ≤ n ∧ n ≤ 6 := hp
  have q1 := q_s_l1Below (c, 5) ⟨hx.1, okI (by omega) (by omega)⟩ hp
  delta t_s_l5Op c_s_l1Below c_s_OpSize c_s_l3Vec; refine vcx ?_; try with_reducible exact True.intro
  (refine dcx ?_; try with_reducible exact True.intro)
  refine ⟨hp, fun _ => ?_⟩
  generalize f_s_l1Below (c, 5) = r at q1 ⊢; obtain ⟨n1, c1⟩ := r; obtain ⟨k1, u1⟩ := q1; replace k1 : okD tCur c1 := k1.2; dsimp only at u1 ⊢
  refine ⟨by omega, fun _ => ⟨fun h1 => ⟨u1.2.2.2, fun _ => ?_⟩, fun h1 hs => ?_⟩⟩
  · have q2 := q_s_l1Below (c1, 3) ⟨k1, okI (by omega) (by omega)⟩ u1.2.2.2
    generalize f_s_l1Below (c1, 3) = r at q2 ⊢; obtain ⟨n2, c2⟩ := r; obtain ⟨k2, u2⟩ := q2; replace k2 : okD tCur c2 := k2.2; dsimp only at u2 ⊢
    have hz := opSz (k := 1 + n1) (i := n) (o := 1 + n2) hn1 hn2 (by omega) (by omega)
    refine ⟨by omega, fun _ hs => ⟨⟨u2.2.2.2, by omega⟩, fun _ => ?_⟩⟩
    have q3 := (q_s_l3Vec (c2, opSize (1 + n1, n, 1 + n2, [])) ⟨k2, hs⟩ ⟨u2.2.2.2, by show opSize (1 + n1, n, 1 + n2, []) ≤ 1000; omega⟩).2
    exact ⟨opB_mk (by omega) (by omega) hn1 hn2 (by omega) (by omega) (by omega) q3.1 q3.2.1, q3.2.2⟩
  · have hz := opSz (k := 1 + n1) (i := n) (o := n) hn1 hn2 hn1 hn2
    refine ⟨⟨u1.2.2.2, by omega⟩, fun _ => ?_⟩
    have q3 := (q_s_l3Vec (c1, opSize (1 + n1, n, n, [])) ⟨k1, hs⟩ ⟨u1.2.2.2, by show opSize (1 + n1, n, n, []) ≤ 1000; omega⟩).2
    exact ⟨opB_mk (by omega) (by omega) hn1 hn2 hn1 hn2 (fun _ => rfl) q3.1 q3.2.1, q3.2.2⟩
theorem d_s_l5Op : ∃ f : (CurD × Int) → (OpD × CurD), (∀ x, okD (.pair (.pair (.slice 5 (.int .u8)) tIns) tI) x → (fun x => 0 ≤ x.1.2.1 ∧ 1 ≤ x.2 ∧ x.2 ≤ 6) x → (fun x r => opB r.1 = true ∧ 0 ≤ r.2.2.1 : (CurD × Int) → (OpD × CurD) → Prop) x (f x)) ∧ Con.Holds Tryz.prog { k_s_l5Op with fn := f } := rel_ok (C := k_s_l5Op) mixedP (consAt h_s_l1Below (consAt h_s_OpSize (consAt h_s_l3Vec consNil))) e_s_l5Op (fun x r => opB r.1 = true ∧ 0 ≤ r.2.2.1 : (CurD × Int) → (OpD × CurD) → Prop) fun x hx hp => v_s_l5Op x hx hp
noncomputable def f_s_l5Op : (CurD × Int) → (OpD × CurD) := Classical.choose d_s_l5Op
noncomputable def c_s_l5Op : Con := ⟨43, (.pair (.pair (.slice 5 (.int .u8)) tIns) tI), (.pair tOp (.pair (.slice 5 (.int .u8)) tIns)), [.box 71 ⟨true, (.pair (.slice 5 (.int .u8)) tIns), []⟩, .val ⟨false, tI, []⟩], [⟨true, tOp, [0, 0, 0, 2]⟩], false, none,
  ((fun x => 0 ≤ x.1.2.1 ∧ 1 ≤ x.2 ∧ x.2 ≤ 6) : (CurD × Int) → Prop),
  ((f_s_l5Op) : (CurD × Int) → (OpD × CurD))⟩
theorem p_s_l5Op : ∀ x, okD (.pair (.pair (.slice 5 (.int .u8)) tIns) tI) x → (fun x => 0 ≤ x.1.2.1 ∧ 1 ≤ x.2 ∧ x.2 ≤ 6) x → (fun x r => opB r.1 = true ∧ 0 ≤ r.2.2.1 : (CurD × Int) → (OpD × CurD) → Prop) x (f_s_l5Op x) := (Classical.choose_spec d_s_l5Op).1
theorem h_s_l5Op : Con.Holds Tryz.prog c_s_l5Op := (Classical.choose_spec d_s_l5Op).2
theorem q_s_l5Op (x : CurD × Int) (hx : okD (.pair (.pair (.slice 5 (.int .u8)) tIns) tI) x) (hp : (fun x => 0 ≤ x.1.2.1 ∧ 1 ≤ x.2 ∧ x.2 ≤ 6) x) : okD (.pair tOp (.pair (.slice 5 (.int .u8)) tIns)) (f_s_l5Op x) ∧ (fun x r => opB r.1 = true ∧ 0 ≤ r.2.2.1 : (CurD × Int) → (OpD × CurD) → Prop) x (f_s_l5Op x) := ⟨h_s_l5Op.ok x hp hx, p_s_l5Op x hx hp⟩

/-! spec.l6Model -/

noncomputable def k_s_l6Model : Con := ⟨47, (.pair (.slice 5 (.int .u8)) tIns), (.pair tModel (.pair (.slice 5 (.int .u8)) tIns)), [.box 71 ⟨true, (.pair (.slice 5 (.int .u8)) tIns), []⟩], [⟨true, tModel, [2]⟩], false, none,
  ((fun x => 0 ≤ x.2.1) : (CurD) → Prop),
  ((fun _ => zeroD (.pair tModel (.pair (.slice 5 (.int .u8)) tIns))) : (CurD) → (ModelD × CurD))⟩
def t_s_l6Model : T :=
  .call 0 (.mk2 (.pair (.slice 5 (.int .u8)) tIns) tI (.vr 0) (.ci .i64 3)) <|
  .prim (.ar .add .i64) (.mk2 tI tI (.ci .i64 1) (.p1 tI (.pair (.slice 5 (.int .u8)) tIns) (.vr 1))) <|
  .call 0 (.mk2 (.pair (.slice 5 (.int .u8)) tIns) tI (prA (.pair tI (.pair (.slice 5 (.int .u8)) tIns)) 1 (.vr 1)) (.ci .i64 6)) <|
  .prim (.ar .add .i64) (.mk2 tI tI (.ci .i64 1) (.p1 tI (.pair (.slice 5 (.int .u8)) tIns) (.vr 3))) <|
  .loop (.pair tI (.pair tI (.pair (.slice 5 (.int .u8)) (.pair tI (.pair tI tModel))))) (mkA (.pair tI (.pair tI (.pair (.slice 5 (.int .u8)) (.pair tI (.pair tI tModel))))) [(.vr 4), (.vr 2), (pjA (.pair tI (.pair (.slice 5 (.int .u8)) tIns)) 1 (.vr 3)), (pjA (.pair tI (.pair (.slice 5 (.int .u8)) tIns)) 2 (.vr 3)), (prA (.pair tI (.pair (.slice 5 (.int .u8)) tIns)) 3 (.vr 3)), (.nl 34 tOp)]) <|
   .prim (.cmp .gtr .i64) (.mk2 tI tI (.p1 tI (.pair tI (.pair (.slice 5 (.int .u8)) (.pair tI (.pair tI tModel)))) (.vr 5)) (.ci .i64 0)) <|
   .ite (.vr 6) (
    .call 1 (.mk2 (.pair (.slice 5 (.int .u8)) tIns) tI (mkA (.pair (.slice 5 (.int .u8)) tIns) [(pjA (.pair tI (.pair tI (.pair (.slice 5 (.int .u8)) (.pair tI (.pair tI tModel))))) 2 (.vr 5)), (pjA (.pair tI (.pair tI (.pair (.slice 5 (.int .u8)) (.pair tI (.pair tI tModel))))) 3 (.vr 5)), (pjA (.pair tI (.pair tI (.pair (.slice 5 (.int .u8)) (.pair tI (.pair tI tModel))))) 4 (.vr 5))]) (pjA (.pair tI (.pair tI (.pair (.slice 5 (.int .u8)) (.pair tI (.pair tI tModel))))) 1 (.vr 5))) <|
    .prim (.lit 34 tOp 1) (.p1 tOp (.pair (.slice 5 (.int .u8)) tIns) (.vr 7)) <|
    .prim (.lapp 34 tOp 48) (.mk2 tModel tModel (prA (.pair tI (.pair tI (.pair (.slice 5 (.int .u8)) (.pair tI (.pair tI tModel))))) 5 (.vr 5)) (.vr 8)) <|
    .prim (.ar .sub .i64) (.mk2 tI tI (.p1 tI (.pair tI (.pair (.slice 5 (.int .u8)) (.pair tI (.pair tI tModel)))) (.vr 5)) (.ci .i64 1)) <|
    .again 0 (mkA (.pair tI (.pair tI (.pair (.slice 5 (.int .u8)) (.pair tI (.pair tI tModel))))) [(.vr 10), (pjA tOp 2 (.p1 tOp (.pair (.slice 5 (.int .u8)) tIns) (.vr 7))), (pjA (.pair tOp (.pair (.slice 5 (.int .u8)) tIns)) 1 (.vr 7)), (pjA (.pair tOp (.pair (.slice 5 (.int .u8)) tIns)) 2 (.vr 7)), (prA (.pair tOp (.pair (.slice 5 (.int .u8)) tIns)) 3 (.vr 7)), (.vr 9)])) (
    .ret (mkA (.pair tModel (.pair (.slice 5 (.int .u8)) tIns)) [(prA (.pair tI (.pair tI (.pair (.slice 5 (.int .u8)) (.pair tI (.pair tI tModel))))) 5 (.vr 5)), (pjA (.pair tI (.pair tI (.pair (.slice 5 (.int .u8)) (.pair tI (.pair tI tModel))))) 2 (.vr 5)), (pjA (.pair tI (.pair tI (.pair (.slice 5 (.int .u8)) (.pair tI (.pair tI tModel))))) 3 (.vr 5)), (pjA (.pair tI (.pair tI (.pair (.slice 5 (.int .u8)) (.pair tI (.pair tI tModel))))) 4 (.vr 5))]))
set_option maxRecDepth 100000 in
theorem e_s_l6Model (f : (CurD) → (ModelD × CurD)) : exFn Tryz.prog [c_s_l1Below, c_s_l5Op] { k_s_l6Model with fn := f } false 3000 ⟨[(2989, 1005, drd 13 7 ++ [.tm 5 0, .tm 4 0, .bx 1 0, .bx 1 1, .bx 1 2, .sl 6])], [(2978, 3008, [], [7])]⟩ = .ok t_s_l6Model := by kernel_rfl
/- loops: (Int) × ((Int) × ((List (Int)) × ((Int) × ((Int) × (List ((Int) × ((Int) × ((Int) × (List (Int)))))))))) -/
theorem v_s_l6Model (x : CurD) (hx : okD (.pair (.slice 5 (.int .u8)) tIns) x) (hp : (fun x => 0 ≤ x.2.1) x) : t_s_l6Model.wp [c_s_l1Below, c_s_l5Op] [⟨(.pair (.slice 5 (.int .u8)) tIns), x⟩] [] (fun v => (fun x r => 1 ≤ r.1.length ∧ r.1.length ≤ 6 ∧ (∀ o ∈ r.1, opB o = true) ∧ 0 ≤ r.2.2.1 : (CurD) → (ModelD × CurD) → Prop) x (v.as (.pair tModel (.pair (.slice 5 (.int .u8)) tIns)))) := by
  have q1 := q_s_l1Below (x, 3) ⟨hx, okI (by omega) (by omega)⟩ hp
  delta t_s_l6Model c_s_l1Below c_s_l5Op; refine vcx ?_; try with_reducible exact True.intro
  (refine dcx ?_; try with_reducible exact True.intro)
  refine ⟨hp, fun _ => ?_⟩
  generalize f_s_l1Below (x, 3) = r at q1 ⊢; obtain ⟨n1, c1⟩ := r; obtain ⟨k1, u1⟩ := q1; replace k1 : okD tCur c1 := k1.2; dsimp only at u1 ⊢
  refine ⟨by omega, fun _ => ⟨u1.2.2.2, fun _ => ?_⟩⟩
  have q2 := q_s_l1Below (c1, 6) ⟨k1, okI (by omega) (by omega)⟩ u1.2.2.2
  generalize f_s_l1Below (c1, 6) = r at q2 ⊢; obtain ⟨n2, c2⟩ := r; obtain ⟨k2, u2⟩ := q2; replace k2 : okD tCur c2 := k2.2; dsimp only at u2 ⊢
  refine ⟨by omega, fun _ => ⟨fun s => @LE.le Int _ 0 s.1 ∧ (List.length s.2.2.2.2.2 : Int) + s.1 = 1 + n2 ∧ @LE.le Int _ 1 s.2.1 ∧ @LE.le Int _ s.2.1 6 ∧ (∀ o ∈ s.2.2.2.2.2, opB o = true) ∧ @LE.le Int _ 0 s.2.2.2.1, fun s => (s.1 : Int).toNat, ⟨by show 0 ≤ 1 + n2; omega, by show (0 : Int) + (1 + n2) = 1 + n2; omega, by show 1 ≤ 1 + n1; omega, by show 1 + n1 ≤ 6; omega, fun o h => by simp at h, u2.2.2.2⟩, fun s hs hI => ?_⟩⟩
  obtain ⟨j, g, b, i, h, l⟩ := s
  obtain ⟨e1, e2, e3, e4, e5, e6⟩ := hI
  change Int at j
  change Int at g
  change List OpD at l
  change 0 ≤ j at e1
  change (l.length : Int) + j = 1 + n2 at e2
  change 1 ≤ g at e3
  change g ≤ 6 at e4
  change ∀ o ∈ l, opB o = true at e5
  have q := (q_s_l5Op ((b, i, h), g) ⟨⟨hs.2.2.1, hs.2.2.2.1, hs.2.2.2.2.1⟩, hs.2.1⟩ ⟨e6, e3, e4⟩).2
  try dsimp only
  refine ⟨fun hlt => ⟨⟨e6, e3, e4⟩, fun _ _ => ⟨⟨by omega, by unfold maxLen; omega⟩, fun _ => ⟨by omega, fun _ => ⟨⟨by omega, ?_, ?_, ?_, fun o ho => ?_, q.2⟩, ?_⟩⟩⟩⟩, fun hge => ?_⟩
  · show (((l ++ [(f_s_l5Op ((b, i, h), g)).fst]).length : Nat) : Int) + (j - 1) = 1 + n2
    rw [List.length_append]; simp; omega
  · obtain ⟨⟨_, _, _, _, j1, j2, _⟩, _⟩ := (opB_iff _).1 q.1
    exact j1
  · obtain ⟨⟨_, _, _, _, j1, j2, _⟩, _⟩ := (opB_iff _).1 q.1
    exact j2
  · rcases List.mem_append.1 ho with ho | ho
    · exact e5 o ho
    · rw [List.mem_singleton] at ho
      rw [ho]; exact q.1
  · show (j - 1).toNat < j.toNat
    omega
  · have hj : j ≤ 0 := by simpa using hge
    exact ⟨by omega, by omega, e5, e6⟩
theorem d_s_l6Model : ∃ f : (CurD) → (ModelD × CurD), (∀ x, okD (.pair (.slice 5 (.int .u8)) tIns) x → (fun x => 0 ≤ x.2.1) x → (fun x r => 1 ≤ r.1.length ∧ r.1.length ≤ 6 ∧ (∀ o ∈ r.1, opB o = true) ∧ 0 ≤ r.2.2.1 : (CurD) → (ModelD × CurD) → Prop) x (f x)) ∧ Con.Holds Tryz.prog { k_s_l6Model with fn := f } := rel_ok (C := k_s_l6Model) mixedP (consAt h_s_l1Below (consAt h_s_l5Op consNil)) e_s_l6Model (fun x r => 1 ≤ r.1.length ∧ r.1.length ≤ 6 ∧ (∀ o ∈ r.1, opB o = true) ∧ 0 ≤ r.2.2.1 : (CurD) → (ModelD × CurD) → Prop) fun x hx hp => v_s_l6Model x hx hp
noncomputable def f_s_l6Model : (CurD) → (ModelD × CurD) := Classical.choose d_s_l6Model
noncomputable def c_s_l6Model : Con := ⟨47, (.pair (.slice 5 (.int .u8)) tIns), (.pair tModel (.pair (.slice 5 (.int .u8)) tIns)), [.box 71 ⟨true, (.pair (.slice 5 (.int .u8)) tIns), []⟩], [⟨true, tModel, [2]⟩], false, none,
  ((fun x => 0 ≤ x.2.1) : (CurD) → Prop),
  ((f_s_l6Model) : (CurD) → (ModelD × CurD))⟩
theorem p_s_l6Model : ∀ x, okD (.pair (.slice 5 (.int .u8)) tIns) x → (fun x => 0 ≤ x.2.1) x → (fun x r => 1 ≤ r.1.length ∧ r.1.length ≤ 6 ∧ (∀ o ∈ r.1, opB o = true) ∧ 0 ≤ r.2.2.1 : (CurD) → (ModelD × CurD) → Prop) x (f_s_l6Model x) := (Classical.choose_spec d_s_l6Model).1
theorem h_s_l6Model : Con.Holds Tryz.prog c_s_l6Model := (Classical.choose_spec d_s_l6Model).2
theorem q_s_l6Model (x : CurD) (hx : okD (.pair (.slice 5 (.int .u8)) tIns) x) (hp : (fun x => 0 ≤ x.2.1) x) : okD (.pair tModel (.pair (.slice 5 (.int .u8)) tIns)) (f_s_l6Model x) ∧ (fun x r => 1 ≤ r.1.length ∧ r.1.length ≤ 6 ∧ (∀ o ∈ r.1, opB o = true) ∧ 0 ≤ r.2.2.1 : (CurD) → (ModelD × CurD) → Prop) x (f_s_l6Model x) := ⟨h_s_l6Model.ok x hp hx, p_s_l6Model x hx hp⟩
end Go.Proofs.YtllphmcjocidaaaGreatDoor
