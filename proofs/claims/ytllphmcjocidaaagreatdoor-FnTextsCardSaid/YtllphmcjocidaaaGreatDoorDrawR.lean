/- DrawR: trees, and what they say. -/
import Derived.Test.YtllphmcjocidaaaGreatDoorDraw2
import Derived.Test.YtllphmcjocidaaaGreatDoorDec4
namespace Go.Proofs.YtllphmcjocidaaaGreatDoor
open Go.ChangeShapes Go.WideShapes Go.ChangeAt Go.RowKit Go.Deep
set_option linter.unusedVariables false
set_option linter.unusedSimpArgs false
theorem opB_P {o : OpD} (h : opB o = true) : o.2.2.2.length ≤ 36 := opB_len h

/-! spec.l5Any -/

noncomputable def k_s_l5Any : Con := ⟨32, (.pair (.slice 5 (.int .u8)) tIns), (.pair tOp (.pair (.slice 5 (.int .u8)) tIns)), [.box 71 ⟨true, (.pair (.slice 5 (.int .u8)) tIns), []⟩], [⟨true, tOp, [0, 0, 0, 1]⟩], false, none,
  ((fun x => 0 ≤ x.2.1) : (CurD) → Prop),
  ((fun _ => zeroD (.pair tOp (.pair (.slice 5 (.int .u8)) tIns))) : (CurD) → (OpD × CurD))⟩
def t_s_l5Any : T :=
  .call 0 (.mk2 (.pair (.slice 5 (.int .u8)) tIns) tI (.vr 0) (.ci .i64 3)) <|
  .prim (.ar .add .i64) (.mk2 tI tI (.ci .i64 1) (.p1 tI (.pair (.slice 5 (.int .u8)) tIns) (.vr 1))) <|
  .call 1 (.mk2 (.pair (.slice 5 (.int .u8)) tIns) tI (prA (.pair tI (.pair (.slice 5 (.int .u8)) tIns)) 1 (.vr 1)) (.vr 2)) <|
  .call 0 (.mk2 (.pair (.slice 5 (.int .u8)) tIns) tI (prA (.pair tOp (.pair (.slice 5 (.int .u8)) tIns)) 1 (.vr 3)) (.ci .i64 14)) <|
  .prim (.cmp .eql .i64) (.mk2 tI tI (.p1 tI (.pair (.slice 5 (.int .u8)) tIns) (.vr 4)) (.ci .i64 0)) <|
  .ite (.vr 5) (
   .call 0 (.mk2 (.pair (.slice 5 (.int .u8)) tIns) tI (prA (.pair tI (.pair (.slice 5 (.int .u8)) tIns)) 1 (.vr 4)) (.ci .i64 8)) <|
   .prim (.ar .sub .i64) (.mk2 tI tI (.p1 tI (.pair (.slice 5 (.int .u8)) tIns) (.vr 6)) (.ci .i64 1)) <|
   .ret (.mk2 tOp (.pair (.slice 5 (.int .u8)) tIns) (.mk2 tI (.pair tI tItem) (.vr 7) (prA tOp 1 (.p1 tOp (.pair (.slice 5 (.int .u8)) tIns) (.vr 3)))) (prA (.pair tI (.pair (.slice 5 (.int .u8)) tIns)) 1 (.vr 6)))) (
   .prim (.cmp .eql .i64) (.mk2 tI tI (.p1 tI (.pair (.slice 5 (.int .u8)) tIns) (.vr 4)) (.ci .i64 1)) <|
   .ite (.vr 6) (
    .prim (.ar .add .i64) (.mk2 tI tI (pjA tOp 1 (.p1 tOp (.pair (.slice 5 (.int .u8)) tIns) (.vr 3))) (.ci .i64 1)) <|
    .prim (.lit 3 tI 3) (mkA (.pair tI tIns) [(.ci .i64 0), (.ci .i64 7), (.vr 7)]) <|
    .call 2 (.mk2 (.pair (.slice 5 (.int .u8)) tIns) tInts (prA (.pair tI (.pair (.slice 5 (.int .u8)) tIns)) 1 (.vr 4)) (.vr 8)) <|
    .ret (.mk2 tOp (.pair (.slice 5 (.int .u8)) tIns) (mkA tOp [(.p1 tI (.pair tI tItem) (.p1 tOp (.pair (.slice 5 (.int .u8)) tIns) (.vr 3))), (.p1 tI (.pair (.slice 5 (.int .u8)) tIns) (.vr 9)), (prA tOp 2 (.p1 tOp (.pair (.slice 5 (.int .u8)) tIns) (.vr 3)))]) (prA (.pair tI (.pair (.slice 5 (.int .u8)) tIns)) 1 (.vr 9)))) (
    .prim (.cmp .eql .i64) (.mk2 tI tI (.p1 tI (.pair (.slice 5 (.int .u8)) tIns) (.vr 4)) (.ci .i64 2)) <|
    .ite (.vr 7) (
     .prim (.lit 3 tI 1) (.ci .i64 0) <|
     .prim (.lapp 3 tI 8) (.mk2 tInts tInts (prA tOp 3 (.p1 tOp (.pair (.slice 5 (.int .u8)) tIns) (.vr 3))) (.vr 8)) <|
     .ret (.mk2 tOp (.pair (.slice 5 (.int .u8)) tIns) (mkA tOp [(.p1 tI (.pair tI tItem) (.p1 tOp (.pair (.slice 5 (.int .u8)) tIns) (.vr 3))), (pjA tOp 1 (.p1 tOp (.pair (.slice 5 (.int .u8)) tIns) (.vr 3))), (pjA tOp 2 (.p1 tOp (.pair (.slice 5 (.int .u8)) tIns) (.vr 3))), (.vr 9)]) (prA (.pair tI (.pair (.slice 5 (.int .u8)) tIns)) 1 (.vr 4)))) (
     .prim (.cmp .eql .i64) (.mk2 tI tI (.p1 tI (.pair (.slice 5 (.int .u8)) tIns) (.vr 4)) (.ci .i64 3)) <|
     .ite (.vr 8) (
      .prim (.llen 3 tI) (prA tOp 3 (.p1 tOp (.pair (.slice 5 (.int .u8)) tIns) (.vr 3))) <|
      .prim (.cmp .gtr .i64) (.mk2 tI tI (.vr 9) (.ci .i64 0)) <|
      .ite (.vr 10) (
       .call 3 (prA (.pair tI (.pair (.slice 5 (.int .u8)) tIns)) 1 (.vr 4)) <|
       .prim (.lidx 3 tI) (.mk2 tInts tI (prA tOp 3 (.p1 tOp (.pair (.slice 5 (.int .u8)) tIns) (.vr 3))) (.ci .i64 0)) <|
       .prim (.lset 3 tI) (mkA (.pair tInts tIns) [(prA tOp 3 (.p1 tOp (.pair (.slice 5 (.int .u8)) tIns) (.vr 3))), (.ci .i64 0), (.p1 tI (.pair (.slice 5 (.int .u8)) tIns) (.vr 11))]) <|
       .ret (.mk2 tOp (.pair (.slice 5 (.int .u8)) tIns) (mkA tOp [(.p1 tI (.pair tI tItem) (.p1 tOp (.pair (.slice 5 (.int .u8)) tIns) (.vr 3))), (pjA tOp 1 (.p1 tOp (.pair (.slice 5 (.int .u8)) tIns) (.vr 3))), (pjA tOp 2 (.p1 tOp (.pair (.slice 5 (.int .u8)) tIns) (.vr 3))), (.vr 13)]) (prA (.pair tI (.pair (.slice 5 (.int .u8)) tIns)) 1 (.vr 11)))) (
       .ret (.mk2 tOp (.pair (.slice 5 (.int .u8)) tIns) (.p1 tOp (.pair (.slice 5 (.int .u8)) tIns) (.vr 3)) (prA (.pair tI (.pair (.slice 5 (.int .u8)) tIns)) 1 (.vr 4))))) (
      .ret (.mk2 tOp (.pair (.slice 5 (.int .u8)) tIns) (.p1 tOp (.pair (.slice 5 (.int .u8)) tIns) (.vr 3)) (prA (.pair tI (.pair (.slice 5 (.int .u8)) tIns)) 1 (.vr 4)))))))
set_option maxRecDepth 100000 in
theorem e_s_l5Any (f : (CurD) → (OpD × CurD)) : exFn Tryz.prog [c_s_l1Below, c_s_l5Op, c_s_l1PickInt, c_s_l2Raw] { k_s_l5Any with fn := f } false 3000 ⟨[], [(2985, 6007, [23], [])]⟩ = .ok t_s_l5Any := by kernel_rfl
theorem v_s_l5Any (x : CurD) (hx : okD (.pair (.slice 5 (.int .u8)) tIns) x) (hp : (fun x => 0 ≤ x.2.1) x) : t_s_l5Any.wp [c_s_l1Below, c_s_l5Op, c_s_l1PickInt, c_s_l2Raw] [⟨(.pair (.slice 5 (.int .u8)) tIns), x⟩] [] (fun v => (fun x r => r.1.2.2.2.length ≤ 40 ∧ 0 ≤ r.2.2.1 : (CurD) → (OpD × CurD) → Prop) x (v.as (.pair tOp (.pair (.slice 5 (.int .u8)) tIns)))) := by
  have q1 := q_s_l1Below (x, 3) ⟨hx, okI (by omega) (by omega)⟩ hp
  delta t_s_l5Any c_s_l1Below c_s_l5Op c_s_l1PickInt c_s_l2Raw; refine vcx ?_; try with_reducible exact True.intro
  (refine dcx ?_; try with_reducible exact True.intro)
  refine ⟨hp, fun _ => ?_⟩
  generalize f_s_l1Below (x, 3) = r at q1 ⊢; obtain ⟨n1, c1⟩ := r; obtain ⟨k1, u1⟩ := q1; replace k1 : okD tCur c1 := k1.2; dsimp only at u1 ⊢
  refine ⟨by omega, fun _ => ⟨⟨u1.2.2.2, by omega, by omega⟩, fun _ => ?_⟩⟩
  have q2 := q_s_l5Op (c1, 1 + n1) ⟨k1, okI (by omega) (by omega)⟩ ⟨u1.2.2.2, by show 1 ≤ 1 + n1; omega, by show 1 + n1 ≤ 6; omega⟩
  generalize f_s_l5Op (c1, 1 + n1) = r at q2 ⊢; obtain ⟨o2, c2⟩ := r; obtain ⟨k2, u2⟩ := q2; have ko := k2.1; replace k2 : okD tCur c2 := k2.2; dsimp only at u2 ⊢
  have hP := opB_P u2.1
  have hI := ((opB_iff _).1 u2.1).1
  refine ⟨u2.2, fun _ => ?_⟩
  have q3 := q_s_l1Below (c2, 14) ⟨k2, okI (by omega) (by omega)⟩ u2.2
  generalize f_s_l1Below (c2, 14) = r at q3 ⊢; obtain ⟨n3, c3⟩ := r; obtain ⟨k3, u3⟩ := q3; replace k3 : okD tCur c3 := k3.2; dsimp only at u3 ⊢
  have hc3 := u3.2.2.2
  refine ⟨fun _ => ⟨hc3, fun _ => ?_⟩, fun _ => ⟨fun _ => ?_, fun _ => ⟨fun _ => ?_, fun _ => ⟨fun _ => ?_, fun _ => ?_⟩⟩⟩⟩
  · have q4 := (q_s_l1Below (c3, 8) ⟨k3, okI (by omega) (by omega)⟩ hc3).2
    generalize f_s_l1Below (c3, 8) = r at q4 ⊢; obtain ⟨n4, c4⟩ := r; dsimp only at q4 ⊢
    exact ⟨by omega, fun _ => ⟨by omega, q4.2.2.2⟩⟩
  · obtain ⟨_, _, i3, i4, _⟩ := hI
    refine ⟨by omega, fun h1 h2 => ⟨⟨hc3, fun h => by cases h⟩, fun _ => ⟨by omega, ?_⟩⟩⟩
    exact (q_s_l1PickInt (c3, [0, 7, o2.2.1 + 1]) ⟨k3, h2⟩ ⟨hc3, by simp⟩).2.2
  · exact fun _ => ⟨⟨by omega, by unfold maxLen; omega⟩, fun _ => ⟨by omega, hc3⟩⟩
  · have q4 := (q_s_l2Raw c3 k3 hc3).2
    exact fun _ => ⟨fun hl => ⟨hc3, fun _ => ⟨⟨by omega, hl⟩, fun _ => ⟨⟨by omega, hl⟩, fun _ => ⟨by rw [List.length_set]; omega, q4⟩⟩⟩⟩, fun _ => ⟨by omega, hc3⟩⟩
  · exact ⟨by omega, hc3⟩
theorem d_s_l5Any : ∃ f : (CurD) → (OpD × CurD), (∀ x, okD (.pair (.slice 5 (.int .u8)) tIns) x → (fun x => 0 ≤ x.2.1) x → (fun x r => r.1.2.2.2.length ≤ 40 ∧ 0 ≤ r.2.2.1 : (CurD) → (OpD × CurD) → Prop) x (f x)) ∧ Con.Holds Tryz.prog { k_s_l5Any with fn := f } := rel_ok (C := k_s_l5Any) mixedP (consAt h_s_l1Below (consAt h_s_l5Op (consAt h_s_l1PickInt (consAt h_s_l2Raw consNil)))) e_s_l5Any (fun x r => r.1.2.2.2.length ≤ 40 ∧ 0 ≤ r.2.2.1 : (CurD) → (OpD × CurD) → Prop) fun x hx hp => v_s_l5Any x hx hp
noncomputable def f_s_l5Any : (CurD) → (OpD × CurD) := Classical.choose d_s_l5Any
noncomputable def c_s_l5Any : Con := ⟨32, (.pair (.slice 5 (.int .u8)) tIns), (.pair tOp (.pair (.slice 5 (.int .u8)) tIns)), [.box 71 ⟨true, (.pair (.slice 5 (.int .u8)) tIns), []⟩], [⟨true, tOp, [0, 0, 0, 1]⟩], false, none,
  ((fun x => 0 ≤ x.2.1) : (CurD) → Prop),
  ((f_s_l5Any) : (CurD) → (OpD × CurD))⟩
theorem p_s_l5Any : ∀ x, okD (.pair (.slice 5 (.int .u8)) tIns) x → (fun x => 0 ≤ x.2.1) x → (fun x r => r.1.2.2.2.length ≤ 40 ∧ 0 ≤ r.2.2.1 : (CurD) → (OpD × CurD) → Prop) x (f_s_l5Any x) := (Classical.choose_spec d_s_l5Any).1
theorem h_s_l5Any : Con.Holds Tryz.prog c_s_l5Any := (Classical.choose_spec d_s_l5Any).2
theorem q_s_l5Any (x : CurD) (hx : okD (.pair (.slice 5 (.int .u8)) tIns) x) (hp : (fun x => 0 ≤ x.2.1) x) : okD (.pair tOp (.pair (.slice 5 (.int .u8)) tIns)) (f_s_l5Any x) ∧ (fun x r => r.1.2.2.2.length ≤ 40 ∧ 0 ≤ r.2.2.1 : (CurD) → (OpD × CurD) → Prop) x (f_s_l5Any x) := ⟨h_s_l5Any.ok x hp hx, p_s_l5Any x hx hp⟩

/-! spec.l6Any -/

noncomputable def k_s_l6Any : Con := ⟨41, (.pair (.slice 5 (.int .u8)) tIns), (.pair tModel (.pair (.slice 5 (.int .u8)) tIns)), [.box 71 ⟨true, (.pair (.slice 5 (.int .u8)) tIns), []⟩], [⟨true, tModel, [0]⟩], false, none,
  ((fun x => 0 ≤ x.2.1) : (CurD) → Prop),
  ((fun _ => zeroD (.pair tModel (.pair (.slice 5 (.int .u8)) tIns))) : (CurD) → (ModelD × CurD))⟩
def t_s_l6Any : T :=
  .call 0 (.vr 0) <|
  .prim (.llen 34 tOp) (.p1 tModel (.pair (.slice 5 (.int .u8)) tIns) (.vr 1)) <|
  .call 1 (.mk2 (.pair (.slice 5 (.int .u8)) tIns) tI (prA (.pair tModel (.pair (.slice 5 (.int .u8)) tIns)) 1 (.vr 1)) (.vr 2)) <|
  .call 1 (.mk2 (.pair (.slice 5 (.int .u8)) tIns) tI (prA (.pair tI (.pair (.slice 5 (.int .u8)) tIns)) 1 (.vr 3)) (.ci .i64 16)) <|
  .prim (.cmp .eql .i64) (.mk2 tI tI (.p1 tI (.pair (.slice 5 (.int .u8)) tIns) (.vr 4)) (.ci .i64 0)) <|
  .ite (.vr 5) (
   .call 2 (prA (.pair tI (.pair (.slice 5 (.int .u8)) tIns)) 1 (.vr 4)) <|
   .prim (.lidx 34 tOp) (.mk2 tModel tI (.p1 tModel (.pair (.slice 5 (.int .u8)) tIns) (.vr 1)) (.p1 tI (.pair (.slice 5 (.int .u8)) tIns) (.vr 3))) <|
   .prim (.lset 34 tOp) (mkA (.pair tModel (.pair tI tOp)) [(.p1 tModel (.pair (.slice 5 (.int .u8)) tIns) (.vr 1)), (.p1 tI (.pair (.slice 5 (.int .u8)) tIns) (.vr 3)), (.p1 tOp (.pair (.slice 5 (.int .u8)) tIns) (.vr 6))]) <|
   .ret (.mk2 tModel (.pair (.slice 5 (.int .u8)) tIns) (.vr 8) (prA (.pair tOp (.pair (.slice 5 (.int .u8)) tIns)) 1 (.vr 6)))) (
   .prim (.cmp .eql .i64) (.mk2 tI tI (.p1 tI (.pair (.slice 5 (.int .u8)) tIns) (.vr 4)) (.ci .i64 1)) <|
   .ite (.vr 6) (
    .prim (.lsub 34 tOp) (mkA (.pair tModel tIns) [(.p1 tModel (.pair (.slice 5 (.int .u8)) tIns) (.vr 1)), (.ci .i64 0), (.p1 tI (.pair (.slice 5 (.int .u8)) tIns) (.vr 3))]) <|
    .ret (.mk2 tModel (.pair (.slice 5 (.int .u8)) tIns) (.vr 7) (prA (.pair tI (.pair (.slice 5 (.int .u8)) tIns)) 1 (.vr 4)))) (
    .prim (.cmp .eql .i64) (.mk2 tI tI (.p1 tI (.pair (.slice 5 (.int .u8)) tIns) (.vr 4)) (.ci .i64 2)) <|
    .ite (.vr 7) (
     .loop (.pair (.slice 5 (.int .u8)) (.pair tI (.pair tI tModel))) (mkA (.pair (.slice 5 (.int .u8)) (.pair tI (.pair tI tModel))) [(pjA (.pair tI (.pair (.slice 5 (.int .u8)) tIns)) 1 (.vr 4)), (pjA (.pair tI (.pair (.slice 5 (.int .u8)) tIns)) 2 (.vr 4)), (prA (.pair tI (.pair (.slice 5 (.int .u8)) tIns)) 3 (.vr 4)), (.p1 tModel (.pair (.slice 5 (.int .u8)) tIns) (.vr 1))]) <|
      .prim (.llen 34 tOp) (prA (.pair (.slice 5 (.int .u8)) (.pair tI (.pair tI tModel))) 3 (.vr 8)) <|
      .call 1 (.mk2 (.pair (.slice 5 (.int .u8)) tIns) tI (mkA (.pair (.slice 5 (.int .u8)) tIns) [(.p1 (.slice 5 (.int .u8)) (.pair tI (.pair tI tModel)) (.vr 8)), (pjA (.pair (.slice 5 (.int .u8)) (.pair tI (.pair tI tModel))) 1 (.vr 8)), (pjA (.pair (.slice 5 (.int .u8)) (.pair tI (.pair tI tModel))) 2 (.vr 8))]) (.ci .i64 2)) <|
      .prim (.ar .add .i64) (.mk2 tI tI (.ci .i64 8) (.p1 tI (.pair (.slice 5 (.int .u8)) tIns) (.vr 10))) <|
      .prim (.cmp .lss .i64) (.mk2 tI tI (.vr 9) (.vr 11)) <|
      .ite (.vr 12) (
       .prim (.llen 34 tOp) (prA (.pair (.slice 5 (.int .u8)) (.pair tI (.pair tI tModel))) 3 (.vr 8)) <|
       .prim (.ar .sub .i64) (.mk2 tI tI (.vr 13) (.ci .i64 1)) <|
       .prim (.lidx 34 tOp) (.mk2 tModel tI (prA (.pair (.slice 5 (.int .u8)) (.pair tI (.pair tI tModel))) 3 (.vr 8)) (.vr 14)) <|
       .prim (.lidx 34 tOp) (.mk2 tModel tI (prA (.pair (.slice 5 (.int .u8)) (.pair tI (.pair tI tModel))) 3 (.vr 8)) (.vr 14)) <|
       .prim (.llen 34 tOp) (prA (.pair (.slice 5 (.int .u8)) (.pair tI (.pair tI tModel))) 3 (.vr 8)) <|
       .prim (.ar .sub .i64) (.mk2 tI tI (.vr 17) (.ci .i64 1)) <|
       .prim (.lidx 34 tOp) (.mk2 tModel tI (prA (.pair (.slice 5 (.int .u8)) (.pair tI (.pair tI tModel))) 3 (.vr 8)) (.vr 18)) <|
       .prim (.lidx 34 tOp) (.mk2 tModel tI (prA (.pair (.slice 5 (.int .u8)) (.pair tI (.pair tI tModel))) 3 (.vr 8)) (.vr 18)) <|
       .prim (.lit 34 tOp 1) (mkA tOp [(.ci .i64 3), (pjA tOp 2 (.vr 16)), (pjA tOp 2 (.vr 20)), (.nl 3 tI)]) <|
       .prim (.lapp 34 tOp 48) (.mk2 tModel tModel (prA (.pair (.slice 5 (.int .u8)) (.pair tI (.pair tI tModel))) 3 (.vr 8)) (.vr 21)) <|
       .again 0 (mkA (.pair (.slice 5 (.int .u8)) (.pair tI (.pair tI tModel))) [(pjA (.pair tI (.pair (.slice 5 (.int .u8)) tIns)) 1 (.vr 10)), (pjA (.pair tI (.pair (.slice 5 (.int .u8)) tIns)) 2 (.vr 10)), (prA (.pair tI (.pair (.slice 5 (.int .u8)) tIns)) 3 (.vr 10)), (.vr 22)])) (
       .ret (.mk2 tModel (.pair (.slice 5 (.int .u8)) tIns) (prA (.pair (.slice 5 (.int .u8)) (.pair tI (.pair tI tModel))) 3 (.vr 8)) (prA (.pair tI (.pair (.slice 5 (.int .u8)) tIns)) 1 (.vr 10))))) (
     .ret (.mk2 tModel (.pair (.slice 5 (.int .u8)) tIns) (.p1 tModel (.pair (.slice 5 (.int .u8)) tIns) (.vr 1)) (prA (.pair tI (.pair (.slice 5 (.int .u8)) tIns)) 1 (.vr 4))))))
set_option maxRecDepth 100000 in
theorem e_s_l6Any (f : (CurD) → (ModelD × CurD)) : exFn Tryz.prog [c_s_l6Model, c_s_l1Below, c_s_l5Any] { k_s_l6Any with fn := f } false 3000 ⟨[(2979, 12008, [.dr 29, .dr 30, .dr 22, .dr 23, .dr 14, .dr 15, .dr 13, .dr 12, .dr 4] ++ drd 11 5 ++ [.bx 1 0, .bx 1 1, .bx 1 2, .sl 4])], [(2983, 6007, [], [4])]⟩ = .ok t_s_l6Any := by kernel_rfl
/- loops: (List (Int)) × ((Int) × ((Int) × (List ((Int) × ((Int) × ((Int) × (List (Int)))))))) -/
theorem v_s_l6Any (x : CurD) (hx : okD (.pair (.slice 5 (.int .u8)) tIns) x) (hp : (fun x => 0 ≤ x.2.1) x) : t_s_l6Any.wp [c_s_l6Model, c_s_l1Below, c_s_l5Any] [⟨(.pair (.slice 5 (.int .u8)) tIns), x⟩] [] (fun v => (fun x r => r.1.length ≤ 9 ∧ (∀ o ∈ r.1, o.2.2.2.length ≤ 40) ∧ 0 ≤ r.2.2.1 : (CurD) → (ModelD × CurD) → Prop) x (v.as (.pair tModel (.pair (.slice 5 (.int .u8)) tIns)))) := by
  have q1 := q_s_l6Model x hx hp
  delta t_s_l6Any c_s_l6Model c_s_l1Below c_s_l5Any; refine vcx ?_; try with_reducible exact True.intro
  (refine dcx ?_; try with_reducible exact True.intro)
  refine ⟨hp, fun _ => ?_⟩
  generalize f_s_l6Model x = r at q1 ⊢; obtain ⟨m1, c1⟩ := r; obtain ⟨kq1, uq1⟩ := q1; have kl1 := kq1.1; replace kq1 : okD tCur c1 := kq1.2; dsimp only at uq1 ⊢
  change List OpD at m1
  have hP : ∀ o ∈ m1, List.length o.2.2.2 ≤ 40 := fun o ho => by have := opB_P (uq1.2.2.1 o ho); omega
  have hl1 : 1 ≤ List.length m1 := uq1.1
  have hl6 : List.length m1 ≤ 6 := uq1.2.1
  refine fun _ => ⟨uq1.2.2.2, fun _ => ?_⟩
  have q2 := q_s_l1Below (c1, ((List.length m1 : Nat) : Int)) ⟨kq1, okI (by omega) (by omega)⟩ uq1.2.2.2
  generalize f_s_l1Below (c1, ((List.length m1 : Nat) : Int)) = r at q2 ⊢; obtain ⟨n2, c2⟩ := r; obtain ⟨kq2, uq2⟩ := q2; replace kq2 : okD tCur c2 := kq2.2; dsimp only at uq2 ⊢
  have hn2 : 0 ≤ n2 ∧ n2 < ((List.length m1 : Nat) : Int) := ⟨uq2.1, uq2.2.1 (by show 0 < ((List.length m1 : Nat) : Int); omega)⟩
  refine ⟨uq2.2.2.2, fun _ => ?_⟩
  have q3 := q_s_l1Below (c2, 16) ⟨kq2, okI (by omega) (by omega)⟩ uq2.2.2.2
  generalize f_s_l1Below (c2, 16) = r at q3 ⊢; obtain ⟨n3, c3⟩ := r; obtain ⟨kq3, uq3⟩ := q3; replace kq3 : okD tCur c3 := kq3.2; dsimp only at uq3 ⊢
  have hc3 := uq3.2.2.2
  refine ⟨fun _ => ?_, fun _ => ⟨fun _ => ?_, fun _ => ⟨fun _ => ?_, fun _ => ?_⟩⟩⟩
  · have q4 := (q_s_l5Any c3 kq3 hc3).2
    generalize f_s_l5Any c3 = r at q4 ⊢; obtain ⟨o4, c4⟩ := r; dsimp only at q4 ⊢
    exact ⟨hc3, fun _ => ⟨hn2, fun _ => ⟨hn2, fun _ => ⟨by rw [List.length_set]; omega, fun o ho => (List.mem_or_eq_of_mem_set ho).elim (hP o) (fun h => by rw [h]; exact q4.1), q4.2⟩⟩⟩⟩
  · exact ⟨⟨by omega, by omega, by omega⟩, fun _ => ⟨by rw [List.length_drop, List.length_take]; omega, fun o ho => hP o (List.mem_of_mem_take (by simpa using ho)), hc3⟩⟩
  · refine ⟨fun s => 1 ≤ List.length s.2.2.2 ∧ List.length s.2.2.2 ≤ 9 ∧ (∀ o ∈ s.2.2.2, List.length o.2.2.2 ≤ 40) ∧ @LE.le Int _ 0 s.2.1, fun s => 10 - List.length s.2.2.2, ⟨hl1, by show m1.length ≤ 9; omega, hP, hc3⟩, fun s hs hI => ?_⟩
    obtain ⟨b, i, h, l⟩ := s
    obtain ⟨e1, e2, e3, e4⟩ := hI
    change List OpD at l
    change 1 ≤ l.length at e1
    change l.length ≤ 9 at e2
    change ∀ o ∈ l, List.length o.2.2.2 ≤ 40 at e3
    change 0 ≤ (i : Int) at e4
    have q5 := (q_s_l1Below ((b, i, h), 2) ⟨⟨hs.1, hs.2.1, hs.2.2.1⟩, okI (by omega) (by omega)⟩ e4).2
    try dsimp only
    try (refine dcx ?_; try with_reducible exact True.intro)
    generalize f_s_l1Below ((b, i, h), 2) = r at q5 ⊢; obtain ⟨n5, c5⟩ := r; dsimp only at q5 ⊢
    refine fun _ => ⟨e4, fun _ => ⟨by omega, fun _ => ⟨fun hlt => ?_, fun hge => ⟨e2, e3, q5.2.2.2⟩⟩⟩⟩
    generalize (List.getD l (List.length l - 1) (zeroD tOp)).2.2.1 = z
    have e5 : ∀ o ∈ l ++ [((3 : Int), z, z, ([] : List Int))], List.length o.2.2.2 ≤ 40 := fun p hp => by
      rcases List.mem_append.1 hp with hp | hp
      · exact e3 p hp
      · rw [List.mem_singleton] at hp
        rw [hp]; exact Nat.zero_le _
    (repeat' first | intro _ | (with_reducible apply And.intro))
    all_goals first | omega | (unfold maxLen; omega) | exact q5.2.2.2 | exact e5 _ (by assumption)
  · exact ⟨by omega, hP, hc3⟩
theorem d_s_l6Any : ∃ f : (CurD) → (ModelD × CurD), (∀ x, okD (.pair (.slice 5 (.int .u8)) tIns) x → (fun x => 0 ≤ x.2.1) x → (fun x r => r.1.length ≤ 9 ∧ (∀ o ∈ r.1, o.2.2.2.length ≤ 40) ∧ 0 ≤ r.2.2.1 : (CurD) → (ModelD × CurD) → Prop) x (f x)) ∧ Con.Holds Tryz.prog { k_s_l6Any with fn := f } := rel_ok (C := k_s_l6Any) mixedP (consAt h_s_l6Model (consAt h_s_l1Below (consAt h_s_l5Any consNil))) e_s_l6Any (fun x r => r.1.length ≤ 9 ∧ (∀ o ∈ r.1, o.2.2.2.length ≤ 40) ∧ 0 ≤ r.2.2.1 : (CurD) → (ModelD × CurD) → Prop) fun x hx hp => v_s_l6Any x hx hp
noncomputable def f_s_l6Any : (CurD) → (ModelD × CurD) := Classical.choose d_s_l6Any
noncomputable def c_s_l6Any : Con := ⟨41, (.pair (.slice 5 (.int .u8)) tIns), (.pair tModel (.pair (.slice 5 (.int .u8)) tIns)), [.box 71 ⟨true, (.pair (.slice 5 (.int .u8)) tIns), []⟩], [⟨true, tModel, [0]⟩], false, none,
  ((fun x => 0 ≤ x.2.1) : (CurD) → Prop),
  ((f_s_l6Any) : (CurD) → (ModelD × CurD))⟩
theorem p_s_l6Any : ∀ x, okD (.pair (.slice 5 (.int .u8)) tIns) x → (fun x => 0 ≤ x.2.1) x → (fun x r => r.1.length ≤ 9 ∧ (∀ o ∈ r.1, o.2.2.2.length ≤ 40) ∧ 0 ≤ r.2.2.1 : (CurD) → (ModelD × CurD) → Prop) x (f_s_l6Any x) := (Classical.choose_spec d_s_l6Any).1
theorem h_s_l6Any : Con.Holds Tryz.prog c_s_l6Any := (Classical.choose_spec d_s_l6Any).2
theorem q_s_l6Any (x : CurD) (hx : okD (.pair (.slice 5 (.int .u8)) tIns) x) (hp : (fun x => 0 ≤ x.2.1) x) : okD (.pair tModel (.pair (.slice 5 (.int .u8)) tIns)) (f_s_l6Any x) ∧ (fun x r => r.1.length ≤ 9 ∧ (∀ o ∈ r.1, o.2.2.2.length ≤ 40) ∧ 0 ≤ r.2.2.1 : (CurD) → (ModelD × CurD) → Prop) x (f_s_l6Any x) := ⟨h_s_l6Any.ok x hp hx, p_s_l6Any x hx hp⟩
end Go.Proofs.YtllphmcjocidaaaGreatDoor
