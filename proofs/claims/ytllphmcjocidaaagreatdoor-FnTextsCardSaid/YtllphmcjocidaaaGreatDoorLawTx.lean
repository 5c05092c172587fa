/- LawTx: trees, and what they say. -/
import Derived.Test.YtllphmcjocidaaaGreatDoorRd6
import Derived.Test.YtllphmcjocidaaaGreatDoorDrawR
import Derived.Test.YtllphmcjocidaaaGreatDoorSame3
namespace Go.Proofs.YtllphmcjocidaaaGreatDoor
open Go.ChangeShapes Go.WideShapes Go.ChangeAt Go.RowKit Go.Deep
set_option linter.unusedVariables false
set_option linter.unusedSimpArgs false
theorem rdModel_t {s : ByteArray} (h : (rdModel s).2 = true) : modelB (rdModel s).1 = true ∧ modelT (rdModel s).1 = s := by
  unfold rdModel at h ⊢
  split at h
  · rename_i hh
    rw [dif_pos hh]
    exact Classical.choose_spec hh
  · cases h

/-! spec.l1Pick -/

noncomputable def k_s_l1Pick : Con := ⟨46, (.pair (.pair (.slice 5 (.int .u8)) tIns) (.slice 9 .str)), (.pair .str (.pair (.slice 5 (.int .u8)) tIns)), [.box 71 ⟨true, (.pair (.slice 5 (.int .u8)) tIns), []⟩, .val ⟨false, (.slice 9 .str), []⟩], [⟨false, .str, [0]⟩], false, none,
  ((fun x => 0 ≤ x.1.2.1 ∧ x.2 ≠ []) : (CurD × (List (ByteArray))) → Prop),
  ((fun _ => zeroD (.pair .str (.pair (.slice 5 (.int .u8)) tIns))) : (CurD × (List (ByteArray))) → ((ByteArray) × CurD))⟩
def t_s_l1Pick : T :=
  .prim (.llen 9 .str) (prA (.pair (.pair (.slice 5 (.int .u8)) tIns) (.slice 9 .str)) 1 (.vr 0)) <|
  .call 0 (.mk2 (.pair (.slice 5 (.int .u8)) tIns) tI (.p1 (.pair (.slice 5 (.int .u8)) tIns) (.slice 9 .str) (.vr 0)) (.vr 1)) <|
  .prim (.lidx 9 .str) (.mk2 (.slice 9 .str) tI (prA (.pair (.pair (.slice 5 (.int .u8)) tIns) (.slice 9 .str)) 1 (.vr 0)) (.p1 tI (.pair (.slice 5 (.int .u8)) tIns) (.vr 2))) <|
  .ret (.mk2 .str (.pair (.slice 5 (.int .u8)) tIns) (.vr 3) (prA (.pair tI (.pair (.slice 5 (.int .u8)) tIns)) 1 (.vr 2)))
set_option maxRecDepth 100000 in
theorem e_s_l1Pick (f : (CurD × (List (ByteArray))) → ((ByteArray) × CurD)) : exFn Tryz.prog [c_s_l1Below] { k_s_l1Pick with fn := f } false 3000 ⟨[], []⟩ = .ok t_s_l1Pick := by kernel_rfl
theorem v_s_l1Pick (x : CurD × (List (ByteArray))) (hx : okD (.pair (.pair (.slice 5 (.int .u8)) tIns) (.slice 9 .str)) x) (hp : (fun x => 0 ≤ x.1.2.1 ∧ x.2 ≠ []) x) : t_s_l1Pick.wp [c_s_l1Below] [⟨(.pair (.pair (.slice 5 (.int .u8)) tIns) (.slice 9 .str)), x⟩] [] (fun v => (fun x r => r.1 ∈ x.2 ∧ 0 ≤ r.2.2.1 : (CurD × (List (ByteArray))) → ((ByteArray) × CurD) → Prop) x (v.as (.pair .str (.pair (.slice 5 (.int .u8)) tIns)))) := by
  obtain ⟨c, l⟩ := x
  obtain ⟨hp, hl⟩ : 0 ≤ c.2.1 ∧ l ≠ [] := hp
  have hm := lenM (show List.length l ≤ maxLen from hx.2.1)
  have hl0 : 0 < l.length := List.length_pos_iff.2 hl
  have q1 := (q_s_l1Below (c, (l.length : Int)) ⟨hx.1, show (-9223372036854775808 : Int) ≤ _ ∧ _ ≤ (9223372036854775807 : Int) by omega⟩ hp).2
  dsimp only at q1
  delta t_s_l1Pick c_s_l1Below; refine vcx ?_; try with_reducible exact True.intro
  have hlt : ((f_s_l1Below (c, (l.length : Int))).1 : Int).toNat < l.length := by omega
  refine fun _ => ⟨hp, fun _ => ⟨⟨q1.1, by omega⟩, fun _ => ⟨?_, q1.2.2.2⟩⟩⟩
  rw [getD_at hlt]
  exact List.getElem_mem hlt
theorem d_s_l1Pick : ∃ f : (CurD × (List (ByteArray))) → ((ByteArray) × CurD), (∀ x, okD (.pair (.pair (.slice 5 (.int .u8)) tIns) (.slice 9 .str)) x → (fun x => 0 ≤ x.1.2.1 ∧ x.2 ≠ []) x → (fun x r => r.1 ∈ x.2 ∧ 0 ≤ r.2.2.1 : (CurD × (List (ByteArray))) → ((ByteArray) × CurD) → Prop) x (f x)) ∧ Con.Holds Tryz.prog { k_s_l1Pick with fn := f } := rel_ok (C := k_s_l1Pick) mixedP (consAt h_s_l1Below consNil) e_s_l1Pick (fun x r => r.1 ∈ x.2 ∧ 0 ≤ r.2.2.1 : (CurD × (List (ByteArray))) → ((ByteArray) × CurD) → Prop) fun x hx hp => v_s_l1Pick x hx hp
noncomputable def f_s_l1Pick : (CurD × (List (ByteArray))) → ((ByteArray) × CurD) := Classical.choose d_s_l1Pick
noncomputable def c_s_l1Pick : Con := ⟨46, (.pair (.pair (.slice 5 (.int .u8)) tIns) (.slice 9 .str)), (.pair .str (.pair (.slice 5 (.int .u8)) tIns)), [.box 71 ⟨true, (.pair (.slice 5 (.int .u8)) tIns), []⟩, .val ⟨false, (.slice 9 .str), []⟩], [⟨false, .str, [0]⟩], false, none,
  ((fun x => 0 ≤ x.1.2.1 ∧ x.2 ≠ []) : (CurD × (List (ByteArray))) → Prop),
  ((f_s_l1Pick) : (CurD × (List (ByteArray))) → ((ByteArray) × CurD))⟩
theorem p_s_l1Pick : ∀ x, okD (.pair (.pair (.slice 5 (.int .u8)) tIns) (.slice 9 .str)) x → (fun x => 0 ≤ x.1.2.1 ∧ x.2 ≠ []) x → (fun x r => r.1 ∈ x.2 ∧ 0 ≤ r.2.2.1 : (CurD × (List (ByteArray))) → ((ByteArray) × CurD) → Prop) x (f_s_l1Pick x) := (Classical.choose_spec d_s_l1Pick).1
theorem h_s_l1Pick : Con.Holds Tryz.prog c_s_l1Pick := (Classical.choose_spec d_s_l1Pick).2
theorem q_s_l1Pick (x : CurD × (List (ByteArray))) (hx : okD (.pair (.pair (.slice 5 (.int .u8)) tIns) (.slice 9 .str)) x) (hp : (fun x => 0 ≤ x.1.2.1 ∧ x.2 ≠ []) x) : okD (.pair .str (.pair (.slice 5 (.int .u8)) tIns)) (f_s_l1Pick x) ∧ (fun x r => r.1 ∈ x.2 ∧ 0 ≤ r.2.2.1 : (CurD × (List (ByteArray))) → ((ByteArray) × CurD) → Prop) x (f_s_l1Pick x) := ⟨h_s_l1Pick.ok x hp hx, p_s_l1Pick x hx hp⟩

/-! spec.l1Text -/

noncomputable def k_s_l1Text : Con := ⟨76, (.pair (.pair (.slice 5 (.int .u8)) tIns) tI), (.pair .str (.pair (.slice 5 (.int .u8)) tIns)), [.box 71 ⟨true, (.pair (.slice 5 (.int .u8)) tIns), []⟩, .val ⟨false, tI, []⟩], [⟨false, .str, [0]⟩], false, none,
  ((fun x => 0 ≤ x.1.2.1 ∧ 0 ≤ x.2 ∧ x.2 ≤ 1000) : (CurD × Int) → Prop),
  ((fun _ => zeroD (.pair .str (.pair (.slice 5 (.int .u8)) tIns))) : (CurD × Int) → ((ByteArray) × CurD))⟩
def t_s_l1Text : T :=
  .call 0 (.mk2 (.pair (.slice 5 (.int .u8)) tIns) tI (.p1 (.pair (.slice 5 (.int .u8)) tIns) tI (.vr 0)) (.ci .i64 4)) <|
  .prim (.ar .add .i64) (.mk2 tI tI (prA (.pair (.pair (.slice 5 (.int .u8)) tIns) tI) 1 (.vr 0)) (.ci .i64 1)) <|
  .call 0 (.mk2 (.pair (.slice 5 (.int .u8)) tIns) tI (prA (.pair tI (.pair (.slice 5 (.int .u8)) tIns)) 1 (.vr 1)) (.vr 2)) <|
  .loop (.pair tI (.pair (.slice 5 (.int .u8)) (.pair tI (.pair tI (.slice 5 (.int .u8)))))) (mkA (.pair tI (.pair (.slice 5 (.int .u8)) (.pair tI (.pair tI (.slice 5 (.int .u8)))))) [(.p1 tI (.pair (.slice 5 (.int .u8)) tIns) (.vr 3)), (pjA (.pair tI (.pair (.slice 5 (.int .u8)) tIns)) 1 (.vr 3)), (pjA (.pair tI (.pair (.slice 5 (.int .u8)) tIns)) 2 (.vr 3)), (prA (.pair tI (.pair (.slice 5 (.int .u8)) tIns)) 3 (.vr 3)), (.nl 5 (.int .u8))]) <|
   .prim (.cmp .gtr .i64) (.mk2 tI tI (.p1 tI (.pair (.slice 5 (.int .u8)) (.pair tI (.pair tI (.slice 5 (.int .u8))))) (.vr 4)) (.ci .i64 0)) <|
   .ite (.vr 5) (
    .call 1 (mkA (.pair (.slice 5 (.int .u8)) tIns) [(pjA (.pair tI (.pair (.slice 5 (.int .u8)) (.pair tI (.pair tI (.slice 5 (.int .u8)))))) 1 (.vr 4)), (pjA (.pair tI (.pair (.slice 5 (.int .u8)) (.pair tI (.pair tI (.slice 5 (.int .u8)))))) 2 (.vr 4)), (pjA (.pair tI (.pair (.slice 5 (.int .u8)) (.pair tI (.pair tI (.slice 5 (.int .u8)))))) 3 (.vr 4))]) <|
    .prim (.cmp .eql .i64) (.mk2 tI tI (.p1 tI (.pair (.slice 5 (.int .u8)) tIns) (.vr 1)) (.ci .i64 1)) <|
    .ite (.vr 7) (
     .prim (.rem .i64) (.mk2 tI tI (.p1 tI (.pair (.slice 5 (.int .u8)) tIns) (.vr 6)) (.ci .i64 2)) <|
     .prim (.cmp .eql .i64) (.mk2 tI tI (.p1 tI (.pair (.slice 5 (.int .u8)) tIns) (.vr 1)) (.ci .i64 2)) <|
     .ite (.vr 9) (
      .prim (.rem .i64) (.mk2 tI tI (.vr 8) (.ci .i64 4)) <|
      .prim (.ar .add .i64) (.mk2 tI tI (.ci .i64 97) (.vr 10)) <|
      .prim (.conv .i64 .u8) (.vr 11) <|
      .prim (.lit 5 (.int .u8) 1) (.vr 12) <|
      .prim (.lapp 5 (.int .u8) 1) (.mk2 (.slice 5 (.int .u8)) (.slice 5 (.int .u8)) (prA (.pair tI (.pair (.slice 5 (.int .u8)) (.pair tI (.pair tI (.slice 5 (.int .u8)))))) 4 (.vr 4)) (.vr 13)) <|
      .prim (.ar .sub .i64) (.mk2 tI tI (.p1 tI (.pair (.slice 5 (.int .u8)) (.pair tI (.pair tI (.slice 5 (.int .u8))))) (.vr 4)) (.ci .i64 1)) <|
      .again 0 (mkA (.pair tI (.pair (.slice 5 (.int .u8)) (.pair tI (.pair tI (.slice 5 (.int .u8)))))) [(.vr 15), (pjA (.pair tI (.pair (.slice 5 (.int .u8)) tIns)) 1 (.vr 6)), (pjA (.pair tI (.pair (.slice 5 (.int .u8)) tIns)) 2 (.vr 6)), (prA (.pair tI (.pair (.slice 5 (.int .u8)) tIns)) 3 (.vr 6)), (.vr 14)])) (
      .prim (.conv .i64 .u8) (.vr 8) <|
      .prim (.lit 5 (.int .u8) 1) (.vr 10) <|
      .prim (.lapp 5 (.int .u8) 1) (.mk2 (.slice 5 (.int .u8)) (.slice 5 (.int .u8)) (prA (.pair tI (.pair (.slice 5 (.int .u8)) (.pair tI (.pair tI (.slice 5 (.int .u8)))))) 4 (.vr 4)) (.vr 11)) <|
      .prim (.ar .sub .i64) (.mk2 tI tI (.p1 tI (.pair (.slice 5 (.int .u8)) (.pair tI (.pair tI (.slice 5 (.int .u8))))) (.vr 4)) (.ci .i64 1)) <|
      .again 0 (mkA (.pair tI (.pair (.slice 5 (.int .u8)) (.pair tI (.pair tI (.slice 5 (.int .u8)))))) [(.vr 13), (pjA (.pair tI (.pair (.slice 5 (.int .u8)) tIns)) 1 (.vr 6)), (pjA (.pair tI (.pair (.slice 5 (.int .u8)) tIns)) 2 (.vr 6)), (prA (.pair tI (.pair (.slice 5 (.int .u8)) tIns)) 3 (.vr 6)), (.vr 12)]))) (
     .prim (.cmp .eql .i64) (.mk2 tI tI (.p1 tI (.pair (.slice 5 (.int .u8)) tIns) (.vr 1)) (.ci .i64 2)) <|
     .ite (.vr 8) (
      .prim (.rem .i64) (.mk2 tI tI (.p1 tI (.pair (.slice 5 (.int .u8)) tIns) (.vr 6)) (.ci .i64 4)) <|
      .prim (.ar .add .i64) (.mk2 tI tI (.ci .i64 97) (.vr 9)) <|
      .prim (.conv .i64 .u8) (.vr 10) <|
      .prim (.lit 5 (.int .u8) 1) (.vr 11) <|
      .prim (.lapp 5 (.int .u8) 1) (.mk2 (.slice 5 (.int .u8)) (.slice 5 (.int .u8)) (prA (.pair tI (.pair (.slice 5 (.int .u8)) (.pair tI (.pair tI (.slice 5 (.int .u8)))))) 4 (.vr 4)) (.vr 12)) <|
      .prim (.ar .sub .i64) (.mk2 tI tI (.p1 tI (.pair (.slice 5 (.int .u8)) (.pair tI (.pair tI (.slice 5 (.int .u8))))) (.vr 4)) (.ci .i64 1)) <|
      .again 0 (mkA (.pair tI (.pair (.slice 5 (.int .u8)) (.pair tI (.pair tI (.slice 5 (.int .u8)))))) [(.vr 14), (pjA (.pair tI (.pair (.slice 5 (.int .u8)) tIns)) 1 (.vr 6)), (pjA (.pair tI (.pair (.slice 5 (.int .u8)) tIns)) 2 (.vr 6)), (prA (.pair tI (.pair (.slice 5 (.int .u8)) tIns)) 3 (.vr 6)), (.vr 13)])) (
      .prim (.conv .i64 .u8) (.p1 tI (.pair (.slice 5 (.int .u8)) tIns) (.vr 6)) <|
      .prim (.lit 5 (.int .u8) 1) (.vr 9) <|
      .prim (.lapp 5 (.int .u8) 1) (.mk2 (.slice 5 (.int .u8)) (.slice 5 (.int .u8)) (prA (.pair tI (.pair (.slice 5 (.int .u8)) (.pair tI (.pair tI (.slice 5 (.int .u8)))))) 4 (.vr 4)) (.vr 10)) <|
      .prim (.ar .sub .i64) (.mk2 tI tI (.p1 tI (.pair (.slice 5 (.int .u8)) (.pair tI (.pair tI (.slice 5 (.int .u8))))) (.vr 4)) (.ci .i64 1)) <|
      .again 0 (mkA (.pair tI (.pair (.slice 5 (.int .u8)) (.pair tI (.pair tI (.slice 5 (.int .u8)))))) [(.vr 12), (pjA (.pair tI (.pair (.slice 5 (.int .u8)) tIns)) 1 (.vr 6)), (pjA (.pair tI (.pair (.slice 5 (.int .u8)) tIns)) 2 (.vr 6)), (prA (.pair tI (.pair (.slice 5 (.int .u8)) tIns)) 3 (.vr 6)), (.vr 11)])))) (
    .prim (.b2s 5) (prA (.pair tI (.pair (.slice 5 (.int .u8)) (.pair tI (.pair tI (.slice 5 (.int .u8)))))) 4 (.vr 4)) <|
    .ret (mkA (.pair .str (.pair (.slice 5 (.int .u8)) tIns)) [(.vr 6), (pjA (.pair tI (.pair (.slice 5 (.int .u8)) (.pair tI (.pair tI (.slice 5 (.int .u8)))))) 1 (.vr 4)), (pjA (.pair tI (.pair (.slice 5 (.int .u8)) (.pair tI (.pair tI (.slice 5 (.int .u8)))))) 2 (.vr 4)), (pjA (.pair tI (.pair (.slice 5 (.int .u8)) (.pair tI (.pair tI (.slice 5 (.int .u8)))))) 3 (.vr 4))]))
set_option maxRecDepth 100000 in
theorem e_s_l1Text (f : (CurD × Int) → ((ByteArray) × CurD)) : exFn Tryz.prog [c_s_l1Below, c_s_l1Byte] { k_s_l1Text with fn := f } false 3000 ⟨[(2989, 1004, drd 15 9 ++ [.dr 1, .tm 7 0, .on 5, .bx 1 0, .bx 1 1, .bx 1 2, .sl 2])], []⟩ = .ok t_s_l1Text := by kernel_rfl
/- loops: (Int) × ((List (Int)) × ((Int) × ((Int) × (List (Int))))) -/
theorem v_s_l1Text (x : CurD × Int) (hx : okD (.pair (.pair (.slice 5 (.int .u8)) tIns) tI) x) (hp : (fun x => 0 ≤ x.1.2.1 ∧ 0 ≤ x.2 ∧ x.2 ≤ 1000) x) : t_s_l1Text.wp [c_s_l1Below, c_s_l1Byte] [⟨(.pair (.pair (.slice 5 (.int .u8)) tIns) tI), x⟩] [] (fun v => (fun x r => r.1.size ≤ 1000 ∧ 0 ≤ r.2.2.1 : (CurD × Int) → ((ByteArray) × CurD) → Prop) x (v.as (.pair .str (.pair (.slice 5 (.int .u8)) tIns)))) := by
  obtain ⟨c, n⟩ := x
  obtain ⟨hp, hn0, hn1⟩ : 0 ≤ c.2.1 ∧ 0 ≤ n ∧ n ≤ 1000 := hp
  have q1 := q_s_l1Below (c, 4) ⟨hx.1, okI (by omega) (by omega)⟩ hp
  delta t_s_l1Text c_s_l1Below c_s_l1Byte; refine vcx ?_; try with_reducible exact True.intro
  (refine dcx ?_; try with_reducible exact True.intro)
  refine ⟨hp, fun _ => ?_⟩
  generalize f_s_l1Below (c, 4) = r at q1 ⊢; obtain ⟨n1, c1⟩ := r; obtain ⟨kq1, uq1⟩ := q1; replace kq1 : okD tCur c1 := kq1.2; dsimp only at uq1 ⊢
  have q2 := q_s_l1Below (c1, n + 1) ⟨kq1, okI (by omega) (by omega)⟩ uq1.2.2.2
  refine ⟨⟨by omega, by omega⟩, fun _ => ⟨uq1.2.2.2, fun _ => ?_⟩⟩
  generalize f_s_l1Below (c1, n + 1) = r at q2 ⊢; obtain ⟨n2, c2⟩ := r; obtain ⟨kq2, uq2⟩ := q2; replace kq2 : okD tCur c2 := kq2.2; dsimp only at uq2 ⊢
  have hn2 : n2 < n + 1 := uq2.2.1 (by omega)
  refine ⟨fun s => ((List.length s.2.2.2.2 : Nat) : Int) + s.1 ≤ 1000 ∧ @LE.le Int _ 0 s.2.2.1 ∧ @LE.le Int _ 0 s.1, fun s => (s.1 : Int).toNat, ⟨by show ((0 : Nat) : Int) + n2 ≤ 1000; omega, uq2.2.2.2, uq2.1⟩, fun s hs hI => ?_⟩
  obtain ⟨j, b, i, h, l⟩ := s
  obtain ⟨e1, e2, e3⟩ := hI
  change Int at j
  change List Int at l
  change ((List.length l : Nat) : Int) + j ≤ 1000 at e1
  change 0 ≤ (i : Int) at e2
  change 0 ≤ j at e3
  have q := q_s_l1Byte (b, i, h) ⟨hs.2.1, hs.2.2.1, hs.2.2.2.1⟩ e2
  generalize f_s_l1Byte (b, i, h) = r at q ⊢; obtain ⟨n3, c3⟩ := r; obtain ⟨kq3, uq3⟩ := q; replace kq3 : okD tCur c3 := kq3.2; dsimp only at uq3 ⊢
  have t1 : 0 ≤ n3.tmod 2 ∧ n3.tmod 2 < 2 := ⟨Int.tmod_nonneg 2 uq3.1, Int.tmod_lt_of_pos n3 (by omega)⟩
  have t2 : 0 ≤ (n3.tmod 2).tmod 4 ∧ (n3.tmod 2).tmod 4 < 4 := ⟨Int.tmod_nonneg 4 t1.1, Int.tmod_lt_of_pos _ (by omega)⟩
  have t3 : 0 ≤ n3.tmod 4 ∧ n3.tmod 4 < 4 := ⟨Int.tmod_nonneg 4 uq3.1, Int.tmod_lt_of_pos _ (by omega)⟩
  try dsimp only
  (refine dcx ?_; try with_reducible exact True.intro)
  have hz : (ofBytesL l).size = l.length := by unfold ofBytesL; simp [ByteArray.size]
  (repeat' first | intro _ | (with_reducible apply And.intro))
  all_goals first | omega | (unfold maxLen; omega) | exact uq3.2.2 | skip
theorem d_s_l1Text : ∃ f : (CurD × Int) → ((ByteArray) × CurD), (∀ x, okD (.pair (.pair (.slice 5 (.int .u8)) tIns) tI) x → (fun x => 0 ≤ x.1.2.1 ∧ 0 ≤ x.2 ∧ x.2 ≤ 1000) x → (fun x r => r.1.size ≤ 1000 ∧ 0 ≤ r.2.2.1 : (CurD × Int) → ((ByteArray) × CurD) → Prop) x (f x)) ∧ Con.Holds Tryz.prog { k_s_l1Text with fn := f } := rel_ok (C := k_s_l1Text) mixedP (consAt h_s_l1Below (consAt h_s_l1Byte consNil)) e_s_l1Text (fun x r => r.1.size ≤ 1000 ∧ 0 ≤ r.2.2.1 : (CurD × Int) → ((ByteArray) × CurD) → Prop) fun x hx hp => v_s_l1Text x hx hp
noncomputable def f_s_l1Text : (CurD × Int) → ((ByteArray) × CurD) := Classical.choose d_s_l1Text
noncomputable def c_s_l1Text : Con := ⟨76, (.pair (.pair (.slice 5 (.int .u8)) tIns) tI), (.pair .str (.pair (.slice 5 (.int .u8)) tIns)), [.box 71 ⟨true, (.pair (.slice 5 (.int .u8)) tIns), []⟩, .val ⟨false, tI, []⟩], [⟨false, .str, [0]⟩], false, none,
  ((fun x => 0 ≤ x.1.2.1 ∧ 0 ≤ x.2 ∧ x.2 ≤ 1000) : (CurD × Int) → Prop),
  ((f_s_l1Text) : (CurD × Int) → ((ByteArray) × CurD))⟩
theorem p_s_l1Text : ∀ x, okD (.pair (.pair (.slice 5 (.int .u8)) tIns) tI) x → (fun x => 0 ≤ x.1.2.1 ∧ 0 ≤ x.2 ∧ x.2 ≤ 1000) x → (fun x r => r.1.size ≤ 1000 ∧ 0 ≤ r.2.2.1 : (CurD × Int) → ((ByteArray) × CurD) → Prop) x (f_s_l1Text x) := (Classical.choose_spec d_s_l1Text).1
theorem h_s_l1Text : Con.Holds Tryz.prog c_s_l1Text := (Classical.choose_spec d_s_l1Text).2
theorem q_s_l1Text (x : CurD × Int) (hx : okD (.pair (.pair (.slice 5 (.int .u8)) tIns) tI) x) (hp : (fun x => 0 ≤ x.1.2.1 ∧ 0 ≤ x.2 ∧ x.2 ≤ 1000) x) : okD (.pair .str (.pair (.slice 5 (.int .u8)) tIns)) (f_s_l1Text x) ∧ (fun x r => r.1.size ≤ 1000 ∧ 0 ≤ r.2.2.1 : (CurD × Int) → ((ByteArray) × CurD) → Prop) x (f_s_l1Text x) := ⟨h_s_l1Text.ok x hp hx, p_s_l1Text x hx hp⟩

/-! spec.l1Spoil -/

noncomputable def k_s_l1Spoil : Con := ⟨45, (.pair (.pair (.slice 5 (.int .u8)) tIns) .str), (.pair .str (.pair (.slice 5 (.int .u8)) tIns)), [.box 71 ⟨true, (.pair (.slice 5 (.int .u8)) tIns), []⟩, .val ⟨false, .str, []⟩], [⟨false, .str, [0]⟩], false, none,
  ((fun x => 0 ≤ x.1.2.1 ∧ x.2.size ≤ 1000000) : (CurD × (ByteArray)) → Prop),
  ((fun _ => zeroD (.pair .str (.pair (.slice 5 (.int .u8)) tIns))) : (CurD × (ByteArray)) → ((ByteArray) × CurD))⟩
def t_s_l1Spoil : T :=
  .prim .slen (prA (.pair (.pair (.slice 5 (.int .u8)) tIns) .str) 1 (.vr 0)) <|
  .prim (.cmp .eql .i64) (.mk2 tI tI (.vr 1) (.ci .i64 0)) <|
  .ite (.vr 2) (
   .call 0 (.mk2 (.pair (.slice 5 (.int .u8)) tIns) tI (.p1 (.pair (.slice 5 (.int .u8)) tIns) .str (.vr 0)) (.ci .i64 3)) <|
   .ret (.vr 3)) (
   .prim .slen (prA (.pair (.pair (.slice 5 (.int .u8)) tIns) .str) 1 (.vr 0)) <|
   .call 1 (.mk2 (.pair (.slice 5 (.int .u8)) tIns) tI (.p1 (.pair (.slice 5 (.int .u8)) tIns) .str (.vr 0)) (.vr 3)) <|
   .call 1 (.mk2 (.pair (.slice 5 (.int .u8)) tIns) tI (prA (.pair tI (.pair (.slice 5 (.int .u8)) tIns)) 1 (.vr 4)) (.ci .i64 4)) <|
   .prim (.cmp .eql .i64) (.mk2 tI tI (.p1 tI (.pair (.slice 5 (.int .u8)) tIns) (.vr 5)) (.ci .i64 0)) <|
   .ite (.vr 6) (
    .prim (.ar .add .i64) (.mk2 tI tI (.p1 tI (.pair (.slice 5 (.int .u8)) tIns) (.vr 4)) (.ci .i64 1)) <|
    .prim .ssub (mkA (.pair .str tIns) [(prA (.pair (.pair (.slice 5 (.int .u8)) tIns) .str) 1 (.vr 0)), (.ci .i64 0), (.p1 tI (.pair (.slice 5 (.int .u8)) tIns) (.vr 4))]) <|
    .prim .slen (prA (.pair (.pair (.slice 5 (.int .u8)) tIns) .str) 1 (.vr 0)) <|
    .prim .ssub (mkA (.pair .str tIns) [(prA (.pair (.pair (.slice 5 (.int .u8)) tIns) .str) 1 (.vr 0)), (.vr 7), (.vr 9)]) <|
    .prim .sadd (.mk2 .str .str (.vr 8) (.vr 10)) <|
    .ret (.mk2 .str (.pair (.slice 5 (.int .u8)) tIns) (.vr 11) (prA (.pair tI (.pair (.slice 5 (.int .u8)) tIns)) 1 (.vr 5)))) (
    .prim (.cmp .eql .i64) (.mk2 tI tI (.p1 tI (.pair (.slice 5 (.int .u8)) tIns) (.vr 5)) (.ci .i64 1)) <|
    .ite (.vr 7) (
     .prim .ssub (mkA (.pair .str tIns) [(prA (.pair (.pair (.slice 5 (.int .u8)) tIns) .str) 1 (.vr 0)), (.ci .i64 0), (.p1 tI (.pair (.slice 5 (.int .u8)) tIns) (.vr 4))]) <|
     .prim .slen (prA (.pair (.pair (.slice 5 (.int .u8)) tIns) .str) 1 (.vr 0)) <|
     .prim .ssub (mkA (.pair .str tIns) [(prA (.pair (.pair (.slice 5 (.int .u8)) tIns) .str) 1 (.vr 0)), (.p1 tI (.pair (.slice 5 (.int .u8)) tIns) (.vr 4)), (.vr 9)]) <|
     .call 2 (prA (.pair tI (.pair (.slice 5 (.int .u8)) tIns)) 1 (.vr 5)) <|
     .prim (.conv .i64 .u8) (.p1 tI (.pair (.slice 5 (.int .u8)) tIns) (.vr 11)) <|
     .prim (.lit 5 (.int .u8) 1) (.vr 12) <|
     .prim (.b2s 5) (.vr 13) <|
     .prim .sadd (.mk2 .str .str (.vr 8) (.vr 14)) <|
     .prim .sadd (.mk2 .str .str (.vr 15) (.vr 10)) <|
     .ret (.mk2 .str (.pair (.slice 5 (.int .u8)) tIns) (.vr 16) (prA (.pair tI (.pair (.slice 5 (.int .u8)) tIns)) 1 (.vr 11)))) (
     .prim (.cmp .eql .i64) (.mk2 tI tI (.p1 tI (.pair (.slice 5 (.int .u8)) tIns) (.vr 5)) (.ci .i64 2)) <|
     .ite (.vr 8) (
      .prim .ssub (mkA (.pair .str tIns) [(prA (.pair (.pair (.slice 5 (.int .u8)) tIns) .str) 1 (.vr 0)), (.ci .i64 0), (.p1 tI (.pair (.slice 5 (.int .u8)) tIns) (.vr 4))]) <|
      .ret (.mk2 .str (.pair (.slice 5 (.int .u8)) tIns) (.vr 9) (prA (.pair tI (.pair (.slice 5 (.int .u8)) tIns)) 1 (.vr 5)))) (
      .prim .sidx (.mk2 .str tI (prA (.pair (.pair (.slice 5 (.int .u8)) tIns) .str) 1 (.vr 0)) (.p1 tI (.pair (.slice 5 (.int .u8)) tIns) (.vr 4))) <|
      .prim (.ar .add .i64) (.mk2 tI tI (.p1 tI (.pair (.slice 5 (.int .u8)) tIns) (.vr 4)) (.ci .i64 1)) <|
      .prim .ssub (mkA (.pair .str tIns) [(prA (.pair (.pair (.slice 5 (.int .u8)) tIns) .str) 1 (.vr 0)), (.ci .i64 0), (.p1 tI (.pair (.slice 5 (.int .u8)) tIns) (.vr 4))]) <|
      .prim (.conv .u8 .i64) (.vr 9) <|
      .prim .slen (prA (.pair (.pair (.slice 5 (.int .u8)) tIns) .str) 1 (.vr 0)) <|
      .prim .ssub (mkA (.pair .str tIns) [(prA (.pair (.pair (.slice 5 (.int .u8)) tIns) .str) 1 (.vr 0)), (.vr 10), (.vr 13)]) <|
      .call 1 (.mk2 (.pair (.slice 5 (.int .u8)) tIns) tI (prA (.pair tI (.pair (.slice 5 (.int .u8)) tIns)) 1 (.vr 5)) (.ci .i64 255)) <|
      .prim (.ar .add .i64) (.mk2 tI tI (.ci .i64 1) (.p1 tI (.pair (.slice 5 (.int .u8)) tIns) (.vr 15))) <|
      .prim (.bits .xor .i64) (.mk2 tI tI (.vr 12) (.vr 16)) <|
      .prim (.conv .i64 .u8) (.vr 17) <|
      .prim (.lit 5 (.int .u8) 1) (.vr 18) <|
      .prim (.b2s 5) (.vr 19) <|
      .prim .sadd (.mk2 .str .str (.vr 11) (.vr 20)) <|
      .prim .sadd (.mk2 .str .str (.vr 21) (.vr 14)) <|
      .ret (.mk2 .str (.pair (.slice 5 (.int .u8)) tIns) (.vr 22) (prA (.pair tI (.pair (.slice 5 (.int .u8)) tIns)) 1 (.vr 15)))))))
set_option maxRecDepth 100000 in
theorem e_s_l1Spoil (f : (CurD × (ByteArray)) → ((ByteArray) × CurD)) : exFn Tryz.prog [c_s_l1Text, c_s_l1Below, c_s_l1Byte] { k_s_l1Spoil with fn := f } false 3000 ⟨[], []⟩ = .ok t_s_l1Spoil := by kernel_rfl
theorem v_s_l1Spoil (x : CurD × (ByteArray)) (hx : okD (.pair (.pair (.slice 5 (.int .u8)) tIns) .str) x) (hp : (fun x => 0 ≤ x.1.2.1 ∧ x.2.size ≤ 1000000) x) : t_s_l1Spoil.wp [c_s_l1Text, c_s_l1Below, c_s_l1Byte] [⟨(.pair (.pair (.slice 5 (.int .u8)) tIns) .str), x⟩] [] (fun v => (fun x r => r.1.size ≤ 1002000 ∧ 0 ≤ r.2.2.1 : (CurD × (ByteArray)) → ((ByteArray) × CurD) → Prop) x (v.as (.pair .str (.pair (.slice 5 (.int .u8)) tIns)))) := by
  obtain ⟨c, s⟩ := x
  obtain ⟨hp, hs⟩ : 0 ≤ c.2.1 ∧ s.size ≤ 1000000 := hp
  delta t_s_l1Spoil c_s_l1Text c_s_l1Below c_s_l1Byte; refine vcx ?_; try with_reducible exact True.intro
  (refine dcx ?_; try with_reducible exact True.intro)
  refine fun _ => ⟨fun h0 => ⟨⟨hp, by omega, by omega⟩, fun _ => ?_⟩, fun h0 _ => ⟨hp, fun _ => ?_⟩⟩
  · have q := (q_s_l1Text (c, 3) ⟨hx.1, okI (by omega) (by omega)⟩ ⟨hp, by show (0 : Int) ≤ 3; omega, by show (3 : Int) ≤ 1000; omega⟩).2
    dsimp only at q
    exact ⟨by omega, q.2⟩
  · have q1 := q_s_l1Below (c, (s.size : Int)) ⟨hx.1, okI (by omega) (by omega)⟩ hp
    generalize f_s_l1Below (c, (s.size : Int)) = r at q1 ⊢; obtain ⟨n1, c1⟩ := r; obtain ⟨kq1, uq1⟩ := q1; replace kq1 : okD tCur c1 := kq1.2; dsimp only at uq1 ⊢
    have hn1 : 0 ≤ n1 ∧ n1 < (s.size : Int) := ⟨uq1.1, uq1.2.1 (by omega)⟩
    have hc1 := uq1.2.2.2
    have q2 := q_s_l1Below (c1, 4) ⟨kq1, okI (by omega) (by omega)⟩ hc1
    generalize f_s_l1Below (c1, 4) = r at q2 ⊢; obtain ⟨n2, c2⟩ := r; obtain ⟨kq2, uq2⟩ := q2; replace kq2 : okD tCur c2 := kq2.2; dsimp only at uq2 ⊢
    have hc2 := uq2.2.2.2
    have q3 := (q_s_l1Byte c2 kq2 hc2).2
    generalize f_s_l1Byte c2 = r at q3 ⊢; obtain ⟨n3, c3⟩ := r; dsimp only at q3 ⊢
    have q4 := (q_s_l1Below (c2, 255) ⟨kq2, okI (by omega) (by omega)⟩ hc2).2
    generalize f_s_l1Below (c2, 255) = r at q4 ⊢; obtain ⟨n4, c4⟩ := r; dsimp only at q4 ⊢
    have hc3 := q3.2.2
    have hc4 := q4.2.2.2
    have hn4 : 0 ≤ n4 ∧ n4 < 255 := ⟨q4.1, q4.2.1 (by omega)⟩
    have ob : ∀ z : Int, (ofBytesL [z]).size = 1 := fun z => rfl
    (repeat' first | intro _ | (with_reducible apply And.intro))
    all_goals first | omega | (unfold maxLen; omega) | ((try simp only [ba_size, ByteArray.size_extract, ob]); (try unfold maxLen); omega) | assumption | skip
theorem d_s_l1Spoil : ∃ f : (CurD × (ByteArray)) → ((ByteArray) × CurD), (∀ x, okD (.pair (.pair (.slice 5 (.int .u8)) tIns) .str) x → (fun x => 0 ≤ x.1.2.1 ∧ x.2.size ≤ 1000000) x → (fun x r => r.1.size ≤ 1002000 ∧ 0 ≤ r.2.2.1 : (CurD × (ByteArray)) → ((ByteArray) × CurD) → Prop) x (f x)) ∧ Con.Holds Tryz.prog { k_s_l1Spoil with fn := f } := rel_ok (C := k_s_l1Spoil) mixedP (consAt h_s_l1Text (consAt h_s_l1Below (consAt h_s_l1Byte consNil))) e_s_l1Spoil (fun x r => r.1.size ≤ 1002000 ∧ 0 ≤ r.2.2.1 : (CurD × (ByteArray)) → ((ByteArray) × CurD) → Prop) fun x hx hp => v_s_l1Spoil x hx hp
noncomputable def f_s_l1Spoil : (CurD × (ByteArray)) → ((ByteArray) × CurD) := Classical.choose d_s_l1Spoil
noncomputable def c_s_l1Spoil : Con := ⟨45, (.pair (.pair (.slice 5 (.int .u8)) tIns) .str), (.pair .str (.pair (.slice 5 (.int .u8)) tIns)), [.box 71 ⟨true, (.pair (.slice 5 (.int .u8)) tIns), []⟩, .val ⟨false, .str, []⟩], [⟨false, .str, [0]⟩], false, none,
  ((fun x => 0 ≤ x.1.2.1 ∧ x.2.size ≤ 1000000) : (CurD × (ByteArray)) → Prop),
  ((f_s_l1Spoil) : (CurD × (ByteArray)) → ((ByteArray) × CurD))⟩
theorem p_s_l1Spoil : ∀ x, okD (.pair (.pair (.slice 5 (.int .u8)) tIns) .str) x → (fun x => 0 ≤ x.1.2.1 ∧ x.2.size ≤ 1000000) x → (fun x r => r.1.size ≤ 1002000 ∧ 0 ≤ r.2.2.1 : (CurD × (ByteArray)) → ((ByteArray) × CurD) → Prop) x (f_s_l1Spoil x) := (Classical.choose_spec d_s_l1Spoil).1
theorem h_s_l1Spoil : Con.Holds Tryz.prog c_s_l1Spoil := (Classical.choose_spec d_s_l1Spoil).2
theorem q_s_l1Spoil (x : CurD × (ByteArray)) (hx : okD (.pair (.pair (.slice 5 (.int .u8)) tIns) .str) x) (hp : (fun x => 0 ≤ x.1.2.1 ∧ x.2.size ≤ 1000000) x) : okD (.pair .str (.pair (.slice 5 (.int .u8)) tIns)) (f_s_l1Spoil x) ∧ (fun x r => r.1.size ≤ 1002000 ∧ 0 ≤ r.2.2.1 : (CurD × (ByteArray)) → ((ByteArray) × CurD) → Prop) x (f_s_l1Spoil x) := ⟨h_s_l1Spoil.ok x hp hx, p_s_l1Spoil x hx hp⟩

/-! spec.DrawShowOp -/

noncomputable def k_s_DrawShowOp : Con := ⟨11, (.slice 5 (.int .u8)), tOp, [.val ⟨false, (.slice 5 (.int .u8)), []⟩], [⟨true, tOp, [0, 0, 0, 1]⟩], false, none,
  ((fun x => x.length ≤ 1048576) : (List Int) → Prop),
  ((fun _ => zeroD tOp) : (List Int) → (OpD))⟩
def t_s_DrawShowOp : T :=
  .call 0 (.vr 0) <|
  .call 1 (.vr 1) <|
  .ret (.p1 tOp (.pair (.slice 5 (.int .u8)) tIns) (.vr 2))
set_option maxRecDepth 100000 in
theorem e_s_DrawShowOp (f : (List Int) → (OpD)) : exFn Tryz.prog [c_s_l1New, c_s_l5Any] { k_s_DrawShowOp with fn := f } false 3000 ⟨[], []⟩ = .ok t_s_DrawShowOp := by kernel_rfl
theorem v_s_DrawShowOp (x : List Int) (hx : okD (.slice 5 (.int .u8)) x) (hp : (fun x => x.length ≤ 1048576) x) : t_s_DrawShowOp.wp [c_s_l1New, c_s_l5Any] [⟨(.slice 5 (.int .u8)), x⟩] [] (fun v => (fun x r => r.2.2.2.length ≤ 40 : (List Int) → (OpD) → Prop) x (v.as tOp)) := by
  have hp' : List.length x ≤ 1048576 := hp
  delta t_s_DrawShowOp c_s_l1New c_s_l5Any; refine vcx ?_; try with_reducible exact True.intro
  (refine dcx ?_; try with_reducible exact True.intro)
  refine ⟨hp', fun hc => ⟨Int.le_refl _, fun _ => ?_⟩⟩
  exact (q_s_l5Any (newCur x) hc (Int.le_refl _)).2.1
theorem d_s_DrawShowOp : ∃ f : (List Int) → (OpD), (∀ x, okD (.slice 5 (.int .u8)) x → (fun x => x.length ≤ 1048576) x → (fun x r => r.2.2.2.length ≤ 40 : (List Int) → (OpD) → Prop) x (f x)) ∧ Con.Holds Tryz.prog { k_s_DrawShowOp with fn := f } := rel_ok (C := k_s_DrawShowOp) mixedP (consAt h_s_l1New (consAt h_s_l5Any consNil)) e_s_DrawShowOp (fun x r => r.2.2.2.length ≤ 40 : (List Int) → (OpD) → Prop) fun x hx hp => v_s_DrawShowOp x hx hp
noncomputable def f_s_DrawShowOp : (List Int) → (OpD) := Classical.choose d_s_DrawShowOp
noncomputable def c_s_DrawShowOp : Con := ⟨11, (.slice 5 (.int .u8)), tOp, [.val ⟨false, (.slice 5 (.int .u8)), []⟩], [⟨true, tOp, [0, 0, 0, 1]⟩], false, none,
  ((fun x => x.length ≤ 1048576) : (List Int) → Prop),
  ((f_s_DrawShowOp) : (List Int) → (OpD))⟩
theorem p_s_DrawShowOp : ∀ x, okD (.slice 5 (.int .u8)) x → (fun x => x.length ≤ 1048576) x → (fun x r => r.2.2.2.length ≤ 40 : (List Int) → (OpD) → Prop) x (f_s_DrawShowOp x) := (Classical.choose_spec d_s_DrawShowOp).1
theorem h_s_DrawShowOp : Con.Holds Tryz.prog c_s_DrawShowOp := (Classical.choose_spec d_s_DrawShowOp).2
theorem q_s_DrawShowOp (x : List Int) (hx : okD (.slice 5 (.int .u8)) x) (hp : (fun x => x.length ≤ 1048576) x) : okD tOp (f_s_DrawShowOp x) ∧ (fun x r => r.2.2.2.length ≤ 40 : (List Int) → (OpD) → Prop) x (f_s_DrawShowOp x) := ⟨h_s_DrawShowOp.ok x hp hx, p_s_DrawShowOp x hx hp⟩

/-! spec.DrawShowModel -/

noncomputable def k_s_DrawShowModel : Con := ⟨14, (.slice 5 (.int .u8)), tModel, [.val ⟨false, (.slice 5 (.int .u8)), []⟩], [⟨true, tModel, [0]⟩], false, none,
  ((fun x => x.length ≤ 1048576) : (List Int) → Prop),
  ((fun _ => zeroD tModel) : (List Int) → (ModelD))⟩
def t_s_DrawShowModel : T :=
  .call 0 (.vr 0) <|
  .call 1 (.vr 1) <|
  .ret (.p1 tModel (.pair (.slice 5 (.int .u8)) tIns) (.vr 2))
set_option maxRecDepth 100000 in
theorem e_s_DrawShowModel (f : (List Int) → (ModelD)) : exFn Tryz.prog [c_s_l1New, c_s_l6Any] { k_s_DrawShowModel with fn := f } false 3000 ⟨[], []⟩ = .ok t_s_DrawShowModel := by kernel_rfl
theorem v_s_DrawShowModel (x : List Int) (hx : okD (.slice 5 (.int .u8)) x) (hp : (fun x => x.length ≤ 1048576) x) : t_s_DrawShowModel.wp [c_s_l1New, c_s_l6Any] [⟨(.slice 5 (.int .u8)), x⟩] [] (fun v => (fun x r => r.length ≤ 9 ∧ (∀ o ∈ r, o.2.2.2.length ≤ 40) : (List Int) → (ModelD) → Prop) x (v.as tModel)) := by
  have hp' : List.length x ≤ 1048576 := hp
  delta t_s_DrawShowModel c_s_l1New c_s_l6Any; refine vcx ?_; try with_reducible exact True.intro
  (refine dcx ?_; try with_reducible exact True.intro)
  refine ⟨hp', fun hc => ⟨Int.le_refl _, fun _ => ?_⟩⟩
  have q := (q_s_l6Any (newCur x) hc (Int.le_refl _)).2
  exact ⟨q.1, q.2.1⟩
theorem d_s_DrawShowModel : ∃ f : (List Int) → (ModelD), (∀ x, okD (.slice 5 (.int .u8)) x → (fun x => x.length ≤ 1048576) x → (fun x r => r.length ≤ 9 ∧ (∀ o ∈ r, o.2.2.2.length ≤ 40) : (List Int) → (ModelD) → Prop) x (f x)) ∧ Con.Holds Tryz.prog { k_s_DrawShowModel with fn := f } := rel_ok (C := k_s_DrawShowModel) mixedP (consAt h_s_l1New (consAt h_s_l6Any consNil)) e_s_DrawShowModel (fun x r => r.length ≤ 9 ∧ (∀ o ∈ r, o.2.2.2.length ≤ 40) : (List Int) → (ModelD) → Prop) fun x hx hp => v_s_DrawShowModel x hx hp
noncomputable def f_s_DrawShowModel : (List Int) → (ModelD) := Classical.choose d_s_DrawShowModel
noncomputable def c_s_DrawShowModel : Con := ⟨14, (.slice 5 (.int .u8)), tModel, [.val ⟨false, (.slice 5 (.int .u8)), []⟩], [⟨true, tModel, [0]⟩], false, none,
  ((fun x => x.length ≤ 1048576) : (List Int) → Prop),
  ((f_s_DrawShowModel) : (List Int) → (ModelD))⟩
theorem p_s_DrawShowModel : ∀ x, okD (.slice 5 (.int .u8)) x → (fun x => x.length ≤ 1048576) x → (fun x r => r.length ≤ 9 ∧ (∀ o ∈ r, o.2.2.2.length ≤ 40) : (List Int) → (ModelD) → Prop) x (f_s_DrawShowModel x) := (Classical.choose_spec d_s_DrawShowModel).1
theorem h_s_DrawShowModel : Con.Holds Tryz.prog c_s_DrawShowModel := (Classical.choose_spec d_s_DrawShowModel).2
theorem q_s_DrawShowModel (x : List Int) (hx : okD (.slice 5 (.int .u8)) x) (hp : (fun x => x.length ≤ 1048576) x) : okD tModel (f_s_DrawShowModel x) ∧ (fun x r => r.length ≤ 9 ∧ (∀ o ∈ r, o.2.2.2.length ≤ 40) : (List Int) → (ModelD) → Prop) x (f_s_DrawShowModel x) := ⟨h_s_DrawShowModel.ok x hp hx, p_s_DrawShowModel x hx hp⟩

/-! spec.DrawReadOp -/

noncomputable def k_s_DrawReadOp : Con := ⟨16, (.slice 5 (.int .u8)), .str, [.val ⟨false, (.slice 5 (.int .u8)), []⟩], [⟨false, .str, [0]⟩], false, none,
  ((fun x => x.length ≤ 1048576) : (List Int) → Prop),
  ((fun _ => zeroD .str) : (List Int) → (ByteArray))⟩
def t_s_DrawReadOp : T :=
  .call 0 (.vr 0) <|
  .call 1 (.mk2 (.pair (.slice 5 (.int .u8)) tIns) tI (.vr 1) (.ci .i64 3)) <|
  .prim (.ar .add .i64) (.mk2 tI tI (.ci .i64 1) (.p1 tI (.pair (.slice 5 (.int .u8)) tIns) (.vr 2))) <|
  .call 2 (.mk2 (.pair (.slice 5 (.int .u8)) tIns) tI (prA (.pair tI (.pair (.slice 5 (.int .u8)) tIns)) 1 (.vr 2)) (.vr 3)) <|
  .call 3 (.p1 tOp (.pair (.slice 5 (.int .u8)) tIns) (.vr 4)) <|
  .call 1 (.mk2 (.pair (.slice 5 (.int .u8)) tIns) tI (prA (.pair tOp (.pair (.slice 5 (.int .u8)) tIns)) 1 (.vr 4)) (.ci .i64 5)) <|
  .prim (.cmp .eql .i64) (.mk2 tI tI (.p1 tI (.pair (.slice 5 (.int .u8)) tIns) (.vr 6)) (.ci .i64 0)) <|
  .ite (.vr 7) (
   .call 4 (.mk2 (.pair (.slice 5 (.int .u8)) tIns) .str (prA (.pair tI (.pair (.slice 5 (.int .u8)) tIns)) 1 (.vr 6)) (.vr 5)) <|
   .ret (.p1 .str (.pair (.slice 5 (.int .u8)) tIns) (.vr 8))) (
   .prim (.cmp .eql .i64) (.mk2 tI tI (.p1 tI (.pair (.slice 5 (.int .u8)) tIns) (.vr 6)) (.ci .i64 1)) <|
   .ite (.vr 8) (
    .prim (.lit 9 .str 3) (mkA (.pair .str (.pair .str .str)) [(.cs ⟨#[32]⟩), (.cs ⟨#[32, 49, 43, 48]⟩), (.cs ⟨#[120]⟩)]) <|
    .call 5 (.mk2 (.pair (.slice 5 (.int .u8)) tIns) (.slice 9 .str) (prA (.pair tI (.pair (.slice 5 (.int .u8)) tIns)) 1 (.vr 6)) (.vr 9)) <|
    .prim .sadd (.mk2 .str .str (.vr 5) (.p1 .str (.pair (.slice 5 (.int .u8)) tIns) (.vr 10))) <|
    .ret (.vr 11)) (
    .ret (.vr 5)))
set_option maxRecDepth 100000 in
theorem e_s_DrawReadOp (f : (List Int) → (ByteArray)) : exFn Tryz.prog [c_s_l1New, c_s_l1Below, c_s_l5Op, c_s_ShowOp, c_s_l1Spoil, c_s_l1Pick] { k_s_DrawReadOp with fn := f } false 3000 ⟨[], [(2982, 6009, [24], [])]⟩ = .ok t_s_DrawReadOp := by kernel_rfl
theorem v_s_DrawReadOp (x : List Int) (hx : okD (.slice 5 (.int .u8)) x) (hp : (fun x => x.length ≤ 1048576) x) : t_s_DrawReadOp.wp [c_s_l1New, c_s_l1Below, c_s_l5Op, c_s_ShowOp, c_s_l1Spoil, c_s_l1Pick] [⟨(.slice 5 (.int .u8)), x⟩] [] (fun v => (fun x r => r.size ≤ 1048576 : (List Int) → (ByteArray) → Prop) x (v.as .str)) := by
  have hp' : List.length x ≤ 1048576 := hp
  delta t_s_DrawReadOp c_s_l1New c_s_l1Below c_s_l5Op c_s_ShowOp c_s_l1Spoil c_s_l1Pick; refine vcx ?_; try with_reducible exact True.intro
  (refine dcx ?_; try with_reducible exact True.intro)
  refine ⟨hp', fun hc => ⟨Int.le_refl _, fun _ => ?_⟩⟩
  have q1 := q_s_l1Below (newCur x, 3) ⟨hc, okI (by omega) (by omega)⟩ (Int.le_refl _)
  generalize f_s_l1Below (newCur x, 3) = r at q1 ⊢; obtain ⟨n1, c1⟩ := r; obtain ⟨kq1, uq1⟩ := q1; replace kq1 : okD tCur c1 := kq1.2; dsimp only at uq1 ⊢
  have hn1 : 0 ≤ n1 ∧ n1 < 3 := ⟨uq1.1, uq1.2.1 (by omega)⟩
  have hc1 := uq1.2.2.2
  refine ⟨⟨by omega, by omega⟩, fun _ => ⟨⟨hc1, by omega, by omega⟩, fun _ _ => ?_⟩⟩
  have q2 := q_s_l5Op (c1, 1 + n1) ⟨kq1, okI (by omega) (by omega)⟩ ⟨hc1, by show 1 ≤ 1 + n1; omega, by show 1 + n1 ≤ 6; omega⟩
  generalize f_s_l5Op (c1, 1 + n1) = r at q2 ⊢; obtain ⟨o2, c2⟩ := r; obtain ⟨kq2, uq2⟩ := q2; replace kq2 : okD tCur c2 := kq2.2; dsimp only at uq2 ⊢
  have hc2 := uq2.2
  have hz := opT_size o2
  generalize opT o2 = t at hz ⊢
  refine ⟨hc2, fun _ => ?_⟩
  have q3 := q_s_l1Below (c2, 5) ⟨kq2, okI (by omega) (by omega)⟩ hc2
  generalize f_s_l1Below (c2, 5) = r at q3 ⊢; obtain ⟨n3, c3⟩ := r; obtain ⟨kq3, uq3⟩ := q3; replace kq3 : okD tCur c3 := kq3.2; dsimp only at uq3 ⊢
  have hc3 := uq3.2.2.2
  refine ⟨fun _ => ⟨⟨hc3, by omega⟩, fun _ => ?_⟩, fun _ => ⟨fun _ hl => ?_, fun _ => by omega⟩⟩
  · have q4 := (q_s_l1Spoil (c3, t) ⟨kq3, by show t.size ≤ maxLen; unfold maxLen; omega⟩ ⟨hc3, by show t.size ≤ 1000000; omega⟩).2.1
    omega
  · refine ⟨⟨hc3, by simp⟩, fun _ => ?_⟩
    have q4 := (q_s_l1Pick (c3, [⟨#[32]⟩, ⟨#[32, 49, 43, 48]⟩, ⟨#[120]⟩]) ⟨kq3, hl⟩ ⟨hc3, by simp⟩).2.1
    generalize f_s_l1Pick (c3, [⟨#[32]⟩, ⟨#[32, 49, 43, 48]⟩, ⟨#[120]⟩]) = r at q4 ⊢
    obtain ⟨u, c4⟩ := r
    have hu : u.size ≤ 4 := by
      simp only [List.mem_cons, List.mem_nil_iff, or_false] at q4
      rcases q4 with e | e | e <;> (rw [e]; decide)
    (repeat' first | intro _ | (with_reducible apply And.intro))
    all_goals first | omega | ((try simp only [ba_size]); (try unfold maxLen); omega)
theorem d_s_DrawReadOp : ∃ f : (List Int) → (ByteArray), (∀ x, okD (.slice 5 (.int .u8)) x → (fun x => x.length ≤ 1048576) x → (fun x r => r.size ≤ 1048576 : (List Int) → (ByteArray) → Prop) x (f x)) ∧ Con.Holds Tryz.prog { k_s_DrawReadOp with fn := f } := rel_ok (C := k_s_DrawReadOp) mixedP (consAt h_s_l1New (consAt h_s_l1Below (consAt h_s_l5Op (consAt h_s_ShowOp (consAt h_s_l1Spoil (consAt h_s_l1Pick consNil)))))) e_s_DrawReadOp (fun x r => r.size ≤ 1048576 : (List Int) → (ByteArray) → Prop) fun x hx hp => v_s_DrawReadOp x hx hp
noncomputable def f_s_DrawReadOp : (List Int) → (ByteArray) := Classical.choose d_s_DrawReadOp
noncomputable def c_s_DrawReadOp : Con := ⟨16, (.slice 5 (.int .u8)), .str, [.val ⟨false, (.slice 5 (.int .u8)), []⟩], [⟨false, .str, [0]⟩], false, none,
  ((fun x => x.length ≤ 1048576) : (List Int) → Prop),
  ((f_s_DrawReadOp) : (List Int) → (ByteArray))⟩
theorem p_s_DrawReadOp : ∀ x, okD (.slice 5 (.int .u8)) x → (fun x => x.length ≤ 1048576) x → (fun x r => r.size ≤ 1048576 : (List Int) → (ByteArray) → Prop) x (f_s_DrawReadOp x) := (Classical.choose_spec d_s_DrawReadOp).1
theorem h_s_DrawReadOp : Con.Holds Tryz.prog c_s_DrawReadOp := (Classical.choose_spec d_s_DrawReadOp).2
theorem q_s_DrawReadOp (x : List Int) (hx : okD (.slice 5 (.int .u8)) x) (hp : (fun x => x.length ≤ 1048576) x) : okD .str (f_s_DrawReadOp x) ∧ (fun x r => r.size ≤ 1048576 : (List Int) → (ByteArray) → Prop) x (f_s_DrawReadOp x) := ⟨h_s_DrawReadOp.ok x hp hx, p_s_DrawReadOp x hx hp⟩

/-! spec.DrawReadModel -/

noncomputable def k_s_DrawReadModel : Con := ⟨17, (.slice 5 (.int .u8)), .str, [.val ⟨false, (.slice 5 (.int .u8)), []⟩], [⟨false, .str, [0]⟩], false, none,
  ((fun x => x.length ≤ 1048576) : (List Int) → Prop),
  ((fun _ => zeroD .str) : (List Int) → (ByteArray))⟩
def t_s_DrawReadModel : T :=
  .call 0 (.vr 0) <|
  .call 1 (.vr 1) <|
  .call 2 (.p1 tModel (.pair (.slice 5 (.int .u8)) tIns) (.vr 2)) <|
  .call 3 (.mk2 (.pair (.slice 5 (.int .u8)) tIns) tI (prA (.pair tModel (.pair (.slice 5 (.int .u8)) tIns)) 1 (.vr 2)) (.ci .i64 5)) <|
  .prim (.cmp .eql .i64) (.mk2 tI tI (.p1 tI (.pair (.slice 5 (.int .u8)) tIns) (.vr 4)) (.ci .i64 0)) <|
  .ite (.vr 5) (
   .call 4 (.mk2 (.pair (.slice 5 (.int .u8)) tIns) .str (prA (.pair tI (.pair (.slice 5 (.int .u8)) tIns)) 1 (.vr 4)) (.vr 3)) <|
   .ret (.p1 .str (.pair (.slice 5 (.int .u8)) tIns) (.vr 6))) (
   .prim (.cmp .eql .i64) (.mk2 tI tI (.p1 tI (.pair (.slice 5 (.int .u8)) tIns) (.vr 4)) (.ci .i64 1)) <|
   .ite (.vr 6) (
    .prim .slen (.vr 3) <|
    .prim (.ar .add .i64) (.mk2 tI tI (.vr 7) (.ci .i64 1)) <|
    .call 3 (.mk2 (.pair (.slice 5 (.int .u8)) tIns) tI (prA (.pair tI (.pair (.slice 5 (.int .u8)) tIns)) 1 (.vr 4)) (.vr 8)) <|
    .prim .ssub (mkA (.pair .str tIns) [(.vr 3), (.ci .i64 0), (.p1 tI (.pair (.slice 5 (.int .u8)) tIns) (.vr 9))]) <|
    .ret (.vr 10)) (
    .ret (.vr 3)))
set_option maxRecDepth 100000 in
theorem e_s_DrawReadModel (f : (List Int) → (ByteArray)) : exFn Tryz.prog [c_s_l1New, c_s_l6Model, c_s_ShowModel, c_s_l1Below, c_s_l1Spoil] { k_s_DrawReadModel with fn := f } false 3000 ⟨[], []⟩ = .ok t_s_DrawReadModel := by kernel_rfl
theorem v_s_DrawReadModel (x : List Int) (hx : okD (.slice 5 (.int .u8)) x) (hp : (fun x => x.length ≤ 1048576) x) : t_s_DrawReadModel.wp [c_s_l1New, c_s_l6Model, c_s_ShowModel, c_s_l1Below, c_s_l1Spoil] [⟨(.slice 5 (.int .u8)), x⟩] [] (fun v => (fun x r => r.size ≤ 1048576 : (List Int) → (ByteArray) → Prop) x (v.as .str)) := by
  have hp' : List.length x ≤ 1048576 := hp
  delta t_s_DrawReadModel c_s_l1New c_s_l6Model c_s_ShowModel c_s_l1Below c_s_l1Spoil; refine vcx ?_; try with_reducible exact True.intro
  (refine dcx ?_; try with_reducible exact True.intro)
  refine ⟨hp', fun hc => ⟨Int.le_refl _, fun _ => ?_⟩⟩
  have q1 := q_s_l6Model (newCur x) hc (Int.le_refl _)
  generalize f_s_l6Model (newCur x) = r at q1 ⊢; obtain ⟨m1, c1⟩ := r; obtain ⟨kq1, uq1⟩ := q1; replace kq1 : okD tCur c1 := kq1.2; dsimp only at uq1 ⊢
  have hc1 := uq1.2.2.2
  have hz : (modelT m1).size ≤ 12000 := by
    have h1 := modS_size m1
    have h2 : List.length m1 ≤ 6 := uq1.2.1
    unfold modelT
    split
    · omega
    · exact Nat.zero_le _
  generalize modelT m1 = t at hz ⊢
  refine fun _ => ⟨hc1, fun _ => ?_⟩
  have q3 := q_s_l1Below (c1, 5) ⟨kq1, okI (by omega) (by omega)⟩ hc1
  generalize f_s_l1Below (c1, 5) = r at q3 ⊢; obtain ⟨n3, c3⟩ := r; obtain ⟨kq3, uq3⟩ := q3; replace kq3 : okD tCur c3 := kq3.2; dsimp only at uq3 ⊢
  have hc3 := uq3.2.2.2
  have q4 := (q_s_l1Spoil (c3, t) ⟨kq3, by show t.size ≤ maxLen; unfold maxLen; omega⟩ ⟨hc3, by show t.size ≤ 1000000; omega⟩).2.1
  have q5 := (q_s_l1Below (c3, (t.size : Int) + 1) ⟨kq3, okI (by omega) (by omega)⟩ hc3).2
  dsimp only at q5
  (repeat' first | intro _ | (with_reducible apply And.intro))
  all_goals first | omega | ((try simp only [ByteArray.size_extract]); (try unfold maxLen); omega) | exact hc3 | skip
theorem d_s_DrawReadModel : ∃ f : (List Int) → (ByteArray), (∀ x, okD (.slice 5 (.int .u8)) x → (fun x => x.length ≤ 1048576) x → (fun x r => r.size ≤ 1048576 : (List Int) → (ByteArray) → Prop) x (f x)) ∧ Con.Holds Tryz.prog { k_s_DrawReadModel with fn := f } := rel_ok (C := k_s_DrawReadModel) mixedP (consAt h_s_l1New (consAt h_s_l6Model (consAt h_s_ShowModel (consAt h_s_l1Below (consAt h_s_l1Spoil consNil))))) e_s_DrawReadModel (fun x r => r.size ≤ 1048576 : (List Int) → (ByteArray) → Prop) fun x hx hp => v_s_DrawReadModel x hx hp
noncomputable def f_s_DrawReadModel : (List Int) → (ByteArray) := Classical.choose d_s_DrawReadModel
noncomputable def c_s_DrawReadModel : Con := ⟨17, (.slice 5 (.int .u8)), .str, [.val ⟨false, (.slice 5 (.int .u8)), []⟩], [⟨false, .str, [0]⟩], false, none,
  ((fun x => x.length ≤ 1048576) : (List Int) → Prop),
  ((f_s_DrawReadModel) : (List Int) → (ByteArray))⟩
theorem p_s_DrawReadModel : ∀ x, okD (.slice 5 (.int .u8)) x → (fun x => x.length ≤ 1048576) x → (fun x r => r.size ≤ 1048576 : (List Int) → (ByteArray) → Prop) x (f_s_DrawReadModel x) := (Classical.choose_spec d_s_DrawReadModel).1
theorem h_s_DrawReadModel : Con.Holds Tryz.prog c_s_DrawReadModel := (Classical.choose_spec d_s_DrawReadModel).2
theorem q_s_DrawReadModel (x : List Int) (hx : okD (.slice 5 (.int .u8)) x) (hp : (fun x => x.length ≤ 1048576) x) : okD .str (f_s_DrawReadModel x) ∧ (fun x r => r.size ≤ 1048576 : (List Int) → (ByteArray) → Prop) x (f_s_DrawReadModel x) := ⟨h_s_DrawReadModel.ok x hp hx, p_s_DrawReadModel x hx hp⟩

/-! spec.SameModel -/

noncomputable def c_s_SameModel : Con := ⟨21, (.pair tModel tModel), .bool, [.val ⟨true, tModel, []⟩, .val ⟨true, tModel, []⟩], [⟨false, .bool, [0]⟩], false, none,
  ((fun _ => True) : (ModelD × ModelD) → Prop),
  ((fun x => eqB x.1 x.2) : (ModelD × ModelD) → (Bool))⟩
def t_s_SameModel : T :=
  .prim (.llen 34 tOp) (.p1 tModel tModel (.vr 0)) <|
  .prim (.llen 34 tOp) (prA (.pair tModel tModel) 1 (.vr 0)) <|
  .prim (.cmp .neq .i64) (.mk2 tI tI (.vr 1) (.vr 2)) <|
  .ite (.vr 3) (
   .ret (.cb false)) (
   .loop tI (.ci .i64 0) <|
    .prim (.llen 34 tOp) (.p1 tModel tModel (.vr 0)) <|
    .prim (.cmp .lss .i64) (.mk2 tI tI (.vr 4) (.vr 5)) <|
    .ite (.vr 6) (
     .prim (.lidx 34 tOp) (.mk2 tModel tI (.p1 tModel tModel (.vr 0)) (.vr 4)) <|
     .prim (.lidx 34 tOp) (.mk2 tModel tI (prA (.pair tModel tModel) 1 (.vr 0)) (.vr 4)) <|
     .call 0 (.mk2 tOp tOp (.vr 7) (.vr 8)) <|
     .prim .not (.vr 9) <|
     .ite (.vr 10) (
      .ret (.cb false)) (
      .prim (.ar .add .i64) (.mk2 tI tI (.vr 4) (.ci .i64 1)) <|
      .again 0 (.vr 11))) (
     .ret (.cb true)))
set_option maxRecDepth 100000 in
theorem e_s_SameModel : exFn Tryz.prog [c_s_SameOp] c_s_SameModel false 3000 ⟨[(2988, 2004, drd 12 6 ++ [.dr 0, .dr 1, .tm 5 0])], []⟩ = .ok t_s_SameModel := by kernel_rfl
/- loops: Int -/
theorem v_s_SameModel (x : ModelD × ModelD) (hx : okD (.pair tModel tModel) x) (hp : (fun _ => True) x) : t_s_SameModel.wp [c_s_SameOp] [⟨(.pair tModel tModel), x⟩] [] (fun v => v.as .bool = (fun x => eqB x.1 x.2) x) := by
  obtain ⟨a, b⟩ := x
  have hm : a.length ≤ 9223372036854775807 := by have : a.length ≤ maxLen := hx.1.1; unfold maxLen at this; omega
  delta t_s_SameModel c_s_SameOp; refine vcx ?_; try with_reducible exact True.intro
  simp only [neqI_t, neqI_f, lenN, notB_t, notB_f, eqB_iff, eqB_no]
  refine fun _ _ => ⟨fun h => eqF fun e => h (by rw [e]), fun hl => ?_⟩
  refine ⟨fun s => ∃ k : Nat, k ≤ a.length ∧ s = (k : Int) ∧ ∀ i, i < k → a.getD i (zeroD tOp) = b.getD i (zeroD tOp), fun s => a.length - (s : Int).toNat, ⟨0, by omega, rfl, by omega⟩, fun s _ hI => ?_⟩
  obtain ⟨k, hk, rfl, ha⟩ := hI
  (refine dcx ?_; try with_reducible exact True.intro)
  refine fun _ => ?_
  constructor
  · intro hlt
    (repeat' first | intro _ | (with_reducible apply And.intro))
    all_goals first | omega | (exact eqF fun e => ‹¬ _ = _› (by rw [e])) | skip
    refine ⟨k + 1, by omega, rfl, fun i hi => ?_⟩
    rcases Nat.lt_or_eq_of_le (Nat.le_of_lt_succ hi) with h | rfl
    · exact ha i h
    · assumption
  · intro hge
    exact eqT (ext_getD hl fun i hi => ha i (by omega))
theorem h_s_SameModel : Con.Holds Tryz.prog c_s_SameModel := tree_ok mixedP (consAt h_s_SameOp consNil) e_s_SameModel fun x hx hp => v_s_SameModel x hx hp

/-! laws.FnTexts -/

noncomputable def c_w_FnTexts : Con := ⟨4, (.slice 5 (.int .u8)), .bool, [.val ⟨false, (.slice 5 (.int .u8)), []⟩], [⟨false, .bool, [0]⟩], false, none,
  ((fun _ => True) : (List Int) → Prop),
  ((fun _ => true) : (List Int) → (Bool))⟩
def t_w_FnTexts : T :=
  .call 0 (.vr 0) <|
  .ite (.vr 1) (
   .ret (.cb true)) (
   .call 1 (.vr 0) <|
   .call 2 (.vr 2) <|
   .call 3 (.vr 3) <|
   .call 4 (.vr 0) <|
   .call 5 (.vr 5) <|
   .call 6 (.vr 6) <|
   .call 7 (.vr 0) <|
   .call 3 (.vr 8) <|
   .call 8 (.vr 0) <|
   .call 6 (.vr 10) <|
   .prim (.seq true) (.mk2 .str .str (.vr 3) (.cs ⟨#[]⟩)) <|
   .call 9 (.vr 2) <|
   .prim (.eqv false .bool) (.mk2 .bool .bool (.vr 12) (.vr 13)) <|
   .ite (.vr 14) (
    .prim (.seq true) (.mk2 .str .str (.vr 3) (.cs ⟨#[]⟩)) <|
    .prim (.eqv false .bool) (.mk2 .bool .bool (prA (.pair tOp .bool) 1 (.vr 4)) (.vr 15)) <|
    .ite (.vr 16) (
     .prim .not (prA (.pair tOp .bool) 1 (.vr 4)) <|
     .ite (.vr 17) (
      .prim (.seq true) (.mk2 .str .str (.vr 6) (.cs ⟨#[]⟩)) <|
      .call 10 (.vr 5) <|
      .prim (.eqv false .bool) (.mk2 .bool .bool (.vr 18) (.vr 19)) <|
      .ite (.vr 20) (
       .prim (.seq true) (.mk2 .str .str (.vr 6) (.cs ⟨#[]⟩)) <|
       .prim (.eqv false .bool) (.mk2 .bool .bool (prA (.pair tModel .bool) 1 (.vr 7)) (.vr 21)) <|
       .ite (.vr 22) (
        .prim .not (prA (.pair tModel .bool) 1 (.vr 7)) <|
        .ite (.vr 23) (
         .prim .not (prA (.pair tOp .bool) 1 (.vr 9)) <|
         .ite (.vr 24) (
          .prim .not (prA (.pair tModel .bool) 1 (.vr 11)) <|
          .ite (.vr 25) (
           .ret (.cb true)) (
           .call 5 (.p1 tModel .bool (.vr 11)) <|
           .prim (.seq false) (.mk2 .str .str (.vr 26) (.vr 10)) <|
           .ret (.vr 27))) (
          .call 2 (.p1 tOp .bool (.vr 9)) <|
          .prim (.seq false) (.mk2 .str .str (.vr 25) (.vr 8)) <|
          .ite (.vr 26) (
           .prim .not (prA (.pair tModel .bool) 1 (.vr 11)) <|
           .ite (.vr 27) (
            .ret (.cb true)) (
            .call 5 (.p1 tModel .bool (.vr 11)) <|
            .prim (.seq false) (.mk2 .str .str (.vr 28) (.vr 10)) <|
            .ret (.vr 29))) (
           .ret (.cb false)))) (
         .call 11 (.mk2 tModel tModel (.p1 tModel .bool (.vr 7)) (.vr 5)) <|
         .ite (.vr 24) (
          .prim .not (prA (.pair tOp .bool) 1 (.vr 9)) <|
          .ite (.vr 25) (
           .prim .not (prA (.pair tModel .bool) 1 (.vr 11)) <|
           .ite (.vr 26) (
            .ret (.cb true)) (
            .call 5 (.p1 tModel .bool (.vr 11)) <|
            .prim (.seq false) (.mk2 .str .str (.vr 27) (.vr 10)) <|
            .ret (.vr 28))) (
           .call 2 (.p1 tOp .bool (.vr 9)) <|
           .prim (.seq false) (.mk2 .str .str (.vr 26) (.vr 8)) <|
           .ite (.vr 27) (
            .prim .not (prA (.pair tModel .bool) 1 (.vr 11)) <|
            .ite (.vr 28) (
             .ret (.cb true)) (
             .call 5 (.p1 tModel .bool (.vr 11)) <|
             .prim (.seq false) (.mk2 .str .str (.vr 29) (.vr 10)) <|
             .ret (.vr 30))) (
            .ret (.cb false)))) (
          .ret (.cb false)))) (
        .ret (.cb false))) (
       .ret (.cb false))) (
      .call 12 (.mk2 tOp tOp (.p1 tOp .bool (.vr 4)) (.vr 2)) <|
      .ite (.vr 18) (
       .prim (.seq true) (.mk2 .str .str (.vr 6) (.cs ⟨#[]⟩)) <|
       .call 10 (.vr 5) <|
       .prim (.eqv false .bool) (.mk2 .bool .bool (.vr 19) (.vr 20)) <|
       .ite (.vr 21) (
        .prim (.seq true) (.mk2 .str .str (.vr 6) (.cs ⟨#[]⟩)) <|
        .prim (.eqv false .bool) (.mk2 .bool .bool (prA (.pair tModel .bool) 1 (.vr 7)) (.vr 22)) <|
        .ite (.vr 23) (
         .prim .not (prA (.pair tModel .bool) 1 (.vr 7)) <|
         .ite (.vr 24) (
          .prim .not (prA (.pair tOp .bool) 1 (.vr 9)) <|
          .ite (.vr 25) (
           .prim .not (prA (.pair tModel .bool) 1 (.vr 11)) <|
           .ite (.vr 26) (
            .ret (.cb true)) (
            .call 5 (.p1 tModel .bool (.vr 11)) <|
            .prim (.seq false) (.mk2 .str .str (.vr 27) (.vr 10)) <|
            .ret (.vr 28))) (
           .call 2 (.p1 tOp .bool (.vr 9)) <|
           .prim (.seq false) (.mk2 .str .str (.vr 26) (.vr 8)) <|
           .ite (.vr 27) (
            .prim .not (prA (.pair tModel .bool) 1 (.vr 11)) <|
            .ite (.vr 28) (
             .ret (.cb true)) (
             .call 5 (.p1 tModel .bool (.vr 11)) <|
             .prim (.seq false) (.mk2 .str .str (.vr 29) (.vr 10)) <|
             .ret (.vr 30))) (
            .ret (.cb false)))) (
          .call 11 (.mk2 tModel tModel (.p1 tModel .bool (.vr 7)) (.vr 5)) <|
          .ite (.vr 25) (
           .prim .not (prA (.pair tOp .bool) 1 (.vr 9)) <|
           .ite (.vr 26) (
            .prim .not (prA (.pair tModel .bool) 1 (.vr 11)) <|
            .ite (.vr 27) (
             .ret (.cb true)) (
             .call 5 (.p1 tModel .bool (.vr 11)) <|
             .prim (.seq false) (.mk2 .str .str (.vr 28) (.vr 10)) <|
             .ret (.vr 29))) (
            .call 2 (.p1 tOp .bool (.vr 9)) <|
            .prim (.seq false) (.mk2 .str .str (.vr 27) (.vr 8)) <|
            .ite (.vr 28) (
             .prim .not (prA (.pair tModel .bool) 1 (.vr 11)) <|
             .ite (.vr 29) (
              .ret (.cb true)) (
              .call 5 (.p1 tModel .bool (.vr 11)) <|
              .prim (.seq false) (.mk2 .str .str (.vr 30) (.vr 10)) <|
              .ret (.vr 31))) (
             .ret (.cb false)))) (
           .ret (.cb false)))) (
         .ret (.cb false))) (
        .ret (.cb false))) (
       .ret (.cb false)))) (
     .ret (.cb false))) (
    .ret (.cb false)))
set_option maxRecDepth 100000 in
theorem e_w_FnTexts : exFn Tryz.prog [c_w_big, c_s_DrawShowOp, c_i_ShowOp, c_i_ReadOp, c_s_DrawShowModel, c_i_ShowModel, c_i_ReadModel, c_s_DrawReadOp, c_s_DrawReadModel, c_s_OpOk, c_s_ModelOk, c_s_SameModel, c_s_SameOp] c_w_FnTexts false 3000 ⟨[], []⟩ = .ok t_w_FnTexts := by kernel_rfl
theorem v_w_FnTexts (x : List Int) (hx : okD (.slice 5 (.int .u8)) x) (hp : (fun _ => True) x) : t_w_FnTexts.wp [c_w_big, c_s_DrawShowOp, c_i_ShowOp, c_i_ReadOp, c_s_DrawShowModel, c_i_ShowModel, c_i_ReadModel, c_s_DrawReadOp, c_s_DrawReadModel, c_s_OpOk, c_s_ModelOk, c_s_SameModel, c_s_SameOp] [⟨(.slice 5 (.int .u8)), x⟩] [] (fun v => v.as .bool = (fun _ => true) x) := by
  delta t_w_FnTexts c_w_big c_s_DrawShowOp c_i_ShowOp c_i_ReadOp c_s_DrawShowModel c_i_ShowModel c_i_ReadModel c_s_DrawReadOp c_s_DrawReadModel c_s_OpOk c_s_ModelOk c_s_SameModel c_s_SameOp; refine vcx ?_; try with_reducible exact True.intro
  (refine dcx ?_; try with_reducible exact True.intro)
  refine ⟨fun _ => trivial, fun hb => ⟨by omega, fun _ _ => ?_⟩⟩
  have hx' : List.length x ≤ 1048576 := by omega
  have a1 := (q_s_DrawReadOp x hx hx').2
  have a2 := (q_s_DrawReadModel x hx hx').2
  have a3 := (q_s_DrawShowModel x hx hx').2.1
  generalize f_s_DrawShowOp x = o
  generalize f_s_DrawShowModel x = m at a3 ⊢
  generalize f_s_DrawReadOp x = a at a1 ⊢
  generalize f_s_DrawReadModel x = d at a2 ⊢
  change ByteArray.size a ≤ 1048576 at a1
  change ByteArray.size d ≤ 1048576 at a2
  change List.length m ≤ 9 at a3
  have z1 := opT_size o
  have z2 : (modelT m).size ≤ 1048576 := by
    have h1 := modS_size m
    unfold modelT
    split
    · omega
    · exact Nat.zero_le _
  refine ⟨by omega, fun _ => ⟨hx', fun _ _ => ⟨z2, fun _ => ⟨hx', fun _ => ⟨a1, fun _ => ⟨hx', fun _ => ⟨a2, fun _ => ?_⟩⟩⟩⟩⟩⟩⟩
  have e5 : opB o = true → rdOp (opT o) = (o, true) := fun h => rdOp_opT h
  have e6 : modelB m = true → rdModel (modelT m) = (m, true) := fun h => rdModel_yes h rfl
  have e7 : opB o = false → opT o = ⟨#[]⟩ := fun h => by unfold opT; rw [if_neg (by rw [h]; decide)]
  have e8 : modelB m = false → modelT m = ⟨#[]⟩ := fun h => by unfold modelT; rw [if_neg (by rw [h]; decide)]
  have e9 : (rdOp ⟨#[]⟩) = (zeroD tOp, false) := (rdOp_no fun o h e => opT_ne h e).symm
  have e10 : (rdModel ⟨#[]⟩) = ([], false) := (rdModel_no fun o h e => modelT_ne h e).symm
  have r1 : (rdOp a).2 = true → opT (rdOp a).1 = a := fun h => (rdOp_t h).2
  have r2 : (rdModel d).2 = true → modelT (rdModel d).1 = d := fun h => (rdModel_t h).2
  generalize rdOp a = A at r1 ⊢
  generalize rdModel d = D at r2 ⊢
  obtain ⟨A1, A2⟩ := A
  obtain ⟨D1, D2⟩ := D
  dsimp only at r1 r2 ⊢
  have n1 : opB o = true → ¬ opT o = ⟨#[]⟩ := fun h => opT_ne h
  have n2 : modelB m = true → ¬ modelT m = ⟨#[]⟩ := fun h => modelT_ne h
  clear a1 a2 a3 z1 z2 hx' hb hx hp
  cases h1 : opB o with
  | true =>
    rw [e5 h1, decide_eq_false (n1 h1)]
    cases h2 : modelB m with
    | true =>
      rw [e6 h2, decide_eq_false (n2 h2)]
      clear e5 e6 e7 e8 e9 e10 n1 n2 h1 h2
      dsimp only [beqD, bne, BEq.beq]
      (repeat' first | intro _ | (with_reducible apply And.intro))
      all_goals first | trivial | (exact absurd (r2 (by assumption)) (by assumption)) | (exact absurd (r1 (by assumption)) (by assumption)) | (exact absurd rfl (eqB_no.1 (by assumption))) | (exact absurd ‹true = false› (by decide)) | (exact absurd ‹false = true› (by decide)) | (exact absurd (show true = true from rfl) (by assumption)) | skip
    | false =>
      rw [e8 h2, e10, decide_eq_true rfl]
      clear e5 e6 e7 e8 e9 e10 n1 n2 h1 h2
      dsimp only [beqD, bne, BEq.beq]
      (repeat' first | intro _ | (with_reducible apply And.intro))
      all_goals first | trivial | (exact absurd (r2 (by assumption)) (by assumption)) | (exact absurd (r1 (by assumption)) (by assumption)) | (exact absurd rfl (eqB_no.1 (by assumption))) | (exact absurd ‹true = false› (by decide)) | (exact absurd ‹false = true› (by decide)) | (exact absurd (show true = true from rfl) (by assumption)) | skip
  | false =>
    rw [e7 h1, e9, decide_eq_true rfl]
    cases h2 : modelB m with
    | true =>
      rw [e6 h2, decide_eq_false (n2 h2)]
      clear e5 e6 e7 e8 e9 e10 n1 n2 h1 h2
      dsimp only [beqD, bne, BEq.beq]
      (repeat' first | intro _ | (with_reducible apply And.intro))
      all_goals first | trivial | (exact absurd (r2 (by assumption)) (by assumption)) | (exact absurd (r1 (by assumption)) (by assumption)) | (exact absurd rfl (eqB_no.1 (by assumption))) | (exact absurd ‹true = false› (by decide)) | (exact absurd ‹false = true› (by decide)) | (exact absurd (show true = true from rfl) (by assumption)) | skip
    | false =>
      rw [e8 h2, e10, decide_eq_true rfl]
      clear e5 e6 e7 e8 e9 e10 n1 n2 h1 h2
      dsimp only [beqD, bne, BEq.beq]
      (repeat' first | intro _ | (with_reducible apply And.intro))
      all_goals first | trivial | (exact absurd (r2 (by assumption)) (by assumption)) | (exact absurd (r1 (by assumption)) (by assumption)) | (exact absurd rfl (eqB_no.1 (by assumption))) | (exact absurd ‹true = false› (by decide)) | (exact absurd ‹false = true› (by decide)) | (exact absurd (show true = true from rfl) (by assumption)) | skip
theorem h_w_FnTexts : Con.Holds Tryz.prog c_w_FnTexts := tree_ok mixedP (consAt h_w_big (consAt h_s_DrawShowOp (consAt h_i_ShowOp (consAt h_i_ReadOp (consAt h_s_DrawShowModel (consAt h_i_ShowModel (consAt h_i_ReadModel (consAt h_s_DrawReadOp (consAt h_s_DrawReadModel (consAt h_s_OpOk (consAt h_s_ModelOk (consAt h_s_SameModel (consAt h_s_SameOp consNil))))))))))))) e_w_FnTexts fun x hx hp => v_w_FnTexts x hx hp
end Go.Proofs.YtllphmcjocidaaaGreatDoor
