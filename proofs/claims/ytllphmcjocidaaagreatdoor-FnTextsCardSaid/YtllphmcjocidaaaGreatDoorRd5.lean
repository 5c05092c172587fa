/- Rd5: trees, and what they say. -/
import Derived.Test.YtllphmcjocidaaaGreatDoorRdC
namespace Go.Proofs.YtllphmcjocidaaaGreatDoor
open Go.ChangeShapes Go.WideShapes Go.ChangeAt Go.RowKit Go.Deep
set_option linter.unusedVariables false
set_option linter.unusedSimpArgs false
theorem pre_ok (x : ByteArray) : (x.data.toList = if (cutPre x dashB).2 = true then 45 :: (cutPre x dashB).1.data.toList else (cutPre x dashB).1.data.toList) ∧ ((cutPre x dashB).2 = false → x.data.toList[0]? ≠ some 45) := by
  unfold cutPre
  rw [ofL_list, dash_list]
  unfold Go.Lib.trimPrefix Go.Lib.hasPrefix
  cases x.data.toList with
  | nil => exact ⟨rfl, fun _ h => by cases h⟩
  | cons b l =>
    by_cases hb : (45 : UInt8) = b
    · subst hb
      simp [List.isPrefixOf]
    · simp [List.isPrefixOf, hb, Ne.symm hb]
theorem fix_all {x : ByteArray} {a : Int} (ha : fixB a = true) (e : fixT a = x) : cut3 (cutPre x dashB).1 plusB = (decS ((a.natAbs : Int) / 65536), (decS ((a.natAbs : Int) % 65536), true)) ∧ ((cutPre x dashB).2 = true ↔ a < 0) ∧ (a.natAbs : Int) ≤ 2147483647 := by
  obtain ⟨g1, g2⟩ := pre_ok x
  obtain ⟨h1, h2⟩ := fix_parts g1 g2 ha e
  have hb := (fixB_iff a).1 ha
  have n43 : (43 : UInt8) ∉ Go.Lib.itoa ((a.natAbs : Int) / 65536) := no_byte _ (by decide) (.inl (by decide))
  refine ⟨?_, h2, by omega⟩
  unfold cut3
  rw [plus_list, h1]
  unfold Go.Lib.cut
  rw [idx_at n43, if_pos (by omega), Int.toNat_natCast, List.take_left]
  have e2 : (Go.Lib.itoa ((a.natAbs : Int) / 65536) ++ 43 :: Go.Lib.itoa ((a.natAbs : Int) % 65536)).drop ((Go.Lib.itoa ((a.natAbs : Int) / 65536)).length + [(43 : UInt8)].length) = Go.Lib.itoa ((a.natAbs : Int) % 65536) := by
    rw [List.length_singleton, List.drop_append]; simp
  rw [e2]; rfl

/-! impl.ReadFix -/

noncomputable def c_i_ReadFix : Con := ⟨40, .str, (.pair tI .bool), [.val ⟨false, .str, []⟩], [⟨false, tI, [0]⟩, ⟨false, .bool, [0]⟩], false, none,
  ((fun x => x.size ≤ 1048576) : (ByteArray) → Prop),
  ((fun x => rdFix x) : (ByteArray) → (Int × Bool))⟩
def t_i_ReadFix : T :=
  .call 0 (.mk2 .str .str (.vr 0) (.cs ⟨#[45]⟩)) <|
  .call 1 (.mk2 .str .str (.p1 .str .bool (.vr 1)) (.cs ⟨#[43]⟩)) <|
  .call 2 (.p1 .str (.pair .str .bool) (.vr 2)) <|
  .call 2 (pjA (.pair .str (.pair .str .bool)) 1 (.vr 2)) <|
  .prim .not (prA (.pair tI .bool) 1 (.vr 3)) <|
  .ite (.vr 5) (
   .ret (.mk2 tI .bool (.ci .i64 0) (.cb false))) (
   .prim .not (prA (.pair tI .bool) 1 (.vr 4)) <|
   .ite (.vr 6) (
    .ret (.mk2 tI .bool (.ci .i64 0) (.cb false))) (
    .prim (.cmp .lss .i64) (.mk2 tI tI (.p1 tI .bool (.vr 3)) (.ci .i64 0)) <|
    .ite (.vr 7) (
     .ret (.mk2 tI .bool (.ci .i64 0) (.cb false))) (
     .prim (.cmp .gtr .i64) (.mk2 tI tI (.p1 tI .bool (.vr 3)) (.ci .i64 32767)) <|
     .ite (.vr 8) (
      .ret (.mk2 tI .bool (.ci .i64 0) (.cb false))) (
      .prim (.cmp .lss .i64) (.mk2 tI tI (.p1 tI .bool (.vr 4)) (.ci .i64 0)) <|
      .ite (.vr 9) (
       .ret (.mk2 tI .bool (.ci .i64 0) (.cb false))) (
       .prim (.cmp .geq .i64) (.mk2 tI tI (.p1 tI .bool (.vr 4)) (.ci .i64 65536)) <|
       .ite (.vr 10) (
        .ret (.mk2 tI .bool (.ci .i64 0) (.cb false))) (
        .prim (.ar .mul .i64) (.mk2 tI tI (.p1 tI .bool (.vr 3)) (.ci .i64 65536)) <|
        .prim (.ar .add .i64) (.mk2 tI tI (.vr 11) (.p1 tI .bool (.vr 4))) <|
        .ite (prA (.pair .str .bool) 1 (.vr 1)) (
         .prim (.neg .i64) (.vr 12) <|
         .call 3 (.vr 13) <|
         .prim (.seq true) (.mk2 .str .str (.vr 14) (.vr 0)) <|
         .ite (.vr 15) (
          .ret (.mk2 tI .bool (.ci .i64 0) (.cb false))) (
          .ret (.mk2 tI .bool (.vr 13) (.cb true)))) (
         .call 3 (.vr 12) <|
         .prim (.seq true) (.mk2 .str .str (.vr 13) (.vr 0)) <|
         .ite (.vr 14) (
          .ret (.mk2 tI .bool (.ci .i64 0) (.cb false))) (
          .ret (.mk2 tI .bool (.vr 12) (.cb true))))))))))
set_option maxRecDepth 100000 in
theorem e_i_ReadFix : exFn Tryz.prog [c_t_CutPrefix, c_t_Cut, c_i_ReadDec, c_i_ShowFix] c_i_ReadFix false 3000 ⟨[], []⟩ = .ok t_i_ReadFix := by kernel_rfl
theorem v_i_ReadFix (x : ByteArray) (hx : okD .str x) (hp : (fun x => x.size ≤ 1048576) x) : t_i_ReadFix.wp [c_t_CutPrefix, c_t_Cut, c_i_ReadDec, c_i_ShowFix] [⟨.str, x⟩] [] (fun v => v.as (.pair tI .bool) = (fun x => rdFix x) x) := by
  have hs : x.size ≤ 1048576 := hp
  have F : ∀ a, fixB a = true → fixT a = x → cut3 (cutPre x ⟨#[45]⟩).1 ⟨#[43]⟩ = (decS ((a.natAbs : Int) / 65536), (decS ((a.natAbs : Int) % 65536), true)) ∧ ((cutPre x ⟨#[45]⟩).2 = true ↔ a < 0) ∧ (a.natAbs : Int) ≤ 2147483647 := fun a ha e => fix_all ha e
  have z1 := cutPre_size x ⟨#[45]⟩
  have z2 := cut3_size (cutPre x ⟨#[45]⟩).1 ⟨#[43]⟩
  delta t_i_ReadFix c_t_CutPrefix c_t_Cut c_i_ReadDec c_i_ShowFix; refine vcx ?_; try with_reducible exact True.intro
  (refine dcx ?_; try with_reducible exact True.intro)
  generalize cutPre x ⟨#[45]⟩ = r at F z1 z2 ⊢
  obtain ⟨t, neg⟩ := r
  dsimp only at F z1 z2 ⊢
  generalize cut3 t ⟨#[43]⟩ = q at F z2 ⊢
  obtain ⟨u, v, fd⟩ := q
  dsimp only at F z2 ⊢
  have G : ∀ a, fixB a = true → fixT a = x → rdDec u = ((a.natAbs : Int) / 65536, true) ∧ rdDec v = ((a.natAbs : Int) % 65536, true) ∧ (neg = true ↔ a < 0) ∧ (a.natAbs : Int) ≤ 2147483647 := fun a ha e => by
    obtain ⟨e1, e2, e3⟩ := F a ha e
    simp only [Prod.mk.injEq] at e1
    obtain ⟨rfl, rfl, _⟩ := e1
    exact ⟨rdDec_yes rfl (by omega) (by omega), rdDec_yes rfl (by omega) (by omega), e2, e3⟩
  clear F
  generalize rdDec u = A at G ⊢
  generalize rdDec v = B at G ⊢
  obtain ⟨A1, A2⟩ := A
  obtain ⟨B1, B2⟩ := B
  dsimp only at G ⊢
  (repeat' first | intro _ | (with_reducible apply And.intro))
  all_goals first | omega | exact (rdFix_yes ((fixB_iff _).2 (by omega)) (by assumption)).symm | skip
  all_goals
    refine rdFix_no fun a ha e => ?_
    have f := G a ha e
    simp only [Prod.mk.injEq] at f
    obtain ⟨⟨f1, f2⟩, ⟨f3, f4⟩, f5, f6⟩ := f
    subst f1 f2 f3 f4
    first
    | omega
    | (exact Bool.noConfusion ‹true = false›)
    | (have hn : a < 0 := f5.1 ‹neg = true›; refine absurd ?_ ‹¬ fixT _ = x›; rw [show -((a.natAbs : Int) / 65536 * 65536 + (a.natAbs : Int) % 65536) = a by omega]; exact e)
    | (have hn : ¬ a < 0 := fun h => (by have h9 := f5.2 h; rw [‹neg = false›] at h9; cases h9); refine absurd ?_ ‹¬ fixT _ = x›; rw [show (a.natAbs : Int) / 65536 * 65536 + (a.natAbs : Int) % 65536 = a by omega]; exact e)
theorem h_i_ReadFix : Con.Holds Tryz.prog c_i_ReadFix := tree_ok mixedP (consAt h_t_CutPrefix (consAt h_t_Cut (consAt h_i_ReadDec (consAt h_i_ShowFix consNil)))) e_i_ReadFix fun x hx hp => v_i_ReadFix x hx hp

/-! impl.ReadOp -/

noncomputable def c_i_ReadOp : Con := ⟨13, .str, (.pair tOp .bool), [.val ⟨false, .str, []⟩], [⟨true, tOp, [0, 0, 0, 2]⟩, ⟨false, .bool, [0]⟩], false, none,
  ((fun x => x.size ≤ 1048576) : (ByteArray) → Prop),
  ((fun x => rdOp x) : (ByteArray) → (OpD × Bool))⟩
def t_i_ReadOp : T :=
  .call 0 (.mk2 .str .str (.vr 0) (.cs ⟨#[32]⟩)) <|
  .prim (.llen 9 .str) (.vr 1) <|
  .prim (.cmp .lss .i64) (.mk2 tI tI (.vr 2) (.ci .i64 3)) <|
  .ite (.vr 3) (
   .ret (.mk2 tOp .bool (mkA tOp [(.ci .i64 0), (.ci .i64 0), (.ci .i64 0), (.nl 3 tI)]) (.cb false))) (
   .prim (.llen 9 .str) (.vr 1) <|
   .prim (.cmp .gtr .i64) (.mk2 tI tI (.vr 4) (.ci .i64 39)) <|
   .ite (.vr 5) (
    .ret (.mk2 tOp .bool (mkA tOp [(.ci .i64 0), (.ci .i64 0), (.ci .i64 0), (.nl 3 tI)]) (.cb false))) (
    .prim (.lidx 9 .str) (.mk2 (.slice 9 .str) tI (.vr 1) (.ci .i64 1)) <|
    .call 1 (.vr 6) <|
    .prim (.lidx 9 .str) (.mk2 (.slice 9 .str) tI (.vr 1) (.ci .i64 2)) <|
    .call 1 (.vr 8) <|
    .prim .not (prA (.pair tI .bool) 1 (.vr 7)) <|
    .ite (.vr 10) (
     .ret (.mk2 tOp .bool (mkA tOp [(.ci .i64 0), (.ci .i64 0), (.ci .i64 0), (.nl 3 tI)]) (.cb false))) (
     .prim .not (prA (.pair tI .bool) 1 (.vr 9)) <|
     .ite (.vr 11) (
      .ret (.mk2 tOp .bool (mkA tOp [(.ci .i64 0), (.ci .i64 0), (.ci .i64 0), (.nl 3 tI)]) (.cb false))) (
      .prim (.llen 9 .str) (.vr 1) <|
      .prim (.lsub 9 .str) (mkA (.pair (.slice 9 .str) tIns) [(.vr 1), (.ci .i64 3), (.vr 12)]) <|
      .prim (.llen 9 .str) (.vr 13) <|
      .loop tItem (.mk2 tI tInts (.ci .i64 0) (.nl 3 tI)) <|
       .prim (.cmp .lss .i64) (.mk2 tI tI (.p1 tI tInts (.vr 15)) (.vr 14)) <|
       .ite (.vr 16) (
        .prim (.lidx 9 .str) (.mk2 (.slice 9 .str) tI (.vr 13) (.p1 tI tInts (.vr 15))) <|
        .call 2 (.vr 17) <|
        .prim .not (prA (.pair tI .bool) 1 (.vr 18)) <|
        .ite (.vr 19) (
         .ret (.mk2 tOp .bool (mkA tOp [(.ci .i64 0), (.ci .i64 0), (.ci .i64 0), (.nl 3 tI)]) (.cb false))) (
         .prim (.lit 3 tI 1) (.p1 tI .bool (.vr 18)) <|
         .prim (.lapp 3 tI 8) (.mk2 tInts tInts (prA tItem 1 (.vr 15)) (.vr 20)) <|
         .prim (.ar .add .i64) (.mk2 tI tI (.p1 tI tInts (.vr 15)) (.ci .i64 1)) <|
         .again 0 (.mk2 tI tInts (.vr 22) (.vr 21)))) (
        .loop tIns (.mk2 tI tI (.ci .i64 1) (.ci .i64 0)) <|
         .prim (.cmp .leq .i64) (.mk2 tI tI (.p1 tI tI (.vr 17)) (.ci .i64 5)) <|
         .ite (.vr 18) (
          .call 3 (mkA tOp [(.p1 tI tI (.vr 17)), (.p1 tI .bool (.vr 7)), (.p1 tI .bool (.vr 9)), (prA tItem 1 (.vr 15))]) <|
          .ite (.vr 19) (
           .call 4 (mkA tOp [(.p1 tI tI (.vr 17)), (.p1 tI .bool (.vr 7)), (.p1 tI .bool (.vr 9)), (prA tItem 1 (.vr 15))]) <|
           .prim (.seq false) (.mk2 .str .str (.vr 20) (.vr 0)) <|
           .ite (.vr 21) (
            .ret (.mk2 tOp .bool (mkA tOp [(.p1 tI tI (.vr 17)), (.p1 tI .bool (.vr 7)), (.p1 tI .bool (.vr 9)), (prA tItem 1 (.vr 15))]) (.cb true))) (
            .prim (.ar .add .i64) (.mk2 tI tI (.p1 tI tI (.vr 17)) (.ci .i64 1)) <|
            .again 0 (.mk2 tI tI (.vr 22) (.p1 tI tI (.vr 17))))) (
           .prim (.ar .add .i64) (.mk2 tI tI (.p1 tI tI (.vr 17)) (.ci .i64 1)) <|
           .again 0 (.mk2 tI tI (.vr 20) (.p1 tI tI (.vr 17))))) (
          .ret (.mk2 tOp .bool (mkA tOp [(.ci .i64 0), (.ci .i64 0), (.ci .i64 0), (.nl 3 tI)]) (.cb false))))))))
set_option maxRecDepth 100000 in
theorem e_i_ReadOp : exFn Tryz.prog [c_t_Split, c_i_ReadDec, c_i_ReadFix, c_i_OpOk, c_i_ShowOp] c_i_ReadOp false 3000 ⟨[(2975, 16015, drd 50 47 ++ drd 45 40 ++ [.dr 8, .dr 7, .dr 39, .dr 38, .dr 33] ++ drd 37 34 ++ [.dr 6, .dr 5, .dr 32, .dr 31, .dr 26] ++ drd 30 27 ++ drd 24 17 ++ [.dr 4, .dr 16, .dr 15, .tm 53 0, .sl 6]), (2965, 32017, drd 54 51 ++ [.tm 14 0, .bx 4 0])], []⟩ = .ok t_i_ReadOp := by kernel_rfl
/- loops: (Int) × (List (Int)) ¦ (Int) × (Int) -/
theorem v_i_ReadOp (x : ByteArray) (hx : okD .str x) (hp : (fun x => x.size ≤ 1048576) x) : t_i_ReadOp.wp [c_t_Split, c_i_ReadDec, c_i_ReadFix, c_i_OpOk, c_i_ShowOp] [⟨.str, x⟩] [] (fun v => v.as (.pair tOp .bool) = (fun x => rdOp x) x) := by
  have hs : x.size ≤ 1048576 := hp
  have hW1 : ∀ w ∈ cutS x 32, w.size ≤ 1048576 := fun w h => Nat.le_trans (cutS_size x 32 w h) hs
  have hW2 : (cutS x 32).length ≤ 1048577 := Nat.le_trans (cutS_count x 32) (by omega)
  have FG : ∀ o, opB o = true → opT o = x → (cutS x 32).length = 3 + o.2.2.2.length ∧ o.2.2.2.length ≤ 36 ∧ rdDec ((cutS x 32).getD 1 (zeroD Ty.str)) = (o.2.1, true) ∧ rdDec ((cutS x 32).getD 2 (zeroD Ty.str)) = (o.2.2.1, true) ∧ (cutS x 32).drop 3 = o.2.2.2.map fixT ∧ 1 ≤ o.1 ∧ o.1 ≤ 5 := fun o h e => by
    obtain ⟨⟨k1, k2, k3, k4, k5, k6, _⟩, _⟩ := (opB_iff o).1 h
    rw [← e, cutS_op h]
    exact ⟨by simp; omega, opB_len h, rdDec_yes rfl (by omega) (by omega), rdDec_yes rfl (by omega) (by omega), rfl, k1, k2⟩
  delta t_i_ReadOp c_t_Split c_i_ReadDec c_i_ReadFix c_i_OpOk c_i_ShowOp; refine vcx ?_; try with_reducible exact True.intro
  (refine dcx ?_; try with_reducible exact True.intro)
  generalize cutS x 32 = W at hW1 hW2 FG ⊢
  change List ByteArray at W
  have gz : ∀ i, i < W.length → ByteArray.size (W.getD i (zeroD Ty.str)) ≤ 1048576 := fun i hi => by rw [getD_at hi]; exact hW1 _ (List.getElem_mem hi)
  refine ⟨⟨hs, rfl⟩, fun _ _ => ⟨fun h3 => rdOp_no fun o h e => (by obtain ⟨f1, f2, _⟩ := FG o h e; omega), fun h3 _ => ⟨fun h39 => rdOp_no fun o h e => (by obtain ⟨f1, f2, _⟩ := FG o h e; omega), fun h39 => ⟨⟨by omega, by omega⟩, fun _ => ⟨gz 1 (by omega), fun _ => ⟨⟨by omega, by omega⟩, fun _ => ⟨gz 2 (by omega), fun _ => ⟨fun hx0 => rdOp_no fun o h e => ?_, fun hx1 => ⟨fun hy0 => rdOp_no fun o h e => ?_, fun hy1 _ => ⟨⟨by omega, by omega, by omega⟩, fun _ _ => ?_⟩⟩⟩⟩⟩⟩⟩⟩⟩⟩
  · obtain ⟨f1, f2, f3, _⟩ := FG o h e
    rw [f3] at hx0; cases hx0
  · obtain ⟨f1, f2, f3, f4, _⟩ := FG o h e
    have hy0' : (rdDec (W.getD 2 (zeroD Ty.str))).2 = false := hy0
    rw [f4] at hy0'; cases hy0'
  have hV : List.drop (Int.toNat 3) (List.take W.length W) = W.drop 3 := by rw [List.take_length]; rfl
  rw [hV]
  have hVl : (W.drop 3).length = W.length - 3 := List.length_drop
  have gv : ∀ i (hi : i < (W.drop 3).length), (W.drop 3)[i].size ≤ 1048576 := fun i hi => hW1 _ (List.mem_of_mem_drop (List.getElem_mem hi))
  have FV : ∀ o, opB o = true → opT o = x → W.drop 3 = o.2.2.2.map fixT ∧ (rdDec (W.getD 1 (zeroD Ty.str))).1 = o.2.1 ∧ (rdDec (W.getD (Int.toNat 2) (zeroD Ty.str))).1 = o.2.2.1 ∧ 1 ≤ o.1 ∧ o.1 ≤ 5 := fun o h e => by
    obtain ⟨f1, f2, f3, f4, f5, f6, f7⟩ := FG o h e
    have f4' : rdDec (W.getD (Int.toNat 2) (zeroD Ty.str)) = (o.2.2.1, true) := f4
    rw [f3, f4']
    exact ⟨f5, rfl, rfl, f6, f7⟩
  generalize W.drop 3 = V at hVl gv FV ⊢
  change List ByteArray at V
  generalize rdDec (W.getD 1 (zeroD Ty.str)) = A at FV ⊢
  generalize rdDec (W.getD (Int.toNat 2) (zeroD Ty.str)) = B at FV ⊢
  clear FG gz hW1 hV
  refine loopG (fun k => ((k : Int), pF V k)) (fun k => xF true V k = true) V.length rfl (xF_0 true V) fun I μ k hk hg _ go => ?_
  try dsimp only
  (refine dcx ?_; try with_reducible exact True.intro)
  have pl := pF_len V k
  have hi : ∀ h : k < V.length, V.getD k (zeroD Ty.str) = V[k] := fun h => getD_at h
  refine ⟨fun hlt => ?_, fun hge => ?_⟩
  · have hkl : k < V.length := by omega
    rw [hi hkl]
    refine ⟨⟨by omega, by omega⟩, fun _ => ⟨gv k hkl, fun _ => ⟨fun hf => rdOp_no fun o h e => ?_, fun ht _ => ⟨⟨by omega, by unfold maxLen; omega⟩, fun _ => ⟨by omega, fun _ => go _ hkl ?_ ?_⟩⟩⟩⟩⟩
    · have fv := (FV o h e).1
      have hm : ∀ w ∈ V, ∃ p ∈ o.2.2.2, fixT p = w := fun w hw => by rw [fv] at hw; exact List.mem_map.1 hw
      obtain ⟨p, hp1, ep⟩ := hm _ (List.getElem_mem hkl)
      rw [rdFix_yes (List.all_eq_true.1 ((opB_iff o).1 h).2 p hp1) ep] at hf
      cases hf
    · rw [xF_next hkl, hg, ht]; rfl
    · rw [pF_next hkl]; exact Prod.ext (by show (k : Int) + 1 = ((k + 1 : Nat) : Int); omega) rfl
  · obtain rfl : k = V.length := by omega
    clear go
    refine loopG (fun j => ((j : Int) + 1, (j : Int))) (fun j => ∀ i, i < j → opB ((i : Int) + 1, A.1, B.1, pF V V.length) = true → opT ((i : Int) + 1, A.1, B.1, pF V V.length) = x → False) 5 rfl (fun i h => absurd h (Nat.not_lt_zero _)) fun I2 μ2 j hj hno _ go => ?_
    try dsimp only
    (refine dcx ?_; try with_reducible exact True.intro)
    have nx : j < 5 → ¬ (opB ((j : Int) + 1, A.1, B.1, pF V V.length) = true ∧ opT ((j : Int) + 1, A.1, B.1, pF V V.length) = x) → I2 ((j : Int) + 1 + 1, (j : Int) + 1) ∧ μ2 ((j : Int) + 1 + 1, (j : Int) + 1) < μ2 ((j : Int) + 1, (j : Int)) := fun h hn =>
      go _ h (fun i hi2 h1 h2 => by
        rcases Nat.lt_or_eq_of_le (Nat.le_of_lt_succ hi2) with h3 | rfl
        · exact hno i h3 h1 h2
        · exact hn ⟨h1, h2⟩) (Prod.ext (by show (j : Int) + 1 + 1 = ((j + 1 : Nat) : Int) + 1; omega) (by show (j : Int) + 1 = ((j + 1 : Nat) : Int); omega))
    refine ⟨fun h5 => ⟨fun hb _ => ⟨fun he => (rdOp_yes hb (Classical.not_not.1 he)).symm, fun he => ⟨⟨by omega, by omega⟩, fun _ => nx (by omega) fun h => he h.2⟩⟩, fun hb => ⟨⟨by omega, by omega⟩, fun _ => nx (by omega) fun h => by rw [h.1] at hb; cases hb⟩⟩, fun h5 => rdOp_no fun o h e => ?_⟩
    obtain rfl : j = 5 := by omega
    obtain ⟨f1, f2, f3, f4, f5⟩ := FV o h e
    have f6 : pF V V.length = o.2.2.2 := by rw [f1]; exact (xF_all h true).2
    have eo : (((o.1 - 1).toNat : Nat) : Int) + 1 = o.1 := by omega
    refine hno (o.1 - 1).toNat (by omega) ?_ ?_ <;> rw [eo, f2, f3, f6]
    · exact h
    · exact e
theorem h_i_ReadOp : Con.Holds Tryz.prog c_i_ReadOp := tree_ok mixedP (consAt h_t_Split (consAt h_i_ReadDec (consAt h_i_ReadFix (consAt h_i_OpOk (consAt h_i_ShowOp consNil))))) e_i_ReadOp fun x hx hp => v_i_ReadOp x hx hp
end Go.Proofs.YtllphmcjocidaaaGreatDoor
