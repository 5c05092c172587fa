/- Rd4: trees, and what they say. -/
import Derived.Test.YtllphmcjocidaaaGreatDoorRd3
namespace Go.Proofs.YtllphmcjocidaaaGreatDoor
open Go.ChangeShapes Go.WideShapes Go.ChangeAt Go.RowKit Go.Deep
set_option linter.unusedVariables false
set_option linter.unusedSimpArgs false
noncomputable def rdOp (s : ByteArray) : OpD × Bool := open Classical in if h : ∃ o, opB o = true ∧ opT o = s then (Classical.choose h, true) else (zeroD tOp, false)
theorem rdOp_yes {s : ByteArray} {o : OpD} (h1 : opB o = true) (h2 : opT o = s) : rdOp s = (o, true) := by
  have h : ∃ o, opB o = true ∧ opT o = s := ⟨o, h1, h2⟩
  unfold rdOp
  rw [dif_pos h]
  obtain ⟨g1, g2⟩ := Classical.choose_spec h
  exact Prod.ext (opT_inj g1 h1 (g2.trans h2.symm)) rfl
theorem rdOp_no {s : ByteArray} (h : ∀ o, opB o = true → opT o = s → False) : (zeroD tOp, false) = rdOp s := by
  unfold rdOp
  rw [dif_neg (fun ⟨o, h1, h2⟩ => h o h1 h2)]
theorem cutL_len (c : UInt8) : (l : List UInt8) → ∀ w ∈ cutL c l, w.length ≤ l.length
  | [], w, h => by
    rw [cutL, List.mem_singleton] at h
    subst h; exact Nat.le_refl _
  | b :: l, w, h => by
    have ih := cutL_len c l
    rw [cutL] at h
    split at h
    · rcases List.mem_cons.1 h with rfl | h
      · exact Nat.zero_le _
      · exact Nat.le_succ_of_le (ih w h)
    · split at h
      · rename_i v vs e
        rcases List.mem_cons.1 h with rfl | h
        · exact Nat.succ_le_succ (ih v (by rw [e]; exact List.mem_cons_self))
        · exact Nat.le_succ_of_le (ih w (by rw [e]; exact List.mem_cons_of_mem _ h))
      · rw [List.mem_singleton] at h
        subst h; simp
theorem cutS_size (s : ByteArray) (c : Int) : ∀ w ∈ cutS s c, w.size ≤ s.size := fun w h => by
  obtain ⟨l, hl, rfl⟩ := List.mem_map.1 h
  rw [ofL_size, ← ba_len s]
  exact cutL_len _ _ l hl
theorem cutS_op {o : OpD} (h : opB o = true) : cutS (opT o) 32 = opW o.1 :: decS o.2.1 :: decS o.2.2.1 :: o.2.2.2.map fixT := by
  unfold cutS
  rw [show UInt8.ofNat (32 : Int).toNat = 32 from rfl, opT_cut h]
  unfold wordsL
  rw [List.map_cons, List.map_cons, List.map_cons, ofL_data, List.map_map]
  have hf : List.map (ofL ∘ fixL) o.2.2.2 = o.2.2.2.map fixT := List.map_congr_left fun p hp => by
    show ofL (fixL p) = fixT p
    rw [← fixT_list (List.all_eq_true.1 ((opB_iff o).1 h).2 p hp), ofL_data]
  rw [hf]; rfl
theorem cutL_count (c : UInt8) : (l : List UInt8) → (cutL c l).length ≤ l.length + 1
  | [] => Nat.le_refl _
  | b :: l => by
    have ih := cutL_count c l
    rw [cutL]
    split
    · simp; omega
    · split
      · rename_i v vs e
        rw [e] at ih
        simp at ih ⊢; omega
      · simp
theorem cutS_count (s : ByteArray) (c : Int) : (cutS s c).length ≤ s.size + 1 := by
  unfold cutS
  rw [List.length_map, ← ba_len s]; exact cutL_count _ _
/-- The last word that is this one. -/
def kF (w : ByteArray) : Nat → Int
  | 0 => 0
  | k + 1 => if opW ((k : Int) + 1) = w then (k : Int) + 1 else kF w k
theorem kF_op {i : Int} (h1 : 1 ≤ i) (h5 : i ≤ 5) : kF (opW i) 5 = i := by
  have hi : i = 1 ∨ i = 2 ∨ i = 3 ∨ i = 4 ∨ i = 5 := by omega
  rcases hi with rfl | rfl | rfl | rfl | rfl <;> decide
noncomputable def xF (x0 : Bool) (l : List ByteArray) (j : Nat) : Bool := x0 && (l.take j).all fun w => (rdFix w).2
noncomputable def pF (l : List ByteArray) (j : Nat) : List Int := (l.take j).map fun w => (rdFix w).1
theorem xF_0 (x0 : Bool) (l : List ByteArray) : xF x0 l 0 = x0 := by simp [xF]
theorem xF_next {x0 : Bool} {l : List ByteArray} {j : Nat} (h : j < l.length) : xF x0 l (j + 1) = (xF x0 l j && (rdFix l[j]).2) := by
  unfold xF
  rw [List.take_succ_eq_append_getElem h, List.all_append, Bool.and_assoc]; simp
theorem pF_next {l : List ByteArray} {j : Nat} (h : j < l.length) : pF l (j + 1) = pF l j ++ [(rdFix l[j]).1] := by
  unfold pF
  rw [List.take_succ_eq_append_getElem h, List.map_append]; rfl
theorem pF_len (l : List ByteArray) (j : Nat) : (pF l j).length ≤ j := by
  unfold pF; rw [List.length_map, List.length_take]; omega
theorem xF_all {o : OpD} (h : opB o = true) (x0 : Bool) : xF x0 (o.2.2.2.map fixT) (o.2.2.2.map fixT).length = x0 ∧ pF (o.2.2.2.map fixT) (o.2.2.2.map fixT).length = o.2.2.2 := by
  have hf : ∀ p ∈ o.2.2.2, rdFix (fixT p) = (p, true) := fun p hp => rdFix_yes (List.all_eq_true.1 ((opB_iff o).1 h).2 p hp) rfl
  unfold xF pF
  rw [List.take_length]
  constructor
  · have : (o.2.2.2.map fixT).all (fun w => (rdFix w).2) = true := List.all_eq_true.2 fun w hw => by
      obtain ⟨p, hp, rfl⟩ := List.mem_map.1 hw
      rw [hf p hp]
    rw [this, Bool.and_true]
  · rw [List.map_map]
    exact (List.map_congr_left fun p hp => by show (rdFix (fixT p)).1 = id p; rw [hf p hp]; rfl).trans (List.map_id _)

/-! spec.ReadOp -/

noncomputable def c_s_ReadOp : Con := ⟨23, .str, (.pair tOp .bool), [.val ⟨false, .str, []⟩], [⟨true, tOp, [0, 0, 0, 2]⟩, ⟨false, .bool, [0]⟩], false, none,
  ((fun x => x.size ≤ 1048576) : (ByteArray) → Prop),
  ((fun x => rdOp x) : (ByteArray) → (OpD × Bool))⟩
def t_s_ReadOp : T :=
  .call 0 (.mk2 .str (.int .u8) (.vr 0) (.ci .u8 32)) <|
  .prim (.llen 9 .str) (.vr 1) <|
  .prim (.cmp .lss .i64) (.mk2 tI tI (.vr 2) (.ci .i64 3)) <|
  .ite (.vr 3) (
   .ret (.mk2 tOp .bool (mkA tOp [(.ci .i64 0), (.ci .i64 0), (.ci .i64 0), (.nl 3 tI)]) (.cb false))) (
   .loop tIns (.mk2 tI tI (.ci .i64 1) (.ci .i64 0)) <|
    .prim (.cmp .leq .i64) (.mk2 tI tI (.p1 tI tI (.vr 4)) (.ci .i64 5)) <|
    .ite (.vr 5) (
     .prim (.lidx 9 .str) (.mk2 (.slice 9 .str) tI (.vr 1) (.ci .i64 0)) <|
     .prim (.lidx 9 .str) (.mk2 (.slice 9 .str) tI (.vr 1) (.ci .i64 0)) <|
     .call 1 (.p1 tI tI (.vr 4)) <|
     .prim (.seq false) (.mk2 .str .str (.vr 8) (.vr 7)) <|
     .ite (.vr 9) (
      .prim (.ar .add .i64) (.mk2 tI tI (.p1 tI tI (.vr 4)) (.ci .i64 1)) <|
      .again 0 (.mk2 tI tI (.vr 10) (.p1 tI tI (.vr 4)))) (
      .prim (.ar .add .i64) (.mk2 tI tI (.p1 tI tI (.vr 4)) (.ci .i64 1)) <|
      .again 0 (.mk2 tI tI (.vr 10) (prA tIns 1 (.vr 4))))) (
     .prim (.lidx 9 .str) (.mk2 (.slice 9 .str) tI (.vr 1) (.ci .i64 1)) <|
     .prim (.lidx 9 .str) (.mk2 (.slice 9 .str) tI (.vr 1) (.ci .i64 1)) <|
     .call 2 (.vr 7) <|
     .prim (.lidx 9 .str) (.mk2 (.slice 9 .str) tI (.vr 1) (.ci .i64 2)) <|
     .prim (.lidx 9 .str) (.mk2 (.slice 9 .str) tI (.vr 1) (.ci .i64 2)) <|
     .call 2 (.vr 10) <|
     .loop (.pair tI (.pair .bool tInts)) (mkA (.pair tI (.pair .bool tInts)) [(.ci .i64 3), (prA (.pair tI .bool) 1 (.vr 8)), (.nl 3 tI)]) <|
      .prim (.llen 9 .str) (.vr 1) <|
      .prim (.cmp .lss .i64) (.mk2 tI tI (.p1 tI (.pair .bool tInts) (.vr 12)) (.vr 13)) <|
      .ite (.vr 14) (
       .prim (.lidx 9 .str) (.mk2 (.slice 9 .str) tI (.vr 1) (.p1 tI (.pair .bool tInts) (.vr 12))) <|
       .prim (.lidx 9 .str) (.mk2 (.slice 9 .str) tI (.vr 1) (.p1 tI (.pair .bool tInts) (.vr 12))) <|
       .call 3 (.vr 16) <|
       .ite (pjA (.pair tI (.pair .bool tInts)) 1 (.vr 12)) (
        .prim (.lit 3 tI 1) (.p1 tI .bool (.vr 17)) <|
        .prim (.lapp 3 tI 8) (.mk2 tInts tInts (prA (.pair tI (.pair .bool tInts)) 2 (.vr 12)) (.vr 18)) <|
        .prim (.ar .add .i64) (.mk2 tI tI (.p1 tI (.pair .bool tInts) (.vr 12)) (.ci .i64 1)) <|
        .again 0 (mkA (.pair tI (.pair .bool tInts)) [(.vr 20), (prA (.pair tI .bool) 1 (.vr 17)), (.vr 19)])) (
        .prim (.lit 3 tI 1) (.p1 tI .bool (.vr 17)) <|
        .prim (.lapp 3 tI 8) (.mk2 tInts tInts (prA (.pair tI (.pair .bool tInts)) 2 (.vr 12)) (.vr 18)) <|
        .prim (.ar .add .i64) (.mk2 tI tI (.p1 tI (.pair .bool tInts) (.vr 12)) (.ci .i64 1)) <|
        .again 0 (mkA (.pair tI (.pair .bool tInts)) [(.vr 20), (.cb false), (.vr 19)]))) (
       .prim .not (pjA (.pair tI (.pair .bool tInts)) 1 (.vr 12)) <|
       .ite (.vr 15) (
        .ret (.mk2 tOp .bool (mkA tOp [(.ci .i64 0), (.ci .i64 0), (.ci .i64 0), (.nl 3 tI)]) (.cb false))) (
        .prim .not (prA (.pair tI .bool) 1 (.vr 11)) <|
        .ite (.vr 16) (
         .ret (.mk2 tOp .bool (mkA tOp [(.ci .i64 0), (.ci .i64 0), (.ci .i64 0), (.nl 3 tI)]) (.cb false))) (
         .call 4 (mkA tOp [(prA tIns 1 (.vr 4)), (.p1 tI .bool (.vr 8)), (.p1 tI .bool (.vr 11)), (prA (.pair tI (.pair .bool tInts)) 2 (.vr 12))]) <|
         .prim (.seq true) (.mk2 .str .str (.vr 17) (.vr 0)) <|
         .ite (.vr 18) (
          .ret (.mk2 tOp .bool (mkA tOp [(.ci .i64 0), (.ci .i64 0), (.ci .i64 0), (.nl 3 tI)]) (.cb false))) (
          .ret (.mk2 tOp .bool (mkA tOp [(prA tIns 1 (.vr 4)), (.p1 tI .bool (.vr 8)), (.p1 tI .bool (.vr 11)), (prA (.pair tI (.pair .bool tInts)) 2 (.vr 12))]) (.cb true))))))))
set_option maxRecDepth 100000 in
theorem e_s_ReadOp : exFn Tryz.prog [c_s_l18Split, c_s_OpWord, c_s_ReadDec, c_s_ReadFix, c_s_ShowOp] c_s_ReadOp false 3000 ⟨[(2984, 2004, [.dr 20] ++ drd 18 14 ++ [.tm 6 0, .bx 4 0]), (2966, 4012, drd 50 47 ++ [.dr 9, .dr 46, .dr 45, .dr 40] ++ drd 44 41 ++ [.dr 7, .dr 39, .dr 38, .dr 33] ++ drd 37 34 ++ [.dr 22, .dr 21, .dr 6, .tm 11 0, .tm 8 0, .sl 6])], []⟩ = .ok t_s_ReadOp := by kernel_rfl
/- loops: (Int) × (Int) ¦ (Int) × ((Bool) × (List (Int))) -/
theorem v_s_ReadOp (x : ByteArray) (hx : okD .str x) (hp : (fun x => x.size ≤ 1048576) x) : t_s_ReadOp.wp [c_s_l18Split, c_s_OpWord, c_s_ReadDec, c_s_ReadFix, c_s_ShowOp] [⟨.str, x⟩] [] (fun v => v.as (.pair tOp .bool) = (fun x => rdOp x) x) := by
  have hs : x.size ≤ 1048576 := hp
  delta t_s_ReadOp c_s_l18Split c_s_OpWord c_s_ReadDec c_s_ReadFix c_s_ShowOp; refine vcx ?_; try with_reducible exact True.intro
  (refine dcx ?_; try with_reducible exact True.intro)
  have hW1 : ∀ w ∈ cutS x 32, w.size ≤ 1048576 := fun w h => Nat.le_trans (cutS_size x 32 w h) hs
  have hW2 : (cutS x 32).length ≤ 1048577 := Nat.le_trans (cutS_count x 32) (by omega)
  have hne : 3 ≤ (cutS x 32).length → x ≠ ⟨#[]⟩ := fun h e => by rw [e] at h; exact absurd h (by decide)
  have FG : ∀ o, opB o = true → opT o = x → 3 ≤ (cutS x 32).length ∧ (cutS x 32).getD 0 (zeroD Ty.str) = opW o.1 ∧ (cutS x 32).getD 1 (zeroD Ty.str) = decS o.2.1 ∧ (cutS x 32).getD 2 (zeroD Ty.str) = decS o.2.2.1 ∧ (cutS x 32).drop 3 = o.2.2.2.map fixT := fun o h e => by
    rw [← e, cutS_op h]; exact ⟨by simp, rfl, rfl, rfl, rfl⟩
  generalize cutS x 32 = W at hW1 hW2 hne FG ⊢
  change List ByteArray at W
  refine ⟨hs, fun _ _ => ⟨fun h3 => rdOp_no fun o h e => (by have := (FG o h e).1; omega), fun h3 => ?_⟩⟩
  have hl3 : 3 ≤ W.length := by omega
  have hxn := hne hl3
  have gz : ∀ i, i < W.length → ByteArray.size (W.getD i (zeroD Ty.str)) ≤ 1048576 := fun i hi => by rw [getD_at hi]; exact hW1 _ (List.getElem_mem hi)
  refine loopF (fun k => ((k : Int) + 1, kF (W.getD 0 (zeroD Ty.str)) k)) 5 rfl fun I μ k hk _ go => ?_
  try dsimp only
  (refine dcx ?_; try with_reducible exact True.intro)
  refine ⟨fun hk5 => ⟨by omega, fun _ => ⟨by omega, fun _ _ => ⟨fun hn => ⟨by omega, fun _ => go _ (by omega) ?_⟩, fun hn => ⟨by omega, fun _ => go _ (by omega) ?_⟩⟩⟩⟩, fun hk5 => ?_⟩
  · rw [kF, if_pos (Classical.not_not.1 hn)]; exact Prod.ext (by show (k : Int) + 1 + 1 = ((k + 1 : Nat) : Int) + 1; omega) rfl
  · rw [kF, if_neg hn]; exact Prod.ext (by show (k : Int) + 1 + 1 = ((k + 1 : Nat) : Int) + 1; omega) rfl
  · obtain rfl : k = 5 := by omega
    refine ⟨by omega, fun _ => ⟨by omega, fun _ => ⟨gz 1 (by omega), fun _ => ⟨by omega, fun _ => ⟨by omega, fun _ => ⟨gz 2 (by omega), fun _ => ?_⟩⟩⟩⟩⟩⟩
    clear go
    have hD : List.length (W.drop 3) = W.length - 3 := List.length_drop
    refine loopF (fun j => ((j : Int) + 3, xF (rdDec (W.getD 1 (zeroD Ty.str))).2 (W.drop 3) j, pF (W.drop 3) j)) (W.length - 3) (by rw [xF_0]; rfl) fun I2 μ2 j hj _ go => ?_
    try dsimp only
    (refine dcx ?_; try with_reducible exact True.intro)
    have pl := pF_len (W.drop 3) j
    have hi : ∀ h : j < List.length (W.drop 3), W.getD ((j : Int) + 3).toNat (zeroD Ty.str) = (W.drop 3)[j] := fun h => by
      rw [show ((j : Int) + 3).toNat = 3 + j by omega, getD_at (by omega), List.getElem_drop]
    refine fun _ => ⟨fun hlt => ⟨by omega, fun _ => ⟨by omega, fun _ => ⟨gz _ (by omega), fun _ => ⟨fun ht _ => ⟨⟨by omega, by unfold maxLen; omega⟩, fun _ => ⟨by omega, fun _ => go _ (by omega) ?_⟩⟩, fun hf _ => ⟨⟨by omega, by unfold maxLen; omega⟩, fun _ => ⟨by omega, fun _ => go _ (by omega) ?_⟩⟩⟩⟩⟩⟩, fun hge => ?_⟩
    · have hjl : j < List.length (W.drop 3) := by omega
      rw [hi hjl, xF_next hjl, pF_next hjl, ht]
      exact Prod.ext (by show (j : Int) + 3 + 1 = ((j + 1 : Nat) : Int) + 3; omega) rfl
    · have hjl : j < List.length (W.drop 3) := by omega
      rw [hi hjl, xF_next hjl, pF_next hjl, hf]
      exact Prod.ext (by show (j : Int) + 3 + 1 = ((j + 1 : Nat) : Int) + 3; omega) rfl
    · have hje : j = List.length (W.drop 3) := by omega
      have FA : ∀ o, opB o = true → opT o = x → rdDec (W.getD 1 (zeroD Ty.str)) = (o.2.1, true) ∧ rdDec (W.getD (Int.toNat 2) (zeroD Ty.str)) = (o.2.2.1, true) ∧ kF (W.getD 0 (zeroD Ty.str)) 5 = o.1 ∧ pF (W.drop 3) j = o.2.2.2 ∧ xF true (W.drop 3) j = true := fun o h e => by
        obtain ⟨_, g0, g1, g2, g3⟩ := FG o h e
        obtain ⟨⟨k1, k2, k3, k4, k5, k6, _⟩, _⟩ := (opB_iff o).1 h
        refine ⟨by rw [g1]; exact rdDec_yes rfl (by omega) (by omega), ?_, by rw [g0]; exact kF_op k1 k2, by rw [hje, g3]; exact (xF_all h true).2, by rw [hje, g3]; exact (xF_all h true).1⟩
        show rdDec (W.getD 2 (zeroD Ty.str)) = _
        rw [g2]; exact rdDec_yes rfl (by omega) (by omega)
      generalize rdDec (W.getD 1 (zeroD Ty.str)) = A at FA ⊢
      generalize rdDec (W.getD (Int.toNat 2) (zeroD Ty.str)) = B at FA ⊢
      refine ⟨fun hx0 => rdOp_no fun o h e => ?_, fun hx1 => ⟨fun hy => rdOp_no fun o h e => ?_, fun hy _ => ⟨fun hq => rdOp_no fun o h e => ?_, fun hq => ?_⟩⟩⟩
      · obtain ⟨f1, f2, f3, f4, f5⟩ := FA o h e
        rw [f1] at hx0
        rw [show ((o.2.1, true) : Int × Bool).2 = true from rfl, f5] at hx0
        cases hx0
      · obtain ⟨f1, f2, f3, f4, f5⟩ := FA o h e
        rw [f2] at hy; cases hy
      · obtain ⟨f1, f2, f3, f4, f5⟩ := FA o h e
        rw [f1, f2, f3, f4] at hq
        exact hq e
      · refine (rdOp_yes ?_ hq).symm
        refine Classical.byContradiction fun hb => hxn ?_
        rw [← hq]; unfold opT; rw [if_neg hb]
theorem h_s_ReadOp : Con.Holds Tryz.prog c_s_ReadOp := tree_ok mixedP (consAt h_s_l18Split (consAt h_s_OpWord (consAt h_s_ReadDec (consAt h_s_ReadFix (consAt h_s_ShowOp consNil))))) e_s_ReadOp fun x hx hp => v_s_ReadOp x hx hp
end Go.Proofs.YtllphmcjocidaaaGreatDoor
