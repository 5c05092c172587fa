/- Dec4: trees, and what they say. -/
import Derived.Test.YtllphmcjocidaaaGreatDoorDec3
import Derived.Test.YtllphmcjocidaaaGreatDoorOps2
namespace Go.Proofs.YtllphmcjocidaaaGreatDoor
open Go.ChangeShapes Go.WideShapes Go.ChangeAt Go.RowKit Go.Deep
set_option linter.unusedVariables false
set_option linter.unusedSimpArgs false
def dashB : ByteArray := ⟨#[45]⟩
def plusB : ByteArray := ⟨#[43]⟩
def fixT (a : Int) : ByteArray := if fixB a = true then (if a < 0 then dashB ++ decS (-a / 65536) ++ plusB ++ decS (-a % 65536) else decS (a / 65536) ++ plusB ++ decS (a % 65536)) else ⟨#[]⟩
theorem decS_small {n : Int} (h0 : -1000000000000 ≤ n) (h1 : n ≤ 1000000000000) : (decS n).size ≤ 21 := decS_size ⟨by show (-9223372036854775808 : Int) ≤ n; omega, by show n ≤ (9223372036854775807 : Int); omega⟩
theorem fixT_size (a : Int) : (fixT a).size ≤ 44 := by
  unfold fixT
  split
  · rename_i h
    have h' := (fixB_iff a).1 h
    have e1 : dashB.size = 1 := rfl
    have e2 : plusB.size = 1 := rfl
    split
    · have := decS_small (n := -a / 65536) (by omega) (by omega)
      have := decS_small (n := -a % 65536) (by omega) (by omega)
      simp only [ba_size]; omega
    · have := decS_small (n := a / 65536) (by omega) (by omega)
      have := decS_small (n := a % 65536) (by omega) (by omega)
      simp only [ba_size]; omega
  · exact Nat.zero_le _
def opW (k : Int) : ByteArray :=
  if k = 1 then ⟨#[100, 101, 110, 115, 101]⟩ else if k = 2 then ⟨#[98, 105, 97, 115]⟩ else if k = 3 then ⟨#[114, 101, 108, 117]⟩ else if k = 4 then ⟨#[115, 99, 97, 108, 101]⟩ else if k = 5 then ⟨#[114, 101, 115]⟩ else ⟨#[]⟩
theorem opW_size (k : Int) : (opW k).size ≤ 5 := by
  unfold opW
  repeat' split
  all_goals decide
def opWs (o : OpD) (k : Nat) : List ByteArray := [opW o.1, decS o.2.1, decS o.2.2.1] ++ (o.2.2.2.take k).map fixT
def opT (o : OpD) : ByteArray := if opB o = true then joinB (opWs o o.2.2.2.length) sp else ⟨#[]⟩
theorem opWs_len (o : OpD) {k : Nat} (h : k ≤ o.2.2.2.length) : (opWs o k).length = k + 3 := by
  unfold opWs
  rw [List.length_append, List.length_map, List.length_take]
  simp only [List.length_cons, List.length_nil]
  omega
theorem opWs_next (o : OpD) {k : Nat} (h : k < o.2.2.2.length) : opWs o (k + 1) = opWs o k ++ [fixT o.2.2.2[k]] := by
  unfold opWs
  rw [takeN h, List.map_append, List.append_assoc]
  rfl
theorem opWs_0 (o : OpD) : opWs o 0 = [opW o.1, decS o.2.1, decS o.2.2.1] := by unfold opWs; rw [List.take_zero]; rfl
theorem opJ_0 (o : OpD) : joinB (opWs o 0) sp = opW o.1 ++ sp ++ decS o.2.1 ++ sp ++ decS o.2.2.1 := by
  rw [opWs_0, show [opW o.1, decS o.2.1, decS o.2.2.1] = ([opW o.1] ++ [decS o.2.1]) ++ [decS o.2.2.1] from rfl, joinB_snoc (by simp), joinB_snoc (by simp), joinB_one]
theorem opJ_next (o : OpD) {k : Nat} (h : k < o.2.2.2.length) : joinB (opWs o (k + 1)) sp = joinB (opWs o k) sp ++ sp ++ fixT o.2.2.2[k] := by
  rw [opWs_next o h, joinB_snoc (by unfold opWs; simp)]
theorem opJ_size (o : OpD) (k : Nat) (hk : k ≤ o.2.2.2.length) (h1 : 0 ≤ o.2.1 ∧ o.2.1 ≤ 6) (h2 : 0 ≤ o.2.2.1 ∧ o.2.2.1 ≤ 6) : (joinB (opWs o k) sp).size ≤ (k + 3) * 45 := by
  have := joinB_size (B := 44) (xs := opWs o k) (sep := sp) (fun x hx => by
    unfold opWs at hx
    rw [List.mem_append] at hx
    rcases hx with hx | hx
    · have a1 := opW_size o.1
      have a2 := decS_small (n := o.2.1) (by omega) (by omega)
      have a3 := decS_small (n := o.2.2.1) (by omega) (by omega)
      simp only [List.mem_cons, List.mem_nil_iff, or_false] at hx
      rcases hx with rfl | rfl | rfl <;> omega
    · obtain ⟨p, hp, rfl⟩ := List.mem_map.1 hx
      exact fixT_size p)
  rw [opWs_len o hk, sp_size] at this
  exact this
theorem opB_len {o : OpD} (h : opB o = true) : o.2.2.2.length ≤ 36 := by
  obtain ⟨⟨k1, k2, i1, i2, j1, j2, _, hl⟩, _⟩ := (opB_iff o).1 h
  have hm := mul_b i1 i2 j1 j2
  unfold opSize at hl
  split at hl
  · omega
  · split at hl
    · omega
    · split at hl
      · omega
      · split at hl <;> omega
theorem opT_size (o : OpD) : (opT o).size ≤ 1755 := by
  unfold opT
  split
  · rename_i h
    have hl := opB_len h
    obtain ⟨⟨k1, k2, i1, i2, j1, j2, _, _⟩, _⟩ := (opB_iff o).1 h
    have := opJ_size o o.2.2.2.length (Nat.le_refl _) (by omega) (by omega)
    omega
  · exact Nat.zero_le _

/-! impl.ShowFix -/

noncomputable def c_i_ShowFix : Con := ⟨36, tI, .str, [.val ⟨false, tI, []⟩], [⟨false, .str, [0]⟩], false, none,
  ((fun _ => True) : (Int) → Prop),
  ((fun x => fixT x) : (Int) → (ByteArray))⟩
def t_i_ShowFix : T :=
  .call 0 (.vr 0) <|
  .prim .not (.vr 1) <|
  .ite (.vr 2) (
   .ret (.cs ⟨#[]⟩)) (
   .prim (.cmp .lss .i64) (.mk2 tI tI (.vr 0) (.ci .i64 0)) <|
   .ite (.vr 3) (
    .prim (.neg .i64) (.vr 0) <|
    .prim (.quo .i64) (.mk2 tI tI (.vr 4) (.ci .i64 65536)) <|
    .call 1 (.vr 5) <|
    .prim .sadd (.mk2 .str .str (.cs ⟨#[45]⟩) (.vr 6)) <|
    .prim .sadd (.mk2 .str .str (.vr 7) (.cs ⟨#[43]⟩)) <|
    .prim (.rem .i64) (.mk2 tI tI (.vr 4) (.ci .i64 65536)) <|
    .call 1 (.vr 9) <|
    .prim .sadd (.mk2 .str .str (.vr 8) (.vr 10)) <|
    .ret (.vr 11)) (
    .prim (.quo .i64) (.mk2 tI tI (.vr 0) (.ci .i64 65536)) <|
    .call 1 (.vr 4) <|
    .prim .sadd (.mk2 .str .str (.cs ⟨#[]⟩) (.vr 5)) <|
    .prim .sadd (.mk2 .str .str (.vr 6) (.cs ⟨#[43]⟩)) <|
    .prim (.rem .i64) (.mk2 tI tI (.vr 0) (.ci .i64 65536)) <|
    .call 1 (.vr 8) <|
    .prim .sadd (.mk2 .str .str (.vr 7) (.vr 9)) <|
    .ret (.vr 10)))
set_option maxRecDepth 100000 in
theorem e_i_ShowFix : exFn Tryz.prog [c_i_FixOk, c_i_Dec] c_i_ShowFix false 3000 ⟨[], []⟩ = .ok t_i_ShowFix := by kernel_rfl
theorem v_i_ShowFix (x : Int) (hx : okD tI x) (hp : (fun _ => True) x) : t_i_ShowFix.wp [c_i_FixOk, c_i_Dec] [⟨tI, x⟩] [] (fun v => v.as .str = (fun x => fixT x) x) := by
  have hx' : -9223372036854775808 ≤ x ∧ x ≤ 9223372036854775807 := hx
  delta t_i_ShowFix c_i_FixOk c_i_Dec; refine vcx ?_; try with_reducible exact True.intro
  (refine dcx ?_; try with_reducible exact True.intro)
  have e1 : (⟨#[45]⟩ : ByteArray).size = 1 := rfl
  have e2 : (⟨#[43]⟩ : ByteArray).size = 1 := rfl
  have e3 : (⟨#[]⟩ : ByteArray).size = 0 := rfl
  unfold fixT
  refine ⟨fun h => by rw [if_neg (by rw [h]; decide)], fun h => ?_⟩
  have h' := (fixB_iff x).1 h
  rw [if_pos h]
  refine ⟨fun hn => ?_, fun hn => ?_⟩
  · rw [if_pos hn, Int.tdiv_eq_ediv_of_nonneg (by omega), Int.tmod_eq_emod_of_nonneg (by omega)]
    have := decS_small (n := -x / 65536) (by omega) (by omega)
    have := decS_small (n := -x % 65536) (by omega) (by omega)
    (repeat' first | intro _ | (with_reducible apply And.intro))
    all_goals first | omega | rfl | ((try simp only [ba_size]); unfold maxLen; omega)
  · rw [if_neg (by omega), Int.tdiv_eq_ediv_of_nonneg (by omega), Int.tmod_eq_emod_of_nonneg (by omega), nil_app]
    have := decS_small (n := x / 65536) (by omega) (by omega)
    have := decS_small (n := x % 65536) (by omega) (by omega)
    (repeat' first | intro _ | (with_reducible apply And.intro))
    all_goals first | omega | rfl | ((try simp only [ba_size]); unfold maxLen; omega)
theorem h_i_ShowFix : Con.Holds Tryz.prog c_i_ShowFix := tree_ok mixedP (consAt h_i_FixOk (consAt h_i_Dec consNil)) e_i_ShowFix fun x hx hp => v_i_ShowFix x hx hp

/-! spec.ShowFix -/

noncomputable def c_s_ShowFix : Con := ⟨73, tI, .str, [.val ⟨false, tI, []⟩], [⟨false, .str, [0]⟩], false, none,
  ((fun _ => True) : (Int) → Prop),
  ((fun x => fixT x) : (Int) → (ByteArray))⟩
def t_s_ShowFix : T :=
  .call 0 (.vr 0) <|
  .prim .not (.vr 1) <|
  .ite (.vr 2) (
   .ret (.cs ⟨#[]⟩)) (
   .prim (.cmp .lss .i64) (.mk2 tI tI (.vr 0) (.ci .i64 0)) <|
   .ite (.vr 3) (
    .prim (.neg .i64) (.vr 0) <|
    .prim (.quo .i64) (.mk2 tI tI (.vr 4) (.ci .i64 65536)) <|
    .call 1 (.vr 5) <|
    .prim .sadd (.mk2 .str .str (.cs ⟨#[45]⟩) (.vr 6)) <|
    .prim .sadd (.mk2 .str .str (.vr 7) (.cs ⟨#[43]⟩)) <|
    .prim (.rem .i64) (.mk2 tI tI (.vr 4) (.ci .i64 65536)) <|
    .call 1 (.vr 9) <|
    .prim .sadd (.mk2 .str .str (.vr 8) (.vr 10)) <|
    .ret (.vr 11)) (
    .prim (.quo .i64) (.mk2 tI tI (.vr 0) (.ci .i64 65536)) <|
    .call 1 (.vr 4) <|
    .prim .sadd (.mk2 .str .str (.cs ⟨#[]⟩) (.vr 5)) <|
    .prim .sadd (.mk2 .str .str (.vr 6) (.cs ⟨#[43]⟩)) <|
    .prim (.rem .i64) (.mk2 tI tI (.vr 0) (.ci .i64 65536)) <|
    .call 1 (.vr 8) <|
    .prim .sadd (.mk2 .str .str (.vr 7) (.vr 9)) <|
    .ret (.vr 10)))
set_option maxRecDepth 100000 in
theorem e_s_ShowFix : exFn Tryz.prog [c_s_FixOk, c_s_Dec] c_s_ShowFix false 3000 ⟨[], []⟩ = .ok t_s_ShowFix := by kernel_rfl
theorem v_s_ShowFix (x : Int) (hx : okD tI x) (hp : (fun _ => True) x) : t_s_ShowFix.wp [c_s_FixOk, c_s_Dec] [⟨tI, x⟩] [] (fun v => v.as .str = (fun x => fixT x) x) := by
  have hx' : -9223372036854775808 ≤ x ∧ x ≤ 9223372036854775807 := hx
  delta t_s_ShowFix c_s_FixOk c_s_Dec; refine vcx ?_; try with_reducible exact True.intro
  (refine dcx ?_; try with_reducible exact True.intro)
  have e1 : (⟨#[45]⟩ : ByteArray).size = 1 := rfl
  have e2 : (⟨#[43]⟩ : ByteArray).size = 1 := rfl
  have e3 : (⟨#[]⟩ : ByteArray).size = 0 := rfl
  unfold fixT
  refine ⟨fun h => by rw [if_neg (by rw [h]; decide)], fun h => ?_⟩
  have h' := (fixB_iff x).1 h
  rw [if_pos h]
  refine ⟨fun hn => ?_, fun hn => ?_⟩
  · rw [if_pos hn, Int.tdiv_eq_ediv_of_nonneg (by omega), Int.tmod_eq_emod_of_nonneg (by omega)]
    have := decS_small (n := -x / 65536) (by omega) (by omega)
    have := decS_small (n := -x % 65536) (by omega) (by omega)
    (repeat' first | intro _ | (with_reducible apply And.intro))
    all_goals first | omega | rfl | ((try simp only [ba_size]); unfold maxLen; omega)
  · rw [if_neg (by omega), Int.tdiv_eq_ediv_of_nonneg (by omega), Int.tmod_eq_emod_of_nonneg (by omega), nil_app]
    have := decS_small (n := x / 65536) (by omega) (by omega)
    have := decS_small (n := x % 65536) (by omega) (by omega)
    (repeat' first | intro _ | (with_reducible apply And.intro))
    all_goals first | omega | rfl | ((try simp only [ba_size]); unfold maxLen; omega)
theorem h_s_ShowFix : Con.Holds Tryz.prog c_s_ShowFix := tree_ok mixedP (consAt h_s_FixOk (consAt h_s_Dec consNil)) e_s_ShowFix fun x hx hp => v_s_ShowFix x hx hp

/-! impl.OpWord -/

noncomputable def c_i_OpWord : Con := ⟨34, tI, .str, [.val ⟨false, tI, []⟩], [⟨false, .str, [0]⟩], false, none,
  ((fun _ => True) : (Int) → Prop),
  ((fun x => opW x) : (Int) → (ByteArray))⟩
def t_i_OpWord : T :=
  .prim (.cmp .eql .i64) (.mk2 tI tI (.vr 0) (.ci .i64 1)) <|
  .ite (.vr 1) (
   .ret (.cs ⟨#[100, 101, 110, 115, 101]⟩)) (
   .prim (.cmp .eql .i64) (.mk2 tI tI (.vr 0) (.ci .i64 2)) <|
   .ite (.vr 2) (
    .ret (.cs ⟨#[98, 105, 97, 115]⟩)) (
    .prim (.cmp .eql .i64) (.mk2 tI tI (.vr 0) (.ci .i64 3)) <|
    .ite (.vr 3) (
     .ret (.cs ⟨#[114, 101, 108, 117]⟩)) (
     .prim (.cmp .eql .i64) (.mk2 tI tI (.vr 0) (.ci .i64 4)) <|
     .ite (.vr 4) (
      .ret (.cs ⟨#[115, 99, 97, 108, 101]⟩)) (
      .prim (.cmp .eql .i64) (.mk2 tI tI (.vr 0) (.ci .i64 5)) <|
      .ite (.vr 5) (
       .ret (.cs ⟨#[114, 101, 115]⟩)) (
       .ret (.cs ⟨#[]⟩))))))
set_option maxRecDepth 100000 in
theorem e_i_OpWord : exFn Tryz.prog [] c_i_OpWord false 3000 ⟨[], []⟩ = .ok t_i_OpWord := by kernel_rfl
theorem v_i_OpWord (x : Int) (hx : okD tI x) (hp : (fun _ => True) x) : t_i_OpWord.wp [] [⟨tI, x⟩] [] (fun v => v.as .str = (fun x => opW x) x) := by
  delta t_i_OpWord; refine vcx ?_; try with_reducible exact True.intro
  (refine dcx ?_; try with_reducible exact True.intro)
  unfold opW
  (repeat' first | intro _ | (with_reducible apply And.intro))
  all_goals simp [*]
theorem h_i_OpWord : Con.Holds Tryz.prog c_i_OpWord := tree_ok mixedP consNil e_i_OpWord fun x hx hp => v_i_OpWord x hx hp

/-! spec.OpWord -/

noncomputable def c_s_OpWord : Con := ⟨52, tI, .str, [.val ⟨false, tI, []⟩], [⟨false, .str, [0]⟩], false, none,
  ((fun _ => True) : (Int) → Prop),
  ((fun x => opW x) : (Int) → (ByteArray))⟩
def t_s_OpWord : T :=
  .call 0 (mkA (.pair tI tIns) [(.vr 0), (.ci .i64 1), (.ci .i64 5)]) <|
  .prim .not (.vr 1) <|
  .ite (.vr 2) (
   .ret (.cs ⟨#[]⟩)) (
   .prim (.lit 9 .str 5) (mkA (.pair .str (.pair .str (.pair .str (.pair .str .str)))) [(.cs ⟨#[100, 101, 110, 115, 101]⟩), (.cs ⟨#[98, 105, 97, 115]⟩), (.cs ⟨#[114, 101, 108, 117]⟩), (.cs ⟨#[115, 99, 97, 108, 101]⟩), (.cs ⟨#[114, 101, 115]⟩)]) <|
   .prim (.ar .sub .i64) (.mk2 tI tI (.vr 0) (.ci .i64 1)) <|
   .prim (.lidx 9 .str) (.mk2 (.slice 9 .str) tI (.vr 3) (.vr 4)) <|
   .prim (.lidx 9 .str) (.mk2 (.slice 9 .str) tI (.vr 3) (.vr 4)) <|
   .ret (.vr 6))
set_option maxRecDepth 100000 in
theorem e_s_OpWord : exFn Tryz.prog [c_s_l1In] c_s_OpWord false 3000 ⟨[], []⟩ = .ok t_s_OpWord := by kernel_rfl
theorem v_s_OpWord (x : Int) (hx : okD tI x) (hp : (fun _ => True) x) : t_s_OpWord.wp [c_s_l1In] [⟨tI, x⟩] [] (fun v => v.as .str = (fun x => opW x) x) := by
  delta t_s_OpWord c_s_l1In; refine vcx ?_; try with_reducible exact True.intro
  refine ⟨fun h => ?_, fun h => ?_⟩
  · have h1 : x ≤ 0 ∨ 6 ≤ x := by simp at h; omega
    unfold opW
    rw [if_neg (by omega), if_neg (by omega), if_neg (by omega), if_neg (by omega), if_neg (by omega)]
  · have h1 : x = 1 ∨ x = 2 ∨ x = 3 ∨ x = 4 ∨ x = 5 := by simp at h; omega
    rcases h1 with rfl | rfl | rfl | rfl | rfl <;> ((repeat' first | intro _ | (with_reducible apply And.intro)) <;> first | decide | rfl | omega)
theorem h_s_OpWord : Con.Holds Tryz.prog c_s_OpWord := tree_ok mixedP (consAt h_s_l1In consNil) e_s_OpWord fun x hx hp => v_s_OpWord x hx hp

/-! impl.ShowOp -/

noncomputable def c_i_ShowOp : Con := ⟨12, tOp, .str, [.val ⟨true, tOp, []⟩], [⟨false, .str, [0]⟩], false, none,
  ((fun _ => True) : (OpD) → Prop),
  ((fun x => opT x) : (OpD) → (ByteArray))⟩
def t_i_ShowOp : T :=
  .call 0 (.vr 0) <|
  .prim .not (.vr 1) <|
  .ite (.vr 2) (
   .ret (.cs ⟨#[]⟩)) (
   .call 1 (.p1 tI (.pair tI tItem) (.vr 0)) <|
   .call 2 (pjA tOp 1 (.vr 0)) <|
   .call 2 (pjA tOp 2 (.vr 0)) <|
   .prim (.lit 9 .str 3) (mkA (.pair .str (.pair .str .str)) [(.vr 3), (.vr 4), (.vr 5)]) <|
   .prim (.llen 3 tI) (prA tOp 3 (.vr 0)) <|
   .loop (.pair tI (.slice 9 .str)) (.mk2 tI (.slice 9 .str) (.ci .i64 0) (.vr 6)) <|
    .prim (.cmp .lss .i64) (.mk2 tI tI (.p1 tI (.slice 9 .str) (.vr 8)) (.vr 7)) <|
    .ite (.vr 9) (
     .prim (.lidx 3 tI) (.mk2 tInts tI (prA tOp 3 (.vr 0)) (.p1 tI (.slice 9 .str) (.vr 8))) <|
     .call 3 (.vr 10) <|
     .prim (.lit 9 .str 1) (.vr 11) <|
     .prim (.lapp 9 .str 16) (.mk2 (.slice 9 .str) (.slice 9 .str) (prA (.pair tI (.slice 9 .str)) 1 (.vr 8)) (.vr 12)) <|
     .prim (.ar .add .i64) (.mk2 tI tI (.p1 tI (.slice 9 .str) (.vr 8)) (.ci .i64 1)) <|
     .again 0 (.mk2 tI (.slice 9 .str) (.vr 14) (.vr 13))) (
     .call 4 (.mk2 (.slice 9 .str) .str (prA (.pair tI (.slice 9 .str)) 1 (.vr 8)) (.cs ⟨#[32]⟩)) <|
     .ret (.vr 10)))
set_option maxRecDepth 100000 in
theorem e_i_ShowOp : exFn Tryz.prog [c_i_OpOk, c_i_OpWord, c_i_Dec, c_i_ShowFix, c_t_Join] c_i_ShowOp false 3000 ⟨[(2986, 2008, drd 19 17 ++ [.dr 14, .dr 11, .dr 16, .dr 13, .dr 10, .dr 15, .dr 12] ++ drd 9 6 ++ [.dr 1, .dr 0, .tm 22 0, .sl 2])], []⟩ = .ok t_i_ShowOp := by kernel_rfl
/- loops: (Int) × (List (ByteArray)) -/
theorem v_i_ShowOp (x : OpD) (hx : okD tOp x) (hp : (fun _ => True) x) : t_i_ShowOp.wp [c_i_OpOk, c_i_OpWord, c_i_Dec, c_i_ShowFix, c_t_Join] [⟨tOp, x⟩] [] (fun v => v.as .str = (fun x => opT x) x) := by
  delta t_i_ShowOp c_i_OpOk c_i_OpWord c_i_Dec c_i_ShowFix c_t_Join; refine vcx ?_; try with_reducible exact True.intro
  (refine dcx ?_; try with_reducible exact True.intro)
  unfold opT
  refine ⟨fun h => by rw [if_neg (by rw [h]; decide)], fun h => ?_⟩
  rw [if_pos h]
  have hl := opB_len h
  obtain ⟨⟨k1, k2, i1, i2, j1, j2, _, _⟩, _⟩ := (opB_iff x).1 h
  refine fun _ _ _ _ _ => loopF (fun k => ((k : Int), opWs x k)) x.2.2.2.length (by rw [opWs_0]; rfl) fun I μ k hk _ go => ?_
  try dsimp only
  (refine dcx ?_; try with_reducible exact True.intro)
  have hw := opWs_len x hk
  refine ⟨fun hlt => ?_, fun hge => ?_⟩
  · have hk' : k < x.2.2.2.length := by omega
    rw [getD_at hk', hw]
    (repeat' first | intro _ | (refine go2 _ ?_ ?_ ?_) | (refine go2 _ ?_ ?_) | (refine go _ ?_ ?_ ?_) | (refine go _ ?_ ?_) | (with_reducible apply And.intro))
    all_goals first | omega | (unfold maxLen; omega) | exact pk (opWs_next x hk').symm
  · have : k = x.2.2.2.length := by omega
    subst this
    have h2 := opJ_size x x.2.2.2.length (Nat.le_refl _) (by omega) (by omega)
    unfold sp at h2 ⊢
    (repeat' first | intro _ | (with_reducible apply And.intro))
    all_goals first | omega | rfl
theorem h_i_ShowOp : Con.Holds Tryz.prog c_i_ShowOp := tree_ok mixedP (consAt h_i_OpOk (consAt h_i_OpWord (consAt h_i_Dec (consAt h_i_ShowFix (consAt h_t_Join consNil))))) e_i_ShowOp fun x hx hp => v_i_ShowOp x hx hp

/-! spec.ShowOp -/

noncomputable def c_s_ShowOp : Con := ⟨42, tOp, .str, [.val ⟨true, tOp, []⟩], [⟨false, .str, [0]⟩], false, none,
  ((fun _ => True) : (OpD) → Prop),
  ((fun x => opT x) : (OpD) → (ByteArray))⟩
def t_s_ShowOp : T :=
  .call 0 (.vr 0) <|
  .prim .not (.vr 1) <|
  .ite (.vr 2) (
   .ret (.cs ⟨#[]⟩)) (
   .call 1 (.p1 tI (.pair tI tItem) (.vr 0)) <|
   .prim .sadd (.mk2 .str .str (.vr 3) (.cs ⟨#[32]⟩)) <|
   .call 2 (pjA tOp 1 (.vr 0)) <|
   .prim .sadd (.mk2 .str .str (.vr 4) (.vr 5)) <|
   .prim .sadd (.mk2 .str .str (.vr 6) (.cs ⟨#[32]⟩)) <|
   .call 2 (pjA tOp 2 (.vr 0)) <|
   .prim .sadd (.mk2 .str .str (.vr 7) (.vr 8)) <|
   .loop (.pair tI .str) (.mk2 tI .str (.ci .i64 0) (.vr 9)) <|
    .prim (.llen 3 tI) (prA tOp 3 (.vr 0)) <|
    .prim (.cmp .lss .i64) (.mk2 tI tI (.p1 tI .str (.vr 10)) (.vr 11)) <|
    .ite (.vr 12) (
     .prim .sadd (.mk2 .str .str (prA (.pair tI .str) 1 (.vr 10)) (.cs ⟨#[32]⟩)) <|
     .prim (.lidx 3 tI) (.mk2 tInts tI (prA tOp 3 (.vr 0)) (.p1 tI .str (.vr 10))) <|
     .call 3 (.vr 14) <|
     .prim .sadd (.mk2 .str .str (.vr 13) (.vr 15)) <|
     .prim (.ar .add .i64) (.mk2 tI tI (.p1 tI .str (.vr 10)) (.ci .i64 1)) <|
     .again 0 (.mk2 tI .str (.vr 17) (.vr 16))) (
     .ret (prA (.pair tI .str) 1 (.vr 10))))
set_option maxRecDepth 100000 in
theorem e_s_ShowOp : exFn Tryz.prog [c_s_OpOk, c_s_OpWord, c_s_Dec, c_s_ShowFix] c_s_ShowOp false 3000 ⟨[(2986, 2010, [.dr 20, .dr 19] ++ drd 16 14 ++ [.dr 11, .dr 10, .dr 18, .dr 13, .dr 9, .dr 17, .dr 12] ++ drd 8 5 ++ [.dr 0, .tm 4 0, .tm 3 0])], []⟩ = .ok t_s_ShowOp := by kernel_rfl
/- loops: (Int) × (ByteArray) -/
theorem v_s_ShowOp (x : OpD) (hx : okD tOp x) (hp : (fun _ => True) x) : t_s_ShowOp.wp [c_s_OpOk, c_s_OpWord, c_s_Dec, c_s_ShowFix] [⟨tOp, x⟩] [] (fun v => v.as .str = (fun x => opT x) x) := by
  delta t_s_ShowOp c_s_OpOk c_s_OpWord c_s_Dec c_s_ShowFix; refine vcx ?_; try with_reducible exact True.intro
  (refine dcx ?_; try with_reducible exact True.intro)
  unfold opT
  refine ⟨fun h => by rw [if_neg (by rw [h]; decide)], fun h => ?_⟩
  rw [if_pos h]
  have hl := opB_len h
  obtain ⟨⟨k1, k2, i1, i2, j1, j2, _, _⟩, _⟩ := (opB_iff x).1 h
  have s0 : (⟨#[32]⟩ : ByteArray).size = 1 := rfl
  have s1 := opW_size x.1
  have s2 := decS_small (n := x.2.1) (by omega) (by omega)
  have s3 := decS_small (n := x.2.2.1) (by omega) (by omega)
  (repeat' first | intro _ | (with_reducible apply And.intro))
  all_goals first | ((try simp only [ba_size]); unfold maxLen; omega) | skip
  refine loopF (fun k => ((k : Int), joinB (opWs x k) sp)) x.2.2.2.length (by rw [opJ_0]; rfl) fun I μ k hk _ go => ?_
  try dsimp only
  (refine dcx ?_; try with_reducible exact True.intro)
  have hw := opJ_size x k hk (by omega) (by omega)
  refine fun _ => ⟨fun hlt => ?_, fun hge => ?_⟩
  · have hk' : k < x.2.2.2.length := by omega
    have s4 := fixT_size (x.2.2.2[k]'hk')
    rw [getD_at hk']
    (repeat' first | intro _ | (refine go2 _ ?_ ?_ ?_) | (refine go2 _ ?_ ?_) | (refine go _ ?_ ?_ ?_) | (refine go _ ?_ ?_) | (with_reducible apply And.intro))
    all_goals first | omega | ((try simp only [ba_size]); unfold maxLen; omega) | exact pk (opJ_next x hk').symm
  · have : k = x.2.2.2.length := by omega
    subst this
    rfl
theorem h_s_ShowOp : Con.Holds Tryz.prog c_s_ShowOp := tree_ok mixedP (consAt h_s_OpOk (consAt h_s_OpWord (consAt h_s_Dec (consAt h_s_ShowFix consNil)))) e_s_ShowOp fun x hx hp => v_s_ShowOp x hx hp
end Go.Proofs.YtllphmcjocidaaaGreatDoor
