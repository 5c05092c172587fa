/- Dec2: trees, and what they say. -/
import Derived.Test.YtllphmcjocidaaaGreatDoorDoorC
namespace Go.Proofs.YtllphmcjocidaaaGreatDoor
open Go.ChangeShapes Go.WideShapes Go.ChangeAt Go.RowKit Go.Deep
set_option linter.unusedVariables false
set_option linter.unusedSimpArgs false


/-! impl.Dec -/

noncomputable def c_i_Dec : Con := ⟨35, tI, .str, [.val ⟨false, tI, []⟩], [⟨false, .str, [0]⟩], false, none,
  ((fun _ => True) : (Int) → Prop),
  ((fun x => decS x) : (Int) → (ByteArray))⟩
def t_i_Dec : T :=
  .call 0 (.vr 0) <|
  .ret (.vr 1)
set_option maxRecDepth 100000 in
theorem e_i_Dec : exFn Tryz.prog [c_c_Itoa] c_i_Dec false 3000 ⟨[], []⟩ = .ok t_i_Dec := by kernel_rfl
theorem v_i_Dec (x : Int) (hx : okD tI x) (hp : (fun _ => True) x) : t_i_Dec.wp [c_c_Itoa] [⟨tI, x⟩] [] (fun v => v.as .str = (fun x => decS x) x) := by
  delta t_i_Dec c_c_Itoa; refine vcx ?_; try with_reducible exact True.intro
  exact fun _ => trivial
theorem h_i_Dec : Con.Holds Tryz.prog c_i_Dec := tree_ok mixedP (consAt h_c_Itoa consNil) e_i_Dec fun x hx hp => v_i_Dec x hx hp

/-! spec.Dec -/

noncomputable def c_s_Dec : Con := ⟨72, tI, .str, [.val ⟨false, tI, []⟩], [⟨false, .str, [0]⟩], false, none,
  ((fun _ => True) : (Int) → Prop),
  ((fun x => decS x) : (Int) → (ByteArray))⟩
def t_s_Dec : T :=
  .prim (.cmp .eql .i64) (.mk2 tI tI (.vr 0) (.ci .i64 0)) <|
  .ite (.vr 1) (
   .ret (.cs ⟨#[48]⟩)) (
   .prim (.cmp .lss .i64) (.mk2 tI tI (.vr 0) (.ci .i64 0)) <|
   .loop (.pair .str tI) (.mk2 .str tI (.cs ⟨#[]⟩) (.vr 0)) <|
    .prim (.cmp .neq .i64) (.mk2 tI tI (prA (.pair .str tI) 1 (.vr 3)) (.ci .i64 0)) <|
    .ite (.vr 4) (
     .prim (.rem .i64) (.mk2 tI tI (prA (.pair .str tI) 1 (.vr 3)) (.ci .i64 10)) <|
     .prim (.cmp .lss .i64) (.mk2 tI tI (.vr 5) (.ci .i64 0)) <|
     .ite (.vr 6) (
      .prim (.neg .i64) (.vr 5) <|
      .prim (.ar .add .i64) (.mk2 tI tI (.ci .i64 48) (.vr 7)) <|
      .prim (.conv .i64 .u8) (.vr 8) <|
      .prim (.lit 5 (.int .u8) 1) (.vr 9) <|
      .prim (.b2s 5) (.vr 10) <|
      .prim .sadd (.mk2 .str .str (.vr 11) (.p1 .str tI (.vr 3))) <|
      .prim (.quo .i64) (.mk2 tI tI (prA (.pair .str tI) 1 (.vr 3)) (.ci .i64 10)) <|
      .again 0 (.mk2 .str tI (.vr 12) (.vr 13))) (
      .prim (.ar .add .i64) (.mk2 tI tI (.ci .i64 48) (.vr 5)) <|
      .prim (.conv .i64 .u8) (.vr 7) <|
      .prim (.lit 5 (.int .u8) 1) (.vr 8) <|
      .prim (.b2s 5) (.vr 9) <|
      .prim .sadd (.mk2 .str .str (.vr 10) (.p1 .str tI (.vr 3))) <|
      .prim (.quo .i64) (.mk2 tI tI (prA (.pair .str tI) 1 (.vr 3)) (.ci .i64 10)) <|
      .again 0 (.mk2 .str tI (.vr 11) (.vr 12)))) (
     .ite (.vr 2) (
      .prim .sadd (.mk2 .str .str (.cs ⟨#[45]⟩) (.p1 .str tI (.vr 3))) <|
      .ret (.vr 5)) (
      .ret (.p1 .str tI (.vr 3)))))
set_option maxRecDepth 100000 in
theorem e_s_Dec : exFn Tryz.prog [] c_s_Dec false 3000 ⟨[(2986, 2003, drd 9 6 ++ [.tm 3 0, .tm 0 0])], []⟩ = .ok t_s_Dec := by kernel_rfl
/- loops: (ByteArray) × (Int) -/
theorem v_s_Dec (x : Int) (hx : okD tI x) (hp : (fun _ => True) x) : t_s_Dec.wp [] [⟨tI, x⟩] [] (fun v => v.as .str = (fun x => decS x) x) := by
  have hx' : -9223372036854775808 ≤ x ∧ x ≤ 9223372036854775807 := hx
  delta t_s_Dec; refine vcx ?_; try with_reducible exact True.intro
  (refine dcx ?_; try with_reducible exact True.intro)
  refine ⟨fun h => ?_, fun h => ?_⟩
  · subst h
    rw [show (0 : Int) = ((0 : Nat) : Int) from rfl, decS_pos (u := 0) rfl, Go.Lib.decDigits, dif_pos (by decide)]
    rfl
  · refine ⟨fun s => ∃ l : List UInt8, s.1 = ofL l ∧ Dg x.natAbs (s.2 : Int).natAbs l ∧ (0 ≤ x → @LE.le Int _ 0 s.2) ∧ (x ≤ 0 → @LE.le Int _ s.2 0), fun s => (s.2 : Int).natAbs, ⟨[], rfl, Dg.start (by omega), fun h => h, fun h => h⟩, fun s hk hI => ?_⟩
    obtain ⟨o, m⟩ := s
    change ByteArray at o
    change Int at m
    have hk2 : -9223372036854775808 ≤ m ∧ m ≤ 9223372036854775807 := hk.2
    clear hk
    obtain ⟨l, rfl, hd, p1, p2⟩ := hI
    change Dg x.natAbs m.natAbs l at hd
    change 0 ≤ x → 0 ≤ m at p1
    change x ≤ 0 → m ≤ 0 at p2
    have hl := hd.len (by omega)
    have hs := ofL_size l
    try dsimp only
    refine ⟨fun hne => ?_, fun h0 => ?_⟩
    · have hn := hd.next (by omega)
      have eb : ∀ k : Nat, (ofL [UInt8.ofNat (48 + k % 10)]).size = 1 := fun k => rfl
      by_cases hm : 0 ≤ m
      · obtain ⟨k, rfl⟩ : ∃ k : Nat, m = (k : Int) := ⟨m.natAbs, by omega⟩
        rw [tm_pos, td_pos]
        have e := dig_byte (d := ((k % 10 : Nat) : Int)) (m := k) (by omega) rfl
        rw [Int.natAbs_natCast] at hn
        (repeat' first | intro _ | (with_reducible apply And.intro))
        all_goals first | omega | (exfalso; omega) | (rw [e, eb]; unfold maxLen; omega) | exact ⟨_, by rw [e]; exact ofL_app _ _, hn, fun _ => by omega, fun h => by have := p2 h; omega⟩
      · obtain ⟨k, rfl⟩ : ∃ k : Nat, m = -(k : Int) := ⟨m.natAbs, by omega⟩
        rw [tm_neg, td_neg]
        rw [Int.natAbs_neg, Int.natAbs_natCast] at hn
        have e1 := dig_byte (d := - -((k % 10 : Nat) : Int)) (m := k) (by omega) (by omega)
        have e2 : k % 10 = 0 → ofBytesL [IntKind.u8.wrap (48 + -((k % 10 : Nat) : Int))] = ofL [UInt8.ofNat (48 + k % 10)] := fun h => dig_byte (by omega) (by omega)
        (repeat' first | intro _ | (with_reducible apply And.intro))
        all_goals first | omega | (rw [e1, eb]; unfold maxLen; omega) | (rw [e2 (by omega), eb]; unfold maxLen; omega) | exact ⟨_, by rw [e1]; exact ofL_app _ _, by show Dg _ (-((k / 10 : Nat) : Int)).natAbs _; rw [Int.natAbs_neg, Int.natAbs_natCast]; exact hn, fun h => by have := p1 h; omega, fun h => by omega⟩ | exact ⟨_, by rw [e2 (by omega)]; exact ofL_app _ _, by show Dg _ (-((k / 10 : Nat) : Int)).natAbs _; rw [Int.natAbs_neg, Int.natAbs_natCast]; exact hn, fun h => by have := p1 h; omega, fun h => by omega⟩
    · have hm : m = 0 := by omega
      subst hm
      have hd' := hd.done
      have e45 : (⟨#[45]⟩ : ByteArray) = ofL [45] := rfl
      (repeat' first | intro _ | (with_reducible apply And.intro))
      all_goals first | omega | skip
      · have : (⟨#[45]⟩ : ByteArray).size = 1 := rfl
        unfold maxLen; omega
      · rw [decS_neg (u := x.natAbs) (by omega) (by omega), hd', e45]
      · rw [decS_pos (u := x.natAbs) (by omega), hd']
theorem h_s_Dec : Con.Holds Tryz.prog c_s_Dec := tree_ok mixedP consNil e_s_Dec fun x hx hp => v_s_Dec x hx hp
end Go.Proofs.YtllphmcjocidaaaGreatDoor
