/- Rd3: trees, and what they say. -/
import Derived.Test.YtllphmcjocidaaaGreatDoorRd2
namespace Go.Proofs.YtllphmcjocidaaaGreatDoor
open Go.ChangeShapes Go.WideShapes Go.ChangeAt Go.RowKit Go.Deep
set_option linter.unusedVariables false
set_option linter.unusedSimpArgs false
noncomputable def rdFix (s : ByteArray) : Int × Bool := open Classical in if h : ∃ a, fixB a = true ∧ fixT a = s then (Classical.choose h, true) else (0, false)
theorem rdFix_yes {s : ByteArray} {a : Int} (h1 : fixB a = true) (h2 : fixT a = s) : rdFix s = (a, true) := by
  have h : ∃ a, fixB a = true ∧ fixT a = s := ⟨a, h1, h2⟩
  unfold rdFix
  rw [dif_pos h]
  obtain ⟨g1, g2⟩ := Classical.choose_spec h
  exact Prod.ext (fixT_inj g1 h1 (g2.trans h2.symm)) rfl
theorem rdFix_no {s : ByteArray} (h : ∀ a, fixB a = true → fixT a = s → False) : (0, false) = rdFix s := by
  unfold rdFix
  rw [dif_neg (fun ⟨a, h1, h2⟩ => h a h1 h2)]
theorem fix_parts {x t : ByteArray} {neg : Bool} (hx : x.data.toList = if neg = true then 45 :: t.data.toList else t.data.toList) (hh : neg = false → x.data.toList[0]? ≠ some 45) {a : Int} (ha : fixB a = true) (e : fixT a = x) :
    t.data.toList = Go.Lib.itoa ((a.natAbs : Int) / 65536) ++ 43 :: Go.Lib.itoa ((a.natAbs : Int) % 65536) ∧ (neg = true ↔ a < 0) := by
  have hl : x.data.toList = fixL a := by rw [← e, fixT_list ha]
  by_cases hn : a < 0
  · have ea : (a.natAbs : Int) = -a := by omega
    rw [ea]
    have hf : fixL a = 45 :: (Go.Lib.itoa (-a / 65536) ++ 43 :: Go.Lib.itoa (-a % 65536)) := by unfold fixL; rw [if_pos hn]
    cases neg with
    | false => exact absurd (by rw [hl, hf]; rfl) (hh rfl)
    | true =>
      rw [if_pos rfl, hl, hf] at hx
      exact ⟨(List.cons.inj hx).2.symm, ⟨fun _ => hn, fun _ => rfl⟩⟩
  · have ea : (a.natAbs : Int) = a := by omega
    rw [ea]
    have hf : fixL a = Go.Lib.itoa (a / 65536) ++ 43 :: Go.Lib.itoa (a % 65536) := by unfold fixL; rw [if_neg hn]
    cases neg with
    | true =>
      obtain ⟨b, r, e1, hb⟩ := fixL_head hn
      rw [if_pos rfl, hl, e1] at hx
      exact absurd (List.cons.inj hx).1 hb
    | false =>
      rw [if_neg (by decide), hl, hf] at hx
      exact ⟨hx.symm, ⟨(fun h => (by cases h)), fun h => absurd h hn⟩⟩
theorem plus_at {q r : Int} {l : List UInt8} {k : Nat} (h : l = Go.Lib.itoa q ++ 43 :: Go.Lib.itoa r) (hk : l[k]? = some 43) (hno : ∀ j, j < k → l[j]? ≠ some 43) : k = (Go.Lib.itoa q).length := by
  have n43 : (43 : UInt8) ∉ Go.Lib.itoa q := no_byte q (by decide) (.inl (by decide))
  rcases Nat.lt_trichotomy k (Go.Lib.itoa q).length with h1 | h1 | h1
  · rw [h, List.getElem?_append_left h1] at hk
    exact absurd (List.mem_of_getElem? hk) n43
  · exact h1
  · refine absurd ?_ (hno _ h1)
    rw [h, List.getElem?_append_right (Nat.le_refl _), Nat.sub_self]; rfl
theorem fix_dec {x t : ByteArray} {neg : Bool} (hx : x.data.toList = if neg = true then 45 :: t.data.toList else t.data.toList) (hh : neg = false → x.data.toList[0]? ≠ some 45) {k : Nat} (hk : t.data.toList[k]? = some 43) (hno : ∀ j, j < k → t.data.toList[j]? ≠ some 43)
    {a : Int} (ha : fixB a = true) (e : fixT a = x) : rdDec (t.extract 0 k) = ((a.natAbs : Int) / 65536, true) ∧ rdDec (t.extract (k + 1) t.size) = ((a.natAbs : Int) % 65536, true) ∧ (neg = true ↔ a < 0) ∧ (a.natAbs : Int) ≤ 2147483647 := by
  obtain ⟨h1, h2⟩ := fix_parts hx hh ha e
  have hk' := plus_at h1 hk hno
  have hb := (fixB_iff a).1 ha
  have e1 : t.extract 0 k = decS ((a.natAbs : Int) / 65536) := by
    rw [ext_of, List.drop_zero, h1, hk', List.take_left]; rfl
  have e2 : t.extract (k + 1) t.size = decS ((a.natAbs : Int) % 65536) := by
    rw [ext_of, List.take_of_length_le (by rw [ba_len]; exact Nat.le_refl _), h1, hk', show (Go.Lib.itoa ((a.natAbs : Int) / 65536)).length + 1 = (Go.Lib.itoa ((a.natAbs : Int) / 65536) ++ [43]).length by simp]
    rw [show Go.Lib.itoa ((a.natAbs : Int) / 65536) ++ 43 :: Go.Lib.itoa ((a.natAbs : Int) % 65536) = (Go.Lib.itoa ((a.natAbs : Int) / 65536) ++ [43]) ++ Go.Lib.itoa ((a.natAbs : Int) % 65536) by simp, List.drop_left]; rfl
  exact ⟨rdDec_yes e1.symm (by omega) (by omega), rdDec_yes e2.symm (by omega) (by omega), h2, by omega⟩
theorem fix_none {x t : ByteArray} {neg : Bool} (hx : x.data.toList = if neg = true then 45 :: t.data.toList else t.data.toList) (hh : neg = false → x.data.toList[0]? ≠ some 45) (hno : ∀ j, j < t.size → t.data.toList[j]? ≠ some 43) : (0, false) = rdFix x :=
  rdFix_no fun a ha e => by
    obtain ⟨h1, _⟩ := fix_parts hx hh ha e
    have hl : (Go.Lib.itoa ((a.natAbs : Int) / 65536)).length < t.size := by
      rw [← ba_len, h1, List.length_append, List.length_cons]; omega
    refine hno _ hl ?_
    rw [h1, List.getElem?_append_right (Nat.le_refl _), Nat.sub_self]; rfl

/-! spec.ReadFix -/

noncomputable def c_s_ReadFix : Con := ⟨54, .str, (.pair tI .bool), [.val ⟨false, .str, []⟩], [⟨false, tI, [0]⟩, ⟨false, .bool, [0]⟩], false, none,
  ((fun x => x.size ≤ 1048576) : (ByteArray) → Prop),
  ((fun x => rdFix x) : (ByteArray) → (Int × Bool))⟩
def t_s_ReadFix : T :=
  .prim .slen (.vr 0) <|
  .prim (.cmp .gtr .i64) (.mk2 tI tI (.vr 1) (.ci .i64 0)) <|
  .ite (.vr 2) (
   .prim .sidx (.mk2 .str tI (.vr 0) (.ci .i64 0)) <|
   .prim (.cmp .eql .u8) (.mk2 (.int .u8) (.int .u8) (.vr 3) (.ci .u8 45)) <|
   .ite (.vr 4) (
    .prim .slen (.vr 0) <|
    .prim .ssub (mkA (.pair .str tIns) [(.vr 0), (.ci .i64 1), (.vr 5)]) <|
    .loop tI (.ci .i64 0) <|
     .prim .slen (.vr 6) <|
     .prim (.cmp .lss .i64) (.mk2 tI tI (.vr 7) (.vr 8)) <|
     .ite (.vr 9) (
      .prim .sidx (.mk2 .str tI (.vr 6) (.vr 7)) <|
      .prim (.cmp .neq .u8) (.mk2 (.int .u8) (.int .u8) (.vr 10) (.ci .u8 43)) <|
      .ite (.vr 11) (
       .prim (.ar .add .i64) (.mk2 tI tI (.vr 7) (.ci .i64 1)) <|
       .again 0 (.vr 12)) (
       .prim .slen (.vr 6) <|
       .prim (.cmp .eql .i64) (.mk2 tI tI (.vr 7) (.vr 12)) <|
       .ite (.vr 13) (
        .ret (.mk2 tI .bool (.ci .i64 0) (.cb false))) (
        .prim .ssub (mkA (.pair .str tIns) [(.vr 6), (.ci .i64 0), (.vr 7)]) <|
        .call 0 (.vr 14) <|
        .prim (.ar .add .i64) (.mk2 tI tI (.vr 7) (.ci .i64 1)) <|
        .prim .slen (.vr 6) <|
        .prim .ssub (mkA (.pair .str tIns) [(.vr 6), (.vr 16), (.vr 17)]) <|
        .call 0 (.vr 18) <|
        .prim .not (prA (.pair tI .bool) 1 (.vr 15)) <|
        .ite (.vr 20) (
         .ret (.mk2 tI .bool (.ci .i64 0) (.cb false))) (
         .prim .not (prA (.pair tI .bool) 1 (.vr 19)) <|
         .ite (.vr 21) (
          .ret (.mk2 tI .bool (.ci .i64 0) (.cb false))) (
          .prim (.cmp .lss .i64) (.mk2 tI tI (.p1 tI .bool (.vr 15)) (.ci .i64 0)) <|
          .ite (.vr 22) (
           .ret (.mk2 tI .bool (.ci .i64 0) (.cb false))) (
           .prim (.cmp .lss .i64) (.mk2 tI tI (.p1 tI .bool (.vr 19)) (.ci .i64 0)) <|
           .ite (.vr 23) (
            .ret (.mk2 tI .bool (.ci .i64 0) (.cb false))) (
            .prim (.cmp .gtr .i64) (.mk2 tI tI (.p1 tI .bool (.vr 15)) (.ci .i64 32767)) <|
            .ite (.vr 24) (
             .ret (.mk2 tI .bool (.ci .i64 0) (.cb false))) (
             .prim (.cmp .geq .i64) (.mk2 tI tI (.p1 tI .bool (.vr 19)) (.ci .i64 65536)) <|
             .ite (.vr 25) (
              .ret (.mk2 tI .bool (.ci .i64 0) (.cb false))) (
              .prim (.ar .mul .i64) (.mk2 tI tI (.p1 tI .bool (.vr 15)) (.ci .i64 65536)) <|
              .prim (.ar .add .i64) (.mk2 tI tI (.vr 26) (.p1 tI .bool (.vr 19))) <|
              .prim .slen (.vr 6) <|
              .prim .slen (.vr 0) <|
              .prim (.cmp .lss .i64) (.mk2 tI tI (.vr 28) (.vr 29)) <|
              .ite (.vr 30) (
               .prim (.neg .i64) (.vr 27) <|
               .call 1 (.vr 31) <|
               .prim (.seq true) (.mk2 .str .str (.vr 32) (.vr 0)) <|
               .ite (.vr 33) (
                .ret (.mk2 tI .bool (.ci .i64 0) (.cb false))) (
                .ret (.mk2 tI .bool (.vr 31) (.cb true)))) (
               .call 1 (.vr 27) <|
               .prim (.seq true) (.mk2 .str .str (.vr 31) (.vr 0)) <|
               .ite (.vr 32) (
                .ret (.mk2 tI .bool (.ci .i64 0) (.cb false))) (
                .ret (.mk2 tI .bool (.vr 27) (.cb true))))))))))))) (
      .prim .slen (.vr 6) <|
      .prim (.cmp .eql .i64) (.mk2 tI tI (.vr 7) (.vr 10)) <|
      .ite (.vr 11) (
       .ret (.mk2 tI .bool (.ci .i64 0) (.cb false))) (
       .prim .ssub (mkA (.pair .str tIns) [(.vr 6), (.ci .i64 0), (.vr 7)]) <|
       .call 0 (.vr 12) <|
       .prim (.ar .add .i64) (.mk2 tI tI (.vr 7) (.ci .i64 1)) <|
       .prim .slen (.vr 6) <|
       .prim .ssub (mkA (.pair .str tIns) [(.vr 6), (.vr 14), (.vr 15)]) <|
       .call 0 (.vr 16) <|
       .prim .not (prA (.pair tI .bool) 1 (.vr 13)) <|
       .ite (.vr 18) (
        .ret (.mk2 tI .bool (.ci .i64 0) (.cb false))) (
        .prim .not (prA (.pair tI .bool) 1 (.vr 17)) <|
        .ite (.vr 19) (
         .ret (.mk2 tI .bool (.ci .i64 0) (.cb false))) (
         .prim (.cmp .lss .i64) (.mk2 tI tI (.p1 tI .bool (.vr 13)) (.ci .i64 0)) <|
         .ite (.vr 20) (
          .ret (.mk2 tI .bool (.ci .i64 0) (.cb false))) (
          .prim (.cmp .lss .i64) (.mk2 tI tI (.p1 tI .bool (.vr 17)) (.ci .i64 0)) <|
          .ite (.vr 21) (
           .ret (.mk2 tI .bool (.ci .i64 0) (.cb false))) (
           .prim (.cmp .gtr .i64) (.mk2 tI tI (.p1 tI .bool (.vr 13)) (.ci .i64 32767)) <|
           .ite (.vr 22) (
            .ret (.mk2 tI .bool (.ci .i64 0) (.cb false))) (
            .prim (.cmp .geq .i64) (.mk2 tI tI (.p1 tI .bool (.vr 17)) (.ci .i64 65536)) <|
            .ite (.vr 23) (
             .ret (.mk2 tI .bool (.ci .i64 0) (.cb false))) (
             .prim (.ar .mul .i64) (.mk2 tI tI (.p1 tI .bool (.vr 13)) (.ci .i64 65536)) <|
             .prim (.ar .add .i64) (.mk2 tI tI (.vr 24) (.p1 tI .bool (.vr 17))) <|
             .prim .slen (.vr 6) <|
             .prim .slen (.vr 0) <|
             .prim (.cmp .lss .i64) (.mk2 tI tI (.vr 26) (.vr 27)) <|
             .ite (.vr 28) (
              .prim (.neg .i64) (.vr 25) <|
              .call 1 (.vr 29) <|
              .prim (.seq true) (.mk2 .str .str (.vr 30) (.vr 0)) <|
              .ite (.vr 31) (
               .ret (.mk2 tI .bool (.ci .i64 0) (.cb false))) (
               .ret (.mk2 tI .bool (.vr 29) (.cb true)))) (
              .call 1 (.vr 25) <|
              .prim (.seq true) (.mk2 .str .str (.vr 29) (.vr 0)) <|
              .ite (.vr 30) (
               .ret (.mk2 tI .bool (.ci .i64 0) (.cb false))) (
               .ret (.mk2 tI .bool (.vr 25) (.cb true))))))))))))) (
    .loop tI (.ci .i64 0) <|
     .prim .slen (.vr 0) <|
     .prim (.cmp .lss .i64) (.mk2 tI tI (.vr 5) (.vr 6)) <|
     .ite (.vr 7) (
      .prim .sidx (.mk2 .str tI (.vr 0) (.vr 5)) <|
      .prim (.cmp .neq .u8) (.mk2 (.int .u8) (.int .u8) (.vr 8) (.ci .u8 43)) <|
      .ite (.vr 9) (
       .prim (.ar .add .i64) (.mk2 tI tI (.vr 5) (.ci .i64 1)) <|
       .again 0 (.vr 10)) (
       .prim .slen (.vr 0) <|
       .prim (.cmp .eql .i64) (.mk2 tI tI (.vr 5) (.vr 10)) <|
       .ite (.vr 11) (
        .ret (.mk2 tI .bool (.ci .i64 0) (.cb false))) (
        .prim .ssub (mkA (.pair .str tIns) [(.vr 0), (.ci .i64 0), (.vr 5)]) <|
        .call 0 (.vr 12) <|
        .prim (.ar .add .i64) (.mk2 tI tI (.vr 5) (.ci .i64 1)) <|
        .prim .slen (.vr 0) <|
        .prim .ssub (mkA (.pair .str tIns) [(.vr 0), (.vr 14), (.vr 15)]) <|
        .call 0 (.vr 16) <|
        .prim .not (prA (.pair tI .bool) 1 (.vr 13)) <|
        .ite (.vr 18) (
         .ret (.mk2 tI .bool (.ci .i64 0) (.cb false))) (
         .prim .not (prA (.pair tI .bool) 1 (.vr 17)) <|
         .ite (.vr 19) (
          .ret (.mk2 tI .bool (.ci .i64 0) (.cb false))) (
          .prim (.cmp .lss .i64) (.mk2 tI tI (.p1 tI .bool (.vr 13)) (.ci .i64 0)) <|
          .ite (.vr 20) (
           .ret (.mk2 tI .bool (.ci .i64 0) (.cb false))) (
           .prim (.cmp .lss .i64) (.mk2 tI tI (.p1 tI .bool (.vr 17)) (.ci .i64 0)) <|
           .ite (.vr 21) (
            .ret (.mk2 tI .bool (.ci .i64 0) (.cb false))) (
            .prim (.cmp .gtr .i64) (.mk2 tI tI (.p1 tI .bool (.vr 13)) (.ci .i64 32767)) <|
            .ite (.vr 22) (
             .ret (.mk2 tI .bool (.ci .i64 0) (.cb false))) (
             .prim (.cmp .geq .i64) (.mk2 tI tI (.p1 tI .bool (.vr 17)) (.ci .i64 65536)) <|
             .ite (.vr 23) (
              .ret (.mk2 tI .bool (.ci .i64 0) (.cb false))) (
              .prim (.ar .mul .i64) (.mk2 tI tI (.p1 tI .bool (.vr 13)) (.ci .i64 65536)) <|
              .prim (.ar .add .i64) (.mk2 tI tI (.vr 24) (.p1 tI .bool (.vr 17))) <|
              .prim .slen (.vr 0) <|
              .prim .slen (.vr 0) <|
              .prim (.cmp .lss .i64) (.mk2 tI tI (.vr 26) (.vr 27)) <|
              .ite (.vr 28) (
               .prim (.neg .i64) (.vr 25) <|
               .call 1 (.vr 29) <|
               .prim (.seq true) (.mk2 .str .str (.vr 30) (.vr 0)) <|
               .ite (.vr 31) (
                .ret (.mk2 tI .bool (.ci .i64 0) (.cb false))) (
                .ret (.mk2 tI .bool (.vr 29) (.cb true)))) (
               .call 1 (.vr 25) <|
               .prim (.seq true) (.mk2 .str .str (.vr 29) (.vr 0)) <|
               .ite (.vr 30) (
                .ret (.mk2 tI .bool (.ci .i64 0) (.cb false))) (
                .ret (.mk2 tI .bool (.vr 25) (.cb true))))))))))))) (
      .prim .slen (.vr 0) <|
      .prim (.cmp .eql .i64) (.mk2 tI tI (.vr 5) (.vr 8)) <|
      .ite (.vr 9) (
       .ret (.mk2 tI .bool (.ci .i64 0) (.cb false))) (
       .prim .ssub (mkA (.pair .str tIns) [(.vr 0), (.ci .i64 0), (.vr 5)]) <|
       .call 0 (.vr 10) <|
       .prim (.ar .add .i64) (.mk2 tI tI (.vr 5) (.ci .i64 1)) <|
       .prim .slen (.vr 0) <|
       .prim .ssub (mkA (.pair .str tIns) [(.vr 0), (.vr 12), (.vr 13)]) <|
       .call 0 (.vr 14) <|
       .prim .not (prA (.pair tI .bool) 1 (.vr 11)) <|
       .ite (.vr 16) (
        .ret (.mk2 tI .bool (.ci .i64 0) (.cb false))) (
        .prim .not (prA (.pair tI .bool) 1 (.vr 15)) <|
        .ite (.vr 17) (
         .ret (.mk2 tI .bool (.ci .i64 0) (.cb false))) (
         .prim (.cmp .lss .i64) (.mk2 tI tI (.p1 tI .bool (.vr 11)) (.ci .i64 0)) <|
         .ite (.vr 18) (
          .ret (.mk2 tI .bool (.ci .i64 0) (.cb false))) (
          .prim (.cmp .lss .i64) (.mk2 tI tI (.p1 tI .bool (.vr 15)) (.ci .i64 0)) <|
          .ite (.vr 19) (
           .ret (.mk2 tI .bool (.ci .i64 0) (.cb false))) (
           .prim (.cmp .gtr .i64) (.mk2 tI tI (.p1 tI .bool (.vr 11)) (.ci .i64 32767)) <|
           .ite (.vr 20) (
            .ret (.mk2 tI .bool (.ci .i64 0) (.cb false))) (
            .prim (.cmp .geq .i64) (.mk2 tI tI (.p1 tI .bool (.vr 15)) (.ci .i64 65536)) <|
            .ite (.vr 21) (
             .ret (.mk2 tI .bool (.ci .i64 0) (.cb false))) (
             .prim (.ar .mul .i64) (.mk2 tI tI (.p1 tI .bool (.vr 11)) (.ci .i64 65536)) <|
             .prim (.ar .add .i64) (.mk2 tI tI (.vr 22) (.p1 tI .bool (.vr 15))) <|
             .prim .slen (.vr 0) <|
             .prim .slen (.vr 0) <|
             .prim (.cmp .lss .i64) (.mk2 tI tI (.vr 24) (.vr 25)) <|
             .ite (.vr 26) (
              .prim (.neg .i64) (.vr 23) <|
              .call 1 (.vr 27) <|
              .prim (.seq true) (.mk2 .str .str (.vr 28) (.vr 0)) <|
              .ite (.vr 29) (
               .ret (.mk2 tI .bool (.ci .i64 0) (.cb false))) (
               .ret (.mk2 tI .bool (.vr 27) (.cb true)))) (
              .call 1 (.vr 23) <|
              .prim (.seq true) (.mk2 .str .str (.vr 27) (.vr 0)) <|
              .ite (.vr 28) (
               .ret (.mk2 tI .bool (.ci .i64 0) (.cb false))) (
               .ret (.mk2 tI .bool (.vr 23) (.cb true)))))))))))))) (
   .loop tI (.ci .i64 0) <|
    .prim .slen (.vr 0) <|
    .prim (.cmp .lss .i64) (.mk2 tI tI (.vr 3) (.vr 4)) <|
    .ite (.vr 5) (
     .prim .sidx (.mk2 .str tI (.vr 0) (.vr 3)) <|
     .prim (.cmp .neq .u8) (.mk2 (.int .u8) (.int .u8) (.vr 6) (.ci .u8 43)) <|
     .ite (.vr 7) (
      .prim (.ar .add .i64) (.mk2 tI tI (.vr 3) (.ci .i64 1)) <|
      .again 0 (.vr 8)) (
      .prim .slen (.vr 0) <|
      .prim (.cmp .eql .i64) (.mk2 tI tI (.vr 3) (.vr 8)) <|
      .ite (.vr 9) (
       .ret (.mk2 tI .bool (.ci .i64 0) (.cb false))) (
       .prim .ssub (mkA (.pair .str tIns) [(.vr 0), (.ci .i64 0), (.vr 3)]) <|
       .call 0 (.vr 10) <|
       .prim (.ar .add .i64) (.mk2 tI tI (.vr 3) (.ci .i64 1)) <|
       .prim .slen (.vr 0) <|
       .prim .ssub (mkA (.pair .str tIns) [(.vr 0), (.vr 12), (.vr 13)]) <|
       .call 0 (.vr 14) <|
       .prim .not (prA (.pair tI .bool) 1 (.vr 11)) <|
       .ite (.vr 16) (
        .ret (.mk2 tI .bool (.ci .i64 0) (.cb false))) (
        .prim .not (prA (.pair tI .bool) 1 (.vr 15)) <|
        .ite (.vr 17) (
         .ret (.mk2 tI .bool (.ci .i64 0) (.cb false))) (
         .prim (.cmp .lss .i64) (.mk2 tI tI (.p1 tI .bool (.vr 11)) (.ci .i64 0)) <|
         .ite (.vr 18) (
          .ret (.mk2 tI .bool (.ci .i64 0) (.cb false))) (
          .prim (.cmp .lss .i64) (.mk2 tI tI (.p1 tI .bool (.vr 15)) (.ci .i64 0)) <|
          .ite (.vr 19) (
           .ret (.mk2 tI .bool (.ci .i64 0) (.cb false))) (
           .prim (.cmp .gtr .i64) (.mk2 tI tI (.p1 tI .bool (.vr 11)) (.ci .i64 32767)) <|
           .ite (.vr 20) (
            .ret (.mk2 tI .bool (.ci .i64 0) (.cb false))) (
            .prim (.cmp .geq .i64) (.mk2 tI tI (.p1 tI .bool (.vr 15)) (.ci .i64 65536)) <|
            .ite (.vr 21) (
             .ret (.mk2 tI .bool (.ci .i64 0) (.cb false))) (
             .prim (.ar .mul .i64) (.mk2 tI tI (.p1 tI .bool (.vr 11)) (.ci .i64 65536)) <|
             .prim (.ar .add .i64) (.mk2 tI tI (.vr 22) (.p1 tI .bool (.vr 15))) <|
             .prim .slen (.vr 0) <|
             .prim .slen (.vr 0) <|
             .prim (.cmp .lss .i64) (.mk2 tI tI (.vr 24) (.vr 25)) <|
             .ite (.vr 26) (
              .prim (.neg .i64) (.vr 23) <|
              .call 1 (.vr 27) <|
              .prim (.seq true) (.mk2 .str .str (.vr 28) (.vr 0)) <|
              .ite (.vr 29) (
               .ret (.mk2 tI .bool (.ci .i64 0) (.cb false))) (
               .ret (.mk2 tI .bool (.vr 27) (.cb true)))) (
              .call 1 (.vr 23) <|
              .prim (.seq true) (.mk2 .str .str (.vr 27) (.vr 0)) <|
              .ite (.vr 28) (
               .ret (.mk2 tI .bool (.ci .i64 0) (.cb false))) (
               .ret (.mk2 tI .bool (.vr 23) (.cb true))))))))))))) (
     .prim .slen (.vr 0) <|
     .prim (.cmp .eql .i64) (.mk2 tI tI (.vr 3) (.vr 6)) <|
     .ite (.vr 7) (
      .ret (.mk2 tI .bool (.ci .i64 0) (.cb false))) (
      .prim .ssub (mkA (.pair .str tIns) [(.vr 0), (.ci .i64 0), (.vr 3)]) <|
      .call 0 (.vr 8) <|
      .prim (.ar .add .i64) (.mk2 tI tI (.vr 3) (.ci .i64 1)) <|
      .prim .slen (.vr 0) <|
      .prim .ssub (mkA (.pair .str tIns) [(.vr 0), (.vr 10), (.vr 11)]) <|
      .call 0 (.vr 12) <|
      .prim .not (prA (.pair tI .bool) 1 (.vr 9)) <|
      .ite (.vr 14) (
       .ret (.mk2 tI .bool (.ci .i64 0) (.cb false))) (
       .prim .not (prA (.pair tI .bool) 1 (.vr 13)) <|
       .ite (.vr 15) (
        .ret (.mk2 tI .bool (.ci .i64 0) (.cb false))) (
        .prim (.cmp .lss .i64) (.mk2 tI tI (.p1 tI .bool (.vr 9)) (.ci .i64 0)) <|
        .ite (.vr 16) (
         .ret (.mk2 tI .bool (.ci .i64 0) (.cb false))) (
         .prim (.cmp .lss .i64) (.mk2 tI tI (.p1 tI .bool (.vr 13)) (.ci .i64 0)) <|
         .ite (.vr 17) (
          .ret (.mk2 tI .bool (.ci .i64 0) (.cb false))) (
          .prim (.cmp .gtr .i64) (.mk2 tI tI (.p1 tI .bool (.vr 9)) (.ci .i64 32767)) <|
          .ite (.vr 18) (
           .ret (.mk2 tI .bool (.ci .i64 0) (.cb false))) (
           .prim (.cmp .geq .i64) (.mk2 tI tI (.p1 tI .bool (.vr 13)) (.ci .i64 65536)) <|
           .ite (.vr 19) (
            .ret (.mk2 tI .bool (.ci .i64 0) (.cb false))) (
            .prim (.ar .mul .i64) (.mk2 tI tI (.p1 tI .bool (.vr 9)) (.ci .i64 65536)) <|
            .prim (.ar .add .i64) (.mk2 tI tI (.vr 20) (.p1 tI .bool (.vr 13))) <|
            .prim .slen (.vr 0) <|
            .prim .slen (.vr 0) <|
            .prim (.cmp .lss .i64) (.mk2 tI tI (.vr 22) (.vr 23)) <|
            .ite (.vr 24) (
             .prim (.neg .i64) (.vr 21) <|
             .call 1 (.vr 25) <|
             .prim (.seq true) (.mk2 .str .str (.vr 26) (.vr 0)) <|
             .ite (.vr 27) (
              .ret (.mk2 tI .bool (.ci .i64 0) (.cb false))) (
              .ret (.mk2 tI .bool (.vr 25) (.cb true)))) (
             .call 1 (.vr 21) <|
             .prim (.seq true) (.mk2 .str .str (.vr 25) (.vr 0)) <|
             .ite (.vr 26) (
              .ret (.mk2 tI .bool (.ci .i64 0) (.cb false))) (
              .ret (.mk2 tI .bool (.vr 21) (.cb true)))))))))))))
set_option maxRecDepth 100000 in
theorem e_s_ReadFix : exFn Tryz.prog [c_s_ReadDec, c_s_ShowFix] c_s_ReadFix false 3000 ⟨[(2986, 7007, drd 21 11 ++ [.tm 5 0]), (2986, 5005, drd 19 11 ++ [.tm 5 0]), (2986, 2003, drd 19 11 ++ [.tm 5 0])], []⟩ = .ok t_s_ReadFix := by kernel_rfl
/- loops: Int ¦ Int ¦ Int -/
theorem v_s_ReadFix (x : ByteArray) (hx : okD .str x) (hp : (fun x => x.size ≤ 1048576) x) : t_s_ReadFix.wp [c_s_ReadDec, c_s_ShowFix] [⟨.str, x⟩] [] (fun v => v.as (.pair tI .bool) = (fun x => rdFix x) x) := by
  have hs : x.size ≤ 1048576 := hp
  have h45' : 0 < x.size → (byteOf x 0 = 45 ↔ x.data.toList[0]? = some 45) := fun h => byte_is (k := 0) h (by decide) (by decide)
  delta t_s_ReadFix c_s_ReadDec c_s_ShowFix; refine vcx ?_; try with_reducible exact True.intro
  (refine dcx ?_; try with_reducible exact True.intro)
  refine fun _ => ⟨fun h0 => ⟨by omega, fun _ => ⟨fun h45 => ?_, fun h45 => ?_⟩⟩, fun h0 => ?_⟩
  · refine fun _ => ⟨by omega, fun _ => ?_⟩
    have hx1 : x.data.toList = if (true : Bool) = true then 45 :: (x.extract 1 x.size).data.toList else (x.extract 1 x.size).data.toList := by
      have h1 := (h45' (by omega)).1 h45
      rw [if_pos rfl, Go.Lib.extract_data]
      cases hl : x.data.toList with
      | nil => rw [hl] at h1; cases h1
      | cons b r =>
        rw [hl] at h1
        obtain rfl : b = 45 := Option.some.inj h1
        rw [List.drop_succ_cons, List.drop_zero, List.take_of_length_le (by have := ba_len x; rw [hl, List.length_cons] at this; omega)]
    have hh1 : (true : Bool) = false → x.data.toList[0]? ≠ some 45 := fun h => by cases h
    have hsz : (x.extract 1 x.size).size + 1 = x.size := by
      have := congrArg List.length hx1
      rw [if_pos rfl, List.length_cons, ba_len, ba_len] at this; omega
    generalize x.extract 1 x.size = t at *
    refine loopG (fun k => (k : Int)) (fun k => ∀ j, j < k → t.data.toList[j]? ≠ some 43) t.size rfl (fun j h => absurd h (Nat.not_lt_zero _)) fun I μ k hk hno _ go => ?_
    try dsimp only
    (refine dcx ?_; try with_reducible exact True.intro)
    have hb43 : k < t.size → (byteOf t (k : Int) = 43 ↔ t.data.toList[k]? = some 43) := fun h => byte_is h (by decide) (by decide)
    have FD : k < t.size → byteOf t (k : Int) = 43 → ∀ a, fixB a = true → fixT a = x → _ := fun h1 h2 a ha e => fix_dec hx1 hh1 ((hb43 h1).1 h2) hno ha e
    have FN : k = t.size → (0, false) = rdFix x := fun h => fix_none hx1 hh1 (by rw [← h]; exact hno)
    have GO : k < t.size → ¬ byteOf t (k : Int) = 43 → I ((k : Int) + 1) ∧ μ ((k : Int) + 1) < μ (k : Int) := fun h1 h2 => go _ h1 (fun j hj => by
      rcases Nat.lt_or_eq_of_le (Nat.le_of_lt_succ hj) with h | rfl
      · exact hno j h
      · exact fun h => h2 ((hb43 h1).2 h)) pk1
    have ES : ∀ a b, (t.extract a b).size ≤ 1048576 := fun a b => by rw [ByteArray.size_extract]; omega
    clear go
    generalize rdDec (t.extract 0 k) = A at FD ⊢
    generalize rdDec (t.extract (k + 1) t.size) = B at FD ⊢
    obtain ⟨A1, A2⟩ := A
    obtain ⟨B1, B2⟩ := B
    dsimp only at FD ⊢
    (repeat' first | intro _ | (with_reducible apply And.intro))
    all_goals first | omega | exact (GO (by omega) (by assumption)).1 | exact (GO (by omega) (by assumption)).2 | exact ES _ _ | exact FN (by omega) | exact (rdFix_yes ((fixB_iff _).2 (by omega)) (by assumption)).symm | skip
    all_goals
      refine rdFix_no fun a ha e => ?_
      have f := FD (by omega) (by assumption) a ha e
      simp only [Prod.mk.injEq] at f
      obtain ⟨⟨f1, f2⟩, ⟨f3, f4⟩, f5, f6⟩ := f
      have f7 : a < 0 := by simpa using f5
      subst f1 f2 f3 f4
      first | omega | (exact Bool.noConfusion ‹true = false›) | (refine absurd ?_ ‹¬ fixT _ = x›; rw [show -((a.natAbs : Int) / 65536 * 65536 + (a.natAbs : Int) % 65536) = a by omega]; exact e) | skip
  · have hx1 : x.data.toList = if (false : Bool) = true then 45 :: x.data.toList else x.data.toList := rfl
    have hh1 : (false : Bool) = false → x.data.toList[0]? ≠ some 45 := fun _ h => h45 ((h45' (by omega)).2 h)
    refine loopG (fun k => (k : Int)) (fun k => ∀ j, j < k → x.data.toList[j]? ≠ some 43) x.size rfl (fun j h => absurd h (Nat.not_lt_zero _)) fun I μ k hk hno _ go => ?_
    try dsimp only
    (refine dcx ?_; try with_reducible exact True.intro)
    have hb43 : k < x.size → (byteOf x (k : Int) = 43 ↔ x.data.toList[k]? = some 43) := fun h => byte_is h (by decide) (by decide)
    have FD : k < x.size → byteOf x (k : Int) = 43 → ∀ a, fixB a = true → fixT a = x → _ := fun h1 h2 a ha e => fix_dec hx1 hh1 ((hb43 h1).1 h2) hno ha e
    have FN : k = x.size → (0, false) = rdFix x := fun h => fix_none hx1 hh1 (by rw [← h]; exact hno)
    have GO : k < x.size → ¬ byteOf x (k : Int) = 43 → I ((k : Int) + 1) ∧ μ ((k : Int) + 1) < μ (k : Int) := fun h1 h2 => go _ h1 (fun j hj => by
      rcases Nat.lt_or_eq_of_le (Nat.le_of_lt_succ hj) with h | rfl
      · exact hno j h
      · exact fun h => h2 ((hb43 h1).2 h)) pk1
    have ES : ∀ a b, (x.extract a b).size ≤ 1048576 := fun a b => by rw [ByteArray.size_extract]; omega
    clear go
    generalize rdDec (x.extract 0 k) = A at FD ⊢
    generalize rdDec (x.extract (k + 1) x.size) = B at FD ⊢
    obtain ⟨A1, A2⟩ := A
    obtain ⟨B1, B2⟩ := B
    dsimp only at FD ⊢
    (repeat' first | intro _ | (with_reducible apply And.intro))
    all_goals first | omega | exact (GO (by omega) (by assumption)).1 | exact (GO (by omega) (by assumption)).2 | exact ES _ _ | exact FN (by omega) | exact (rdFix_yes ((fixB_iff _).2 (by omega)) (by assumption)).symm | skip
    all_goals
      refine rdFix_no fun a ha e => ?_
      have f := FD (by omega) (by assumption) a ha e
      simp only [Prod.mk.injEq] at f
      obtain ⟨⟨f1, f2⟩, ⟨f3, f4⟩, f5, f6⟩ := f
      have f7 : ¬ a < 0 := fun h => (by have h9 := f5.2 h; cases h9)
      subst f1 f2 f3 f4
      first | omega | (exact Bool.noConfusion ‹true = false›) | (refine absurd ?_ ‹¬ fixT _ = x›; rw [show (a.natAbs : Int) / 65536 * 65536 + (a.natAbs : Int) % 65536 = a by omega]; exact e) | skip
  · have hx1 : x.data.toList = if (false : Bool) = true then 45 :: x.data.toList else x.data.toList := rfl
    have hh1 : (false : Bool) = false → x.data.toList[0]? ≠ some 45 := fun _ h => by
      have := ba_len x
      rw [List.eq_nil_of_length_eq_zero (show x.data.toList.length = 0 by omega)] at h; cases h
    refine loopG (fun k => (k : Int)) (fun k => ∀ j, j < k → x.data.toList[j]? ≠ some 43) x.size rfl (fun j h => absurd h (Nat.not_lt_zero _)) fun I μ k hk hno _ go => ?_
    try dsimp only
    (refine dcx ?_; try with_reducible exact True.intro)
    have hb43 : k < x.size → (byteOf x (k : Int) = 43 ↔ x.data.toList[k]? = some 43) := fun h => byte_is h (by decide) (by decide)
    have FD : k < x.size → byteOf x (k : Int) = 43 → ∀ a, fixB a = true → fixT a = x → _ := fun h1 h2 a ha e => fix_dec hx1 hh1 ((hb43 h1).1 h2) hno ha e
    have FN : k = x.size → (0, false) = rdFix x := fun h => fix_none hx1 hh1 (by rw [← h]; exact hno)
    have GO : k < x.size → ¬ byteOf x (k : Int) = 43 → I ((k : Int) + 1) ∧ μ ((k : Int) + 1) < μ (k : Int) := fun h1 h2 => go _ h1 (fun j hj => by
      rcases Nat.lt_or_eq_of_le (Nat.le_of_lt_succ hj) with h | rfl
      · exact hno j h
      · exact fun h => h2 ((hb43 h1).2 h)) pk1
    have ES : ∀ a b, (x.extract a b).size ≤ 1048576 := fun a b => by rw [ByteArray.size_extract]; omega
    clear go
    generalize rdDec (x.extract 0 k) = A at FD ⊢
    generalize rdDec (x.extract (k + 1) x.size) = B at FD ⊢
    obtain ⟨A1, A2⟩ := A
    obtain ⟨B1, B2⟩ := B
    dsimp only at FD ⊢
    (repeat' first | intro _ | (with_reducible apply And.intro))
    all_goals first | omega | exact (GO (by omega) (by assumption)).1 | exact (GO (by omega) (by assumption)).2 | exact ES _ _ | exact FN (by omega) | exact (rdFix_yes ((fixB_iff _).2 (by omega)) (by assumption)).symm | skip
    all_goals
      refine rdFix_no fun a ha e => ?_
      have f := FD (by omega) (by assumption) a ha e
      simp only [Prod.mk.injEq] at f
      obtain ⟨⟨f1, f2⟩, ⟨f3, f4⟩, f5, f6⟩ := f
      have f7 : ¬ a < 0 := fun h => (by have h9 := f5.2 h; cases h9)
      subst f1 f2 f3 f4
      first | omega | (exact Bool.noConfusion ‹true = false›) | (refine absurd ?_ ‹¬ fixT _ = x›; rw [show (a.natAbs : Int) / 65536 * 65536 + (a.natAbs : Int) % 65536 = a by omega]; exact e) | skip
theorem h_s_ReadFix : Con.Holds Tryz.prog c_s_ReadFix := tree_ok mixedP (consAt h_s_ReadDec (consAt h_s_ShowFix consNil)) e_s_ReadFix fun x hx hp => v_s_ReadFix x hx hp
end Go.Proofs.YtllphmcjocidaaaGreatDoor
