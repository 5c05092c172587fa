/- Rd2: trees, and what they say. -/
import Derived.Test.YtllphmcjocidaaaGreatDoorRdo2
namespace Go.Proofs.YtllphmcjocidaaaGreatDoor
open Go.ChangeShapes Go.WideShapes Go.ChangeAt Go.RowKit Go.Deep
set_option linter.unusedVariables false
set_option linter.unusedSimpArgs false
/-- Where the piece begins, and the pieces done, after k bytes. -/
def cutK (c : UInt8) (l : List UInt8) : Nat → Nat × List (List UInt8)
  | 0 => (0, [])
  | k + 1 => if l[k]? = some c then (k + 1, (cutK c l k).2 ++ [(l.take k).drop (cutK c l k).1]) else cutK c l k
theorem cutK_le (c : UInt8) (l : List UInt8) : (k : Nat) → (cutK c l k).1 ≤ k
  | 0 => Nat.le_refl _
  | k + 1 => by
    have := cutK_le c l k
    rw [cutK]; split
    · exact Nat.le_refl _
    · omega
theorem cutK_len (c : UInt8) (l : List UInt8) : (k : Nat) → (cutK c l k).2.length ≤ k
  | 0 => Nat.le_refl _
  | k + 1 => by
    have := cutK_len c l k
    rw [cutK]; split
    · simp; omega
    · omega
theorem cutK_ok (c : UInt8) (l : List UInt8) : (k : Nat) → k ≤ l.length → (cutK c l k).2 ++ Go.Proofs.YtllphmcjocidaaaGreatDoor.cutL c (l.drop (cutK c l k).1) = cutL c l ∧ c ∉ (l.take k).drop (cutK c l k).1
  | 0, _ => ⟨rfl, by simp [cutK]⟩
  | k + 1, h => by
    obtain ⟨h1, h2⟩ := cutK_ok c l k (by omega)
    have hk : k < l.length := by omega
    have hf := cutK_le c l k
    have e : l.take (k + 1) = l.take k ++ [l[k]] := List.take_succ_eq_append_getElem hk
    rw [cutK]
    split
    · rename_i hc
      have hc' : l[k] = c := by rw [List.getElem?_eq_getElem hk] at hc; exact Option.some.inj hc
      have e2 : l.drop (cutK c l k).1 = (l.take k).drop (cutK c l k).1 ++ c :: l.drop (k + 1) := by
        generalize (cutK c l k).1 = f at hf
        refine (congrArg (List.drop f) (List.take_append_drop k l)).symm.trans ?_
        rw [List.drop_append_of_le_length (by rw [List.length_take]; omega), List.drop_eq_getElem_cons hk, hc']
      refine ⟨?_, by simp⟩
      rw [← h1, e2, cutL_app h2]; simp
    · rename_i hc
      refine ⟨h1, ?_⟩
      rw [e, List.drop_append_of_le_length (by rw [List.length_take]; omega)]
      intro hm
      rcases List.mem_append.1 hm with hm | hm
      · exact h2 hm
      · rw [List.mem_singleton] at hm
        exact hc (by rw [List.getElem?_eq_getElem hk, hm])
theorem cutK_end (c : UInt8) (l : List UInt8) : (cutK c l l.length).2 ++ [l.drop (cutK c l l.length).1] = cutL c l := by
  obtain ⟨h1, h2⟩ := cutK_ok c l l.length (Nat.le_refl _)
  rw [List.take_length] at h2
  rw [← h1, cutL_word h2]
noncomputable def cutS (s : ByteArray) (c : Int) : List ByteArray := (cutL (UInt8.ofNat c.toNat) s.data.toList).map ofL
theorem ext_of (s : ByteArray) (f k : Nat) : s.extract f k = ofL ((s.data.toList.take k).drop f) := by
  rw [List.drop_take, ← Go.Lib.extract_data, ofL_data]
theorem byte_is {s : ByteArray} {k : Nat} {c : Int} (hk : k < s.size) (h0 : 0 ≤ c) (h1 : c ≤ 255) : (byteOf s (k : Int) = c) ↔ s.data.toList[k]? = some (UInt8.ofNat c.toNat) := by
  have hl : k < s.data.toList.length := by rw [ba_len]; exact hk
  have e : byteOf s (k : Int) = (s.data.toList[k].toNat : Int) := by
    unfold byteOf
    rw [Int.toNat_natCast, ← Array.getElem?_toList, List.getElem?_eq_getElem hl]; rfl
  rw [e, List.getElem?_eq_getElem hl, Option.some.injEq]
  constructor
  · intro h
    apply UInt8.toNat_inj.1
    rw [UInt8.toNat_ofNat']; omega
  · intro h
    rw [h, UInt8.toNat_ofNat']; omega

/-! spec.l18Split -/

noncomputable def c_s_l18Split : Con := ⟨22, (.pair .str (.int .u8)), (.slice 9 .str), [.val ⟨false, .str, []⟩, .val ⟨false, (.int .u8), []⟩], [⟨false, (.slice 9 .str), [2]⟩], false, none,
  ((fun x => x.1.size ≤ 1048576) : ((ByteArray) × Int) → Prop),
  ((fun x => cutS x.1 x.2) : ((ByteArray) × Int) → (List (ByteArray)))⟩
def t_s_l18Split : T :=
  .loop (.pair tI (.pair tI (.slice 9 .str))) (mkA (.pair tI (.pair tI (.slice 9 .str))) [(.ci .i64 0), (.ci .i64 0), (.nl 9 .str)]) <|
   .prim .slen (.p1 .str (.int .u8) (.vr 0)) <|
   .prim (.cmp .lss .i64) (.mk2 tI tI (.p1 tI (.pair tI (.slice 9 .str)) (.vr 1)) (.vr 2)) <|
   .ite (.vr 3) (
    .prim .sidx (.mk2 .str tI (.p1 .str (.int .u8) (.vr 0)) (.p1 tI (.pair tI (.slice 9 .str)) (.vr 1))) <|
    .prim (.cmp .eql .u8) (.mk2 (.int .u8) (.int .u8) (.vr 4) (prA (.pair .str (.int .u8)) 1 (.vr 0))) <|
    .ite (.vr 5) (
     .prim .ssub (mkA (.pair .str tIns) [(.p1 .str (.int .u8) (.vr 0)), (pjA (.pair tI (.pair tI (.slice 9 .str))) 1 (.vr 1)), (.p1 tI (.pair tI (.slice 9 .str)) (.vr 1))]) <|
     .prim (.lit 9 .str 1) (.vr 6) <|
     .prim (.lapp 9 .str 16) (.mk2 (.slice 9 .str) (.slice 9 .str) (prA (.pair tI (.pair tI (.slice 9 .str))) 2 (.vr 1)) (.vr 7)) <|
     .prim (.ar .add .i64) (.mk2 tI tI (.p1 tI (.pair tI (.slice 9 .str)) (.vr 1)) (.ci .i64 1)) <|
     .prim (.ar .add .i64) (.mk2 tI tI (.p1 tI (.pair tI (.slice 9 .str)) (.vr 1)) (.ci .i64 1)) <|
     .again 0 (mkA (.pair tI (.pair tI (.slice 9 .str))) [(.vr 10), (.vr 9), (.vr 8)])) (
     .prim (.ar .add .i64) (.mk2 tI tI (.p1 tI (.pair tI (.slice 9 .str)) (.vr 1)) (.ci .i64 1)) <|
     .again 0 (.mk2 tI (.pair tI (.slice 9 .str)) (.vr 6) (prA (.pair tI (.pair tI (.slice 9 .str))) 1 (.vr 1))))) (
    .prim .slen (.p1 .str (.int .u8) (.vr 0)) <|
    .prim .ssub (mkA (.pair .str tIns) [(.p1 .str (.int .u8) (.vr 0)), (pjA (.pair tI (.pair tI (.slice 9 .str))) 1 (.vr 1)), (.vr 4)]) <|
    .prim (.lit 9 .str 1) (.vr 5) <|
    .prim (.lapp 9 .str 16) (.mk2 (.slice 9 .str) (.slice 9 .str) (prA (.pair tI (.pair tI (.slice 9 .str))) 2 (.vr 1)) (.vr 6)) <|
    .ret (.vr 7))
set_option maxRecDepth 100000 in
theorem e_s_l18Split : exFn Tryz.prog [] c_s_l18Split false 3000 ⟨[(2989, 1001, [.dr 8, .tm 7 0, .tm 6 0, .on 5, .sl 1])], []⟩ = .ok t_s_l18Split := by kernel_rfl
/- loops: (Int) × ((Int) × (List (ByteArray))) -/
theorem v_s_l18Split (x : (ByteArray) × Int) (hx : okD (.pair .str (.int .u8)) x) (hp : (fun x => x.1.size ≤ 1048576) x) : t_s_l18Split.wp [] [⟨(.pair .str (.int .u8)), x⟩] [] (fun v => v.as (.slice 9 .str) = (fun x => cutS x.1 x.2) x) := by
  obtain ⟨s, c⟩ := x
  have hs : s.size ≤ 1048576 := hp
  have hc : 0 ≤ c ∧ c ≤ 255 := hx.2
  delta t_s_l18Split; refine vcx ?_; try with_reducible exact True.intro
  (refine dcx ?_; try with_reducible exact True.intro)
  refine loopF (fun k => ((k : Int), (((cutK (UInt8.ofNat c.toNat) s.data.toList k).1 : Nat) : Int), ((cutK (UInt8.ofNat c.toNat) s.data.toList k).2.map ofL))) s.size rfl fun I μ k hk _ go => ?_
  try dsimp only
  (refine dcx ?_; try with_reducible exact True.intro)
  have hf := cutK_le (UInt8.ofNat c.toNat) s.data.toList k
  have hn := cutK_len (UInt8.ofNat c.toNat) s.data.toList k
  have hm : (List.map ofL (cutK (UInt8.ofNat c.toNat) s.data.toList k).2).length ≤ k := by rw [List.length_map]; exact hn
  refine fun _ => ⟨fun hlt => ⟨by omega, fun _ => ⟨fun hb => ?_, fun hb => ?_⟩⟩, fun hge => ?_⟩
  · have hK : cutK (UInt8.ofNat c.toNat) s.data.toList (k + 1) = (k + 1, (cutK (UInt8.ofNat c.toNat) s.data.toList k).2 ++ [(s.data.toList.take k).drop (cutK (UInt8.ofNat c.toNat) s.data.toList k).1]) := by
      rw [cutK, if_pos ((byte_is (by omega) hc.1 hc.2).1 hb)]
    refine ⟨⟨by omega, by omega, by omega⟩, fun _ _ => ⟨⟨by omega, by unfold maxLen; omega⟩, fun _ => ⟨by omega, fun _ => ⟨by omega, fun _ => go _ (by omega) ?_⟩⟩⟩⟩
    rw [hK]
    refine Prod.ext (by show (k : Int) + 1 = ((k + 1 : Nat) : Int); omega) (Prod.ext (by show (k : Int) + 1 = ((k + 1 : Nat) : Int); omega) ?_)
    show _ = List.map ofL (_ ++ [_])
    rw [List.map_append, List.map_cons, List.map_nil, ← ext_of]
  · have hK : cutK (UInt8.ofNat c.toNat) s.data.toList (k + 1) = cutK (UInt8.ofNat c.toNat) s.data.toList k := by
      rw [cutK, if_neg (fun h => hb ((byte_is (by omega) hc.1 hc.2).2 h))]
    refine ⟨by omega, fun _ => go _ (by omega) ?_⟩
    rw [hK]
    exact Prod.ext (by show (k : Int) + 1 = ((k + 1 : Nat) : Int); omega) rfl
  · have hk' : k = s.size := by omega
    subst hk'
    have he := cutK_end (UInt8.ofNat c.toNat) s.data.toList
    rw [ba_len] at he
    have hx2 : s.extract (cutK (UInt8.ofNat c.toNat) s.data.toList s.size).1 s.size = ofL (s.data.toList.drop (cutK (UInt8.ofNat c.toNat) s.data.toList s.size).1) := by
      rw [ext_of, List.take_of_length_le (by rw [ba_len]; exact Nat.le_refl _)]
    refine fun _ => ⟨⟨by omega, by omega, by omega⟩, fun _ _ => ⟨⟨by omega, by unfold maxLen; omega⟩, fun _ => ?_⟩⟩
    rw [hx2]
    unfold cutS
    rw [← he, List.map_append]; rfl
theorem h_s_l18Split : Con.Holds Tryz.prog c_s_l18Split := tree_ok mixedP consNil e_s_l18Split fun x hx hp => v_s_l18Split x hx hp

/-! spec.ReadDec -/

def dStep (s : Int × Int) (b : UInt8) : Int × Int := if 48 ≤ b.toNat ∧ b.toNat ≤ 57 then (s.1 * 10 + ((b.toNat : Int) - 48), s.2 + 1) else s
/-- What the first k bytes spell, and how many digits they have. -/
def dTo (l : List UInt8) (k : Nat) : Int × Int := (l.take k).foldl dStep (0, 0)
theorem dTo_next {l : List UInt8} {k : Nat} (h : k < l.length) : dTo l (k + 1) = dStep (dTo l k) l[k] := by
  unfold dTo; rw [List.take_succ_eq_append_getElem h, List.foldl_append]; rfl
theorem dTo_b (l : List UInt8) : (k : Nat) → k ≤ l.length → 0 ≤ (dTo l k).1 ∧ (dTo l k).1 < 10 ^ k ∧ 0 ≤ (dTo l k).2 ∧ (dTo l k).2 ≤ k ∧ (dTo l k).1 < 10 ^ (dTo l k).2.toNat
  | 0, _ => by simp [dTo]
  | k + 1, h => by
    obtain ⟨h1, h2, h3, h4, h5⟩ := dTo_b l k (by omega)
    rw [dTo_next (by omega), Int.pow_succ]
    unfold dStep
    split
    · rename_i hb
      have e : ((dTo l k).2 + 1).toNat = (dTo l k).2.toNat + 1 := by omega
      dsimp only
      rw [e, Int.pow_succ]
      refine ⟨by omega, by omega, by omega, by omega, by omega⟩
    · exact ⟨h1, by omega, h3, by omega, h5⟩
theorem fold_dig : (l : List UInt8) → (acc m : Nat) → (k : Int) → Go.Lib.decFrom acc l = some m → l.foldl dStep ((acc : Int), k) = ((m : Int), k + (l.length : Int))
  | [], acc, m, k, h => by
    obtain rfl : acc = m := Option.some.inj h
    simp
  | b :: l, acc, m, k, h => by
    rw [Go.Lib.decFrom] at h
    cases hd : Go.Lib.digitVal b with
    | none => rw [hd] at h; cases h
    | some d =>
      rw [hd] at h
      have hb : (48 ≤ b.toNat ∧ b.toNat ≤ 57) ∧ d = b.toNat - 48 := by
        unfold Go.Lib.digitVal at hd
        split at hd
        · rename_i hh; exact ⟨hh, (Option.some.inj hd).symm⟩
        · cases hd
      have e : dStep ((acc : Int), k) b = (((acc * 10 + d : Nat) : Int), k + 1) := by
        unfold dStep; rw [if_pos hb.1]
        refine Prod.ext ?_ rfl
        show (acc : Int) * 10 + ((b.toNat : Int) - 48) = ((acc * 10 + d : Nat) : Int)
        omega
      rw [List.foldl_cons, e, fold_dig l _ m _ h]
      refine Prod.ext rfl ?_
      show k + 1 + (l.length : Int) = k + ((l.length + 1 : Nat) : Int)
      omega
theorem dig_short : (k : Nat) → (u : Nat) → u < 10 ^ (k + 1) → (Go.Lib.decDigits u).length ≤ k + 1
  | 0, u, h => by rw [dig_rec, if_pos (by simpa using h)]; simp
  | k + 1, u, h => by
    rw [dig_rec]
    split
    · simp
    · rw [List.length_append]
      have := dig_short k (u / 10) (by rw [Nat.pow_succ] at h; omega)
      simp; omega
/-- A numeral of nine digits at most. -/
theorem num_ok {n : Int} (h1 : -999999999 ≤ n) (h2 : n ≤ 999999999) : (Go.Lib.itoa n).length ≤ 10 ∧ (dTo (Go.Lib.itoa n) (Go.Lib.itoa n).length).2 ≤ 9 ∧ (dTo (Go.Lib.itoa n) (Go.Lib.itoa n).length).1 = (n.natAbs : Int) ∧ ((Go.Lib.itoa n)[0]? = some 45 ↔ n < 0) := by
  have hd : ∀ u : Nat, u ≤ 999999999 → (Go.Lib.decDigits u).length ≤ 9 ∧ (Go.Lib.decDigits u).foldl dStep (0, 0) = ((u : Int), 0 + ((Go.Lib.decDigits u).length : Int)) := fun u hu =>
    ⟨dig_short 8 u (by omega), fold_dig _ 0 u 0 (decFrom_dig u)⟩
  unfold dTo
  rw [List.take_length]
  unfold Go.Lib.itoa
  split
  · rename_i hn
    obtain ⟨g1, g2⟩ := hd n.natAbs (by omega)
    have e : (45 :: Go.Lib.decDigits n.natAbs).foldl dStep (0, 0) = (Go.Lib.decDigits n.natAbs).foldl dStep (0, 0) := by
      rw [List.foldl_cons]; rfl
    rw [e, g2]
    refine ⟨by rw [List.length_cons]; omega, by show 0 + ((Go.Lib.decDigits n.natAbs).length : Int) ≤ 9; omega, rfl, ⟨fun _ => hn, fun _ => rfl⟩⟩
  · rename_i hn
    obtain ⟨g1, g2⟩ := hd n.toNat (by omega)
    rw [g2]
    refine ⟨by omega, by show 0 + ((Go.Lib.decDigits n.toNat).length : Int) ≤ 9; omega, by show (n.toNat : Int) = (n.natAbs : Int); omega, ⟨fun h => ?_, fun h => absurd h hn⟩⟩
    have hm : (45 : UInt8) ∈ Go.Lib.decDigits n.toNat := List.mem_of_getElem? h
    exact absurd (dig_range n.toNat 45 hm) (by decide)
noncomputable def rdDec (s : ByteArray) : Int × Bool := match Go.Lib.atoi s.data.toList with
  | some n => if decS n = s ∧ -999999999 ≤ n ∧ n ≤ 999999999 then (n, true) else (0, false)
  | none => (0, false)
theorem rdDec_yes {s : ByteArray} {n : Int} (h : decS n = s) (h1 : -999999999 ≤ n) (h2 : n ≤ 999999999) : rdDec s = (n, true) := by
  subst h
  unfold rdDec
  rw [decS_list, atoi_itoa]
  exact if_pos ⟨rfl, h1, h2⟩
theorem rdDec_no {s : ByteArray} (h : ∀ n, -999999999 ≤ n → n ≤ 999999999 → decS n ≠ s) : rdDec s = (0, false) := by
  unfold rdDec
  split
  · rename_i n e
    exact if_neg fun hh => h n hh.2.1 hh.2.2 hh.1
  · rfl
theorem rd_no {s : ByteArray} (h : ∀ n, -999999999 ≤ n → n ≤ 999999999 → decS n = s → False) : (0, false) = rdDec s := (rdDec_no fun n h1 h2 e => h n h1 h2 e).symm
noncomputable def c_s_ReadDec : Con := ⟨53, .str, (.pair tI .bool), [.val ⟨false, .str, []⟩], [⟨false, tI, [0]⟩, ⟨false, .bool, [0]⟩], false, none,
  ((fun x => x.size ≤ 1048576) : (ByteArray) → Prop),
  ((fun x => rdDec x) : (ByteArray) → (Int × Bool))⟩
def t_s_ReadDec : T :=
  .loop (.pair tI tIns) (mkA (.pair tI tIns) [(.ci .i64 0), (.ci .i64 0), (.ci .i64 0)]) <|
   .prim .slen (.vr 0) <|
   .prim (.cmp .lss .i64) (.mk2 tI tI (.p1 tI tIns (.vr 1)) (.vr 2)) <|
   .ite (.vr 3) (
    .prim (.cmp .lss .i64) (.mk2 tI tI (.p1 tI tIns (.vr 1)) (.ci .i64 11)) <|
    .ite (.vr 4) (
     .prim .sidx (.mk2 .str tI (.vr 0) (.p1 tI tIns (.vr 1))) <|
     .prim (.cmp .geq .u8) (.mk2 (.int .u8) (.int .u8) (.vr 5) (.ci .u8 48)) <|
     .ite (.vr 6) (
      .prim .sidx (.mk2 .str tI (.vr 0) (.p1 tI tIns (.vr 1))) <|
      .prim (.cmp .leq .u8) (.mk2 (.int .u8) (.int .u8) (.vr 7) (.ci .u8 57)) <|
      .ite (.vr 8) (
       .prim (.ar .mul .i64) (.mk2 tI tI (prA (.pair tI tIns) 2 (.vr 1)) (.ci .i64 10)) <|
       .prim .sidx (.mk2 .str tI (.vr 0) (.p1 tI tIns (.vr 1))) <|
       .prim (.ar .sub .u8) (.mk2 (.int .u8) (.int .u8) (.vr 10) (.ci .u8 48)) <|
       .prim (.conv .u8 .i64) (.vr 11) <|
       .prim (.ar .add .i64) (.mk2 tI tI (.vr 9) (.vr 12)) <|
       .prim (.ar .add .i64) (.mk2 tI tI (pjA (.pair tI tIns) 1 (.vr 1)) (.ci .i64 1)) <|
       .prim (.ar .add .i64) (.mk2 tI tI (.p1 tI tIns (.vr 1)) (.ci .i64 1)) <|
       .again 0 (mkA (.pair tI tIns) [(.vr 15), (.vr 14), (.vr 13)])) (
       .prim (.ar .add .i64) (.mk2 tI tI (.p1 tI tIns (.vr 1)) (.ci .i64 1)) <|
       .again 0 (.mk2 tI tIns (.vr 9) (prA (.pair tI tIns) 1 (.vr 1))))) (
      .prim (.ar .add .i64) (.mk2 tI tI (.p1 tI tIns (.vr 1)) (.ci .i64 1)) <|
      .again 0 (.mk2 tI tIns (.vr 7) (prA (.pair tI tIns) 1 (.vr 1))))) (
     .prim .slen (.vr 0) <|
     .prim (.cmp .gtr .i64) (.mk2 tI tI (.vr 5) (.ci .i64 0)) <|
     .ite (.vr 6) (
      .prim .sidx (.mk2 .str tI (.vr 0) (.ci .i64 0)) <|
      .prim (.cmp .eql .u8) (.mk2 (.int .u8) (.int .u8) (.vr 7) (.ci .u8 45)) <|
      .ite (.vr 8) (
       .prim (.neg .i64) (prA (.pair tI tIns) 2 (.vr 1)) <|
       .prim (.cmp .gtr .i64) (.mk2 tI tI (pjA (.pair tI tIns) 1 (.vr 1)) (.ci .i64 9)) <|
       .ite (.vr 10) (
        .ret (.mk2 tI .bool (.ci .i64 0) (.cb false))) (
        .prim .slen (.vr 0) <|
        .prim (.cmp .gtr .i64) (.mk2 tI tI (.vr 11) (.ci .i64 10)) <|
        .ite (.vr 12) (
         .ret (.mk2 tI .bool (.ci .i64 0) (.cb false))) (
         .call 0 (.vr 9) <|
         .prim (.seq true) (.mk2 .str .str (.vr 13) (.vr 0)) <|
         .ite (.vr 14) (
          .ret (.mk2 tI .bool (.ci .i64 0) (.cb false))) (
          .ret (.mk2 tI .bool (.vr 9) (.cb true)))))) (
       .prim (.cmp .gtr .i64) (.mk2 tI tI (pjA (.pair tI tIns) 1 (.vr 1)) (.ci .i64 9)) <|
       .ite (.vr 9) (
        .ret (.mk2 tI .bool (.ci .i64 0) (.cb false))) (
        .prim .slen (.vr 0) <|
        .prim (.cmp .gtr .i64) (.mk2 tI tI (.vr 10) (.ci .i64 10)) <|
        .ite (.vr 11) (
         .ret (.mk2 tI .bool (.ci .i64 0) (.cb false))) (
         .call 0 (prA (.pair tI tIns) 2 (.vr 1)) <|
         .prim (.seq true) (.mk2 .str .str (.vr 12) (.vr 0)) <|
         .ite (.vr 13) (
          .ret (.mk2 tI .bool (.ci .i64 0) (.cb false))) (
          .ret (.mk2 tI .bool (prA (.pair tI tIns) 2 (.vr 1)) (.cb true))))))) (
      .prim (.cmp .gtr .i64) (.mk2 tI tI (pjA (.pair tI tIns) 1 (.vr 1)) (.ci .i64 9)) <|
      .ite (.vr 7) (
       .ret (.mk2 tI .bool (.ci .i64 0) (.cb false))) (
       .prim .slen (.vr 0) <|
       .prim (.cmp .gtr .i64) (.mk2 tI tI (.vr 8) (.ci .i64 10)) <|
       .ite (.vr 9) (
        .ret (.mk2 tI .bool (.ci .i64 0) (.cb false))) (
        .call 0 (prA (.pair tI tIns) 2 (.vr 1)) <|
        .prim (.seq true) (.mk2 .str .str (.vr 10) (.vr 0)) <|
        .ite (.vr 11) (
         .ret (.mk2 tI .bool (.ci .i64 0) (.cb false))) (
         .ret (.mk2 tI .bool (prA (.pair tI tIns) 2 (.vr 1)) (.cb true)))))))) (
    .prim .slen (.vr 0) <|
    .prim (.cmp .gtr .i64) (.mk2 tI tI (.vr 4) (.ci .i64 0)) <|
    .ite (.vr 5) (
     .prim .sidx (.mk2 .str tI (.vr 0) (.ci .i64 0)) <|
     .prim (.cmp .eql .u8) (.mk2 (.int .u8) (.int .u8) (.vr 6) (.ci .u8 45)) <|
     .ite (.vr 7) (
      .prim (.neg .i64) (prA (.pair tI tIns) 2 (.vr 1)) <|
      .prim (.cmp .gtr .i64) (.mk2 tI tI (pjA (.pair tI tIns) 1 (.vr 1)) (.ci .i64 9)) <|
      .ite (.vr 9) (
       .ret (.mk2 tI .bool (.ci .i64 0) (.cb false))) (
       .prim .slen (.vr 0) <|
       .prim (.cmp .gtr .i64) (.mk2 tI tI (.vr 10) (.ci .i64 10)) <|
       .ite (.vr 11) (
        .ret (.mk2 tI .bool (.ci .i64 0) (.cb false))) (
        .call 0 (.vr 8) <|
        .prim (.seq true) (.mk2 .str .str (.vr 12) (.vr 0)) <|
        .ite (.vr 13) (
         .ret (.mk2 tI .bool (.ci .i64 0) (.cb false))) (
         .ret (.mk2 tI .bool (.vr 8) (.cb true)))))) (
      .prim (.cmp .gtr .i64) (.mk2 tI tI (pjA (.pair tI tIns) 1 (.vr 1)) (.ci .i64 9)) <|
      .ite (.vr 8) (
       .ret (.mk2 tI .bool (.ci .i64 0) (.cb false))) (
       .prim .slen (.vr 0) <|
       .prim (.cmp .gtr .i64) (.mk2 tI tI (.vr 9) (.ci .i64 10)) <|
       .ite (.vr 10) (
        .ret (.mk2 tI .bool (.ci .i64 0) (.cb false))) (
        .call 0 (prA (.pair tI tIns) 2 (.vr 1)) <|
        .prim (.seq true) (.mk2 .str .str (.vr 11) (.vr 0)) <|
        .ite (.vr 12) (
         .ret (.mk2 tI .bool (.ci .i64 0) (.cb false))) (
         .ret (.mk2 tI .bool (prA (.pair tI tIns) 2 (.vr 1)) (.cb true))))))) (
     .prim (.cmp .gtr .i64) (.mk2 tI tI (pjA (.pair tI tIns) 1 (.vr 1)) (.ci .i64 9)) <|
     .ite (.vr 6) (
      .ret (.mk2 tI .bool (.ci .i64 0) (.cb false))) (
      .prim .slen (.vr 0) <|
      .prim (.cmp .gtr .i64) (.mk2 tI tI (.vr 7) (.ci .i64 10)) <|
      .ite (.vr 8) (
       .ret (.mk2 tI .bool (.ci .i64 0) (.cb false))) (
       .call 0 (prA (.pair tI tIns) 2 (.vr 1)) <|
       .prim (.seq true) (.mk2 .str .str (.vr 9) (.vr 0)) <|
       .ite (.vr 10) (
        .ret (.mk2 tI .bool (.ci .i64 0) (.cb false))) (
        .ret (.mk2 tI .bool (prA (.pair tI tIns) 2 (.vr 1)) (.cb true)))))))
set_option maxRecDepth 100000 in
theorem e_s_ReadDec : exFn Tryz.prog [c_s_Dec] c_s_ReadDec false 3000 ⟨[(2989, 1001, [.tm 6 0, .tm 5 0, .tm 4 0])], []⟩ = .ok t_s_ReadDec := by kernel_rfl
/- loops: (Int) × ((Int) × (Int)) -/
theorem v_s_ReadDec (x : ByteArray) (hx : okD .str x) (hp : (fun x => x.size ≤ 1048576) x) : t_s_ReadDec.wp [c_s_Dec] [⟨.str, x⟩] [] (fun v => v.as (.pair tI .bool) = (fun x => rdDec x) x) := by
  have hs : x.size ≤ 1048576 := hp
  delta t_s_ReadDec c_s_Dec; refine vcx ?_; try with_reducible exact True.intro
  (refine dcx ?_; try with_reducible exact True.intro)
  refine loopF (fun k => ((k : Int), (dTo x.data.toList k).2, (dTo x.data.toList k).1)) (min x.size 11) rfl fun I μ k hk _ go => ?_
  try dsimp only
  (refine dcx ?_; try with_reducible exact True.intro)
  have hlk : k ≤ x.data.toList.length := by rw [ba_len]; omega
  have hb := dTo_b x.data.toList k hlk
  have hp1 : (10 : Int) ^ k ≤ 100000000000 := by
    have h1 : (10 : Nat) ^ k ≤ 10 ^ 11 := Nat.pow_le_pow_right (by decide) (by omega)
    have h2 : (((10 : Nat) ^ k : Nat) : Int) = (10 : Int) ^ k := by push_cast; rfl
    rw [← h2]
    have h3 : (10 : Nat) ^ 11 = 100000000000 := by decide
    omega
  have hbyte : ∀ j, j < x.size → ∃ hj : j < x.data.toList.length, byteOf x (j : Int) = (x.data.toList[j].toNat : Int) := fun j hj => by
    have hl : j < x.data.toList.length := by rw [ba_len]; exact hj
    refine ⟨hl, ?_⟩
    unfold byteOf
    rw [Int.toNat_natCast, ← Array.getElem?_toList, List.getElem?_eq_getElem hl]; rfl
  have hdig : k < x.size → 48 ≤ byteOf x (k : Int) → byteOf x (k : Int) ≤ 57 → dTo x.data.toList (k + 1) = ((dTo x.data.toList k).1 * 10 + (byteOf x (k : Int) - 48), (dTo x.data.toList k).2 + 1) := fun h h1 h2 => by
    obtain ⟨hl, e⟩ := hbyte k h
    rw [dTo_next hl]; unfold dStep
    rw [if_pos (by omega), e]
  have hnod : k < x.size → (byteOf x (k : Int) < 48 ∨ 57 < byteOf x (k : Int)) → dTo x.data.toList (k + 1) = dTo x.data.toList k := fun h h1 => by
    obtain ⟨hl, e⟩ := hbyte k h
    rw [dTo_next hl]; unfold dStep
    rw [if_neg (by omega)]
  have hw : IntKind.i64.wrap (byteOf x (k : Int) - 48) = byteOf x (k : Int) - 48 := wrap_in (by have := byteOf_in x (k : Int); have h1 : 0 ≤ byteOf x (k : Int) ∧ byteOf x (k : Int) ≤ 255 := this; exact ⟨by show (-9223372036854775808 : Int) ≤ _; omega, by show _ ≤ (9223372036854775807 : Int); omega⟩)
  have F1 : k = min x.size 11 → ∀ n, -999999999 ≤ n → n ≤ 999999999 → decS n = x → (dTo x.data.toList k).2 ≤ 9 ∧ (x.size : Int) ≤ 10 ∧ 0 < (x.size : Int) ∧ (dTo x.data.toList k).1 = (n.natAbs : Int) ∧ (byteOf x 0 = 45 ↔ n < 0) := fun hk' n h1 h2 e => by
    have hl : x.data.toList = Go.Lib.itoa n := by rw [← e, decS_list]
    obtain ⟨g1, g2, g3, g4⟩ := num_ok h1 h2
    have hz : x.size = (Go.Lib.itoa n).length := by rw [← hl, ba_len]
    have h0 : 0 < (Go.Lib.itoa n).length := Nat.pos_of_ne_zero (fun h => itoa_ne n (List.eq_nil_of_length_eq_zero h))
    have hk2 : k = (Go.Lib.itoa n).length := by omega
    rw [hl, hk2]
    refine ⟨g2, by omega, by omega, g3, ?_⟩
    rw [← g4]
    have := byte_is (s := x) (k := 0) (c := 45) (by omega) (by decide) (by decide)
    rw [hl] at this
    exact this
  rw [hw]
  generalize hd : dTo x.data.toList k = d at *
  obtain ⟨N, K⟩ := d
  dsimp only at hb hdig F1 ⊢
  obtain ⟨b1, b2, b3, b4, b5⟩ := hb
  have b6 : K ≤ 9 → N ≤ 999999999 := fun h => by
    have h1 : (10 : Nat) ^ K.toNat ≤ 10 ^ 9 := Nat.pow_le_pow_right (by decide) (by omega)
    have h2 : (((10 : Nat) ^ K.toNat : Nat) : Int) = (10 : Int) ^ K.toNat := by push_cast; rfl
    have h3 : (10 : Nat) ^ 9 = 1000000000 := by decide
    rw [← h2] at b5
    omega
  have hby := byteOf_in x (k : Int)
  have hby' : 0 ≤ byteOf x (k : Int) ∧ byteOf x (k : Int) ≤ 255 := hby
  have hx0 : ∀ j : Int, 0 ≤ byteOf x j ∧ byteOf x j ≤ 255 := fun j => byteOf_in x j
  have hgo1 : (k : Int) < x.size → (k : Int) < 11 → 48 ≤ byteOf x (k : Int) → byteOf x (k : Int) ≤ 57 → I ((k : Int) + 1, K + 1, N * 10 + (byteOf x (k : Int) - 48)) ∧ μ ((k : Int) + 1, K + 1, N * 10 + (byteOf x (k : Int) - 48)) < μ ((k : Int), K, N) := fun h1 h2 h3 h4 =>
    go _ (by omega) (by rw [hdig (by omega) h3 h4]; exact Prod.ext (by show (k : Int) + 1 = ((k + 1 : Nat) : Int); omega) rfl)
  have hgo2 : (k : Int) < x.size → (k : Int) < 11 → (byteOf x (k : Int) < 48 ∨ 57 < byteOf x (k : Int)) → I ((k : Int) + 1, K, N) ∧ μ ((k : Int) + 1, K, N) < μ ((k : Int), K, N) := fun h1 h2 h3 =>
    go _ (by omega) (by rw [hnod (by omega) h3]; exact Prod.ext (by show (k : Int) + 1 = ((k + 1 : Nat) : Int); omega) rfl)
  clear go hdig hnod hbyte hd hw
  refine fun _ => ⟨fun hlt => ⟨fun hlt2 => ⟨by omega, fun _ => ⟨fun h48 => ⟨by omega, fun _ => ⟨fun h57 => ⟨by omega, fun _ => ⟨by omega, fun _ => ⟨by omega, fun _ _ => ⟨by omega, fun _ => ⟨by omega, fun _ => ⟨by omega, fun _ => hgo1 hlt hlt2 h48 h57⟩⟩⟩⟩⟩⟩, fun h57 => ⟨by omega, fun _ => hgo2 hlt hlt2 (.inr h57)⟩⟩⟩, fun h48 => ⟨by omega, fun _ => hgo2 hlt hlt2 (.inl h48)⟩⟩⟩, fun hge => ?_⟩, fun hge => ?_⟩
  · have F := F1 (by omega)
    clear F1 hgo1 hgo2
    (repeat' first | intro _ | (with_reducible apply And.intro))
    all_goals first | omega | exact (rdDec_yes (by assumption) (by omega) (by omega)).symm | exact rd_no (fun n h1 h2 e => by (have f := F n h1 h2 e; omega)) | exact rd_no (fun n h1 h2 e => by (have f := F n h1 h2 e; have e3 : n = -N := (by omega); subst e3; contradiction)) | exact rd_no (fun n h1 h2 e => by (have f := F n h1 h2 e; have e3 : n = N := (by omega); subst e3; contradiction)) | skip
  · have F := F1 (by omega)
    clear F1 hgo1 hgo2
    (repeat' first | intro _ | (with_reducible apply And.intro))
    all_goals first | omega | exact (rdDec_yes (by assumption) (by omega) (by omega)).symm | exact rd_no (fun n h1 h2 e => by (have f := F n h1 h2 e; omega)) | exact rd_no (fun n h1 h2 e => by (have f := F n h1 h2 e; have e3 : n = -N := (by omega); subst e3; contradiction)) | exact rd_no (fun n h1 h2 e => by (have f := F n h1 h2 e; have e3 : n = N := (by omega); subst e3; contradiction)) | skip
theorem h_s_ReadDec : Con.Holds Tryz.prog c_s_ReadDec := tree_ok mixedP (consAt h_s_Dec consNil) e_s_ReadDec fun x hx hp => v_s_ReadDec x hx hp
end Go.Proofs.YtllphmcjocidaaaGreatDoor
