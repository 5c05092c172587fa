/- The library's readers: their contracts. -/
import Derived.Test.YtllphmcjocidaaaGreatDoorDoorC
import Derived.Test.YtllphmcjocidaaaGreatDoorRd4
import Derived.Test.YtllphmcjocidaaaGreatDoorRdW
import Derived.Lib.AtoiTie
import Derived.Lib.Split
import Derived.Lib.SmallJoins
namespace Go.Proofs.YtllphmcjocidaaaGreatDoor
open Go.ChangeShapes Go.WideShapes Go.ChangeAt Go.RowKit Go.Deep
set_option linter.unusedVariables false
set_option linter.unusedSimpArgs false
theorem outB {w w' : World} {fl : List Nat} {b : Bool} : OutV w w' ⟨false, .bool, fl⟩ (.bool b) b [] := ⟨rfl, ⟨rfl, Nat.le_refl _⟩, fun _ => ⟨rfl, rfl⟩⟩
theorem outI {w w' : World} {fl : List Nat} {n : Int} (h : (Lit.int .i64 n).wf = true) : OutV w w' ⟨false, tI, fl⟩ (.int .i64 n) n [] := ⟨rfl, ⟨⟨rfl, h⟩, Nat.le_refl _⟩, fun _ => ⟨rfl, h, rfl⟩⟩
/-! strings.CutPrefix -/
noncomputable def cutPre (s p : ByteArray) : ByteArray × Bool := (ofL (Go.Lib.trimPrefix s.data.toList p.data.toList), Go.Lib.hasPrefix s.data.toList p.data.toList)
theorem cutPre_size (s p : ByteArray) : (cutPre s p).1.size ≤ s.size := by
  unfold cutPre
  rw [ofL_size, ← ba_len s]
  exact Go.Lib.trimPrefix_le _ _
noncomputable def c_t_CutPrefix : Con := ⟨70, .pair .str .str, .pair .str .bool, [.val ⟨false, .str, []⟩, .val ⟨false, .str, []⟩], [⟨false, .str, [0]⟩, ⟨false, .bool, [0]⟩], false, none,
  ((fun x => x.1.size ≤ 1048576) : ByteArray × ByteArray → Prop), ((fun x => cutPre x.1 x.2) : ByteArray × ByteArray → ByteArray × Bool)⟩
theorem h_t_CutPrefix : Con.Holds Tryz.prog c_t_CutPrefix := by
  refine Con.holds_walk rfl rfl rfl rfl (fun x hp hx => ?_) ⟨Tryz.f70, Tryz.func70, by kernel_rfl, by kernel_rfl⟩ fun w vs x ht hp hx ha => ?_
  · have h1 := cutPre_size x.1 x.2
    have h2 : x.1.size ≤ 1048576 := hp
    exact ⟨show (cutPre x.1 x.2).1.size ≤ maxLen by unfold maxLen; omega, trivial⟩
  · obtain ⟨s, p⟩ := x
    have hp1 : s.size ≤ 1048576 := hp
    have hz := cutPre_size s p
    have e : SV.as (packTy (c_t_CutPrefix.ams.map (·.mv.t))) ⟨c_t_CutPrefix.argTy, (s, p)⟩ = (s, p) := SV.as_self _ _
    rw [e] at ha
    obtain ⟨v0, vs, rfl, hv0, hr0, ha⟩ := argsRd.inv ha
    obtain ⟨v1, vs, rfl, hv1, hr1, rfl, -⟩ := argsRd.inv ha
    obtain ⟨c0, w0⟩ := hr0
    obtain ⟨c1, w1⟩ := hr1
    rw [c0] at hv0
    rw [c1] at hv1
    rw [hv0, hv1]
    refine (sh_strings_CutPrefix s p w).mono ?_
    rintro e w' ⟨rfl, rfl⟩
    have e2 : SV.as (packTy (c_t_CutPrefix.rms.map (·.t))) ⟨c_t_CutPrefix.resTy, c_t_CutPrefix.fn (s, p)⟩ = cutPre s p := SV.as_self _ _
    rw [e2]
    exact ⟨[.string (cutPre s p).1, .bool (cutPre s p).2], [] ++ ([] ++ []), rfl, OutsV.mk (outS (by unfold maxLen; omega)) (OutsV.mk outB ⟨rfl, rfl⟩), by simp, by simp, Below.refl _ _⟩
/-! strings.Cut -/
noncomputable def cut3 (s p : ByteArray) : ByteArray × (ByteArray × Bool) := (ofL (Go.Lib.cut s.data.toList p.data.toList).1, (ofL (Go.Lib.cut s.data.toList p.data.toList).2.1, (Go.Lib.cut s.data.toList p.data.toList).2.2))
theorem cut3_size (s p : ByteArray) : (cut3 s p).1.size ≤ s.size ∧ (cut3 s p).2.1.size ≤ s.size := by
  unfold cut3
  rw [ofL_size, ofL_size, ← ba_len s]
  unfold Go.Lib.cut
  split
  · exact ⟨by rw [List.length_take]; omega, by rw [List.length_drop]; omega⟩
  · exact ⟨Nat.le_refl _, Nat.zero_le _⟩
noncomputable def c_t_Cut : Con := ⟨71, .pair .str .str, .pair .str (.pair .str .bool), [.val ⟨false, .str, []⟩, .val ⟨false, .str, []⟩], [⟨false, .str, [0]⟩, ⟨false, .str, [0]⟩, ⟨false, .bool, [0]⟩], false, none,
  ((fun x => x.1.size ≤ 1048576) : ByteArray × ByteArray → Prop), ((fun x => cut3 x.1 x.2) : ByteArray × ByteArray → ByteArray × (ByteArray × Bool))⟩
theorem h_t_Cut : Con.Holds Tryz.prog c_t_Cut := by
  refine Con.holds_walk rfl rfl rfl rfl (fun x hp hx => ?_) ⟨Tryz.f71, Tryz.func71, by kernel_rfl, by kernel_rfl⟩ fun w vs x ht hp hx ha => ?_
  · have h1 := cut3_size x.1 x.2
    have h2 : x.1.size ≤ 1048576 := hp
    exact ⟨show (cut3 x.1 x.2).1.size ≤ maxLen by unfold maxLen; omega, show (cut3 x.1 x.2).2.1.size ≤ maxLen by unfold maxLen; omega, trivial⟩
  · obtain ⟨s, p⟩ := x
    have hp1 : s.size ≤ 1048576 := hp
    have hz := cut3_size s p
    have e : SV.as (packTy (c_t_Cut.ams.map (·.mv.t))) ⟨c_t_Cut.argTy, (s, p)⟩ = (s, p) := SV.as_self _ _
    rw [e] at ha
    obtain ⟨v0, vs, rfl, hv0, hr0, ha⟩ := argsRd.inv ha
    obtain ⟨v1, vs, rfl, hv1, hr1, rfl, -⟩ := argsRd.inv ha
    obtain ⟨c0, w0⟩ := hr0
    obtain ⟨c1, w1⟩ := hr1
    rw [c0] at hv0
    rw [c1] at hv1
    rw [hv0, hv1]
    obtain ⟨m, hm⟩ := tab_max ht
    refine (sh_strings_Cut s p m w (by omega) hm).mono ?_
    rintro e w' ⟨rfl, n, rfl⟩
    have e2 : SV.as (packTy (c_t_Cut.rms.map (·.t))) ⟨c_t_Cut.resTy, c_t_Cut.fn (s, p)⟩ = cut3 s p := SV.as_self _ _
    rw [e2]
    exact ⟨[.string (cut3 s p).1, .string (cut3 s p).2.1, .bool (cut3 s p).2.2], [] ++ ([] ++ ([] ++ [])), rfl, OutsV.mk (outS (by unfold maxLen; omega)) (OutsV.mk (outS (by unfold maxLen; omega)) (OutsV.mk outB ⟨rfl, rfl⟩)), by simp, by simp, ⟨rfl, rfl, rfl, Nat.le_refl _, fun _ _ => rfl⟩⟩
/-! strings.Split -/
theorem cutL_cnt (c : UInt8) : (n : Nat) → (s : List UInt8) → s.length ≤ n → (cutL c s).length = Go.Lib.count s [c] + 1
  | 0, s, h => by
    have : s = [] := List.eq_nil_of_length_eq_zero (by omega)
    subst this; rfl
  | n + 1, s, h => by
    by_cases hc : c ∈ s
    · obtain ⟨w, l, rfl, hw⟩ := first_at hc
      rw [Go.Lib.count_hit (by simp) (idx_at hw), cutL_app hw]
      have e2 : (w ++ c :: l).drop (w.length + [c].length) = l := by
        rw [List.length_singleton, List.drop_append]; simp
      rw [e2, List.length_cons, cutL_cnt c n l (by rw [List.length_append, List.length_cons] at h; omega)]
      omega
    · rw [Go.Lib.count_miss (idx_no hc), cutL_word hc]; rfl
theorem splitB_cut (s : ByteArray) (c : UInt8) : Go.Lib.splitB ⟨#[c]⟩ 0 (Go.Lib.countB s ⟨#[c]⟩) s = (cutL c s.data.toList).map ofL := by
  have h := Go.Lib.splitB_data ⟨#[c]⟩ 0 (Go.Lib.countB s ⟨#[c]⟩) s
  have e : Go.Lib.splitK [c] 0 (Go.Lib.count s.data.toList [c]) s.data.toList = cutL c s.data.toList := split_cut c s.data.toList
  have h' : (Go.Lib.splitB ⟨#[c]⟩ 0 (Go.Lib.countB s ⟨#[c]⟩) s).map (·.data.toList) = cutL c s.data.toList := h.trans e
  have h2 := congrArg (List.map ofL) h'
  rw [List.map_map] at h2
  rw [← h2]
  exact ((List.map_congr_left fun x _ => (ofL_data x)).trans (List.map_id _)).symm
theorem repL_strs {w : World} : (l : List ByteArray) → (∀ x ∈ l, x.size ≤ maxLen) → RepL 1 (Un .str w) (l.map Value.string) l []
  | [], _ => ⟨rfl, rfl⟩
  | x :: l, h => ⟨[.string x], l.map Value.string, [], [], rfl, rfl, rfl, ⟨rfl, h x (by simp), rfl⟩, repL_strs l fun y hy => h y (List.mem_cons_of_mem _ hy)⟩
noncomputable def c_t_Split : Con := ⟨38, .pair .str .str, .slice 9 .str, [.val ⟨false, .str, []⟩, .val ⟨false, .str, []⟩], [⟨false, .slice 9 .str, [1]⟩], false, none,
  ((fun x => x.1.size ≤ 1048576 ∧ x.2 = sp) : ByteArray × ByteArray → Prop), ((fun x => cutS x.1 32) : ByteArray × ByteArray → List ByteArray)⟩
theorem strs_out {w : World} {l : List ByteArray} (h0 : 0 < l.length) (h1 : l.length ≤ maxLen) (h2 : ∀ x ∈ l, x.size ≤ maxLen) : OutV w (w.alloc (.cells (l.map Value.string).toArray 9)) ⟨false, .slice 9 .str, [1]⟩ (.slice (some ⟨w.heap.size, 0, none⟩) l.length l.length) l [w.heap.size] := by
  have hu : Un (.slice 9 .str) (w.alloc (.cells (l.map Value.string).toArray 9)) [.slice (some ⟨w.heap.size, 0, none⟩) l.length l.length] l [w.heap.size] := by
    refine .inr ⟨w.heap.size, 0, l.length, (l.map Value.string).toArray, l.map Value.string, [], rfl, rfl, Array.getElem?_push_size, Nat.le_refl _, h1, ?_, ?_, repL_strs l h2, rfl⟩
    · show 0 + l.length * 1 ≤ (l.map Value.string).toArray.size
      simp
    · show _ = (((l.map Value.string).toArray.toList).drop 0).take (l.length * 1)
      rw [List.drop_zero, Nat.mul_one, List.take_of_length_le (by simp)]
  refine ⟨rfl, ⟨(Un.rdg _ _ _ _ hu).mono (fun b hb => ?_) (fun _ _ => rfl), Nat.le_refl _⟩, fun _ => hu⟩
  rw [List.mem_singleton] at hb
  subst hb
  exact ⟨Nat.le_refl _, by rw [World.size_alloc]; omega⟩
theorem h_t_Split : Con.Holds Tryz.prog c_t_Split := by
  have hW1 : ∀ s : ByteArray, s.size ≤ 1048576 → ∀ x ∈ cutS s 32, x.size ≤ maxLen := fun s h x hx => by
    have := cutS_size s 32 x hx
    unfold maxLen; omega
  have hW2 : ∀ s : ByteArray, s.size ≤ 1048576 → (cutS s 32).length ≤ maxLen := fun s h => by
    have := cutS_count s 32
    unfold maxLen; omega
  refine Con.holds_walk rfl rfl rfl rfl (fun x hp hx => ⟨hW2 _ hp.1, hW1 _ hp.1⟩) ⟨Tryz.f38, Tryz.func38, by kernel_rfl, by kernel_rfl⟩ fun w vs x ht hp hx ha => ?_
  obtain ⟨s, p⟩ := x
  obtain ⟨hp1, hp2⟩ : s.size ≤ 1048576 ∧ p = sp := hp
  have e : SV.as (packTy (c_t_Split.ams.map (·.mv.t))) ⟨c_t_Split.argTy, (s, p)⟩ = (s, p) := SV.as_self _ _
  rw [e] at ha
  obtain ⟨v0, vs, rfl, hv0, hr0, ha⟩ := argsRd.inv ha
  obtain ⟨v1, vs, rfl, hv1, hr1, rfl, -⟩ := argsRd.inv ha
  obtain ⟨c0, w0⟩ := hr0
  obtain ⟨c1, w1⟩ := hr1
  rw [c0] at hv0
  rw [c1] at hv1
  rw [hv0, hv1]
  subst hp2
  obtain ⟨m, hm⟩ := tab_max ht
  have eS : Go.Lib.splitB sp 0 (Go.Lib.countB s sp) s = cutS s 32 := splitB_cut s 32
  have eL : Go.Lib.countB s sp + 1 = (cutS s 32).length := by
    unfold cutS
    rw [List.length_map]
    exact (cutL_cnt 32 s.data.toList.length s.data.toList (Nat.le_refl _)).symm
  refine (sh_strings_Split s sp m w (by omega) hm (by decide)).mono ?_
  rintro e w' ⟨rfl, rfl⟩
  rw [eS, eL]
  have e2 : SV.as (packTy (c_t_Split.rms.map (·.t))) ⟨c_t_Split.resTy, c_t_Split.fn (s, sp)⟩ = cutS s 32 := SV.as_self _ _
  rw [e2]
  exact ⟨[_], [w.heap.size] ++ [], rfl, OutsV.mk (strs_out (by omega) (hW2 s hp1) (hW1 s hp1)) ⟨rfl, rfl⟩, by simp, by simp, Below.alloc (Below.refl _ _) (Nat.le_refl _) _⟩
/-! ReadDec -/
theorem atoiAll_dec {n : Int} (h1 : -999999999 ≤ n) (h2 : n ≤ 999999999) : Go.Lib.atoiAll (decS n).data.toList = .ok n := by
  rw [decS_list, Go.Lib.atoiAll_short _ (by have := (num_ok h1 h2).1; omega), atoi_itoa]; rfl
theorem atoiAll_in {l : List UInt8} {v : Int} (h : Go.Lib.atoiAll l = .ok v) : inK .i64 v := by
  have key : -9223372036854775808 ≤ v ∧ v ≤ 9223372036854775807 := by
    unfold Go.Lib.atoiAll at h
    split at h
    · cases h
    · dsimp only at h
      split at h
      · cases h
      · cases h
      · split at h
        · cases h
        · split at h
          · cases h
          · injection h with h
            subst h
            split <;> omega
  exact key
theorem rdDec_in (s : ByteArray) : inK .i64 (rdDec s).1 := by
  have key : -9223372036854775808 ≤ (rdDec s).1 ∧ (rdDec s).1 ≤ 9223372036854775807 := by
    unfold rdDec
    split
    · split
      · rename_i h; exact ⟨by omega, by omega⟩
      · exact ⟨by decide, by decide⟩
    · exact ⟨by decide, by decide⟩
  exact key
theorem dec_gives : DecGives := fun x0 w ht r0 => by
  have hA : argsRd w c_i_Dec.ams [.int .i64 x0] (parts (c_i_Dec.ams.map (·.mv.t)) (SV.as _ ⟨c_i_Dec.argTy, x0⟩)) := by
    have e : SV.as (packTy (c_i_Dec.ams.map (·.mv.t))) ⟨c_i_Dec.argTy, x0⟩ = x0 := SV.as_self _ _
    rw [e]
    exact (argsRd.cons rfl rfl (show rd (.int .i64) w [.int .i64 x0] x0 from ⟨rfl, r0⟩) argsRd.nil)
  have hg := h_i_Dec.givesL rfl (x := x0) trivial (RdG.okD (RdG.of_rd (show rd (.int .i64) w [.int .i64 x0] x0 from ⟨rfl, r0⟩))) hA rfl ht
  have e : SV.as (packTy (c_i_Dec.rms.map (·.t))) ⟨c_i_Dec.resTy, c_i_Dec.fn x0⟩ = (decS x0) := SV.as_self _ _
  rw [e] at hg
  refine hg.mono fun e w' hh => ?_
  clear hg
  obtain ⟨rs, bl, he, ho, hn, hb, bel⟩ := hh
  obtain ⟨r0, rs0, b0, bb0, rfl, rfl, k0, ho⟩ := OutsV.inv ho
  obtain ⟨rfl, rfl⟩ := ho
  have e0 := k0.str
  exact ⟨he.trans (congrArg (fun l => Ending.returned (retV l)) (congr (congrArg List.cons e0) rfl)), bel⟩
theorem readDec_c (s : ByteArray) (hs : s.size ≤ 1048576) (w : World) (ht : tabP.p w) :
    Calls Tryz.prog 39 #[.string s] w (fun e w' => e = .returned (.tuple #[.int .i64 (rdDec s).1, .bool (rdDec s).2]) ∧ Below w.heap.size w w') := by
  have hno : (∀ v, Go.Lib.atoiAll s.data.toList ≠ .ok v) → rdDec s = (0, false) := fun h => rdDec_no fun n h1 h2 e => h n (by rw [← e]; exact atoiAll_dec h1 h2)
  cases hh : Go.Lib.atoiAll s.data.toList with
  | ok v =>
    refine readDec_ok s hs w ht v (inK_wf (atoiAll_in hh)) dec_gives (rdDec s) (fun e h1 h2 => rdDec_yes e h1 h2) (fun hn => rdDec_no fun n h1 h2 e => hn ?_) ((sh_strconv_Atoi_ok s (by omega) v hh w).mono ?_)
    · have := atoiAll_dec h1 h2
      rw [e, hh] at this
      injection this with this
      subst this
      exact ⟨e, h1, h2⟩
    · rintro e w' ⟨rfl, h⟩
      refine ⟨rfl, ?_⟩
      rcases h with rfl | ⟨t, rfl⟩
      · exact Below.refl _ _
      · exact Go.Joins.below_bytesWorld _ _ _ _ (Nat.le_refl _)
  | range =>
    obtain ⟨T, p, hv⟩ := tab_rng ht
    refine readDec_err s w (rdDec s) (hno fun v e => by rw [hh] at e; cases e) ((sh_strconv_Atoi_range_var s (by omega) hh T p w hv).mono ?_)
    rintro e w' ⟨N, rfl, _, _, hb⟩
    exact ⟨_, _, _, rfl, hb⟩
  | _ =>
    obtain ⟨T, p, hv⟩ := tab_syn ht
    have h0 : ∀ v, Go.Lib.atoiAll s.data.toList ≠ .ok v := fun v e => by rw [hh] at e; cases e
    refine readDec_err s w (rdDec s) (hno h0) ((sh_strconv_Atoi_syntax_var s (by omega) h0 (fun e => by rw [hh] at e; cases e) T p w hv).mono ?_)
    rintro e w' ⟨N, rfl, _, _, hb⟩
    exact ⟨_, _, _, rfl, hb⟩
noncomputable def c_i_ReadDec : Con := ⟨39, .str, .pair tI .bool, [.val ⟨false, .str, []⟩], [⟨false, tI, [0]⟩, ⟨false, .bool, [0]⟩], false, none,
  ((fun x => x.size ≤ 1048576) : ByteArray → Prop), ((fun x => rdDec x) : ByteArray → Int × Bool)⟩
theorem h_i_ReadDec : Con.Holds Tryz.prog c_i_ReadDec := by
  refine Con.holds_walk rfl rfl rfl rfl (fun x hp hx => ⟨rdDec_in x, trivial⟩) ⟨Tryz.f39, Tryz.func39, by kernel_rfl, by kernel_rfl⟩ fun w vs x ht hp hx ha => ?_
  have e : SV.as (packTy (c_i_ReadDec.ams.map (·.mv.t))) ⟨c_i_ReadDec.argTy, x⟩ = x := SV.as_self _ _
  rw [e] at ha
  obtain ⟨v0, vs, rfl, hv0, hr0, rfl, -⟩ := argsRd.inv ha
  obtain ⟨c0, w0⟩ := hr0
  rw [c0] at hv0
  rw [hv0]
  refine (readDec_c x hp w ht).mono ?_
  rintro e w' ⟨rfl, hb⟩
  have e2 : SV.as (packTy (c_i_ReadDec.rms.map (·.t))) ⟨c_i_ReadDec.resTy, c_i_ReadDec.fn x⟩ = rdDec x := SV.as_self _ _
  rw [e2]
  exact ⟨[.int .i64 (rdDec x).1, .bool (rdDec x).2], [] ++ ([] ++ []), rfl, OutsV.mk (outI (inK_wf (rdDec_in x))) (OutsV.mk outB ⟨rfl, rfl⟩), by simp, by simp, hb⟩
end Go.Proofs.YtllphmcjocidaaaGreatDoor
