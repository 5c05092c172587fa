/- strings.SplitAfter at a line's end, strings.CutSuffix: their contracts. -/
import Derived.Test.YtllphmcjocidaaaGreatDoorRdC
import Derived.Test.YtllphmcjocidaaaGreatDoorRdm
import Derived.Deep.RegionHeld3
namespace Go.Proofs.YtllphmcjocidaaaGreatDoor
open Go.ChangeShapes Go.WideShapes Go.ChangeAt Go.RowKit Go.Deep
set_option linter.unusedVariables false
set_option linter.unusedSimpArgs false
theorem splitB_aft (s : ByteArray) : Go.Lib.splitB nlB 1 (Go.Lib.countB s nlB) s = aftS s := by
  have h := Go.Lib.splitB_data nlB 1 (Go.Lib.countB s nlB) s
  have e : Go.Lib.splitK [10] 1 (Go.Lib.count s.data.toList [10]) s.data.toList = aft 10 (cutL 10 s.data.toList) := splitK_aft _ (count_c _ _ (Nat.le_refl _))
  have h' : (Go.Lib.splitB nlB 1 (Go.Lib.countB s nlB) s).map (·.data.toList) = aft 10 (cutL 10 s.data.toList) := h.trans e
  have h2 := congrArg (List.map ofL) h'
  rw [List.map_map] at h2
  unfold aftS
  rw [← h2]
  exact ((List.map_congr_left fun x _ => (ofL_data x)).trans (List.map_id _)).symm
theorem splitAfter_c (s : ByteArray) (hs : s.size ≤ 1048576) (w : World) (ht : tabP.p w) :
    Calls Tryz.prog 25 #[.string s, .string nlB] w fun e w' => e = .returned (.slice (some ⟨w.heap.size, 0, none⟩) (aftS s).length (aftS s).length) ∧ w' = w.alloc (.cells ((aftS s).map Value.string).toArray 9) := by
  obtain ⟨m, hm⟩ := tab_max ht
  have h1 : 1 ≤ nlB.size := by decide
  have hle := Go.Lib.countB_le nlB h1 s.size s (Nat.le_refl _)
  have hlen := Go.Lib.splitB_all nlB h1 1 _ s rfl
  have c := Any.strings_genSplit { sh_lays146 with } (by kernel_rfl) s nlB 1 (-1) (Go.Lib.countB s nlB + 1) m w (by omega) hm h1 (by decide) (by decide) (by decide) (by rw [if_pos (by decide)]; omega)
  rw [Nat.add_sub_cancel, hlen] at c
  have e2 : Go.Lib.cellsOf (Go.Lib.splitB nlB 1 (Go.Lib.countB s nlB) s) (Go.Lib.countB s nlB + 1) = ((Go.Lib.splitB nlB 1 (Go.Lib.countB s nlB) s).map Value.string).toArray := by rw [← hlen]; exact Go.Lib.cellsOf_full _
  rw [e2, ← hlen, splitB_aft] at c
  have c' : Calls Tryz.prog 55 #[.string s, .string nlB, .int .i64 1, .int .i64 (-1)] w fun e w' => e = .returned (.slice (some ⟨w.heap.size, 0, none⟩) (aftS s).length (aftS s).length) ∧ w' = w.alloc (.cells ((aftS s).map Value.string).toArray 9) := c
  clear c
  have hz : nlB.size = 1 := rfl
  go_enter Tryz.func25, Tryz.ntmps25
  go_wp2_with fail
  refine c'.mono ?_
  rintro e w' ⟨rfl, hw⟩
  rw [hw]
  go_wp2
  go_ret
  exact ⟨rfl, rfl⟩
noncomputable def c_t_SplitAfter : Con := ⟨25, .pair .str .str, .slice 9 .str, [.val ⟨false, .str, []⟩, .val ⟨false, .str, []⟩], [⟨false, .slice 9 .str, [1]⟩], false, none,
  ((fun x => x.1.size ≤ 1048576 ∧ x.2 = nlB) : ByteArray × ByteArray → Prop), ((fun x => aftS x.1) : ByteArray × ByteArray → List ByteArray)⟩
theorem h_t_SplitAfter : Con.Holds Tryz.prog c_t_SplitAfter := by
  have hW1 : ∀ s : ByteArray, s.size ≤ 1048576 → ∀ x ∈ aftS s, x.size ≤ maxLen := fun s h x hx => by
    have := aftS_size s x hx
    unfold maxLen; omega
  have hW2 : ∀ s : ByteArray, s.size ≤ 1048576 → (aftS s).length ≤ maxLen := fun s h => by
    have h1 := aftS_len s
    have h2 := cutL_count 10 s.data.toList
    have h3 := ba_len s
    unfold maxLen; omega
  refine Con.holds_walk rfl rfl rfl rfl (fun x hp hx => ⟨hW2 _ hp.1, hW1 _ hp.1⟩) ⟨Tryz.f25, Tryz.func25, by kernel_rfl, by kernel_rfl⟩ fun w vs x ht hp hx ha => ?_
  obtain ⟨s, p⟩ := x
  obtain ⟨hp1, hp2⟩ : s.size ≤ 1048576 ∧ p = nlB := hp
  have e : SV.as (packTy (c_t_SplitAfter.ams.map (·.mv.t))) ⟨c_t_SplitAfter.argTy, (s, p)⟩ = (s, p) := SV.as_self _ _
  rw [e] at ha
  obtain ⟨v0, vs, rfl, hv0, hr0, ha⟩ := argsRd.inv ha
  obtain ⟨v1, vs, rfl, hv1, hr1, rfl, -⟩ := argsRd.inv ha
  obtain ⟨c0, w0⟩ := hr0
  obtain ⟨c1, w1⟩ := hr1
  rw [c0] at hv0
  rw [c1] at hv1
  rw [hv0, hv1]
  subst hp2
  have hne : 0 < (aftS s).length := by
    rw [aftS_len]
    exact List.length_pos_iff.2 (cutL_ne 10 s.data.toList)
  refine (splitAfter_c s hp1 w ht).mono ?_
  rintro e w' ⟨rfl, rfl⟩
  have e2 : SV.as (packTy (c_t_SplitAfter.rms.map (·.t))) ⟨c_t_SplitAfter.resTy, c_t_SplitAfter.fn (s, nlB)⟩ = aftS s := SV.as_self _ _
  rw [e2]
  exact ⟨[_], [w.heap.size] ++ [], rfl, OutsV.mk (strs_out hne (hW2 s hp1) (hW1 s hp1)) ⟨rfl, rfl⟩, by simp, by simp, Below.alloc (Below.refl _ _) (Nat.le_refl _) _⟩
/-! strings.CutSuffix -/
noncomputable def cutSuf (s p : ByteArray) : ByteArray × Bool := (ofL (Go.Lib.trimSuffix s.data.toList p.data.toList), Go.Lib.hasSuffix s.data.toList p.data.toList)
theorem cutSuf_size (s p : ByteArray) : (cutSuf s p).1.size ≤ s.size := by
  unfold cutSuf
  rw [ofL_size, ← ba_len s]
  exact Go.Lib.trimSuffix_le _ _
noncomputable def c_t_CutSuffix : Con := ⟨26, .pair .str .str, .pair .str .bool, [.val ⟨false, .str, []⟩, .val ⟨false, .str, []⟩], [⟨false, .str, [0]⟩, ⟨false, .bool, [0]⟩], false, none,
  ((fun x => x.1.size ≤ 1048576) : ByteArray × ByteArray → Prop), ((fun x => cutSuf x.1 x.2) : ByteArray × ByteArray → ByteArray × Bool)⟩
theorem h_t_CutSuffix : Con.Holds Tryz.prog c_t_CutSuffix := by
  refine Con.holds_walk rfl rfl rfl rfl (fun x hp hx => ?_) ⟨Tryz.f26, Tryz.func26, by kernel_rfl, by kernel_rfl⟩ fun w vs x ht hp hx ha => ?_
  · have h1 := cutSuf_size x.1 x.2
    have h2 : x.1.size ≤ 1048576 := hp
    exact ⟨show (cutSuf x.1 x.2).1.size ≤ maxLen by unfold maxLen; omega, trivial⟩
  · obtain ⟨s, p⟩ := x
    have hp1 : s.size ≤ 1048576 := hp
    have hz := cutSuf_size s p
    have e : SV.as (packTy (c_t_CutSuffix.ams.map (·.mv.t))) ⟨c_t_CutSuffix.argTy, (s, p)⟩ = (s, p) := SV.as_self _ _
    rw [e] at ha
    obtain ⟨v0, vs, rfl, hv0, hr0, ha⟩ := argsRd.inv ha
    obtain ⟨v1, vs, rfl, hv1, hr1, rfl, -⟩ := argsRd.inv ha
    obtain ⟨c0, w0⟩ := hr0
    obtain ⟨c1, w1⟩ := hr1
    rw [c0] at hv0
    rw [c1] at hv1
    rw [hv0, hv1]
    refine (sh_strings_CutSuffix s p w (by omega)).mono ?_
    rintro e w' ⟨rfl, rfl⟩
    have e2 : SV.as (packTy (c_t_CutSuffix.rms.map (·.t))) ⟨c_t_CutSuffix.resTy, c_t_CutSuffix.fn (s, p)⟩ = cutSuf s p := SV.as_self _ _
    rw [e2]
    exact ⟨[.string (cutSuf s p).1, .bool (cutSuf s p).2], [] ++ ([] ++ []), rfl, OutsV.mk (outS (by unfold maxLen; omega)) (OutsV.mk outB ⟨rfl, rfl⟩), by simp, by simp, Below.refl _ _⟩
end Go.Proofs.YtllphmcjocidaaaGreatDoor
