/- The library's numerals and joined words: their contracts. -/
import Derived.Test.YtllphmcjocidaaaGreatDoorDec1
import Derived.Test.YtllphmcjocidaaaGreatDoorShelf
import Derived.Lib.AppendIntMem
namespace Go.Proofs.YtllphmcjocidaaaGreatDoor
open Go.ChangeShapes Go.WideShapes Go.ChangeAt Go.RowKit Go.Deep
set_option linter.unusedVariables false
set_option linter.unusedSimpArgs false
theorem argsRd.inv {w : World} {m : MV} {ms : List AM} {vs : List Value} {y : m.t.D} {ds : List SV} (h : argsRd w (.val m :: ms) vs (⟨m.t, y⟩ :: ds)) : ∃ v vs', vs = v :: vs' ∧ v = mkV m.ag v.cells.toList ∧ rd m.t w v.cells.toList y ∧ argsRd w ms vs' ds := by
  obtain ⟨v, vs', d, ds', rfl, hd, _, hv, hr, h⟩ := h
  obtain ⟨rfl, rfl⟩ := List.cons.inj hd
  rw [SV.as_self] at hr
  exact ⟨v, vs', rfl, hv, hr, h⟩
theorem OutsV.mk {w w' : World} {m : MV} {ms : List MV} {r : Value} {rs : List Value} {y : m.t.D} {ds : List SV} {b1 b2 : List Nat} (h : OutV w w' m r y b1) (hs : OutsV w w' ms rs ds b2) : OutsV w w' (m :: ms) (r :: rs) (⟨m.t, y⟩ :: ds) (b1 ++ b2) :=
  ⟨r, rs, b1, b2, rfl, rfl, by rw [SV.as_self]; exact h, hs⟩
theorem outS {w w' : World} {fl : List Nat} {s : ByteArray} (h : s.size ≤ maxLen) : OutV w w' ⟨false, .str, fl⟩ (.string s) s [] := ⟨rfl, ⟨⟨rfl, h⟩, Nat.le_refl _⟩, fun _ => ⟨rfl, h, rfl⟩⟩
noncomputable def c_c_Itoa : Con := ⟨64, tI, .str, [.val ⟨false, tI, []⟩], [⟨false, .str, [0]⟩], false, none, ((fun _ => True) : Int → Prop), ((fun n => decS n) : Int → ByteArray)⟩
theorem h_c_Itoa : Con.Holds Tryz.prog c_c_Itoa := by
  refine Con.holds_walk rfl rfl rfl rfl (fun x hp hx => ?_) ⟨Tryz.f64, Tryz.func64, by kernel_rfl, by kernel_rfl⟩ fun w vs x ht hp hx ha => ?_
  · have := decS_size (show inK .i64 x from hx)
    show (decS x).size ≤ maxLen
    unfold maxLen; omega
  · have e : SV.as (packTy (c_c_Itoa.ams.map (·.mv.t))) ⟨c_c_Itoa.argTy, x⟩ = x := SV.as_self _ _
    rw [e] at ha
    obtain ⟨v0, vs, rfl, hv0, hr0, rfl, -⟩ := argsRd.inv ha
    obtain ⟨c0, w0⟩ := hr0
    rw [c0] at hv0
    rw [hv0]
    have hx' : inK .i64 x := hx
    refine (sh_strconv_Itoa x hx'.1 hx'.2 w (tab_pow ht)).mono ?_
    rintro e w' ⟨rfl, k, os, rfl⟩
    have e2 : SV.as (packTy (c_c_Itoa.rms.map (·.t))) ⟨c_c_Itoa.resTy, c_c_Itoa.fn x⟩ = decS x := SV.as_self _ _
    rw [e2]
    have hs := decS_size hx'
    exact ⟨[.string (decS x)], [] ++ [], rfl, OutsV.mk (outS (by unfold maxLen; omega)) ⟨rfl, rfl⟩, by simp, by simp, Go.Lib.below_grow _ _ (Nat.le_refl _) _ _⟩
noncomputable def c_t_Join : Con := ⟨37, .pair (.slice 9 .str) .str, .str, [.val ⟨false, .slice 9 .str, []⟩, .val ⟨false, .str, []⟩], [⟨false, .str, [0]⟩], false, none,
  ((fun x => x.1.length ≤ 1000000000 ∧ (joinB x.1 x.2).size ≤ 140737488355328) : List ByteArray × ByteArray → Prop), ((fun x => joinB x.1 x.2) : List ByteArray × ByteArray → ByteArray)⟩
theorem h_t_Join : Con.Holds Tryz.prog c_t_Join := by
  refine Con.holds_walk rfl rfl rfl rfl (fun x hp hx => ?_) ⟨Tryz.f37, Tryz.func37, by kernel_rfl, by kernel_rfl⟩ fun w vs x ht hp hx ha => ?_
  · show (joinB x.1 x.2).size ≤ maxLen
    have := hp.2
    unfold maxLen; omega
  · obtain ⟨xs, sep⟩ := x
    have e : SV.as (packTy (c_t_Join.ams.map (·.mv.t))) ⟨c_t_Join.argTy, (xs, sep)⟩ = (xs, sep) := SV.as_self _ _
    rw [e] at ha
    obtain ⟨v0, vs, rfl, hv0, hr0, ha⟩ := argsRd.inv ha
    obtain ⟨v1, vs, rfl, hv1, hr1, rfl, -⟩ := argsRd.inv ha
    obtain ⟨c1, w1⟩ := hr1
    rw [c1] at hv1
    obtain ⟨p, len, cap, c0, hl, hlc, hcm, hn, hc⟩ := hr0
    rw [c0] at hv0
    rw [hv0, hv1]
    change List ByteArray at xs
    have hl' : len = xs.length := hl
    subst hl'
    have e2 : SV.as (packTy (c_t_Join.rms.map (·.t))) ⟨c_t_Join.resTy, c_t_Join.fn (xs, sep)⟩ = joinB xs sep := SV.as_self _ _
    rw [e2]
    obtain ⟨hp1, hp2⟩ : xs.length ≤ 1000000000 ∧ (joinB xs sep).size ≤ 140737488355328 := hp
    have fin : ∀ e w', e = .returned (.string (joinB xs sep)) ∧ Below w.heap.size w w' → GivesL c_t_Join.rms w (parts (List.map (fun x => x.t) c_t_Join.rms) (joinB xs sep)) e w' := fun e w' h => by
      obtain ⟨rfl, hb⟩ := h
      exact ⟨[.string (joinB xs sep)], [] ++ [], rfl, OutsV.mk (outS (by unfold maxLen; omega)) ⟨rfl, rfl⟩, by simp, by simp, hb⟩
    match xs, hc, hn, hlc, hp1, hp2, fin with
    | [], _, _, _, _, _, fin => exact (sh_strings_Join_none p cap sep w).mono fun e w' ⟨he, hw⟩ => fin e w' ⟨he, hw ▸ Below.refl _ _⟩
    | x :: r, hc, hn, hlc, hp1, hp2, fin =>
      obtain ⟨b, off, rfl, hb, _⟩ := hc 0 (by simp)
      refine (sh_strings_Join b off cap (x :: r) sep w (fun j y hj => ?_) hb (by omega) hlc (by have h := hp2; unfold joinB at h; rw [ofL_size] at h; exact h)).mono fun e w' h => fin e w' h
      obtain ⟨hj1, hj2⟩ := List.getElem?_eq_some_iff.1 hj
      obtain ⟨b', off', eb, _, cs, hcl, hcc, hcr⟩ := hc j hj1
      obtain ⟨rfl, rfl⟩ : b = b' ∧ off = off' := by simpa using eb
      obtain ⟨rfl, _⟩ := hcr
      have := hcc 0 (by simp)
      rw [← hj2]
      simpa [Ty.n] using this
end Go.Proofs.YtllphmcjocidaaaGreatDoor
