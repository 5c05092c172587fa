/- Gradients taken into a range: the contracts. -/
import Derived.Test.YtahggdiafncdhaaClip
import Derived.Test.YtahggdiafncdhaaSeq5
namespace Go.Proofs.Ytahggdiafncdhaa
open Go.ChangeShapes Go.WideShapes Go.ChangeAt Go.RowKit Go.Deep
set_option linter.unusedVariables false
set_option linter.unusedSimpArgs false
theorem argsRd.inv {w : World} {m : MV} {ms : List AM} {vs : List Value} {y : m.t.D} {ds : List SV} (h : argsRd w (.val m :: ms) vs (⟨m.t, y⟩ :: ds)) : ∃ v vs', vs = v :: vs' ∧ v = mkV m.ag v.cells.toList ∧ rd m.t w v.cells.toList y ∧ argsRd w ms vs' ds := by
  obtain ⟨v, vs', d, ds', rfl, hd, _, hv, hr, h⟩ := h
  obtain ⟨rfl, rfl⟩ := List.cons.inj hd
  rw [SV.as_self] at hr
  exact ⟨v, vs', rfl, hv, hr, h⟩
theorem OutsV.mk {w w' : World} {m : MV} {ms : List MV} {r : Value} {rs : List Value} {y : m.t.D} {ds : List SV} {b1 b2 : List Nat} (h : OutV w w' m r y b1) (hs : OutsV w w' ms rs ds b2) : OutsV w w' (m :: ms) (r :: rs) (⟨m.t, y⟩ :: ds) (b1 ++ b2) :=
  ⟨r, rs, b1, b2, rfl, rfl, by rw [SV.as_self]; exact h, hs⟩
theorem sum_leB {B : Nat} : {l : List Nat} → (∀ x ∈ l, x ≤ B) → l.sum ≤ l.length * B
  | [], _ => by simp
  | x :: l, h => by
    have h1 := sum_leB (fun y hy => h y (List.mem_cons_of_mem _ hy)) (l := l)
    have h2 := h x (by simp)
    rw [List.sum_cons, List.length_cons, Nat.succ_mul]; omega
theorem szG_of {g : GradsD} (h : GB g) : szT tGrads g ≤ 1000000000 := by
  have e : szT tGrads g = (List.length g.1 + ((g.1 : List (List Int)).map (szT tRow)).sum) + (0 + 0) := rfl
  have h2 := sum_leB (B := 36) (l := (g.1 : List (List Int)).map (szT tRow)) (fun x hx => by
    obtain ⟨r, hr, rfl⟩ := List.mem_map.1 hx
    rw [show szT tRow r = List.length r from szT_ints r]
    exact h.2 r hr)
  rw [List.length_map] at h2
  have h3 : List.length g.1 ≤ 8 := h.1
  rw [e]; omega
theorem okG_clip {g : GradsD} {n : Int} (h : okD tGrads g) : okD tGrads (clipD g n) := by
  unfold clipD
  split
  · exact h
  · refine ⟨⟨by rw [show List.length (clipR (cl n) g.1) = List.length g.1 from clipR_length _ _]; exact h.1.1, fun r hr => ?_⟩, h.2⟩
    obtain ⟨r0, h0, rfl⟩ := List.mem_map.1 (show r ∈ (g.1 : List (List Int)).map (fun r => r.map (clv (cl n))) from hr)
    have h1 := h.1.2 r0 h0
    refine ⟨by rw [List.length_map]; exact h1.1, fun v hv => ?_⟩
    obtain ⟨v0, h2, rfl⟩ := List.mem_map.1 hv
    have h3 : -9223372036854775808 ≤ v0 ∧ v0 ≤ 9223372036854775807 := h1.2 v0 h2
    show (-9223372036854775808 : Int) ≤ clv (cl n) v0 ∧ clv (cl n) v0 ≤ (9223372036854775807 : Int)
    have h4 : -2147483647 ≤ cl n ∧ cl n ≤ 2147483647 := by unfold cl; omega
    unfold clv
    split
    · omega
    · split <;> omega
noncomputable def c_i_Clip : Con := ⟨15, (.pair tGrads tI), tGrads, [.val ⟨true, tGrads, []⟩, .val ⟨false, tI, []⟩], [⟨true, tGrads, [0, 0, 0]⟩], false, none, ((fun x => GB x.1) : GradsD × Int → Prop), ((fun x => clipD x.1 x.2) : GradsD × Int → GradsD)⟩
theorem h_i_Clip : Con.Holds Try.prog c_i_Clip := by
  refine Con.holds_walk rfl rfl rfl rfl (fun x hp hx => okG_clip hx.1) ⟨Try.f15, Try.func15, by kernel_rfl, by kernel_rfl⟩ fun w vs x ht hp hx ha => ?_
  obtain ⟨g, n⟩ := x
  have e : SV.as (packTy (c_i_Clip.ams.map (·.mv.t))) ⟨c_i_Clip.argTy, (g, n)⟩ = (g, n) := SV.as_self _ _
  rw [e] at ha
  obtain ⟨v0, vs, rfl, hv0, hr0, ha⟩ := argsRd.inv ha
  obtain ⟨v1, vs, rfl, hv1, hr1, rfl, -⟩ := argsRd.inv ha
  obtain ⟨c1, w1⟩ := hr1
  rw [c1] at hv1
  rw [hv0, hv1]
  refine (implClip_any v0.cells g n w hr0 w1 (szG_of hp)).mono ?_
  rintro e w' ⟨cs', rfl, hf, hB⟩
  have e2 : SV.as (packTy (c_i_Clip.rms.map (·.t))) ⟨c_i_Clip.resTy, c_i_Clip.fn (g, n)⟩ = clipD g n := SV.as_self _ _
  rw [e2]
  refine ⟨[.agg cs'], [] ++ [], rfl, OutsV.mk ⟨by simp [mkV, Value.cells], ⟨?_, Nat.le_refl _⟩, fun h => by cases h⟩ ⟨rfl, rfl⟩, by simp, by simp, hB⟩
  exact RdG.of_fr hf
noncomputable def c_s_Clip : Con := ⟨20, (.pair tGrads tI), tGrads, [.val ⟨true, tGrads, []⟩, .val ⟨false, tI, []⟩], [⟨true, tGrads, [0, 0, 0]⟩], false, none, ((fun x => GB x.1) : GradsD × Int → Prop), ((fun x => clipD x.1 x.2) : GradsD × Int → GradsD)⟩
theorem h_s_Clip : Con.Holds Try.prog c_s_Clip := by
  refine Con.holds_walk rfl rfl rfl rfl (fun x hp hx => okG_clip hx.1) ⟨Try.f20, Try.func20, by kernel_rfl, by kernel_rfl⟩ fun w vs x ht hp hx ha => ?_
  obtain ⟨g, n⟩ := x
  have e : SV.as (packTy (c_s_Clip.ams.map (·.mv.t))) ⟨c_s_Clip.argTy, (g, n)⟩ = (g, n) := SV.as_self _ _
  rw [e] at ha
  obtain ⟨v0, vs, rfl, hv0, hr0, ha⟩ := argsRd.inv ha
  obtain ⟨v1, vs, rfl, hv1, hr1, rfl, -⟩ := argsRd.inv ha
  obtain ⟨c1, w1⟩ := hr1
  rw [c1] at hv1
  rw [hv0, hv1]
  refine (specClip_any v0.cells g n w hr0 w1 (szG_of hp)).mono ?_
  rintro e w' ⟨cs', rfl, hf, hB⟩
  have e2 : SV.as (packTy (c_s_Clip.rms.map (·.t))) ⟨c_s_Clip.resTy, c_s_Clip.fn (g, n)⟩ = clipD g n := SV.as_self _ _
  rw [e2]
  refine ⟨[.agg cs'], [] ++ [], rfl, OutsV.mk ⟨by simp [mkV, Value.cells], ⟨?_, Nat.le_refl _⟩, fun h => by cases h⟩ ⟨rfl, rfl⟩, by simp, by simp, hB⟩
  exact RdG.of_fr hf
end Go.Proofs.Ytahggdiafncdhaa
