/- AllTogether: what both tell. -/
import Derived.Test.YtnijnjclmlfahaaZeroS
import Derived.Test.YtnijnjclmlfahaaCe
import Derived.Test.YtnijnjclmlfahaaTGrads
namespace Go.Proofs.Ytnijnjclmlfahaa
open Go.ChangeShapes Go.WideShapes Go.ChangeAt Go.RowKit Go.Deep
set_option linter.unusedVariables false
set_option linter.unusedSimpArgs false
theorem allTogether_both (l0 : List (Ty.D tGrads)) (hz0 : ((szT (.slice 36 tGrads) l0 : Nat) : Int) ≤ (1048576 : Int)) :
    ∃ (R0 : Ty.D tGrads), (∀ (p0 : Option Addr) (c0 : Nat) (w : World), SlRd (Ty.n tGrads) (rd tGrads w) w p0 (List.length l0) c0 l0 → Calls Try.prog 22 #[.slice p0 (List.length l0) c0] w (fun e w' => ∃ (rs0 : Array Value), e = .returned (.agg rs0) ∧ FrR tGrads w.heap.size w'.heap.size w' rs0.toList R0 ∧ Below w.heap.size w w')) ∧
      (∀ (p0 : Option Addr) (c0 : Nat) (w : World), SlRd (Ty.n tGrads) (rd tGrads w) w p0 (List.length l0) c0 l0 → Calls Try.prog 23 #[.slice p0 (List.length l0) c0] w (fun e w' => ∃ (rs0 : Array Value), e = .returned (.agg rs0) ∧ FrA tGrads w.heap.size w'.heap.size w' rs0.toList R0 ∧ Below w.heap.size w w')) ∧ (cntt tGrads R0 : Int) ≤ 1000000000 := by
  obtain ⟨hpS, hpI⟩ := p_AllTogether l0 hz0
  refine ⟨(allG l0), fun p0 c0 w r0 => ?_, fun p0 c0 w r0 => ?_, q_AllTogether l0 hz0⟩
  · have hA : argsRd w c_s_AllTogether.ams [.slice p0 (List.length l0) c0] (parts (c_s_AllTogether.ams.map (·.mv.t)) (SV.as _ ⟨c_s_AllTogether.argTy, l0⟩)) := by
      have e : SV.as (packTy (c_s_AllTogether.ams.map (·.mv.t))) ⟨c_s_AllTogether.argTy, l0⟩ = l0 := SV.as_self _ _
      rw [e]
      exact (argsRd.cons rfl rfl (SlRd.toRd (e := 36) r0) argsRd.nil)
    have hg := h_s_AllTogether.givesL rfl (x := l0) hpS (RdG.okD (RdG.of_rd (SlRd.toRd (e := 36) r0))) hA
    have e : SV.as (packTy (c_s_AllTogether.rms.map (·.t))) ⟨c_s_AllTogether.resTy, c_s_AllTogether.fn l0⟩ = allG l0 := SV.as_self _ _
    rw [e] at hg
    refine hg.mono fun e w' hh => ?_
    clear hg
    obtain ⟨rs, bl, he, ho, hn, hb, bel⟩ := hh
    obtain ⟨r0, rs0, b0, bb0, rfl, rfl, k0, ho⟩ := OutsV.inv ho
    obtain ⟨rfl, rfl⟩ := ho
    obtain ⟨e0, f0⟩ := k0.agR
    exact ⟨_, he.trans (congrArg (fun l => Ending.returned (retV l)) (congr (congrArg List.cons e0) rfl)), f0, bel⟩
  · have hA : argsRd w c_i_AllTogether.ams [.slice p0 (List.length l0) c0] (parts (c_i_AllTogether.ams.map (·.mv.t)) (SV.as _ ⟨c_i_AllTogether.argTy, l0⟩)) := by
      have e : SV.as (packTy (c_i_AllTogether.ams.map (·.mv.t))) ⟨c_i_AllTogether.argTy, l0⟩ = l0 := SV.as_self _ _
      rw [e]
      exact (argsRd.cons rfl rfl (SlRd.toRd (e := 36) r0) argsRd.nil)
    have hg := h_i_AllTogether.givesL rfl (x := l0) hpI (RdG.okD (RdG.of_rd (SlRd.toRd (e := 36) r0))) hA
    have e : SV.as (packTy (c_i_AllTogether.rms.map (·.t))) ⟨c_i_AllTogether.resTy, c_i_AllTogether.fn l0⟩ = allG l0 := SV.as_self _ _
    rw [e] at hg
    refine hg.mono fun e w' hh => ?_
    clear hg
    obtain ⟨rs, bl, he, ho, hn, hb, bel⟩ := hh
    obtain ⟨r0, rs0, b0, bb0, rfl, rfl, k0, ho⟩ := OutsV.inv ho
    obtain ⟨rfl, rfl⟩ := ho
    obtain ⟨e0, f0⟩ := k0.agA rfl (hn.sublist (List.sublist_append_left _ _)) (fun b h => hb b ((List.sublist_append_left _ _).subset h))
    exact ⟨_, he.trans (congrArg (fun l => Ending.returned (retV l)) (congr (congrArg List.cons e0) rfl)), f0, bel⟩
end Go.Proofs.Ytnijnjclmlfahaa
