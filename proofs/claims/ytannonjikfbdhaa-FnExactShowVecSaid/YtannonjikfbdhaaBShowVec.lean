/- ShowVec: what both tell. -/
import Derived.Test.YtannonjikfbdhaaVecS
import Derived.Test.YtannonjikfbdhaaCe
namespace Go.Proofs.Ytannonjikfbdhaa
open Go.ChangeShapes Go.WideShapes Go.ChangeAt Go.RowKit Go.Deep
set_option linter.unusedVariables false
set_option linter.unusedSimpArgs false
theorem showVec_both (l0 : List (Ty.D tInt)) (hz0 : ((szT tInts l0 : Nat) : Int) ≤ (1048576 : Int)) :
    ∃ (R0 : ByteArray), (∀ (p0 : Option Addr) (c0 : Nat) (w : World), SlRd (Ty.n tInt) (rd tInt w) w p0 (List.length l0) c0 l0 → Calls Try.prog 11 #[.slice p0 (List.length l0) c0] w (fun e w' => e = .returned (.string R0) ∧ Below w.heap.size w w')) ∧
      (∀ (p0 : Option Addr) (c0 : Nat) (w : World), SlRd (Ty.n tInt) (rd tInt w) w p0 (List.length l0) c0 l0 → Calls Try.prog 13 #[.slice p0 (List.length l0) c0] w (fun e w' => e = .returned (.string R0) ∧ Below w.heap.size w w')) := by
  obtain ⟨hpS, hpI⟩ := p_ShowVec l0 hz0
  refine ⟨(vecS l0), fun p0 c0 w r0 => ?_, fun p0 c0 w r0 => ?_⟩
  · have hA : argsRd w c_s_ShowVec.ams [.slice p0 (List.length l0) c0] (parts (c_s_ShowVec.ams.map (·.mv.t)) (SV.as _ ⟨c_s_ShowVec.argTy, l0⟩)) := by
      have e : SV.as (packTy (c_s_ShowVec.ams.map (·.mv.t))) ⟨c_s_ShowVec.argTy, l0⟩ = l0 := SV.as_self _ _
      rw [e]
      exact (argsRd.cons rfl rfl (SlRd.toRd (e := 3) r0) argsRd.nil)
    have hg := h_s_ShowVec.givesL rfl (x := l0) hpS (RdG.okD (RdG.of_rd (SlRd.toRd (e := 3) r0))) hA
    have e : SV.as (packTy (c_s_ShowVec.rms.map (·.t))) ⟨c_s_ShowVec.resTy, c_s_ShowVec.fn l0⟩ = vecS l0 := SV.as_self _ _
    rw [e] at hg
    refine hg.mono fun e w' hh => ?_
    clear hg
    obtain ⟨rs, bl, he, ho, hn, hb, bel⟩ := hh
    obtain ⟨r0, rs0, b0, bb0, rfl, rfl, k0, ho⟩ := OutsV.inv ho
    obtain ⟨rfl, rfl⟩ := ho
    have e0 := k0.str
    exact ⟨he.trans (congrArg (fun l => Ending.returned (retV l)) (congr (congrArg List.cons e0) rfl)), bel⟩
  · have hA : argsRd w c_i_ShowVec.ams [.slice p0 (List.length l0) c0] (parts (c_i_ShowVec.ams.map (·.mv.t)) (SV.as _ ⟨c_i_ShowVec.argTy, l0⟩)) := by
      have e : SV.as (packTy (c_i_ShowVec.ams.map (·.mv.t))) ⟨c_i_ShowVec.argTy, l0⟩ = l0 := SV.as_self _ _
      rw [e]
      exact (argsRd.cons rfl rfl (SlRd.toRd (e := 3) r0) argsRd.nil)
    have hg := h_i_ShowVec.givesL rfl (x := l0) hpI (RdG.okD (RdG.of_rd (SlRd.toRd (e := 3) r0))) hA
    have e : SV.as (packTy (c_i_ShowVec.rms.map (·.t))) ⟨c_i_ShowVec.resTy, c_i_ShowVec.fn l0⟩ = vecS l0 := SV.as_self _ _
    rw [e] at hg
    refine hg.mono fun e w' hh => ?_
    clear hg
    obtain ⟨rs, bl, he, ho, hn, hb, bel⟩ := hh
    obtain ⟨r0, rs0, b0, bb0, rfl, rfl, k0, ho⟩ := OutsV.inv ho
    obtain ⟨rfl, rfl⟩ := ho
    have e0 := k0.str
    exact ⟨he.trans (congrArg (fun l => Ending.returned (retV l)) (congr (congrArg List.cons e0) rfl)), bel⟩
end Go.Proofs.Ytannonjikfbdhaa
