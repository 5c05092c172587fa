/- The walk of FnTexts, out of what its code tells. -/
import Derived.Test.YtllphmcjocidaaaGreatDoorLawTx
import Derived.Test.YtllphmcjocidaaaGreatDoorCe
namespace Go.Proofs.YtllphmcjocidaaaGreatDoor
open Go.ChangeShapes Go.WideShapes Go.ChangeAt Go.RowKit Go.Deep
set_option linter.unusedVariables false
set_option linter.unusedSimpArgs false
theorem fnTexts_walk (w : World) (ht : tabP.p w) (p0 : Option Addr) (len0 cap0 : Nat) (l0 : List (Ty.D (.int .u8))) (h0 : SlRd (Ty.n (.int .u8)) (rd (.int .u8) w) w p0 len0 cap0 l0) :
    Calls Tryz.prog 4 #[.slice p0 len0 cap0] w fun e w' => e = .returned (.bool true) ∧ Below w.heap.size w w' := by
  have hA : argsRd w c_w_FnTexts.ams [.slice p0 len0 cap0] (parts (c_w_FnTexts.ams.map (·.mv.t)) (SV.as _ ⟨c_w_FnTexts.argTy, l0⟩)) := by
    have e : SV.as (packTy (c_w_FnTexts.ams.map (·.mv.t))) ⟨c_w_FnTexts.argTy, l0⟩ = l0 := SV.as_self _ _
    rw [e]
    exact (argsRd.cons rfl rfl (SlRd.toRd (e := 5) h0) argsRd.nil)
  have hg := h_w_FnTexts.givesL rfl (x := l0) trivial (RdG.okD (RdG.of_rd (SlRd.toRd (e := 5) h0))) hA rfl ht
  have e : SV.as (packTy (c_w_FnTexts.rms.map (·.t))) ⟨c_w_FnTexts.resTy, c_w_FnTexts.fn l0⟩ = true := SV.as_self _ _
  rw [e] at hg
  refine hg.mono fun e w' hh => ?_
  clear hg
  obtain ⟨rs, bl, he, ho, hn, hb, bel⟩ := hh
  obtain ⟨r0, rs0, b0, bb0, rfl, rfl, k0, ho⟩ := OutsV.inv ho
  obtain ⟨rfl, rfl⟩ := ho
  have e0 := k0.bool
  exact ⟨he.trans (congrArg (fun l => Ending.returned (retV l)) (congr (congrArg List.cons e0) rfl)), bel⟩
end Go.Proofs.YtllphmcjocidaaaGreatDoor
