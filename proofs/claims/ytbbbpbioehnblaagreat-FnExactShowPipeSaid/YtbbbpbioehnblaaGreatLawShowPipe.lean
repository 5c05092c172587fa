/- FnExactShowPipe: for every input the law returns true and leaves its arguments as they were. No conditions. -/
import Derived.Test.YtbbbpbioehnblaaGreatEShowPipe
import Derived.ChangeOld
import Derived.Below
namespace Go.Proofs.YtbbbpbioehnblaaGreat.fnExactShowPipe
open Go.ChangeShapes Go.WideShapes Go.ChangeAt Go.RowKit
open Go.ChangeMaps (open_string shut_string)
set_option linter.unusedVariables false
theorem own : ownKnob Tryz.prog.godebug = none := by kernel_rfl
theorem laidOut : laidOutB Tryz.prog = true := by kernel_rfl
set_option maxRecDepth 100000 in
theorem lifted (os : Go.Os) (started : os.Started) (H : Type) (enc : TypeId × Value → H) :
    ReturnsInHanded {} Tryz.checked os 3 .any (Rows.fnExactShowPipeSpec.pre6 enc Tryz.prog Tryz.f3 Rows.fnExactShowPipeRow.domain false) (Rows.fnExactShowPipeSpec.post enc Tryz.prog Tryz.f3 false true false false) := by
  refine returnsInHanded_of_change (C := Tryz.checked) own started (by kernel_rfl) Tryz.func3
    (ChangeSpec.witness6 (enc := enc) (C := Tryz.checked) false ⟨#[], #[Value.agg #[.slice none 0 0, .slice none 0 0, .slice none 0 0, .slice none 0 0]], []⟩ 8 (by kernel_rfl) (by kernel_rfl) (by kernel_rfl) (by kernel_rfl)) ?_
  intro W base args ds gs before hval0 hW hcnd _
  have hval : ∀ (j : Nat) t v, Tryz.f3.params[j]? = some t → args[j]? = some v → Value.okWide Tryz.prog W .any base t v := hval0
  have hW' := hW
  obtain ⟨p, q, hA0, hV, rfl, hfz, hnd⟩ := hW
  have hA : DataW.TrodAll enc Tryz.prog W 0 (fun _ => true) true Tryz.f3.params.toList args.toList ds p := hA0
  rw [Tryz.params3] at hA hval
  obtain ⟨v0, vs0, d0, ds0, p0, q0, hargs, rfl, rfl, h0, r0⟩ := trodAll_cons hA
  obtain ⟨rfl, rfl, rfl⟩ := trodAll_nil r0
  obtain rfl : args = #[v0] := by cases args; simp_all
  obtain ⟨rfl, rfl⟩ := trodVars_none hV
  have k0 := h0
  have lt0 : ∀ x ∈ p0, x.block < W.heap.size := by obtain ⟨m, hm⟩ := k0; exact DataW.trod_lt m _ _ _ hm
  obtain ⟨cs0, rfl, _⟩ := okWide_struct Tryz.underlying26 (hval 0 26 v0 rfl rfl)
  obtain ⟨fuel0, hf0⟩ := h0
  obtain ⟨l0, w0⟩ := rd_of_trod 16 26 (.pair (.slice 125 (.pair tInts tInts)) (.pair (.slice 134 (.pair tInt (.pair (.slice 218 (.pair tInt tInt)) (.pair (.slice 209 (.pair tInt (.pair tInt (.pair tInt tInts)))) (.pair .bool (.pair .bool (.pair (.slice 212 (.pair tInt (.slice 214 (tInts)))) (.pair (.slice 214 (tInts)) (.pair tInts (.pair tInts (.pair tInts (.pair tInts (.pair (.slice 214 (tInts)) (.pair tInt .bool)))))))))))))) (.pair (.slice 138 (.pair tInt (.slice 216 (.pair tInt tInts)))) (.slice 138 (.pair tInt (.slice 216 (.pair tInt tInts))))))) (by kernel_rfl) _ _ _ hf0
  clear hA0 hval0
  refine (Go.Proofs.YtbbbpbioehnblaaGreat.fnExactShowPipe_walk W cs0 l0 w0).mono fun e W' ⟨he, bel⟩ => ?_
  subst he
  exact ⟨_, rfl, _, _, _, [], _, [], hW', trodAll_mk1 (shut_bool Tryz.underlying4 _), (trodAll_cons_mk (Below.trod laidOut (by kernel_rfl) (of_decide_eq_true (by kernel_rfl)) k0 bel lt0) trodAll_mk0), rfl, bel.frame _, fun h => by cases h⟩
theorem over : Rows.fnExactShowPipeRow.holds Tryz.pinned (OpenSpec.ofChange Rows.fnExactShowPipeSpec) :=
  OpenClaim.holds_of_wide 3 Tryz.f3 rfl rfl rfl rfl rfl rfl rfl ⟨rfl, rfl, rfl, rfl, rfl⟩ rfl rfl rfl rfl rfl (by kernel_rfl) Tryz.func3 (by kernel_rfl)
    (of_decide_eq_true (by kernel_rfl)) (by unfold Func.isWrapper; first | (rw [if_pos (by decide +kernel)]; kernel_rfl) | (rw [if_neg (by decide +kernel)]; exact ⟨rfl, rfl⟩))
    (fun os started H enc _ => lifted os started H enc)
theorem proved : Rows.FnExactShowPipeSaid := over
end Go.Proofs.YtbbbpbioehnblaaGreat.fnExactShowPipe
