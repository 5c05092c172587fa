/- FnExactReadOp: for every input the law returns true and leaves its arguments as they were. No conditions. -/
import Derived.Test.YtahggdiafncdhaaDoorEReadOp
import Derived.Test.YtahggdiafncdhaaDoorTie
import Derived.Test.YtahggdiafncdhaaDoorCards
import Derived.Test.YtahggdiafncdhaaDoorHand
import Derived.Shelf.Vars
import Derived.Lay
import Derived.ChangeOld
import Derived.LaidMore
import Derived.Stop.Joined
import Derived.SevenTiedAt
import Derived.ProofKit
import Derived.Stop.LaidErr
import Derived.Below
namespace Go.Proofs.YtahggdiafncdhaaDoor.fnExactReadOp
open Go.ChangeShapes Go.WideShapes Go.ChangeAt Go.RowKit
open Go.ChangeMaps (open_string shut_string)
set_option linter.unusedVariables false
theorem own : ownKnob Tryd.prog.godebug = none := by kernel_rfl
theorem laidOut : laidOutB Tryd.prog = true := by kernel_rfl
theorem tab_of {W : World} (h0 : laidMetH Tryd.prog Rows.fnExactReadOpRow.laid W) (hs : W.ShapedOpen Tryd.prog) : tabP.p W := by
  rw [MakeChecks.laidMetH_plain _ _ _ (by kernel_rfl)] at h0
  have h : laidMet Tryd.prog Rows.fnExactReadOpRow.laid W := h0
  refine ⟨?_, ?_, ?_, ?_⟩
  · exact Go.Lib.tabIs_of_head (g := 3) (t := 126) (e := 112) (n := 20) g_pow (by kernel_rfl) (by kernel_rfl) (by kernel_rfl) (by kernel_rfl) (by kernel_rfl) (laidMet.tail (laidMet.tail h))
  · exact cell_of_shapedOpen_int (t := 3) (zero := #[.int .i64 0]) hs (Nat.le_of_ble_eq_true (by kernel_rfl)) (by kernel_rfl) (by kernel_rfl) (by kernel_rfl) (by kernel_rfl) (by kernel_rfl)
  · exact laid_iface (ti := 80) (laidMet.tail (laidMet.tail (laidMet.tail (laidMet.tail (laidMet.tail h))))) g_syn (by kernel_rfl) Tryd.underlying80
  · exact laid_iface (ti := 80) (laidMet.tail (laidMet.tail (laidMet.tail (laidMet.tail h)))) g_rng (by kernel_rfl) Tryd.underlying80
set_option maxRecDepth 100000 in
theorem lifted (os : Go.Os) (started : os.Started) (H : Type) (enc : TypeId × Value → H) :
    ReturnsInHanded {} Tryd.checked os 6 .any (fun w args => (Rows.fnExactReadOpSpec.pre enc Tryd.prog Tryd.f6 [] false w args ∧ laidMetH Tryd.prog Rows.fnExactReadOpRow.laid w) ∧ sizedMet enc Tryd.prog Tryd.f6 (OpenSpec.ofChange Rows.fnExactReadOpSpec) false w args)
      (Rows.fnExactReadOpSpec.post enc Tryd.prog Tryd.f6 false true false false) := by
  refine returns_both (C := Tryd.checked) (X := fun w _ => laidMetH Tryd.prog Rows.fnExactReadOpRow.laid w) (fun _ _ _ hh h => h.of_heap hh) own started (by kernel_rfl) Tryd.func6
    (ChangeSpec.witness_shaped (enc := enc) (C := Tryd.checked) (os := os) (X := fun w _ => laidMetH Tryd.prog Rows.fnExactReadOpRow.laid w) false (World.laidAll Tryd.prog os Rows.fnExactReadOpRow.laid) #[.string ⟨#[]⟩] 8 (World.laidAll_os _ _ _) (World.shaped_of_ZipB (by kernel_rfl) (by kernel_rfl)) (by kernel_rfl) (by kernel_rfl) (by kernel_rfl) (by rw [MakeChecks.laidMetH_plain _ _ _ (by kernel_rfl)]; exact laidMet_laidAll _ (by kernel_rfl) (by kernel_rfl))) ?_
  intro W base args ds gs before hval0 hW _ _ hL _
  have hval : ∀ (j : Nat) t v, Tryd.f6.params[j]? = some t → args[j]? = some v → Value.okWide Tryd.prog W .any base t v := hval0
  have hW' := hW
  obtain ⟨p, q, hA0, hV, rfl, hfz, hnd⟩ := hW
  have hA : DataW.TrodAll enc Tryd.prog W 0 (fun _ => true) true Tryd.f6.params.toList args.toList ds p := hA0
  rw [Tryd.params6] at hA hval
  obtain ⟨v0, vs0, d0, ds0, p0, q0, hargs, rfl, rfl, h0, r0⟩ := trodAll_cons hA
  obtain ⟨rfl, rfl, rfl⟩ := trodAll_nil r0
  obtain rfl : args = #[v0] := by cases args; simp_all
  obtain ⟨rfl, rfl⟩ := trodVars_none hV
  have k0 := h0
  have lt0 : ∀ x ∈ p0, x.block < W.heap.size := by obtain ⟨m, hm⟩ := k0; exact DataW.trod_lt m _ _ _ hm
  obtain ⟨a0, rfl, rfl, rfl, w0⟩ := open_string Tryd.underlying9 (hval 0 9 v0 rfl rfl) h0
  clear hA0 hval0
  refine (Go.Proofs.YtahggdiafncdhaaDoor.fnExactReadOp_walk W (tab_of hL.1 hL.2) a0 w0).mono fun e W' ⟨he, bel⟩ => ?_
  subst he
  exact ⟨_, rfl, _, _, _, [], _, [], hW', trodAll_mk1 (shut_bool Tryd.underlying4 _), (trodAll_cons_mk (Below.trod laidOut (by kernel_rfl) (of_decide_eq_true (by kernel_rfl)) k0 bel lt0) trodAll_mk0), rfl, bel.frame _, fun h => by cases h⟩
theorem j0 : (Rows.fnExactReadOpRow.inPlace == Tryd.pinned.checked.prog.inPlace 6) = true := by kernel_rfl
theorem j1 : (Rows.fnExactReadOpRow.unfollowed == Tryd.pinned.checked.prog.unfollowed 6) = true := by kernel_rfl
theorem j2 : (Rows.fnExactReadOpRow.recurses == Tryd.pinned.checked.prog.recurses 6) = true := by kernel_rfl
theorem j3 : (Rows.fnExactReadOpRow.named == Tryd.pinned.checked.prog.varsNamed 6) = true := by kernel_rfl
theorem j4 : Tryd.pinned.checked.prog.stopsHeard = true := by kernel_rfl
theorem j5 : Tryd.pinned.checked.prog.mayEnter = true := by kernel_rfl
theorem j6 : (Rows.fnExactReadOpRow.lifted == Tryd.pinned.checked.prog.liftsFinal) = true := by kernel_rfl
theorem j7 : (Tryd.pinned.checked.prog.make == some Rows.fnExactReadOpRow.make) = true := by kernel_rfl
theorem j8 : (Rows.fnExactReadOpRow.plainKeys == Tryd.pinned.checked.prog.plainKeys) = true := by kernel_rfl
theorem j9 : laidOutB Tryd.pinned.checked.prog = true := by kernel_rfl
theorem j10 : mapsRowed Tryd.pinned.checked.prog = true := by kernel_rfl
theorem clo : joinedFacts Tryd.pinned.checked.prog 6 Tryd.f6 Rows.fnExactReadOpSpec Rows.fnExactReadOpRow = true := by
  unfold joinedFacts; rw [j0, j1, j2, j3, j4, j5, j6, j7, j8, j9, j10]; kernel_rfl
theorem over : Rows.fnExactReadOpRow.holds Tryd.pinned (OpenSpec.ofChange Rows.fnExactReadOpSpec) :=
  OpenClaim.holds_of_wide 6 Tryd.f6 rfl rfl rfl rfl rfl rfl rfl ⟨rfl, rfl, rfl, rfl, rfl⟩ rfl rfl rfl rfl rfl (by kernel_rfl) Tryd.func6 clo
    (of_decide_eq_true (by kernel_rfl)) (by unfold Func.isWrapper; first | (rw [if_pos (by decide +kernel)]; kernel_rfl) | (rw [if_neg (by decide +kernel)]; exact ⟨rfl, rfl⟩))
    (fun os started H enc _ => lifted os started H enc)
theorem row_tie : Rows.fnExactReadOpRow.laidByTextAt .later Tryd.pinned [.data, .data, .data, .data, .sentinel, .sentinel, .pinned] true := fnExactReadOp_row_tie
theorem plain : ∀ (j : Nat) (t : TypeId), Tryd.f6.params[j]? = some t → Tryd.pinned.checked.prog.wantsStandIn t = false := by
  intro j t ht
  have hall : (Tryd.f6.params.toList.all fun u => !Tryd.pinned.checked.prog.wantsStandIn u) = true := by kernel_rfl
  have hm : t ∈ Tryd.f6.params.toList := by simpa using Array.mem_of_getElem? ht
  simpa using List.all_eq_true.1 hall t hm
theorem proved : Rows.FnExactReadOpCardSaid :=
  Claim7.holds_tied_plain_at .later [] [.data, .data, .data, .data, .sentinel, .sentinel, .pinned] true (true, "d2ae3a51f446f567b227b6b83a09628a4af0893d763e31bd6b412a4ad89ff319") true over (fun _ h => by cases h) (by kernel_rfl) (fun _ h => by cases h) row_tie rfl ⟨rfl, rfl⟩ (by kernel_rfl) rfl
    (fun f fn hf hfn => by
      obtain rfl : f = 6 := Option.some.inj ((show Tryd.pinned.checked.prog.funcNamed "loop.example/g01407/laws.FnExactReadOp" = some 6 by kernel_rfl).symm.trans hf) |>.symm
      obtain rfl : fn = Tryd.f6 := (Option.some.inj (Tryd.func6.symm.trans hfn)).symm
      exact ⟨by kernel_rfl, plain⟩)
    (by kernel_rfl)
end Go.Proofs.YtahggdiafncdhaaDoor.fnExactReadOp

