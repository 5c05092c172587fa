/- FnExactReadModel: for every input the law returns true and leaves its arguments as they were. No conditions. -/
import Derived.Test.YtllphmcjocidaaaGreatDoorEReadModel
import Derived.Test.YtllphmcjocidaaaGreatDoorTie
import Derived.Test.YtllphmcjocidaaaGreatDoorCards
import Derived.Test.YtllphmcjocidaaaGreatDoorHand
import Derived.Shelf.Vars
import Derived.Lay
import Derived.ChangeOld
import Derived.LaidMore
import Derived.Stop.Joined
import Derived.SevenTiedAt
import Derived.ProofKit
import Derived.Stop.LaidErr
import Derived.Below
namespace Go.Proofs.YtllphmcjocidaaaGreatDoor.fnExactReadModel
open Go.ChangeShapes Go.WideShapes Go.ChangeAt Go.RowKit
open Go.ChangeMaps (open_string shut_string)
set_option linter.unusedVariables false
theorem own : ownKnob Tryz.prog.godebug = none := by kernel_rfl
theorem laidOut : laidOutB Tryz.prog = true := by kernel_rfl
theorem tab_of {W : World} (h0 : laidMetH Tryz.prog Rows.fnExactReadModelRow.laid W) (hs : W.ShapedOpen Tryz.prog) : tabP.p W := by
  rw [MakeChecks.laidMetH_plain _ _ _ (by kernel_rfl)] at h0
  have h : laidMet Tryz.prog Rows.fnExactReadModelRow.laid W := h0
  refine ⟨?_, ?_, ?_, ?_⟩
  · exact Go.Lib.tabIs_of_head (g := 5) (t := 130) (e := 111) (n := 20) g_pow (by kernel_rfl) (by kernel_rfl) (by kernel_rfl) (by kernel_rfl) (by kernel_rfl) (laidMet.tail (laidMet.tail h))
  · exact cell_of_shapedOpen_int (t := 3) (zero := #[.int .i64 0]) hs (Nat.le_of_ble_eq_true (by kernel_rfl)) (by kernel_rfl) (by kernel_rfl) (by kernel_rfl) (by kernel_rfl) (by kernel_rfl)
  · exact laid_iface (ti := 80) (laidMet.tail (laidMet.tail (laidMet.tail (laidMet.tail (laidMet.tail h))))) g_syn (by kernel_rfl) Tryz.underlying80
  · exact laid_iface (ti := 80) (laidMet.tail (laidMet.tail (laidMet.tail (laidMet.tail h)))) g_rng (by kernel_rfl) Tryz.underlying80
set_option maxRecDepth 100000 in
theorem lifted (os : Go.Os) (started : os.Started) (H : Type) (enc : TypeId × Value → H) :
    ReturnsInHanded {} Tryz.checked os 3 .any (fun w args => (Rows.fnExactReadModelSpec.pre enc Tryz.prog Tryz.f3 [] false w args ∧ laidMetH Tryz.prog Rows.fnExactReadModelRow.laid w) ∧ sizedMet enc Tryz.prog Tryz.f3 (OpenSpec.ofChange Rows.fnExactReadModelSpec) false w args)
      (Rows.fnExactReadModelSpec.post enc Tryz.prog Tryz.f3 false true false false) := by
  refine returns_both (C := Tryz.checked) (X := fun w _ => laidMetH Tryz.prog Rows.fnExactReadModelRow.laid w) (fun _ _ _ hh h => h.of_heap hh) own started (by kernel_rfl) Tryz.func3
    (ChangeSpec.witness_shaped (enc := enc) (C := Tryz.checked) (os := os) (X := fun w _ => laidMetH Tryz.prog Rows.fnExactReadModelRow.laid w) false (World.laidAll Tryz.prog os Rows.fnExactReadModelRow.laid) #[.string ⟨#[]⟩] 8 (World.laidAll_os _ _ _) (World.shaped_of_ZipB (by kernel_rfl) (by kernel_rfl)) (by kernel_rfl) (by kernel_rfl) (by kernel_rfl) (by rw [MakeChecks.laidMetH_plain _ _ _ (by kernel_rfl)]; exact laidMet_laidAll _ (by kernel_rfl) (by kernel_rfl))) ?_
  intro W base args ds gs before hval0 hW _ _ hL _
  have hval : ∀ (j : Nat) t v, Tryz.f3.params[j]? = some t → args[j]? = some v → Value.okWide Tryz.prog W .any base t v := hval0
  have hW' := hW
  obtain ⟨p, q, hA0, hV, rfl, hfz, hnd⟩ := hW
  have hA : DataW.TrodAll enc Tryz.prog W 0 (fun _ => true) true Tryz.f3.params.toList args.toList ds p := hA0
  rw [Tryz.params3] at hA hval
  obtain ⟨v0, vs0, d0, ds0, p0, q0, hargs, rfl, rfl, h0, r0⟩ := trodAll_cons hA
  obtain ⟨rfl, rfl, rfl⟩ := trodAll_nil r0
  obtain rfl : args = #[v0] := by cases args; simp_all
  obtain ⟨rfl, rfl⟩ := trodVars_none hV
  have k0 := h0
  have lt0 : ∀ x ∈ p0, x.block < W.heap.size := by obtain ⟨m, hm⟩ := k0; exact DataW.trod_lt m _ _ _ hm
  obtain ⟨a0, rfl, rfl, rfl, w0⟩ := open_string Tryz.underlying9 (hval 0 9 v0 rfl rfl) h0
  clear hA0 hval0
  refine (Go.Proofs.YtllphmcjocidaaaGreatDoor.fnExactReadModel_walk W (tab_of hL.1 hL.2) a0 w0).mono fun e W' ⟨he, bel⟩ => ?_
  subst he
  exact ⟨_, rfl, _, _, _, [], _, [], hW', trodAll_mk1 (shut_bool Tryz.underlying4 _), (trodAll_cons_mk (Below.trod laidOut (by kernel_rfl) (of_decide_eq_true (by kernel_rfl)) k0 bel lt0) trodAll_mk0), rfl, bel.frame _, fun h => by cases h⟩
theorem j0 : (Rows.fnExactReadModelRow.inPlace == Tryz.pinned.checked.prog.inPlace 3) = true := by kernel_rfl
theorem j1 : (Rows.fnExactReadModelRow.unfollowed == Tryz.pinned.checked.prog.unfollowed 3) = true := by kernel_rfl
theorem j2 : (Rows.fnExactReadModelRow.recurses == Tryz.pinned.checked.prog.recurses 3) = true := by kernel_rfl
theorem j3 : (Rows.fnExactReadModelRow.named == Tryz.pinned.checked.prog.varsNamed 3) = true := by kernel_rfl
theorem j4 : Tryz.pinned.checked.prog.stopsHeard = true := by kernel_rfl
theorem j5 : Tryz.pinned.checked.prog.mayEnter = true := by kernel_rfl
theorem j6 : (Rows.fnExactReadModelRow.lifted == Tryz.pinned.checked.prog.liftsFinal) = true := by kernel_rfl
theorem j7 : (Tryz.pinned.checked.prog.make == some Rows.fnExactReadModelRow.make) = true := by kernel_rfl
theorem j8 : (Rows.fnExactReadModelRow.plainKeys == Tryz.pinned.checked.prog.plainKeys) = true := by kernel_rfl
theorem j9 : laidOutB Tryz.pinned.checked.prog = true := by kernel_rfl
theorem j10 : mapsRowed Tryz.pinned.checked.prog = true := by kernel_rfl
theorem clo : joinedFacts Tryz.pinned.checked.prog 3 Tryz.f3 Rows.fnExactReadModelSpec Rows.fnExactReadModelRow = true := by
  unfold joinedFacts; rw [j0, j1, j2, j3, j4, j5, j6, j7, j8, j9, j10]; kernel_rfl
theorem over : Rows.fnExactReadModelRow.holds Tryz.pinned (OpenSpec.ofChange Rows.fnExactReadModelSpec) :=
  OpenClaim.holds_of_wide 3 Tryz.f3 rfl rfl rfl rfl rfl rfl rfl ⟨rfl, rfl, rfl, rfl, rfl⟩ rfl rfl rfl rfl rfl (by kernel_rfl) Tryz.func3 clo
    (of_decide_eq_true (by kernel_rfl)) (by unfold Func.isWrapper; first | (rw [if_pos (by decide +kernel)]; kernel_rfl) | (rw [if_neg (by decide +kernel)]; exact ⟨rfl, rfl⟩))
    (fun os started H enc _ => lifted os started H enc)
theorem row_tie : Rows.fnExactReadModelRow.laidByTextAt .later Tryz.pinned [.data, .data, .data, .data, .sentinel, .sentinel, .pinned] true := fnExactReadModel_row_tie
theorem plain : ∀ (j : Nat) (t : TypeId), Tryz.f3.params[j]? = some t → Tryz.pinned.checked.prog.wantsStandIn t = false := by
  intro j t ht
  have hall : (Tryz.f3.params.toList.all fun u => !Tryz.pinned.checked.prog.wantsStandIn u) = true := by kernel_rfl
  have hm : t ∈ Tryz.f3.params.toList := by simpa using Array.mem_of_getElem? ht
  simpa using List.all_eq_true.1 hall t hm
theorem proved : Rows.FnExactReadModelCardSaid :=
  Claim7.holds_tied_plain_at .later [] [.data, .data, .data, .data, .sentinel, .sentinel, .pinned] true (true, "6bdc7aee2a862ff08efed007bc4f91edd3c9b999da05fd4b39b17723deaf2189") true over (fun _ h => by cases h) (by kernel_rfl) (fun _ h => by cases h) row_tie rfl ⟨rfl, rfl⟩ (by kernel_rfl) rfl
    (fun f fn hf hfn => by
      obtain rfl : f = 3 := Option.some.inj ((show Tryz.pinned.checked.prog.funcNamed "loop.example/g01407/laws.FnExactReadModel" = some 3 by kernel_rfl).symm.trans hf) |>.symm
      obtain rfl : fn = Tryz.f3 := (Option.some.inj (Tryz.func3.symm.trans hfn)).symm
      exact ⟨by kernel_rfl, plain⟩)
    (by kernel_rfl)
end Go.Proofs.YtllphmcjocidaaaGreatDoor.fnExactReadModel

