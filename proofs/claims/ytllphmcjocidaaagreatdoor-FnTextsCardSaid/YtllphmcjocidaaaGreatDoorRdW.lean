/- The walk of ReadDec, out of what its two calls give. -/
import Derived.Test.YtllphmcjocidaaaGreatDoorDec1
import Derived.IntWalk
import Derived.Deep.RegionHeld3
namespace Go.Proofs.YtllphmcjocidaaaGreatDoor
open Go.ChangeShapes Go.WideShapes Go.ChangeAt Go.RowKit Go.Deep
set_option linter.unusedVariables false
set_option linter.unusedSimpArgs false
def DecGives : Prop := ∀ (x0 : Int) (w : World), tabP.p w → (Lit.int .i64 x0).wf = true → Calls Tryz.prog 35 #[.int .i64 x0] w (fun e w' => e = .returned (.string (decS x0)) ∧ Below w.heap.size w w')
theorem toList_inj {a b : ByteArray} (h : a.toList = b.toList) : a = b := by
  rw [Go.Lib.toList_data, Go.Lib.toList_data] at h
  rw [← ofL_data a, ← ofL_data b, h]
theorem readDec_err (s : ByteArray) (w : World) (r : Int × Bool) (hr : r = (0, false))
    (hA : Calls Tryz.prog 69 #[.string s] w (fun e w' => ∃ v T p, e = .returned (.tuple #[.int .i64 v, .iface T p]) ∧ Below w.heap.size w w')) :
    Calls Tryz.prog 39 #[.string s] w (fun e w' => e = .returned (.tuple #[.int .i64 r.1, .bool r.2]) ∧ Below w.heap.size w w') := by
  subst hr
  go_enter Tryz.func39, Tryz.ntmps39
  go_wp2_with fail
  refine hA.mono ?_
  rintro e w1 ⟨v, T, p, rfl, b1⟩
  go_wp2
  go_ret2
  exact ⟨rfl, b1⟩
theorem readDec_ok (s : ByteArray) (hs : s.size ≤ 1048576) (w : World) (ht : tabP.p w) (v : Int) (hv : (Lit.int .i64 v).wf = true) (hD : DecGives) (r : Int × Bool)
    (h1 : decS v = s → -999999999 ≤ v → v ≤ 999999999 → r = (v, true)) (h2 : ¬ (decS v = s ∧ -999999999 ≤ v ∧ v ≤ 999999999) → r = (0, false))
    (hA : Calls Tryz.prog 69 #[.string s] w (fun e w' => e = .returned (.tuple #[.int .i64 v, .nilIface]) ∧ Below w.heap.size w w')) :
    Calls Tryz.prog 39 #[.string s] w (fun e w' => e = .returned (.tuple #[.int .i64 r.1, .bool r.2]) ∧ Below w.heap.size w w') := by
  go_enter Tryz.func39, Tryz.ntmps39
  go_wp2_with fail
  refine hA.mono ?_
  rintro e w1 ⟨rfl, b1⟩
  go_wp2_with fail
  refine (hD v _ (tab_triv ht b1 (Nat.le_refl _)) hv).mono ?_
  rintro e w2 ⟨rfl, b2⟩
  have B2 := b1.trans (b2.mono b1.size)
  go_wp2
  all_goals
    go_ret2
    refine ⟨?_, B2⟩
    first
    | (rw [h2 (fun hh => by have h3 := hh.1; have h4 := hh.2; subst h3; first | contradiction | omega)]; done)
    | (rw [h2 (fun hh => by have h3 := hh.1; have h4 := hh.2; subst h3; first | contradiction | omega)]; rfl)
    | (rw [h1 (toList_inj (by assumption)) (by omega) (by omega)]; done)
    | (rw [h1 (toList_inj (by assumption)) (by omega) (by omega)]; rfl)
    | (trace_state; fail)
end Go.Proofs.YtllphmcjocidaaaGreatDoor
