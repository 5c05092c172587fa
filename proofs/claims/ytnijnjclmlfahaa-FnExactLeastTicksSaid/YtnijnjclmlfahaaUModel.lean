/- Marks over rows that are met once: Model. -/
import Derived.Test.YtnijnjclmlfahaaTModel
import Derived.Test.YtnijnjclmlfahaaCe
import Derived.Test.YtnijnjclmlfahaaUOp
namespace Go.Proofs.Ytnijnjclmlfahaa
open Go.ChangeShapes Go.WideShapes Go.ChangeAt Go.RowKit
set_option linter.unusedVariables false
set_option linter.unusedSimpArgs false

set_option maxHeartbeats 4000000 in
set_option maxRecDepth 100000 in
theorem markModel_un (cs : Array Value) (k0 : Int) (d : tModel.D) (bl : List Nat) (w : World) (h : Un tModel w cs.toList d bl) (hnd : bl.Nodup) (h0 : 0 ≤ k0) (h1 : k0 + (cntt tModel d : Nat) ≤ 1000000000000) :
    Calls Try.prog 33 #[.agg cs, .int .i64 k0] w (RetUt tModel w cs.toList (mkt tModel d k0) bl (k0 + (cntt tModel d : Nat))) := by
  obtain ⟨x0, hx0⟩ : ∃ y, y = d := ⟨_, rfl⟩
  subst hx0
  have hcx : cntt tModel x0 = cnt (.slice 99 tOp) x0 := by first | rfl | (simp only [cntt]; omega)
  rw [hcx] at h1
  clear hcx
  obtain ⟨BL, hBL⟩ : ∃ BL, BL = bl := ⟨_, rfl⟩
  have sr0 := h
  obtain ⟨sp0, sn0, sq0, hcs⟩ := un_form h
  clear h
  obtain rfl : cs = #[.slice sp0 sn0 sq0] := arr_of hcs
  clear hcs
  have HBL := Lib.hid hBL; clear hBL
  have R0 := Lib.hid sr0; clear sr0
  go_enter Try.func33, Try.ntmps33
  go_wp2_with fail
  refine (markOpS_un _ _ _ _ x0 _ _ (by exact (Un.keep _ _ _ _ (fun q hq => Below.heap_alloc _ _ _ (un_lt _ _ _ _ _ R0.out q hq)) R0.out)) hnd (by omega) (by omega)).mono ?_
  rintro e w90 ⟨rfl, rp0, on0⟩
  have K0_1 := Lib.hid rp0; clear rp0
  have z90 := on0.size
  skip
  have q0_1 : w90.cell? ⟨w.heap.size, 0, none⟩ = some (.slice sp0 sn0 sq0) := (on0.cell (a := ⟨w.heap.size, 0, none⟩) (fun hm => by have := un_lt _ _ _ _ _ R0.out _ hm; simp at this) (by simp)).trans (by simp)
  have zb1 : w.heap.size < w90.heap.size := by have := z90; (try simp at this); omega
  have O1 : Only BL w w90 := Only.trans (Only.alloc (Only.refl _ w) _) (on0.mono (fun q hq => by rw [HBL.out]; exact hq))
  go_wp2
  go_ret
  exact ⟨ret_int (by have hcx : cntt tModel x0 = cnt (.slice 99 tOp) x0 := (by first | rfl | (simp only [cntt]; omega)); rw [hcx]; try omega), K0_1.out, Only.mono O1 (fun q hq => by rw [HBL.out] at hq; simpa using hq)⟩

end Go.Proofs.Ytnijnjclmlfahaa
