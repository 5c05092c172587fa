/- Gradients once more; gradients taken into a range. -/
import Derived.Test.YtahggdiafncdhaaCopy
import Derived.Test.YtahggdiafncdhaaFGrads
import Derived.Test.YtahggdiafncdhaaFRow
import Derived.Test.YtahggdiafncdhaaFix
import Derived.IntWalk
namespace Go.Proofs.Ytahggdiafncdhaa
open Go.ChangeShapes Go.WideShapes Go.ChangeAt Go.RowKit Go.Deep
set_option linter.unusedVariables false
set_option linter.unusedSimpArgs false

set_option maxRecDepth 100000 in
set_option maxHeartbeats 1000000 in
theorem copyGrads_any (cs : Array Value) (d : tGrads.D) (w : World) (h : rd tGrads w cs.toList d) (hz : szT tGrads d ≤ 1000000000) :
    Calls Try.prog 63 #[.agg cs] w (RetAg tGrads w d) := by
  obtain ⟨x0, ⟨x1, x2⟩⟩ := d
  obtain ⟨_, _, hcs, ⟨p0, n0, q0, rfl, s0⟩, ⟨_, _, rfl, ⟨rfl, k1⟩, rfl⟩⟩ := h
  obtain rfl : cs = #[.slice p0 n0 q0, .int .i64 x1, .bool x2] := arr_of hcs
  have z0 : szT (.slice 92 tRow) x0 ≤ 1000000000 := by simp only [szT] at hz ⊢; omega
  have H := Lib.hid s0
  clear hz hcs s0
  go_enter Try.func63, Try.ntmps63
  go_wp2_with fail
  go_region_held3 (fun w' => w'.cell? ⟨w.heap.size, 0, none⟩ = some (.slice p0 n0 q0) ∧ w'.cell? ⟨w.heap.size, 1, none⟩ = some (.int .i64 x1) ∧ w'.cell? ⟨w.heap.size, 2, none⟩ = some (.bool x2)) (first | (go_keep; done) | ((try dsimp only); (repeat' apply And.intro) <;> (first | (go_keep; done) | (refine (frozen_alloc ?_).trans ?_ <;> first | assumption | omega | (simp; done) | (simp; omega) | (go_keep; done)) | (refine ((Below.cell b1 ?_).trans ?_) <;> first | assumption | omega | (simp; done) | (simp; omega) | (simp; assumption) | (go_keep; done)) | (refine ((Below.frozen b1 ?_).trans ?_) <;> first | assumption | omega | (simp; done) | (simp; omega) | (simp; assumption) | (go_keep; done)))))
    ((first | (go_at_call 90; refine (copyRows_any _ _ _ x0 _ (by exact H.out.below belx) z0).mono ?_; rintro e w1 ⟨r0, rc0, rfl, f0, b1⟩; obtain ⟨u0, v0⟩ := bcell b1; have y0 := b1.size; simp only [World.size_alloc, World.size_drew] at u0 v0 y0)))
  have yy : w.heap.size + 1 < w1.heap.size := fcx
  go_wp2
  refine bodyPost_ret (v := .agg #[.slice r0 (List.length x0) rc0, .int .i64 x1, .bool x2]) (by simp [results, Try.results63, go_sem, u0, yy]) rfl ⟨_, rfl, ?_, ?_⟩
  · refine FrIn.pair (c1 := [_]) (c2 := [_, _]) (mid := w1.heap.size) ((FrIn.mono (FrIn.kp f0 kpx) fcx fcx fcx)) (FrIn.pair (c1 := [_]) (c2 := [_]) (mid := w1.heap.size) (FrIn.int k1 fcx) (FrIn.bool fcx) fcx fcx) fcx fcx
  · exact belx
set_option maxRecDepth 100000 in
set_option maxHeartbeats 1000000 in
theorem l7Same_any (cs : Array Value) (d : tGrads.D) (w : World) (h : rd tGrads w cs.toList d) (hz : szT tGrads d ≤ 1000000000) :
    Calls Try.prog 67 #[.agg cs] w (RetAg tGrads w d) := by
  obtain ⟨x0, ⟨x1, x2⟩⟩ := d
  obtain ⟨_, _, hcs, ⟨p0, n0, q0, rfl, s0⟩, ⟨_, _, rfl, ⟨rfl, k1⟩, rfl⟩⟩ := h
  obtain rfl : cs = #[.slice p0 n0 q0, .int .i64 x1, .bool x2] := arr_of hcs
  have z0 : szT (.slice 92 tRow) x0 ≤ 1000000000 := by simp only [szT] at hz ⊢; omega
  have H := Lib.hid s0
  clear hz hcs s0
  go_enter Try.func67, Try.ntmps67
  go_wp2_with fail
  go_region_held3 (fun w' => w'.cell? ⟨w.heap.size, 0, none⟩ = some (.slice p0 n0 q0) ∧ w'.cell? ⟨w.heap.size, 1, none⟩ = some (.int .i64 x1) ∧ w'.cell? ⟨w.heap.size, 2, none⟩ = some (.bool x2)) (first | (go_keep; done) | ((try dsimp only); (repeat' apply And.intro) <;> (first | (go_keep; done) | (refine (frozen_alloc ?_).trans ?_ <;> first | assumption | omega | (simp; done) | (simp; omega) | (go_keep; done)) | (refine ((Below.cell b1 ?_).trans ?_) <;> first | assumption | omega | (simp; done) | (simp; omega) | (simp; assumption) | (go_keep; done)) | (refine ((Below.frozen b1 ?_).trans ?_) <;> first | assumption | omega | (simp; done) | (simp; omega) | (simp; assumption) | (go_keep; done)))))
    ((first | (go_at_call 83; refine (l11Rows_any _ _ _ x0 _ (by exact H.out.below belx) z0).mono ?_; rintro e w1 ⟨r0, rc0, rfl, f0, b1⟩; obtain ⟨u0, v0⟩ := bcell b1; have y0 := b1.size; simp only [World.size_alloc, World.size_drew] at u0 v0 y0)))
  have yy : w.heap.size + 1 < w1.heap.size := fcx
  go_wp2
  refine bodyPost_ret (v := .agg #[.slice r0 (List.length x0) rc0, .int .i64 x1, .bool x2]) (by simp [results, Try.results67, go_sem, u0, yy]) rfl ⟨_, rfl, ?_, ?_⟩
  · refine FrIn.pair (c1 := [_]) (c2 := [_, _]) (mid := w1.heap.size) ((FrIn.mono (FrIn.kp f0 kpx) fcx fcx fcx)) (FrIn.pair (c1 := [_]) (c2 := [_]) (mid := w1.heap.size) (FrIn.int k1 fcx) (FrIn.bool fcx) fcx fcx) fcx fcx
  · exact belx

/-- A number taken into a range around nought. -/
def clv (m x : Int) : Int := if x < -m then -m else if m < x then m else x
def clipR (m : Int) (l : List tRow.D) : List tRow.D := (l : List (List Int)).map (fun r => r.map (clv m))
def clipD (d : tGrads.D) (most : Int) : tGrads.D := if most < 0 then d else (clipR (cl most) d.1, d.2)
theorem clipR_length (m : Int) (l : List tRow.D) : (clipR m l).length = l.length := List.length_map ..
theorem clipR_get (m : Int) (l : List tRow.D) (k : Nat) (h : k < l.length) (h' : k < (clipR m l).length) : (clipR m l)[k] = (l[k] : List Int).map (clv m) := List.getElem_map ..


set_option maxRecDepth 100000 in
set_option maxHeartbeats 2000000 in
theorem implClip_any (cs : Array Value) (d : tGrads.D) (most : Int) (w : World) (h : rd tGrads w cs.toList d) (hm : (Lit.int .i64 most).wf = true) (hz : szT tGrads d ≤ 1000000000) :
    Calls Try.prog 15 #[.agg cs, .int .i64 most] w (RetAg tGrads w (clipD d most)) := by
  obtain ⟨p0, n0, q0, x1, x2, rfl⟩ : ∃ p0 n0 q0 x1 x2, cs = #[.slice p0 n0 q0, .int .i64 x1, .bool x2] := by
    obtain ⟨_, _, hcs, ⟨p0, n0, q0, rfl, s0⟩, ⟨_, _, rfl, ⟨rfl, k1⟩, rfl⟩⟩ := h
    exact ⟨_, _, _, _, _, arr_of hcs⟩
  obtain ⟨m1, m2⟩ := i64_of hm
  have H := Lib.hid h
  clear h hm
  by_cases hneg : most < 0
  · go_enter Try.func15, Try.ntmps15
    go_wp2_with fail
    refine (copyGrads_any _ d _ (by exact rd_below H.out belx) hz).mono ?_
    rintro e w1 ⟨cs1, rfl, f1, b1⟩
    obtain ⟨p1, c1, rfl, -, -⟩ := Grads_rd f1.rd
    obtain ⟨u0, v0⟩ := bcell b1
    have y0 := b1.size
    simp only [World.size_alloc, World.size_drew] at u0 v0 y0
    have yy : w.heap.size + 1 < w1.heap.size := fcx
    go_wp2
    refine bodyPost_ret (v := .agg #[.slice p1 (List.length d.1) c1, .int .i64 d.2.1, .bool d.2.2]) (by simp [results, Try.results15, go_sem, u0, yy]) rfl ⟨_, rfl, ?_, ?_⟩
    · rw [show clipD d most = d from if_pos hneg]
      exact (FrIn.mono (FrIn.kp f1 kpx) fcx fcx fcx)
    · exact belx
  · go_enter Try.func15, Try.ntmps15
    go_wp2_with fail
    refine (copyGrads_any _ d _ (by exact rd_below H.out belx) hz).mono ?_
    rintro e w1 ⟨cs1, rfl, f1, b1⟩
    obtain ⟨p1, c1, rfl, -, -⟩ := Grads_rd f1.rd
    obtain ⟨u0, v0⟩ := bcell b1
    have y0 := b1.size
    simp only [World.size_alloc, World.size_drew] at u0 v0 y0
    have yy : w.heap.size + 1 < w1.heap.size := fcx
    go_wp2_with fail
    refine (clamp_any _ _).mono ?_
    rintro e w2 ⟨rfl, rfl⟩
    have hl1 := (cl_bounds most).2
    have hl0 : 0 ≤ cl most := by unfold cl; repeat (split <;> try omega)
    obtain ⟨bl, rep1, nd1, in1⟩ := rep_of_FrIn f1
    obtain ⟨p1', c1', b0, hcs, rfl, r1, kk1⟩ := Grads_rep rep1
    simp only [Array.mk.injEq, List.cons.injEq, Value.slice.injEq, and_true, true_and] at hcs
    obtain ⟨rfl, rfl⟩ := hcs
    have hlen := (rep_len r1).2; unfold maxLen at hlen
    obtain ⟨M, hM⟩ : ∃ M, M = cl most := ⟨_, rfl⟩
    rw [← hM] at hl1 hl0 ⊢
    obtain ⟨l, x1', x2'⟩ := d
    have HM := Lib.hid hM
    have HD : Hid (clipD (l, x1', x2') most = (clipR M l, x1', x2')) := by show _ = _; rw [clipD, if_neg (by omega), hM]
    have HL := Lib.hid (clipR_length M l)
    have hnb : w1.heap.size ∉ bl := fun hm => by have := (in1 _ hm).2; omega
    have yy0 : w.heap.size < w1.heap.size := by omega
    have B1 : Below w.heap.size w w1 := belx
    have r1' := rep_keep _ _ _ _ (w' := w1.alloc (.cells #[.slice p1 (List.length l) c1, .int .i64 x1', .bool x2'] 37)) (fun q hq => Below.heap_alloc _ _ _ (in1 q hq).2) r1
    have hnb2 : w.heap.size + 1 ∉ bl := fun hm => by have := (in1 _ hm).1; simp at this; omega
    have R1 := Lib.hid r1'
    clear hM f1 rep1 H r1 r1' b1
    go_wp2_with fail
    go_loopw [19] (fun i wr => ∃ k : Nat, k ≤ List.length l ∧ i = .int .i64 k ∧ Only bl (w1.alloc (.cells #[.slice p1 (List.length l) c1, .int .i64 x1', .bool x2'] 37)) wr ∧ Hid (rep (.slice 92 tRow) wr [.slice p1 (List.length l) c1] ((clipR M l).take k ++ List.drop k l) bl)) (fun i _ => List.length l - (intOf i).toNat)
    case atStart => exact ⟨0, by omega, rfl, Only.refl _ _, by show rep _ _ _ _ _; simpa using R1.out⟩
    case round =>
      obtain ⟨k, hk, rfl, ho, hf⟩ := hrel
      clear R1
      obtain ⟨ou, ov⟩ := ocell ho
      have oz := ho.size
      simp only [World.size_alloc] at ou ov oz
      by_cases hlt : k < List.length l
      · obtain ⟨N, hN⟩ : ∃ N, N = (clipR M l).take k ++ List.drop k l := ⟨_, rfl⟩
        have hkl : k < List.length N := by rw [hN]; simp only [List.length_append, List.length_take, List.length_drop, HL.out]; omega
        have hNk : N[k] = l[k] := by subst hN; exact get_mix _ _ _ hlt HL.out
        have hset : N.set k ((l[k] : List Int).map (clv M)) = (clipR M l).take (k + 1) ++ List.drop (k + 1) l := by subst hN; exact set_mix _ _ _ hlt HL.out _ (clipR_get M l k hlt _)
        have hf1 := hf.out
        rw [← hN] at hf1
        obtain ⟨b, cap, c, bk, hv, hbm, hbz, hfz, hcl, hc, hR, hsub, hnk, hno, hU, -⟩ := rep_lens hf1 nd1 k hkl
        rw [hNk] at hR
        obtain ⟨r, hr⟩ : ∃ r : List Int, r = l[k] := ⟨_, rfl⟩
        rw [← hr] at hR hset
        simp only [Value.slice.injEq] at hv
        obtain ⟨rfl, -, -⟩ := hv
        obtain ⟨rp, rn, rc, rfl⟩ := rep_form hR
        obtain ⟨rfl, hrl⟩ := rep_len hR
        unfold maxLen at hrl
        have c0 : wr.cell? ⟨b, k, none⟩ = some (.slice rp r.length rc) := by have hh := hc 0 (by simp); rw [show Ty.n tRow = 1 from rfl] at hh; simpa using hh
        have HU := Lib.hid (hU · (r.map (clv M)))
        have HSET := Lib.hid hset; have HR := Lib.hid hR
        clear hN hNk hset hf1 hf hR hU hc hcl hfz hr
        have HC : Hid ((r.map (clv M)).length = r.length) := by show _ = _; simp
        go_wp2_with fail
        obtain ⟨wo, hwo⟩ : ∃ wo, wo = wr := ⟨_, rfl⟩
        rw [← hwo] at HU HR c0 hbz ho
        have HR' : Hid (rep tInts wr [.slice rp r.length rc] r bk) := by show rep _ _ _ _ _; rw [← hwo]; exact HR.out
        have HO := Lib.hid hwo
        go_loopw [30] (fun i wj => ∃ j : Nat, j ≤ r.length ∧ i = .int .i64 j ∧ Only bk wo wj ∧ Hid (rep tInts wj [.slice rp r.length rc] ((r.map (clv M)).take j ++ r.drop j) bk)) (fun i _ => r.length - (intOf i).toNat)
        case atStart => exact ⟨0, by omega, rfl, by rw [hwo]; exact Only.refl _ _, by show rep _ _ _ _ _; simpa using HR'.out⟩
        case round =>
          obtain ⟨j, hj, rfl, ho2, hg⟩ := hrel
          clear HR' HR HO hwo ou ov
          by_cases hjl : j < r.length
          · have hjj : j < ((r.map (clv M)).take j ++ r.drop j).length := by simp only [List.length_append, List.length_take, List.length_drop, HC.out]; omega
            obtain ⟨b2, cap2, c2, bk2, hv2, hbm2, -, hfz2, hcl2, hc2, hR2, -, -, -, -, hU2⟩ := rep_lens hg.out hnk j hjj
            simp only [Value.slice.injEq] at hv2
            obtain ⟨rfl, -, -⟩ := hv2
            obtain ⟨rfl, hwf, rfl⟩ := hR2
            rw [get_mix _ _ _ hjl HC.out] at hwf
            obtain ⟨hw1, hw2⟩ := i64_of hwf
            have e1 : wr.cell? ⟨b2, j, none⟩ = some (.int .i64 r[j]) := by
              have := hc2 0 (by simp)
              simp only [Ty.n, Nat.mul_one, Nat.add_zero, List.getElem_cons_zero] at this
              rw [this, get_mix _ _ _ hjl HC.out]
            have e2 := hfz2 j
            have HU2 := Lib.hid (hU2 0 (.int .i64 (clv M r[j])) (clv M r[j]) (by simp) ⟨rfl, wf_i64 (by unfold clv; repeat (split <;> try omega)), rfl⟩)
            have HS2 := Lib.hid (set_mix (r.map (clv M)) r j hjl HC.out (clv M r[j]) (by simp))
            obtain ⟨x, hx⟩ : ∃ x, x = r[j] := ⟨_, rfl⟩
            rw [← hx] at e1 HU2 HS2 hw1 hw2
            clear hU2 hc2 hfz2 hg hx hwf
            go_wp2
            all_goals go_roundw
            case rel =>
              refine ⟨j + 1, by omega, by go_num, ho2.setCell hbm2 _, ?_⟩
              show rep _ _ _ _ _
              have h2 := HU2.out
              rw [HS2.out] at h2
              have h4 : ∀ y, y = clv M x → rep tInts (wr.setCell ⟨b2, j, none⟩ (.int .i64 y)) [.slice (some ⟨b2, 0, none⟩) r.length rc] ((r.map (clv M)).take (j + 1) ++ r.drop (j + 1)) bk := fun y hy => by rw [hy]; simpa [Ty.n] using h2
              exact h4 _ (by unfold clv; repeat (split <;> try omega))
            case measure => simp [intOf]; omega
          · go_wp2
            go_roundw
            case rel =>
              obtain rfl : j = r.length := by omega
              have hg := hg.out
              have e9 : (r.map (clv M)).take r.length ++ r.drop r.length = r.map (clv M) := by rw [List.drop_length, List.append_nil, List.take_of_length_le (by rw [HC.out]; exact Nat.le_refl _)]
              rw [e9] at hg
              refine ⟨k + 1, by omega, by go_num, ho.trans (ho2.mono hsub), ?_⟩
              show rep _ _ _ _ _
              have h3 := HU.out wr (fun q hq hz => ho2.block q hq hz) hg
              rw [HSET.out] at h3
              exact h3
            case measure => simp [intOf]; omega
      · go_wp2
        obtain rfl : k = List.length l := by omega
        have hf := hf.out
        have e9 : (clipR M l).take (List.length l) ++ List.drop (List.length l) l = clipR M l := by
          rw [List.drop_length, List.append_nil, List.take_of_length_le (by rw [HL.out]; exact Nat.le_refl _)]
        rw [e9] at hf
        have BW : Below w.heap.size w wr := Below.trans (b := w1.alloc (.cells #[.slice p1 (List.length l) c1, .int .i64 x1', .bool x2'] 37)) belx (ho.below (fun q hq => by have := (in1 q hq).1; simp at this; omega) fcx)
        refine bodyPost_ret (v := .agg #[.slice p1 (List.length l) c1, .int .i64 x1', .bool x2']) (by simp [results, Try.results15, go_sem, u0, yy, yy0, ou, hnb, hnb2, oz]) rfl ⟨_, rfl, ?_, ?_⟩
        · rw [HD.out]
          have hg := FrIn.of_rep (lo := w.heap.size + 2) (hi := w1.heap.size) (Grads_mk hf kk1 (x2 := x2')) nd1 (fun q hq => by have := in1 q hq; simp at this; omega) fcx
          exact (FrIn.mono (FrIn.kp hg kpx) fcx fcx fcx)
        · exact belx

set_option maxRecDepth 100000 in
set_option maxHeartbeats 2000000 in
theorem specClip_any (cs : Array Value) (d : tGrads.D) (most : Int) (w : World) (h : rd tGrads w cs.toList d) (hm : (Lit.int .i64 most).wf = true) (hz : szT tGrads d ≤ 1000000000) :
    Calls Try.prog 20 #[.agg cs, .int .i64 most] w (RetAg tGrads w (clipD d most)) := by
  obtain ⟨p0, n0, q0, x1, x2, rfl⟩ : ∃ p0 n0 q0 x1 x2, cs = #[.slice p0 n0 q0, .int .i64 x1, .bool x2] := by
    obtain ⟨_, _, hcs, ⟨p0, n0, q0, rfl, s0⟩, ⟨_, _, rfl, ⟨rfl, k1⟩, rfl⟩⟩ := h
    exact ⟨_, _, _, _, _, arr_of hcs⟩
  obtain ⟨m1, m2⟩ := i64_of hm
  have H := Lib.hid h
  clear h hm
  by_cases hneg : most < 0
  · go_enter Try.func20, Try.ntmps20
    go_wp2_with fail
    refine (l7Same_any _ d _ (by exact rd_below H.out belx) hz).mono ?_
    rintro e w1 ⟨cs1, rfl, f1, b1⟩
    obtain ⟨p1, c1, rfl, -, -⟩ := Grads_rd f1.rd
    obtain ⟨u0, v0⟩ := bcell b1
    have y0 := b1.size
    simp only [World.size_alloc, World.size_drew] at u0 v0 y0
    have yy : w.heap.size + 1 < w1.heap.size := fcx
    have hd : decide (0 ≤ most) = false := by simpa using hneg
    go_wp2_with fail
    refine wp_loop_once ?_
    by_cases hl0 : 0 < List.length d.1
    all_goals go_wp2
    all_goals refine bodyPost_ret (v := .agg #[.slice p1 (List.length d.1) c1, .int .i64 d.2.1, .bool d.2.2]) (by simp [results, Try.results20, go_sem, u0, yy]) rfl ⟨_, rfl, ?_⟩
    all_goals rw [show clipD d most = d from if_pos (by omega)]
    all_goals exact ⟨(FrIn.mono (FrIn.kp f1 kpx) fcx fcx fcx), belx⟩
  · go_enter Try.func20, Try.ntmps20
    go_wp2_with fail
    refine (l7Same_any _ d _ (by exact rd_below H.out belx) hz).mono ?_
    rintro e w1 ⟨cs1, rfl, f1, b1⟩
    obtain ⟨p1, c1, rfl, -, -⟩ := Grads_rd f1.rd
    obtain ⟨u0, v0⟩ := bcell b1
    have y0 := b1.size
    simp only [World.size_alloc, World.size_drew] at u0 v0 y0
    have yy : w.heap.size + 1 < w1.heap.size := fcx
    have hl1 := (cl_bounds most).2
    have hl0 : 0 ≤ cl most := by unfold cl; repeat (split <;> try omega)
    obtain ⟨bl, rep1, nd1, in1⟩ := rep_of_FrIn f1
    obtain ⟨p1', c1', b0, hcs, rfl, r1, kk1⟩ := Grads_rep rep1
    simp only [Array.mk.injEq, List.cons.injEq, Value.slice.injEq, and_true, true_and] at hcs
    obtain ⟨rfl, rfl⟩ := hcs
    have hlen := (rep_len r1).2; unfold maxLen at hlen
    have hwr : IntKind.i64.wrap (-cl most) = -cl most := IntWalk.i64_in _ (by omega)
    have HWR := Lib.hid hwr
    clear hwr
    have hm3 := hl1; have hm4 := hl0
    obtain ⟨M, hM⟩ : ∃ M, M = cl most := ⟨_, rfl⟩
    rw [← hM] at hl1 hl0
    have hd : decide (0 ≤ most) = true := by simpa using hneg
    obtain ⟨l, x1', x2'⟩ := d
    have HM := Lib.hid hM
    have HD : Hid (clipD (l, x1', x2') most = (clipR M l, x1', x2')) := by show _ = _; rw [clipD, if_neg (by omega), hM]
    have HL := Lib.hid (clipR_length M l)
    have hnb : w1.heap.size ∉ bl := fun hm => by have := (in1 _ hm).2; omega
    have yy0 : w.heap.size < w1.heap.size := by omega
    have B1 : Below w.heap.size w w1 := belx
    have r1' := rep_keep _ _ _ _ (w' := w1.alloc (.cells #[.slice p1 (List.length l) c1, .int .i64 x1', .bool x2'] 37)) (fun q hq => Below.heap_alloc _ _ _ (in1 q hq).2) r1
    have hnb2 : w.heap.size + 1 ∉ bl := fun hm => by have := (in1 _ hm).1; simp at this; omega
    have R1 := Lib.hid r1'
    clear hM f1 rep1 H r1 r1' b1
    go_wp2_with fail
    go_loopw [6] (fun i wr => ∃ k : Nat, k ≤ List.length l ∧ i = .int .i64 k ∧ Only bl (w1.alloc (.cells #[.slice p1 (List.length l) c1, .int .i64 x1', .bool x2'] 37)) wr ∧ Hid (rep (.slice 92 tRow) wr [.slice p1 (List.length l) c1] ((clipR M l).take k ++ List.drop k l) bl)) (fun i _ => List.length l - (intOf i).toNat)
    case atStart => exact ⟨0, by omega, rfl, Only.refl _ _, by show rep _ _ _ _ _; simpa using R1.out⟩
    case round =>
      obtain ⟨k, hk, rfl, ho, hf⟩ := hrel
      clear R1
      obtain ⟨ou, ov⟩ := ocell ho
      have oz := ho.size
      simp only [World.size_alloc] at ou ov oz
      have yb : wr.cell? ⟨w1.heap.size, 0, none⟩ = some (.slice p1 (List.length l) c1) := by rw [ou _ _ hnb (by omega)]; simp
      by_cases hlt : k < List.length l
      · obtain ⟨N, hN⟩ : ∃ N, N = (clipR M l).take k ++ List.drop k l := ⟨_, rfl⟩
        have hkl : k < List.length N := by rw [hN]; simp only [List.length_append, List.length_take, List.length_drop, HL.out]; omega
        have hNk : N[k] = l[k] := by subst hN; exact get_mix _ _ _ hlt HL.out
        have hset : N.set k ((l[k] : List Int).map (clv M)) = (clipR M l).take (k + 1) ++ List.drop (k + 1) l := by subst hN; exact set_mix _ _ _ hlt HL.out _ (clipR_get M l k hlt _)
        have hf1 := hf.out
        rw [← hN] at hf1
        obtain ⟨b, cap, c, bk, hv, hbm, hbz, hfz, hcl, hc, hR, hsub, hnk, hno, hU, -⟩ := rep_lens hf1 nd1 k hkl
        rw [hNk] at hR
        obtain ⟨r, hr⟩ : ∃ r : List Int, r = l[k] := ⟨_, rfl⟩
        rw [← hr] at hR hset
        simp only [Value.slice.injEq] at hv
        obtain ⟨rfl, -, -⟩ := hv
        obtain ⟨rp, rn, rc, rfl⟩ := rep_form hR
        obtain ⟨rfl, hrl⟩ := rep_len hR
        unfold maxLen at hrl
        have c0 : wr.cell? ⟨b, k, none⟩ = some (.slice rp r.length rc) := by have hh := hc 0 (by simp); rw [show Ty.n tRow = 1 from rfl] at hh; simpa using hh
        have HU := Lib.hid (hU · (r.map (clv M)))
        have HSET := Lib.hid hset; have HR := Lib.hid hR
        clear hN hNk hset hf1 hf hR hU hc hcl hfz hr
        have HC : Hid ((r.map (clv M)).length = r.length) := by show _ = _; simp
        go_wp2_with fail
        obtain ⟨wo, hwo⟩ : ∃ wo, wo = wr := ⟨_, rfl⟩
        rw [← hwo] at HU HR c0 yb hbz ho oz
        have HR' : Hid (rep tInts wr [.slice rp r.length rc] r bk) := by show rep _ _ _ _ _; rw [← hwo]; exact HR.out
        have HO := Lib.hid hwo
        go_loopw [7] (fun i wj => ∃ j : Nat, j ≤ r.length ∧ i = .int .i64 j ∧ Only bk wo wj ∧ Hid (rep tInts wj [.slice rp r.length rc] ((r.map (clv M)).take j ++ r.drop j) bk)) (fun i _ => r.length - (intOf i).toNat)
        case atStart => exact ⟨0, by omega, rfl, by rw [hwo]; exact Only.refl _ _, by show rep _ _ _ _ _; simpa using HR'.out⟩
        case round =>
          obtain ⟨j, hj, rfl, ho2, hg⟩ := hrel
          clear HR' HR HO hwo ou ov
          have t0 := (ho2.cell (a := ⟨w1.heap.size, 0, none⟩) (fun hm => hnb (hsub _ hm)) (by show w1.heap.size < _; omega)).trans yb
          have t1 := (ho2.cell (a := ⟨b, k, none⟩) hno hbz).trans c0
          clear c0 yb
          by_cases hjl : j < r.length
          · have hjj : j < ((r.map (clv M)).take j ++ r.drop j).length := by simp only [List.length_append, List.length_take, List.length_drop, HC.out]; omega
            obtain ⟨b2, cap2, c2, bk2, hv2, hbm2, -, hfz2, hcl2, hc2, hR2, -, -, -, -, hU2⟩ := rep_lens hg.out hnk j hjj
            simp only [Value.slice.injEq] at hv2
            obtain ⟨rfl, -, -⟩ := hv2
            obtain ⟨rfl, hwf, rfl⟩ := hR2
            rw [get_mix _ _ _ hjl HC.out] at hwf
            obtain ⟨hw1, hw2⟩ := i64_of hwf
            have e1 : wr.cell? ⟨b2, j, none⟩ = some (.int .i64 r[j]) := by
              have := hc2 0 (by simp)
              simp only [Ty.n, Nat.mul_one, Nat.add_zero, List.getElem_cons_zero] at this
              rw [this, get_mix _ _ _ hjl HC.out]
            have e2 := hfz2 j
            have HU2 := Lib.hid (hU2 0 (.int .i64 (clv M r[j])) (clv M r[j]) (by simp) ⟨rfl, wf_i64 (by unfold clv; repeat (split <;> try omega)), rfl⟩)
            have HS2 := Lib.hid (set_mix (r.map (clv M)) r j hjl HC.out (clv M r[j]) (by simp))
            obtain ⟨x, hx⟩ : ∃ x, x = r[j] := ⟨_, rfl⟩
            rw [← hx] at e1 HU2 HS2 hw1 hw2
            clear hU2 hc2 hfz2 hg hx hwf
            go_wp2_with fail
            have hwr := HWR.out
            refine wp_region_still_tail 24 (by kernel_rfl) (by kernel_rfl) ?_
            simp only [List.take_succ_cons, List.take_zero, List.drop_succ_cons, List.drop_zero]
            repeat (first | still_call ((l2In_any most _).mono fun _ _ h => ⟨h.1, h.2.symm⟩) | still_step)
            refine wpStill_nil ?_
            clear hwr
            change wpList _ _ _ _ _ wr.drew
            go_wp2
            all_goals go_roundw
            case rel =>
              refine ⟨j + 1, by omega, by go_num, ho2.drew.setCell hbm2 _, ?_⟩
              show rep _ _ _ _ _
              have h2 := HU2.out
              rw [HS2.out] at h2
              have h4 : ∀ y, y = clv M x → rep tInts (wr.drew.setCell ⟨b2, j, none⟩ (.int .i64 y)) [.slice (some ⟨b2, 0, none⟩) r.length rc] ((r.map (clv M)).take (j + 1) ++ r.drop (j + 1)) bk := fun y hy => by
                rw [hy]
                have h5 : rep tInts (wr.setCell ⟨b2, j, none⟩ (.int .i64 (clv M x))) [.slice (some ⟨b2, 0, none⟩) r.length rc] ((r.map (clv M)).take (j + 1) ++ r.drop (j + 1)) bk := by simpa [Ty.n] using h2
                exact rep_keep _ _ _ _ (fun _ _ => rfl) h5
              exact h4 _ (by have hM := HM.out; unfold clv; repeat (split <;> try omega))
            case measure => simp [intOf]; omega
          · go_wp2
            go_roundw
            case rel =>
              obtain rfl : j = r.length := by omega
              have hg := hg.out
              have e9 : (r.map (clv M)).take r.length ++ r.drop r.length = r.map (clv M) := by rw [List.drop_length, List.append_nil, List.take_of_length_le (by rw [HC.out]; exact Nat.le_refl _)]
              rw [e9] at hg
              refine ⟨k + 1, by omega, by go_num, ho.trans (ho2.mono hsub), ?_⟩
              show rep _ _ _ _ _
              have h3 := HU.out wr (fun q hq hz => ho2.block q hq hz) hg
              rw [HSET.out] at h3
              exact h3
            case measure => simp [intOf]; omega
      · go_wp2
        obtain rfl : k = List.length l := by omega
        have hf := hf.out
        have e9 : (clipR M l).take (List.length l) ++ List.drop (List.length l) l = clipR M l := by
          rw [List.drop_length, List.append_nil, List.take_of_length_le (by rw [HL.out]; exact Nat.le_refl _)]
        rw [e9] at hf
        have BW : Below w.heap.size w wr := Below.trans (b := w1.alloc (.cells #[.slice p1 (List.length l) c1, .int .i64 x1', .bool x2'] 37)) belx (ho.below (fun q hq => by have := (in1 q hq).1; simp at this; omega) fcx)
        refine bodyPost_ret (v := .agg #[.slice p1 (List.length l) c1, .int .i64 x1', .bool x2']) (by simp [results, Try.results20, go_sem, u0, yy, yy0, ou, hnb, hnb2, oz]) rfl ⟨_, rfl, ?_, ?_⟩
        · rw [HD.out]
          have hg := FrIn.of_rep (lo := w.heap.size + 2) (hi := w1.heap.size) (Grads_mk hf kk1 (x2 := x2')) nd1 (fun q hq => by have := in1 q hq; simp at this; omega) fcx
          exact (FrIn.mono (FrIn.kp hg kpx) fcx fcx fcx)
        · exact belx

theorem cnt_clipR (m : Int) (l : List tRow.D) : cnt (.slice 92 tRow) (clipR m l) = cnt (.slice 92 tRow) l := by
  rw [cnt_slice, cnt_slice]
  unfold clipR
  induction l with
  | nil => rfl
  | cons a l ih =>
    rw [List.map_cons, List.map_cons, List.sum_cons, List.map_cons, List.sum_cons, ih]
    congr 1
    show cnt tInts _ = cnt tInts _
    rw [cnt_ints, cnt_ints, List.length_map]

theorem clip_both (d : tGrads.D) (x : Int) (hx : (Lit.int .i64 x).wf = true) (hz : ((szT tGrads d : Nat) : Int) ≤ 1048576) :
    ∃ R : tGrads.D, (∀ cs w, rd tGrads w cs.toList d → Calls Try.prog 20 #[.agg cs, .int .i64 x] w (RetAg tGrads w R)) ∧
      (∀ cs w, rd tGrads w cs.toList d → Calls Try.prog 15 #[.agg cs, .int .i64 x] w (RetAg tGrads w R)) ∧ cntt tGrads R ≤ 40000000 := by
  refine ⟨clipD d x, fun cs w h => specClip_any cs d x w h hx (by omega), fun cs w h => implClip_any cs d x w h hx (by omega), ?_⟩
  have h1 := cntt_le tGrads d (by decide)
  have h2 : cntt tGrads (clipD d x) = cntt tGrads d := by
    unfold clipD
    split
    · rfl
    · show cnt _ _ + 0 = cnt _ _ + 0
      rw [cnt_clipR]
  omega
end Go.Proofs.Ytahggdiafncdhaa
