/- Gradients side by side: a ring of them. -/
import Derived.Test.YtnijnjclmlfahaaClip
import Derived.Test.YtnijnjclmlfahaaReg
import Derived.Test.YtnijnjclmlfahaaNum
import Derived.Test.YtnijnjclmlfahaaFRing
import Derived.Test.YtnijnjclmlfahaaFGrads
namespace Go.Proofs.Ytnijnjclmlfahaa
open Go.ChangeShapes Go.WideShapes Go.ChangeAt Go.RowKit Go.Deep
set_option linter.unusedVariables false
set_option linter.unusedSimpArgs false

theorem szT_get {e : TypeId} {t : Ty} (l : List t.D) (k : Nat) (h : k < l.length) : szT t l[k] ≤ szT (.slice e t) l := by
  have := sum_get_le (szT t) l k h
  rw [szT_slice]; omega

set_option maxRecDepth 100000 in
set_option maxHeartbeats 2000000 in
theorem implRingNew_any (p : Option Addr) (len cap : Nat) (l : List tGrads.D) (w : World) (h : SlRd tGrads.n (rd tGrads w) w p len cap l) (hz : szT (.slice 36 tGrads) l ≤ 1000000000) :
    Calls Try.prog 16 #[.slice p len cap] w (RetAg tRing w (List.take 4 l, (0 : Int))) := by
  have hlen := h.lens
  have hcap := h.2.1
  have hmx := h.2.2.1
  unfold maxLen at hmx
  subst hlen
  rcases Nat.lt_or_ge 4 (List.length l) with h4 | h4
  · have hs := h.take 4 (by omega)
    obtain ⟨L, hL⟩ : ∃ L : List tGrads.D, L = List.take 4 l := ⟨_, rfl⟩
    have hLl : L.length = 4 := by rw [hL, List.length_take]; (try omega)
    have hL4 : List.take 4 l = L := by first | exact hL.symm | (rw [hL, List.take_of_length_le (show List.length l ≤ 4 by omega), List.take_length])
    have hLz : ∀ k (hk : k < L.length), szT tGrads L[k] ≤ 1000000000 := fun k hk => by
      have h1 := szT_get (e := 36) L k hk
      have h2 := szT_sublist (e := 36) (t := tGrads) (List.take_sublist 4 l)
      rw [← hL] at h2
      omega
    rw [← hL] at hs
    have H := Lib.hid hs; have HL := Lib.hid hLl; have HL4 := Lib.hid hL4; have HZ := Lib.hid hLz
    have hll : L.length ≤ 4 := by omega
    have hlg : 4 ≤ L.length := by omega
    have hl4 : L.length ≤ 4 := by omega
    clear h hs hL hLl hL4 hLz hz
    go_enter Try.func16, Try.ntmps16
    go_wp2
    go_loopw [13] (fun i wr => ∃ k : Nat, k ≤ List.length L ∧ i = .int .i64 k ∧ Only [w.heap.size + 1] ((w.alloc (.cells #[.slice none 0 0, .int .i64 0] 26)).alloc (.cells #[.slice none 0 0, .int .i64 0] 26)) wr ∧
      wr.frozen? ⟨w.heap.size + 1, 0, none⟩ = false ∧ wr.cell? ⟨w.heap.size + 1, 1, none⟩ = some (.int .i64 0) ∧ ∃ n' p' c', wr.cell? ⟨w.heap.size + 1, 0, none⟩ = some (.slice p' n' c') ∧
      Hid (FrIn (.slice 36 tGrads) (w.heap.size + 2) wr.heap.size wr [.slice p' n' c'] (List.take k L))) (fun i _ => List.length L - (intOf i).toNat)
    case atStart => exact ⟨0, by omega, rfl, Only.refl _ _, by simp, by simp, 0, none, 0, by simp, FrIn.nil (by simp)⟩
    case round =>
      obtain ⟨k, hk, rfl, ho, hfz, hc1, n', p', c', hc0, HF⟩ := hrel
      obtain ⟨ou, ov⟩ := ocell ho
      have oz := ho.size
      simp only [World.size_alloc] at ou ov oz
      have B1 : Below w.heap.size w wr := Below.trans (b := (w.alloc (.cells #[.slice none 0 0, .int .i64 0] 26)).alloc (.cells #[.slice none 0 0, .int .i64 0] 26)) (by (repeat' first | (with_reducible exact Below.refl _ _) | (with_reducible refine Below.drew ?_) | (with_reducible refine Below.setCell ?_ ?_ _) | (with_reducible refine Below.alloc ?_ ?_ _) | (with_reducible refine Below.mono (by assumption) ?_) | (with_reducible refine Below.trans ?_ (Below.mono (by assumption) ?_))) <;> (first | (with_reducible assumption) | ((try simp only [World.size_alloc, World.size_setCell, World.size_drew]) <;> omega) | (simp [World.setCell]; done) | (simp [World.setCell]; omega))) (ho.below (fun q hq => by simp at hq; omega) (by simp; omega))
      by_cases hlt : k < List.length L
      · obtain ⟨x, hx⟩ : ∃ x, L[k] = x := ⟨_, rfl⟩
        obtain ⟨b, off, p0, c0, hpe, hlb, e0, e1, e2, s0, w1⟩ := Grads_at H.out k hlt x hx
        have hxz := HZ.out k hlt
        have hsn := List.take_succ_eq_append_getElem hlt
        rw [hx] at hsn hxz
        subst hpe
        have g0 := (B1.cell hlb).trans e0
        have g1 := (B1.cell hlb).trans e1
        have g2 := (B1.cell hlb).trans e2
        have hR := Lib.hid (Grads_rdmk s0 w1)
        have HN := Lib.hid hsn
        have htk : (List.take k L).length = k := by simp; omega
        have HTK := Lib.hid htk
        have htl : (List.take k L).length ≤ 4 := by omega
        have hkl : (k : Int) < (4 : Int) := by omega
        have hkn : k < 4 := by omega
        clear e0 e1 e2 s0 w1 hx hsn ou ov htk
        go_wp2_with fail
        refine wp_region_tail (S := (fun w' => w'.cell? ⟨wr.heap.size, 0, none⟩ = some (.slice p0 (List.length x.1) c0) ∧ w'.cell? ⟨wr.heap.size, 1, none⟩ = some (.int .i64 x.2.1) ∧ w'.cell? ⟨wr.heap.size, 2, none⟩ = some (.bool x.2.2) ∧ w'.cell? ⟨w.heap.size + 1, 0, none⟩ = some (.slice p' n' c') ∧ w'.frozen? ⟨w.heap.size + 1, 0, none⟩ = false ∧ w'.cell? ⟨w.heap.size + 1, 1, none⟩ = some (.int .i64 0))) 7 (by kernel_rfl) ?_ (fun hH0 => ?_)
        · (try dsimp only); (first | (go_keep; done) | ((try dsimp only); (repeat' apply And.intro) <;> (first | (go_keep; done) | (refine (frozen_alloc ?_).trans ?_ <;> first | assumption | omega | (simp; done) | (simp; omega) | (go_keep; done)) | (refine ((World.cell?_of_block (k22 _ ?_ ?_)).trans ((Below.cell b22 ?_).trans ((Below.cell b20 ?_).trans ?_))) <;> first | assumption | omega | (simp; done) | (simp; omega) | (simp; assumption) | (go_keep; done)) | (refine ((Below.cell b22 ?_).trans ((Below.cell b20 ?_).trans ?_)) <;> first | assumption | omega | (simp; done) | (simp; omega) | (simp; assumption) | (go_keep; done)) | (refine ((Below.cell b20 ?_).trans ?_) <;> first | assumption | omega | (simp; done) | (simp; omega) | (simp; assumption) | (go_keep; done)) | (refine ((Below.cell b22 ?_).trans ?_) <;> first | assumption | omega | (simp; done) | (simp; omega) | (simp; assumption) | (go_keep; done)) | (refine ((World.cell?_of_block (k22 _ ?_ ?_)).trans ?_) <;> first | assumption | omega | (simp; done) | (simp; omega) | (simp; assumption) | (go_keep; done)) | (refine ((Below.frozen b20 ?_).trans ?_) <;> first | assumption | omega | (simp; done) | (simp; omega) | (simp; assumption) | (go_keep; done)) | (refine ((Below.frozen b22 ?_).trans ?_) <;> first | assumption | omega | (simp; done) | (simp; omega) | (simp; assumption) | (go_keep; done)))))
        refine tail_take (i := 0) (v := ?v1) rfl (by kernel_rfl) (by kernel_rfl) (by kernel_rfl) (by kernel_rfl) (fun _ _ _ h => h) (Or.inl ⟨by rfl, ?y1⟩) hH0 ?r1
        case y1 => (intro w hSw; (try dsimp only at hSw); go_simp; all_goals with_reducible rfl)
        (try simp only [Act.put, List.setIfInBounds_toArray, List.set_cons_zero, List.set_cons_succ])
        refine tail_take (i := 1) (v := ?v2) rfl (by kernel_rfl) (by kernel_rfl) (by kernel_rfl) (by kernel_rfl) (fun _ _ _ h => h) (Or.inl ⟨by rfl, ?y2⟩) hH0 ?r2
        case y2 => (intro w hSw; (try dsimp only at hSw); go_simp; all_goals with_reducible rfl)
        (try simp only [Act.put, List.setIfInBounds_toArray, List.set_cons_zero, List.set_cons_succ])
        refine tail_take (i := 2) (v := ?v3) rfl (by kernel_rfl) (by kernel_rfl) (by kernel_rfl) (by kernel_rfl) (fun _ _ _ h => h) (Or.inl ⟨by rfl, ?y3⟩) hH0 ?r3
        case y3 => (intro w hSw; (try dsimp only at hSw); go_simp; all_goals with_reducible rfl)
        (try simp only [Act.put, List.setIfInBounds_toArray, List.set_cons_zero, List.set_cons_succ])
        refine tail_one (i := 3) rfl (by kernel_rfl) (fun K hK => ?_)
        go_simp; refine (copyGrads_any _ x _ (by exact rd_below hR.out (by (repeat' first | (with_reducible exact Below.refl _ _) | (with_reducible refine Below.drew ?_) | (with_reducible refine Below.setCell ?_ ?_ _) | (with_reducible refine Below.alloc ?_ ?_ _) | (with_reducible refine Below.mono (by assumption) ?_) | (with_reducible refine Below.trans ?_ (Below.mono (by assumption) ?_))) <;> (first | (with_reducible assumption) | ((try simp only [World.size_alloc, World.size_setCell, World.size_drew]) <;> omega) | (simp [World.setCell]; done) | (simp [World.setCell]; omega)))) hxz).mono ?_; rintro e wa ⟨csa, rfl, fa, b20⟩; obtain ⟨pa, ca, rfl, -, -⟩ := Grads_rd fa.rd; have zb20 := Below.size b20; (try simp only [World.size_alloc, World.size_setCell, World.size_drew] at zb20); go_wp2_with fail
        refine hK.out _ _ ?_ (fun hH1 => ?_)
        · (obtain ⟨kS0, kS1, kS2, kS3, kS4, kS5⟩ := hH0; (try dsimp only); (first | (go_keep; done) | ((try dsimp only); (repeat' apply And.intro) <;> (first | (go_keep; done) | (refine (frozen_alloc ?_).trans ?_ <;> first | assumption | omega | (simp; done) | (simp; omega) | (go_keep; done)) | (refine ((World.cell?_of_block (k22 _ ?_ ?_)).trans ((Below.cell b22 ?_).trans ((Below.cell b20 ?_).trans ?_))) <;> first | assumption | omega | (simp; done) | (simp; omega) | (simp; assumption) | (go_keep; done)) | (refine ((Below.cell b22 ?_).trans ((Below.cell b20 ?_).trans ?_)) <;> first | assumption | omega | (simp; done) | (simp; omega) | (simp; assumption) | (go_keep; done)) | (refine ((Below.cell b20 ?_).trans ?_) <;> first | assumption | omega | (simp; done) | (simp; omega) | (simp; assumption) | (go_keep; done)) | (refine ((Below.cell b22 ?_).trans ?_) <;> first | assumption | omega | (simp; done) | (simp; omega) | (simp; assumption) | (go_keep; done)) | (refine ((World.cell?_of_block (k22 _ ?_ ?_)).trans ?_) <;> first | assumption | omega | (simp; done) | (simp; omega) | (simp; assumption) | (go_keep; done)) | (refine ((Below.frozen b20 ?_).trans ?_) <;> first | assumption | omega | (simp; done) | (simp; omega) | (simp; assumption) | (go_keep; done)) | (refine ((Below.frozen b22 ?_).trans ?_) <;> first | assumption | omega | (simp; done) | (simp; omega) | (simp; assumption) | (go_keep; done))))))
        clear hK K hH0
        (try simp only [Act.put, List.setIfInBounds_toArray, List.set_cons_zero, List.set_cons_succ])
        refine tail_one (i := 4) rfl (by kernel_rfl) (fun K hK => ?_)
        go_simp
        refine hK.out _ _ ?_ (fun hH2 => ?_)
        · (obtain ⟨kS0, kS1, kS2, kS3, kS4, kS5⟩ := hH1; (try dsimp only); (first | (go_keep; done) | ((try dsimp only); (repeat' apply And.intro) <;> (first | (go_keep; done) | (refine (frozen_alloc ?_).trans ?_ <;> first | assumption | omega | (simp; done) | (simp; omega) | (go_keep; done)) | (refine ((World.cell?_of_block (k22 _ ?_ ?_)).trans ((Below.cell b22 ?_).trans ((Below.cell b20 ?_).trans ?_))) <;> first | assumption | omega | (simp; done) | (simp; omega) | (simp; assumption) | (go_keep; done)) | (refine ((Below.cell b22 ?_).trans ((Below.cell b20 ?_).trans ?_)) <;> first | assumption | omega | (simp; done) | (simp; omega) | (simp; assumption) | (go_keep; done)) | (refine ((Below.cell b20 ?_).trans ?_) <;> first | assumption | omega | (simp; done) | (simp; omega) | (simp; assumption) | (go_keep; done)) | (refine ((Below.cell b22 ?_).trans ?_) <;> first | assumption | omega | (simp; done) | (simp; omega) | (simp; assumption) | (go_keep; done)) | (refine ((World.cell?_of_block (k22 _ ?_ ?_)).trans ?_) <;> first | assumption | omega | (simp; done) | (simp; omega) | (simp; assumption) | (go_keep; done)) | (refine ((Below.frozen b20 ?_).trans ?_) <;> first | assumption | omega | (simp; done) | (simp; omega) | (simp; assumption) | (go_keep; done)) | (refine ((Below.frozen b22 ?_).trans ?_) <;> first | assumption | omega | (simp; done) | (simp; omega) | (simp; assumption) | (go_keep; done))))))
        clear hK K hH1
        (try simp only [Act.put, List.setIfInBounds_toArray, List.set_cons_zero, List.set_cons_succ])
        refine tail_one (i := 5) rfl (by kernel_rfl) (fun K hK => ?_)
        refine step_app rfl (.tmp 18) (.tmp 21) 24 rfl 36 (.agg #[.slice none 0 0, .int .i64 0, .bool false]) tGrads 40 Try.underlying24 (by kernel_rfl) rfl _ rfl (List.take k L) (w.heap.size + 2) wr.heap.size _ _ _ rfl _ x (FrIn.mono (FrIn.kp HF.out (by (repeat' first | (with_reducible exact Kp.refl _ _ _) | (with_reducible refine Kp.drew ?_) | (with_reducible refine Kp.setCell ?_ ?_ _) | (with_reducible refine Kp.alloc ?_ ?_ _) | (with_reducible refine Kp.ofb (by assumption) ?_) | (with_reducible refine Kp.below ?_ (by assumption) ?_)) <;> (first | (with_reducible assumption) | ((try simp only [World.size_alloc, World.size_setCell, World.size_drew]) <;> omega) | (simp [World.setCell]; done) | (simp [World.setCell]; omega)))) (by first | (with_reducible assumption) | ((try simp only [World.size_alloc, World.size_setCell, World.size_drew]) <;> omega) | (simp [World.setCell]; done) | (simp [World.setCell]; omega)) (by first | (with_reducible assumption) | ((try simp only [World.size_alloc, World.size_setCell, World.size_drew]) <;> omega) | (simp [World.setCell]; done) | (simp [World.setCell]; omega)) (by first | (with_reducible assumption) | ((try simp only [World.size_alloc, World.size_setCell, World.size_drew]) <;> omega) | (simp [World.setCell]; done) | (simp [World.setCell]; omega))) (by omega) (by exact FrIn.mono (FrIn.kp fa (by (repeat' first | (with_reducible exact Kp.refl _ _ _) | (with_reducible refine Kp.drew ?_) | (with_reducible refine Kp.setCell ?_ ?_ _) | (with_reducible refine Kp.alloc ?_ ?_ _) | (with_reducible refine Kp.ofb (by assumption) ?_) | (with_reducible refine Kp.below ?_ (by assumption) ?_)) <;> (first | (with_reducible assumption) | ((try simp only [World.size_alloc, World.size_setCell, World.size_drew]) <;> omega) | (simp [World.setCell]; done) | (simp [World.setCell]; omega)))) (by first | (with_reducible assumption) | ((try simp only [World.size_alloc, World.size_setCell, World.size_drew]) <;> omega) | (simp [World.setCell]; done) | (simp [World.setCell]; omega)) (Nat.le_refl _) (by first | (with_reducible assumption) | ((try simp only [World.size_alloc, World.size_setCell, World.size_drew]) <;> omega) | (simp [World.setCell]; done) | (simp [World.setCell]; omega))) (fun u y hu => new_cells' rfl u y hu) (by omega) (by simp only [maxLen]; omega) ?_; intro p2 cap2 w2 hf2 b22 k22 hz3; rw [HTK.out] at hf2; have zb22 := Below.size b22; (try simp only [World.size_alloc, World.size_setCell, World.size_drew] at zb22)
        refine hK.out _ _ ?_ (fun hH3 => ?_)
        · (obtain ⟨kS0, kS1, kS2, kS3, kS4, kS5⟩ := hH2; (try dsimp only); (first | (go_keep; done) | ((try dsimp only); (repeat' apply And.intro) <;> (first | (go_keep; done) | (refine (frozen_alloc ?_).trans ?_ <;> first | assumption | omega | (simp; done) | (simp; omega) | (go_keep; done)) | (refine ((World.cell?_of_block (k22 _ ?_ ?_)).trans ((Below.cell b22 ?_).trans ((Below.cell b20 ?_).trans ?_))) <;> first | assumption | omega | (simp; done) | (simp; omega) | (simp; assumption) | (go_keep; done)) | (refine ((Below.cell b22 ?_).trans ((Below.cell b20 ?_).trans ?_)) <;> first | assumption | omega | (simp; done) | (simp; omega) | (simp; assumption) | (go_keep; done)) | (refine ((Below.cell b20 ?_).trans ?_) <;> first | assumption | omega | (simp; done) | (simp; omega) | (simp; assumption) | (go_keep; done)) | (refine ((Below.cell b22 ?_).trans ?_) <;> first | assumption | omega | (simp; done) | (simp; omega) | (simp; assumption) | (go_keep; done)) | (refine ((World.cell?_of_block (k22 _ ?_ ?_)).trans ?_) <;> first | assumption | omega | (simp; done) | (simp; omega) | (simp; assumption) | (go_keep; done)) | (refine ((Below.frozen b20 ?_).trans ?_) <;> first | assumption | omega | (simp; done) | (simp; omega) | (simp; assumption) | (go_keep; done)) | (refine ((Below.frozen b22 ?_).trans ?_) <;> first | assumption | omega | (simp; done) | (simp; omega) | (simp; assumption) | (go_keep; done))))))
        clear hK K hH2
        (try simp only [Act.put, List.setIfInBounds_toArray, List.set_cons_zero, List.set_cons_succ])
        refine tail_take (i := 6) (v := ?v4) rfl (by kernel_rfl) (by kernel_rfl) (by kernel_rfl) (by kernel_rfl) (fun _ _ _ h => h) (Or.inl ⟨by rfl, ?y4⟩) hH3 ?r4
        case y4 => (intro w hSw; (try dsimp only at hSw); go_simp; all_goals with_reducible rfl)
        (try simp only [Act.put, List.setIfInBounds_toArray, List.set_cons_zero, List.set_cons_succ])
        refine tail_last rfl (by kernel_rfl) (by kernel_rfl) (fun K hK => ?_)
        go_simp
        refine hK _ _ ?_
        clear hK K
        have hHL := hH3; clear hH3
        (try simp only [Act.put, List.setIfInBounds_toArray, List.set_cons_zero, List.set_cons_succ])
        go_wp2
        go_roundw
        case rel =>
          refine ⟨k + 1, by omega, by go_num, ?_, (by rw [World.frozen?_setCell]; exact hHL.2.2.2.2.1), ?_, _, _, _, (by apply World.cell?_setCell_same; exact hHL.2.2.2.1), ?_⟩
          · exact (ho.bel (B := w.heap.size + 2) (by (repeat' first | (with_reducible exact Below.refl _ _) | (with_reducible refine Below.drew ?_) | (with_reducible refine Below.setCell ?_ ?_ _) | (with_reducible refine Below.alloc ?_ ?_ _) | (with_reducible refine Below.mono (by assumption) ?_) | (with_reducible refine Below.trans ?_ (Below.mono (by assumption) ?_))) <;> (first | (with_reducible assumption) | ((try simp only [World.size_alloc, World.size_setCell, World.size_drew]) <;> omega) | (simp [World.setCell]; done) | (simp [World.setCell]; omega))) (by simp)).setCell (by simp) _
          · exact (World.cell?_setCell_other _ _ _ _ (by simp)).trans hHL.2.2.2.2.2
          · show FrIn _ _ _ _ _ _
            rw [HN.out]
            exact (FrIn.mono (FrIn.kp hf2 (by (repeat' first | (with_reducible exact Kp.refl _ _ _) | (with_reducible refine Kp.drew ?_) | (with_reducible refine Kp.setCell ?_ ?_ _) | (with_reducible refine Kp.alloc ?_ ?_ _) | (with_reducible refine Kp.ofb (by assumption) ?_) | (with_reducible refine Kp.below ?_ (by assumption) ?_)) <;> (first | (with_reducible assumption) | ((try simp only [World.size_alloc, World.size_setCell, World.size_drew]) <;> omega) | (simp [World.setCell]; done) | (simp [World.setCell]; omega)))) (by first | (with_reducible assumption) | ((try simp only [World.size_alloc, World.size_setCell, World.size_drew]) <;> omega) | (simp [World.setCell]; done) | (simp [World.setCell]; omega)) (by first | (with_reducible assumption) | ((try simp only [World.size_alloc, World.size_setCell, World.size_drew]) <;> omega) | (simp [World.setCell]; done) | (simp [World.setCell]; omega)) (by first | (with_reducible assumption) | ((try simp only [World.size_alloc, World.size_setCell, World.size_drew]) <;> omega) | (simp [World.setCell]; done) | (simp [World.setCell]; omega)))
        case measure => simp [intOf]; omega
      · obtain rfl : k = List.length L := by omega
        have hf := HF.out
        rw [List.take_length] at hf
        have hnl := hf.slen
        subst hnl
        have t0 : wr.cell? ⟨w.heap.size, 0, none⟩ = some (.slice none 0 0) := by rw [ou _ _ (by simp) (by omega)]; simp
        have t1 : wr.cell? ⟨w.heap.size, 1, none⟩ = some (.int .i64 0) := by rw [ou _ _ (by simp) (by omega)]; simp
        go_wp2
        refine bodyPost_ret (v := .agg #[.slice p' (List.length L) c', .int .i64 0]) (by simp [results, Try.results16, go_sem, t0, t1]) rfl ⟨_, rfl, ?_, (by (repeat' first | (with_reducible exact Below.refl _ _) | (with_reducible refine Below.drew ?_) | (with_reducible refine Below.setCell ?_ ?_ _) | (with_reducible refine Below.alloc ?_ ?_ _) | (with_reducible refine Below.mono (by assumption) ?_) | (with_reducible refine Below.trans ?_ (Below.mono (by assumption) ?_))) <;> (first | (with_reducible assumption) | ((try simp only [World.size_alloc, World.size_setCell, World.size_drew]) <;> omega) | (simp [World.setCell]; done) | (simp [World.setCell]; omega)))⟩
        rw [HL4.out]
        exact FrIn.pair (c1 := [_]) (c2 := [_]) (mid := wr.heap.size) (FrIn.mono (FrIn.kp hf (by (repeat' first | (with_reducible exact Kp.refl _ _ _) | (with_reducible refine Kp.drew ?_) | (with_reducible refine Kp.setCell ?_ ?_ _) | (with_reducible refine Kp.alloc ?_ ?_ _) | (with_reducible refine Kp.ofb (by assumption) ?_) | (with_reducible refine Kp.below ?_ (by assumption) ?_)) <;> (first | (with_reducible assumption) | ((try simp only [World.size_alloc, World.size_setCell, World.size_drew]) <;> omega) | (simp [World.setCell]; done) | (simp [World.setCell]; omega)))) (by first | (with_reducible assumption) | ((try simp only [World.size_alloc, World.size_setCell, World.size_drew]) <;> omega) | (simp [World.setCell]; done) | (simp [World.setCell]; omega)) (by first | (with_reducible assumption) | ((try simp only [World.size_alloc, World.size_setCell, World.size_drew]) <;> omega) | (simp [World.setCell]; done) | (simp [World.setCell]; omega)) (by first | (with_reducible assumption) | ((try simp only [World.size_alloc, World.size_setCell, World.size_drew]) <;> omega) | (simp [World.setCell]; done) | (simp [World.setCell]; omega))) (FrIn.int (by decide) (by first | (with_reducible assumption) | ((try simp only [World.size_alloc, World.size_setCell, World.size_drew]) <;> omega) | (simp [World.setCell]; done) | (simp [World.setCell]; omega))) (by first | (with_reducible assumption) | ((try simp only [World.size_alloc, World.size_setCell, World.size_drew]) <;> omega) | (simp [World.setCell]; done) | (simp [World.setCell]; omega)) (by first | (with_reducible assumption) | ((try simp only [World.size_alloc, World.size_setCell, World.size_drew]) <;> omega) | (simp [World.setCell]; done) | (simp [World.setCell]; omega))
  · have hs := h.take (List.length l) (by omega)
    obtain ⟨L, hL⟩ : ∃ L : List tGrads.D, L = List.take (List.length l) l := ⟨_, rfl⟩
    have hLl : L.length = (List.length l) := by rw [hL, List.length_take]; (try omega)
    have hL4 : List.take 4 l = L := by first | exact hL.symm | (rw [hL, List.take_of_length_le (show List.length l ≤ 4 by omega), List.take_length])
    have hLz : ∀ k (hk : k < L.length), szT tGrads L[k] ≤ 1000000000 := fun k hk => by
      have h1 := szT_get (e := 36) L k hk
      have h2 := szT_sublist (e := 36) (t := tGrads) (List.take_sublist (List.length l) l)
      rw [← hL] at h2
      omega
    rw [← hL] at hs
    have H := Lib.hid hs; have HL := Lib.hid hLl; have HL4 := Lib.hid hL4; have HZ := Lib.hid hLz
    have hll : L.length ≤ (List.length l) := by omega
    have hlg : (List.length l) ≤ L.length := by omega
    have hl4 : L.length ≤ 4 := by omega
    clear h hs hL hLl hL4 hLz hz
    go_enter Try.func16, Try.ntmps16
    go_wp2
    go_loopw [13] (fun i wr => ∃ k : Nat, k ≤ List.length L ∧ i = .int .i64 k ∧ Only [w.heap.size + 1] ((w.alloc (.cells #[.slice none 0 0, .int .i64 0] 26)).alloc (.cells #[.slice none 0 0, .int .i64 0] 26)) wr ∧
      wr.frozen? ⟨w.heap.size + 1, 0, none⟩ = false ∧ wr.cell? ⟨w.heap.size + 1, 1, none⟩ = some (.int .i64 0) ∧ ∃ n' p' c', wr.cell? ⟨w.heap.size + 1, 0, none⟩ = some (.slice p' n' c') ∧
      Hid (FrIn (.slice 36 tGrads) (w.heap.size + 2) wr.heap.size wr [.slice p' n' c'] (List.take k L))) (fun i _ => List.length L - (intOf i).toNat)
    case atStart => exact ⟨0, by omega, rfl, Only.refl _ _, by simp, by simp, 0, none, 0, by simp, FrIn.nil (by simp)⟩
    case round =>
      obtain ⟨k, hk, rfl, ho, hfz, hc1, n', p', c', hc0, HF⟩ := hrel
      obtain ⟨ou, ov⟩ := ocell ho
      have oz := ho.size
      simp only [World.size_alloc] at ou ov oz
      have B1 : Below w.heap.size w wr := Below.trans (b := (w.alloc (.cells #[.slice none 0 0, .int .i64 0] 26)).alloc (.cells #[.slice none 0 0, .int .i64 0] 26)) (by (repeat' first | (with_reducible exact Below.refl _ _) | (with_reducible refine Below.drew ?_) | (with_reducible refine Below.setCell ?_ ?_ _) | (with_reducible refine Below.alloc ?_ ?_ _) | (with_reducible refine Below.mono (by assumption) ?_) | (with_reducible refine Below.trans ?_ (Below.mono (by assumption) ?_))) <;> (first | (with_reducible assumption) | ((try simp only [World.size_alloc, World.size_setCell, World.size_drew]) <;> omega) | (simp [World.setCell]; done) | (simp [World.setCell]; omega))) (ho.below (fun q hq => by simp at hq; omega) (by simp; omega))
      by_cases hlt : k < List.length L
      · obtain ⟨x, hx⟩ : ∃ x, L[k] = x := ⟨_, rfl⟩
        obtain ⟨b, off, p0, c0, hpe, hlb, e0, e1, e2, s0, w1⟩ := Grads_at H.out k hlt x hx
        have hxz := HZ.out k hlt
        have hsn := List.take_succ_eq_append_getElem hlt
        rw [hx] at hsn hxz
        subst hpe
        have g0 := (B1.cell hlb).trans e0
        have g1 := (B1.cell hlb).trans e1
        have g2 := (B1.cell hlb).trans e2
        have hR := Lib.hid (Grads_rdmk s0 w1)
        have HN := Lib.hid hsn
        have htk : (List.take k L).length = k := by simp; omega
        have HTK := Lib.hid htk
        have htl : (List.take k L).length ≤ 4 := by omega
        have hkl : (k : Int) < ((List.length l : Nat) : Int) := by omega
        have hkn : k < (List.length l) := by omega
        clear e0 e1 e2 s0 w1 hx hsn ou ov htk
        go_wp2_with fail
        refine wp_region_tail (S := (fun w' => w'.cell? ⟨wr.heap.size, 0, none⟩ = some (.slice p0 (List.length x.1) c0) ∧ w'.cell? ⟨wr.heap.size, 1, none⟩ = some (.int .i64 x.2.1) ∧ w'.cell? ⟨wr.heap.size, 2, none⟩ = some (.bool x.2.2) ∧ w'.cell? ⟨w.heap.size + 1, 0, none⟩ = some (.slice p' n' c') ∧ w'.frozen? ⟨w.heap.size + 1, 0, none⟩ = false ∧ w'.cell? ⟨w.heap.size + 1, 1, none⟩ = some (.int .i64 0))) 7 (by kernel_rfl) ?_ (fun hH0 => ?_)
        · (try dsimp only); (first | (go_keep; done) | ((try dsimp only); (repeat' apply And.intro) <;> (first | (go_keep; done) | (refine (frozen_alloc ?_).trans ?_ <;> first | assumption | omega | (simp; done) | (simp; omega) | (go_keep; done)) | (refine ((World.cell?_of_block (k22 _ ?_ ?_)).trans ((Below.cell b22 ?_).trans ((Below.cell b20 ?_).trans ?_))) <;> first | assumption | omega | (simp; done) | (simp; omega) | (simp; assumption) | (go_keep; done)) | (refine ((Below.cell b22 ?_).trans ((Below.cell b20 ?_).trans ?_)) <;> first | assumption | omega | (simp; done) | (simp; omega) | (simp; assumption) | (go_keep; done)) | (refine ((Below.cell b20 ?_).trans ?_) <;> first | assumption | omega | (simp; done) | (simp; omega) | (simp; assumption) | (go_keep; done)) | (refine ((Below.cell b22 ?_).trans ?_) <;> first | assumption | omega | (simp; done) | (simp; omega) | (simp; assumption) | (go_keep; done)) | (refine ((World.cell?_of_block (k22 _ ?_ ?_)).trans ?_) <;> first | assumption | omega | (simp; done) | (simp; omega) | (simp; assumption) | (go_keep; done)) | (refine ((Below.frozen b20 ?_).trans ?_) <;> first | assumption | omega | (simp; done) | (simp; omega) | (simp; assumption) | (go_keep; done)) | (refine ((Below.frozen b22 ?_).trans ?_) <;> first | assumption | omega | (simp; done) | (simp; omega) | (simp; assumption) | (go_keep; done)))))
        refine tail_take (i := 0) (v := ?v5) rfl (by kernel_rfl) (by kernel_rfl) (by kernel_rfl) (by kernel_rfl) (fun _ _ _ h => h) (Or.inl ⟨by rfl, ?y5⟩) hH0 ?r5
        case y5 => (intro w hSw; (try dsimp only at hSw); go_simp; all_goals with_reducible rfl)
        (try simp only [Act.put, List.setIfInBounds_toArray, List.set_cons_zero, List.set_cons_succ])
        refine tail_take (i := 1) (v := ?v6) rfl (by kernel_rfl) (by kernel_rfl) (by kernel_rfl) (by kernel_rfl) (fun _ _ _ h => h) (Or.inl ⟨by rfl, ?y6⟩) hH0 ?r6
        case y6 => (intro w hSw; (try dsimp only at hSw); go_simp; all_goals with_reducible rfl)
        (try simp only [Act.put, List.setIfInBounds_toArray, List.set_cons_zero, List.set_cons_succ])
        refine tail_take (i := 2) (v := ?v7) rfl (by kernel_rfl) (by kernel_rfl) (by kernel_rfl) (by kernel_rfl) (fun _ _ _ h => h) (Or.inl ⟨by rfl, ?y7⟩) hH0 ?r7
        case y7 => (intro w hSw; (try dsimp only at hSw); go_simp; all_goals with_reducible rfl)
        (try simp only [Act.put, List.setIfInBounds_toArray, List.set_cons_zero, List.set_cons_succ])
        refine tail_one (i := 3) rfl (by kernel_rfl) (fun K hK => ?_)
        go_simp; refine (copyGrads_any _ x _ (by exact rd_below hR.out (by (repeat' first | (with_reducible exact Below.refl _ _) | (with_reducible refine Below.drew ?_) | (with_reducible refine Below.setCell ?_ ?_ _) | (with_reducible refine Below.alloc ?_ ?_ _) | (with_reducible refine Below.mono (by assumption) ?_) | (with_reducible refine Below.trans ?_ (Below.mono (by assumption) ?_))) <;> (first | (with_reducible assumption) | ((try simp only [World.size_alloc, World.size_setCell, World.size_drew]) <;> omega) | (simp [World.setCell]; done) | (simp [World.setCell]; omega)))) hxz).mono ?_; rintro e wa ⟨csa, rfl, fa, b20⟩; obtain ⟨pa, ca, rfl, -, -⟩ := Grads_rd fa.rd; have zb20 := Below.size b20; (try simp only [World.size_alloc, World.size_setCell, World.size_drew] at zb20); go_wp2_with fail
        refine hK.out _ _ ?_ (fun hH1 => ?_)
        · (obtain ⟨kS0, kS1, kS2, kS3, kS4, kS5⟩ := hH0; (try dsimp only); (first | (go_keep; done) | ((try dsimp only); (repeat' apply And.intro) <;> (first | (go_keep; done) | (refine (frozen_alloc ?_).trans ?_ <;> first | assumption | omega | (simp; done) | (simp; omega) | (go_keep; done)) | (refine ((World.cell?_of_block (k22 _ ?_ ?_)).trans ((Below.cell b22 ?_).trans ((Below.cell b20 ?_).trans ?_))) <;> first | assumption | omega | (simp; done) | (simp; omega) | (simp; assumption) | (go_keep; done)) | (refine ((Below.cell b22 ?_).trans ((Below.cell b20 ?_).trans ?_)) <;> first | assumption | omega | (simp; done) | (simp; omega) | (simp; assumption) | (go_keep; done)) | (refine ((Below.cell b20 ?_).trans ?_) <;> first | assumption | omega | (simp; done) | (simp; omega) | (simp; assumption) | (go_keep; done)) | (refine ((Below.cell b22 ?_).trans ?_) <;> first | assumption | omega | (simp; done) | (simp; omega) | (simp; assumption) | (go_keep; done)) | (refine ((World.cell?_of_block (k22 _ ?_ ?_)).trans ?_) <;> first | assumption | omega | (simp; done) | (simp; omega) | (simp; assumption) | (go_keep; done)) | (refine ((Below.frozen b20 ?_).trans ?_) <;> first | assumption | omega | (simp; done) | (simp; omega) | (simp; assumption) | (go_keep; done)) | (refine ((Below.frozen b22 ?_).trans ?_) <;> first | assumption | omega | (simp; done) | (simp; omega) | (simp; assumption) | (go_keep; done))))))
        clear hK K hH0
        (try simp only [Act.put, List.setIfInBounds_toArray, List.set_cons_zero, List.set_cons_succ])
        refine tail_one (i := 4) rfl (by kernel_rfl) (fun K hK => ?_)
        go_simp
        refine hK.out _ _ ?_ (fun hH2 => ?_)
        · (obtain ⟨kS0, kS1, kS2, kS3, kS4, kS5⟩ := hH1; (try dsimp only); (first | (go_keep; done) | ((try dsimp only); (repeat' apply And.intro) <;> (first | (go_keep; done) | (refine (frozen_alloc ?_).trans ?_ <;> first | assumption | omega | (simp; done) | (simp; omega) | (go_keep; done)) | (refine ((World.cell?_of_block (k22 _ ?_ ?_)).trans ((Below.cell b22 ?_).trans ((Below.cell b20 ?_).trans ?_))) <;> first | assumption | omega | (simp; done) | (simp; omega) | (simp; assumption) | (go_keep; done)) | (refine ((Below.cell b22 ?_).trans ((Below.cell b20 ?_).trans ?_)) <;> first | assumption | omega | (simp; done) | (simp; omega) | (simp; assumption) | (go_keep; done)) | (refine ((Below.cell b20 ?_).trans ?_) <;> first | assumption | omega | (simp; done) | (simp; omega) | (simp; assumption) | (go_keep; done)) | (refine ((Below.cell b22 ?_).trans ?_) <;> first | assumption | omega | (simp; done) | (simp; omega) | (simp; assumption) | (go_keep; done)) | (refine ((World.cell?_of_block (k22 _ ?_ ?_)).trans ?_) <;> first | assumption | omega | (simp; done) | (simp; omega) | (simp; assumption) | (go_keep; done)) | (refine ((Below.frozen b20 ?_).trans ?_) <;> first | assumption | omega | (simp; done) | (simp; omega) | (simp; assumption) | (go_keep; done)) | (refine ((Below.frozen b22 ?_).trans ?_) <;> first | assumption | omega | (simp; done) | (simp; omega) | (simp; assumption) | (go_keep; done))))))
        clear hK K hH1
        (try simp only [Act.put, List.setIfInBounds_toArray, List.set_cons_zero, List.set_cons_succ])
        refine tail_one (i := 5) rfl (by kernel_rfl) (fun K hK => ?_)
        refine step_app rfl (.tmp 18) (.tmp 21) 24 rfl 36 (.agg #[.slice none 0 0, .int .i64 0, .bool false]) tGrads 40 Try.underlying24 (by kernel_rfl) rfl _ rfl (List.take k L) (w.heap.size + 2) wr.heap.size _ _ _ rfl _ x (FrIn.mono (FrIn.kp HF.out (by (repeat' first | (with_reducible exact Kp.refl _ _ _) | (with_reducible refine Kp.drew ?_) | (with_reducible refine Kp.setCell ?_ ?_ _) | (with_reducible refine Kp.alloc ?_ ?_ _) | (with_reducible refine Kp.ofb (by assumption) ?_) | (with_reducible refine Kp.below ?_ (by assumption) ?_)) <;> (first | (with_reducible assumption) | ((try simp only [World.size_alloc, World.size_setCell, World.size_drew]) <;> omega) | (simp [World.setCell]; done) | (simp [World.setCell]; omega)))) (by first | (with_reducible assumption) | ((try simp only [World.size_alloc, World.size_setCell, World.size_drew]) <;> omega) | (simp [World.setCell]; done) | (simp [World.setCell]; omega)) (by first | (with_reducible assumption) | ((try simp only [World.size_alloc, World.size_setCell, World.size_drew]) <;> omega) | (simp [World.setCell]; done) | (simp [World.setCell]; omega)) (by first | (with_reducible assumption) | ((try simp only [World.size_alloc, World.size_setCell, World.size_drew]) <;> omega) | (simp [World.setCell]; done) | (simp [World.setCell]; omega))) (by omega) (by exact FrIn.mono (FrIn.kp fa (by (repeat' first | (with_reducible exact Kp.refl _ _ _) | (with_reducible refine Kp.drew ?_) | (with_reducible refine Kp.setCell ?_ ?_ _) | (with_reducible refine Kp.alloc ?_ ?_ _) | (with_reducible refine Kp.ofb (by assumption) ?_) | (with_reducible refine Kp.below ?_ (by assumption) ?_)) <;> (first | (with_reducible assumption) | ((try simp only [World.size_alloc, World.size_setCell, World.size_drew]) <;> omega) | (simp [World.setCell]; done) | (simp [World.setCell]; omega)))) (by first | (with_reducible assumption) | ((try simp only [World.size_alloc, World.size_setCell, World.size_drew]) <;> omega) | (simp [World.setCell]; done) | (simp [World.setCell]; omega)) (Nat.le_refl _) (by first | (with_reducible assumption) | ((try simp only [World.size_alloc, World.size_setCell, World.size_drew]) <;> omega) | (simp [World.setCell]; done) | (simp [World.setCell]; omega))) (fun u y hu => new_cells' rfl u y hu) (by omega) (by simp only [maxLen]; omega) ?_; intro p2 cap2 w2 hf2 b22 k22 hz3; rw [HTK.out] at hf2; have zb22 := Below.size b22; (try simp only [World.size_alloc, World.size_setCell, World.size_drew] at zb22)
        refine hK.out _ _ ?_ (fun hH3 => ?_)
        · (obtain ⟨kS0, kS1, kS2, kS3, kS4, kS5⟩ := hH2; (try dsimp only); (first | (go_keep; done) | ((try dsimp only); (repeat' apply And.intro) <;> (first | (go_keep; done) | (refine (frozen_alloc ?_).trans ?_ <;> first | assumption | omega | (simp; done) | (simp; omega) | (go_keep; done)) | (refine ((World.cell?_of_block (k22 _ ?_ ?_)).trans ((Below.cell b22 ?_).trans ((Below.cell b20 ?_).trans ?_))) <;> first | assumption | omega | (simp; done) | (simp; omega) | (simp; assumption) | (go_keep; done)) | (refine ((Below.cell b22 ?_).trans ((Below.cell b20 ?_).trans ?_)) <;> first | assumption | omega | (simp; done) | (simp; omega) | (simp; assumption) | (go_keep; done)) | (refine ((Below.cell b20 ?_).trans ?_) <;> first | assumption | omega | (simp; done) | (simp; omega) | (simp; assumption) | (go_keep; done)) | (refine ((Below.cell b22 ?_).trans ?_) <;> first | assumption | omega | (simp; done) | (simp; omega) | (simp; assumption) | (go_keep; done)) | (refine ((World.cell?_of_block (k22 _ ?_ ?_)).trans ?_) <;> first | assumption | omega | (simp; done) | (simp; omega) | (simp; assumption) | (go_keep; done)) | (refine ((Below.frozen b20 ?_).trans ?_) <;> first | assumption | omega | (simp; done) | (simp; omega) | (simp; assumption) | (go_keep; done)) | (refine ((Below.frozen b22 ?_).trans ?_) <;> first | assumption | omega | (simp; done) | (simp; omega) | (simp; assumption) | (go_keep; done))))))
        clear hK K hH2
        (try simp only [Act.put, List.setIfInBounds_toArray, List.set_cons_zero, List.set_cons_succ])
        refine tail_take (i := 6) (v := ?v8) rfl (by kernel_rfl) (by kernel_rfl) (by kernel_rfl) (by kernel_rfl) (fun _ _ _ h => h) (Or.inl ⟨by rfl, ?y8⟩) hH3 ?r8
        case y8 => (intro w hSw; (try dsimp only at hSw); go_simp; all_goals with_reducible rfl)
        (try simp only [Act.put, List.setIfInBounds_toArray, List.set_cons_zero, List.set_cons_succ])
        refine tail_last rfl (by kernel_rfl) (by kernel_rfl) (fun K hK => ?_)
        go_simp
        refine hK _ _ ?_
        clear hK K
        have hHL := hH3; clear hH3
        (try simp only [Act.put, List.setIfInBounds_toArray, List.set_cons_zero, List.set_cons_succ])
        go_wp2
        go_roundw
        case rel =>
          refine ⟨k + 1, by omega, by go_num, ?_, (by rw [World.frozen?_setCell]; exact hHL.2.2.2.2.1), ?_, _, _, _, (by apply World.cell?_setCell_same; exact hHL.2.2.2.1), ?_⟩
          · exact (ho.bel (B := w.heap.size + 2) (by (repeat' first | (with_reducible exact Below.refl _ _) | (with_reducible refine Below.drew ?_) | (with_reducible refine Below.setCell ?_ ?_ _) | (with_reducible refine Below.alloc ?_ ?_ _) | (with_reducible refine Below.mono (by assumption) ?_) | (with_reducible refine Below.trans ?_ (Below.mono (by assumption) ?_))) <;> (first | (with_reducible assumption) | ((try simp only [World.size_alloc, World.size_setCell, World.size_drew]) <;> omega) | (simp [World.setCell]; done) | (simp [World.setCell]; omega))) (by simp)).setCell (by simp) _
          · exact (World.cell?_setCell_other _ _ _ _ (by simp)).trans hHL.2.2.2.2.2
          · show FrIn _ _ _ _ _ _
            rw [HN.out]
            exact (FrIn.mono (FrIn.kp hf2 (by (repeat' first | (with_reducible exact Kp.refl _ _ _) | (with_reducible refine Kp.drew ?_) | (with_reducible refine Kp.setCell ?_ ?_ _) | (with_reducible refine Kp.alloc ?_ ?_ _) | (with_reducible refine Kp.ofb (by assumption) ?_) | (with_reducible refine Kp.below ?_ (by assumption) ?_)) <;> (first | (with_reducible assumption) | ((try simp only [World.size_alloc, World.size_setCell, World.size_drew]) <;> omega) | (simp [World.setCell]; done) | (simp [World.setCell]; omega)))) (by first | (with_reducible assumption) | ((try simp only [World.size_alloc, World.size_setCell, World.size_drew]) <;> omega) | (simp [World.setCell]; done) | (simp [World.setCell]; omega)) (by first | (with_reducible assumption) | ((try simp only [World.size_alloc, World.size_setCell, World.size_drew]) <;> omega) | (simp [World.setCell]; done) | (simp [World.setCell]; omega)) (by first | (with_reducible assumption) | ((try simp only [World.size_alloc, World.size_setCell, World.size_drew]) <;> omega) | (simp [World.setCell]; done) | (simp [World.setCell]; omega)))
        case measure => simp [intOf]; omega
      · obtain rfl : k = List.length L := by omega
        have hf := HF.out
        rw [List.take_length] at hf
        have hnl := hf.slen
        subst hnl
        have t0 : wr.cell? ⟨w.heap.size, 0, none⟩ = some (.slice none 0 0) := by rw [ou _ _ (by simp) (by omega)]; simp
        have t1 : wr.cell? ⟨w.heap.size, 1, none⟩ = some (.int .i64 0) := by rw [ou _ _ (by simp) (by omega)]; simp
        go_wp2
        refine bodyPost_ret (v := .agg #[.slice p' (List.length L) c', .int .i64 0]) (by simp [results, Try.results16, go_sem, t0, t1]) rfl ⟨_, rfl, ?_, (by (repeat' first | (with_reducible exact Below.refl _ _) | (with_reducible refine Below.drew ?_) | (with_reducible refine Below.setCell ?_ ?_ _) | (with_reducible refine Below.alloc ?_ ?_ _) | (with_reducible refine Below.mono (by assumption) ?_) | (with_reducible refine Below.trans ?_ (Below.mono (by assumption) ?_))) <;> (first | (with_reducible assumption) | ((try simp only [World.size_alloc, World.size_setCell, World.size_drew]) <;> omega) | (simp [World.setCell]; done) | (simp [World.setCell]; omega)))⟩
        rw [HL4.out]
        exact FrIn.pair (c1 := [_]) (c2 := [_]) (mid := wr.heap.size) (FrIn.mono (FrIn.kp hf (by (repeat' first | (with_reducible exact Kp.refl _ _ _) | (with_reducible refine Kp.drew ?_) | (with_reducible refine Kp.setCell ?_ ?_ _) | (with_reducible refine Kp.alloc ?_ ?_ _) | (with_reducible refine Kp.ofb (by assumption) ?_) | (with_reducible refine Kp.below ?_ (by assumption) ?_)) <;> (first | (with_reducible assumption) | ((try simp only [World.size_alloc, World.size_setCell, World.size_drew]) <;> omega) | (simp [World.setCell]; done) | (simp [World.setCell]; omega)))) (by first | (with_reducible assumption) | ((try simp only [World.size_alloc, World.size_setCell, World.size_drew]) <;> omega) | (simp [World.setCell]; done) | (simp [World.setCell]; omega)) (by first | (with_reducible assumption) | ((try simp only [World.size_alloc, World.size_setCell, World.size_drew]) <;> omega) | (simp [World.setCell]; done) | (simp [World.setCell]; omega)) (by first | (with_reducible assumption) | ((try simp only [World.size_alloc, World.size_setCell, World.size_drew]) <;> omega) | (simp [World.setCell]; done) | (simp [World.setCell]; omega))) (FrIn.int (by decide) (by first | (with_reducible assumption) | ((try simp only [World.size_alloc, World.size_setCell, World.size_drew]) <;> omega) | (simp [World.setCell]; done) | (simp [World.setCell]; omega))) (by first | (with_reducible assumption) | ((try simp only [World.size_alloc, World.size_setCell, World.size_drew]) <;> omega) | (simp [World.setCell]; done) | (simp [World.setCell]; omega)) (by first | (with_reducible assumption) | ((try simp only [World.size_alloc, World.size_setCell, World.size_drew]) <;> omega) | (simp [World.setCell]; done) | (simp [World.setCell]; omega))
set_option maxRecDepth 100000 in
set_option maxHeartbeats 2000000 in
theorem specRingNew_any (p : Option Addr) (len cap : Nat) (l : List tGrads.D) (w : World) (h : SlRd tGrads.n (rd tGrads w) w p len cap l) (hz : szT (.slice 36 tGrads) l ≤ 1000000000) :
    Calls Try.prog 14 #[.slice p len cap] w (RetAg tRing w (List.take 4 l, (0 : Int))) := by
  have hlen := h.lens
  have hcap := h.2.1
  have hmx := h.2.2.1
  unfold maxLen at hmx
  subst hlen
  rcases Nat.lt_or_ge 4 (List.length l) with h4 | h4
  · have hs := h.take 4 (by omega)
    obtain ⟨L, hL⟩ : ∃ L : List tGrads.D, L = List.take 4 l := ⟨_, rfl⟩
    have hLl : L.length = 4 := by rw [hL, List.length_take]; (try omega)
    have hL4 : List.take 4 l = L := by first | exact hL.symm | (rw [hL, List.take_of_length_le (show List.length l ≤ 4 by omega), List.take_length])
    have hLz : ∀ k (hk : k < L.length), szT tGrads L[k] ≤ 1000000000 := fun k hk => by
      have h1 := szT_get (e := 36) L k hk
      have h2 := szT_sublist (e := 36) (t := tGrads) (List.take_sublist 4 l)
      rw [← hL] at h2
      omega
    rw [← hL] at hs
    have H := Lib.hid hs; have HL := Lib.hid hLl; have HL4 := Lib.hid hL4; have HZ := Lib.hid hLz
    have hll : L.length ≤ 4 := by omega
    have hlg : 4 ≤ L.length := by omega
    have hl4 : L.length ≤ 4 := by omega
    clear h hs hL hLl hL4 hLz hz
    go_enter Try.func14, Try.ntmps14
    go_wp2
    go_loopw [4] (fun i wr => ∃ k : Nat, k ≤ List.length L ∧ i = .int .i64 k ∧ Only [w.heap.size + 1] ((w.alloc (.cells #[.slice none 0 0, .int .i64 0] 26)).alloc (.cells #[.slice none 0 0, .int .i64 0] 26)) wr ∧
      wr.frozen? ⟨w.heap.size + 1, 0, none⟩ = false ∧ wr.cell? ⟨w.heap.size + 1, 1, none⟩ = some (.int .i64 0) ∧ ∃ n' p' c', wr.cell? ⟨w.heap.size + 1, 0, none⟩ = some (.slice p' n' c') ∧
      Hid (FrIn (.slice 36 tGrads) (w.heap.size + 2) wr.heap.size wr [.slice p' n' c'] (List.take k L))) (fun i _ => List.length L - (intOf i).toNat)
    case atStart => exact ⟨0, by omega, rfl, Only.refl _ _, by simp, by simp, 0, none, 0, by simp, FrIn.nil (by simp)⟩
    case round =>
      obtain ⟨k, hk, rfl, ho, hfz, hc1, n', p', c', hc0, HF⟩ := hrel
      obtain ⟨ou, ov⟩ := ocell ho
      have oz := ho.size
      simp only [World.size_alloc] at ou ov oz
      have B1 : Below w.heap.size w wr := Below.trans (b := (w.alloc (.cells #[.slice none 0 0, .int .i64 0] 26)).alloc (.cells #[.slice none 0 0, .int .i64 0] 26)) (by (repeat' first | (with_reducible exact Below.refl _ _) | (with_reducible refine Below.drew ?_) | (with_reducible refine Below.setCell ?_ ?_ _) | (with_reducible refine Below.alloc ?_ ?_ _) | (with_reducible refine Below.mono (by assumption) ?_) | (with_reducible refine Below.trans ?_ (Below.mono (by assumption) ?_))) <;> (first | (with_reducible assumption) | ((try simp only [World.size_alloc, World.size_setCell, World.size_drew]) <;> omega) | (simp [World.setCell]; done) | (simp [World.setCell]; omega))) (ho.below (fun q hq => by simp at hq; omega) (by simp; omega))
      by_cases hlt : k < List.length L
      · obtain ⟨x, hx⟩ : ∃ x, L[k] = x := ⟨_, rfl⟩
        obtain ⟨b, off, p0, c0, hpe, hlb, e0, e1, e2, s0, w1⟩ := Grads_at H.out k hlt x hx
        have hxz := HZ.out k hlt
        have hsn := List.take_succ_eq_append_getElem hlt
        rw [hx] at hsn hxz
        subst hpe
        have g0 := (B1.cell hlb).trans e0
        have g1 := (B1.cell hlb).trans e1
        have g2 := (B1.cell hlb).trans e2
        have hR := Lib.hid (Grads_rdmk s0 w1)
        have HN := Lib.hid hsn
        have htk : (List.take k L).length = k := by simp; omega
        have HTK := Lib.hid htk
        have htl : (List.take k L).length ≤ 4 := by omega
        have hkl : (k : Int) < (4 : Int) := by omega
        have hkn : k < 4 := by omega
        have hk4 : (k : Int) < 4 := by omega
        have hkx : (k : Int) < (List.length l : Int) := by omega
        clear e0 e1 e2 s0 w1 hx hsn ou ov htk
        go_wp2_with fail
        refine wp_region_tail (S := (fun w' => w'.cell? ⟨b, off + k * 3, none⟩ = some (.slice p0 (List.length x.1) c0) ∧ w'.cell? ⟨b, off + k * 3 + 1, none⟩ = some (.int .i64 x.2.1) ∧ w'.cell? ⟨b, off + k * 3 + 2, none⟩ = some (.bool x.2.2) ∧ w'.cell? ⟨w.heap.size + 1, 0, none⟩ = some (.slice p' n' c') ∧ w'.frozen? ⟨w.heap.size + 1, 0, none⟩ = false ∧ w'.cell? ⟨w.heap.size + 1, 1, none⟩ = some (.int .i64 0))) 10 (by kernel_rfl) ?_ (fun hH0 => ?_)
        · (try dsimp only); (first | (go_keep; done) | ((try dsimp only); (repeat' apply And.intro) <;> (first | (go_keep; done) | (refine (frozen_alloc ?_).trans ?_ <;> first | assumption | omega | (simp; done) | (simp; omega) | (go_keep; done)) | (refine ((Below.cell b24 ?_).trans ((Below.cell b22 ?_).trans ?_)) <;> first | assumption | omega | (simp; done) | (simp; omega) | (simp; assumption) | (go_keep; done)) | (refine ((Below.cell b22 ?_).trans ?_) <;> first | assumption | omega | (simp; done) | (simp; omega) | (simp; assumption) | (go_keep; done)) | (refine ((Below.cell b24 ?_).trans ?_) <;> first | assumption | omega | (simp; done) | (simp; omega) | (simp; assumption) | (go_keep; done)) | (refine ((Below.frozen b22 ?_).trans ?_) <;> first | assumption | omega | (simp; done) | (simp; omega) | (simp; assumption) | (go_keep; done)) | (refine ((Below.frozen b24 ?_).trans ?_) <;> first | assumption | omega | (simp; done) | (simp; omega) | (simp; assumption) | (go_keep; done)))))
        refine tail_take (i := 0) (v := ?v9) rfl (by kernel_rfl) (by kernel_rfl) (by kernel_rfl) (by kernel_rfl) (fun _ _ _ h => h) (Or.inl ⟨by rfl, ?y9⟩) hH0 ?r9
        case y9 => (intro w hSw; (try dsimp only at hSw); go_simp; all_goals with_reducible rfl)
        (try simp only [Act.put, List.setIfInBounds_toArray, List.set_cons_zero, List.set_cons_succ])
        refine tail_take (i := 1) (v := ?v10) rfl (by kernel_rfl) (by kernel_rfl) (by kernel_rfl) (by kernel_rfl) (fun _ _ _ h => h) (Or.inl ⟨by rfl, ?y10⟩) hH0 ?r10
        case y10 => (intro w hSw; (try dsimp only at hSw); go_simp; all_goals with_reducible rfl)
        (try simp only [Act.put, List.setIfInBounds_toArray, List.set_cons_zero, List.set_cons_succ])
        refine tail_take (i := 2) (v := ?v11) rfl (by kernel_rfl) (by kernel_rfl) (by kernel_rfl) (by kernel_rfl) (fun _ _ _ h => h) (Or.inl ⟨by rfl, ?y11⟩) hH0 ?r11
        case y11 => (intro w hSw; (try dsimp only at hSw); go_simp; all_goals with_reducible rfl)
        (try simp only [Act.put, List.setIfInBounds_toArray, List.set_cons_zero, List.set_cons_succ])
        refine tail_take (i := 3) (v := ?v12) rfl (by kernel_rfl) (by kernel_rfl) (by kernel_rfl) (by kernel_rfl) (fun _ _ _ h => h) (Or.inl ⟨by rfl, ?y12⟩) hH0 ?r12
        case y12 => (intro w hSw; (try dsimp only at hSw); go_simp; all_goals with_reducible rfl)
        (try simp only [Act.put, List.setIfInBounds_toArray, List.set_cons_zero, List.set_cons_succ])
        refine tail_take (i := 4) (v := ?v13) rfl (by kernel_rfl) (by kernel_rfl) (by kernel_rfl) (by kernel_rfl) (fun _ _ _ h => h) (Or.inl ⟨by rfl, ?y13⟩) hH0 ?r13
        case y13 => (intro w hSw; (try dsimp only at hSw); go_simp; all_goals with_reducible rfl)
        (try simp only [Act.put, List.setIfInBounds_toArray, List.set_cons_zero, List.set_cons_succ])
        refine tail_take (i := 5) (v := ?v14) rfl (by kernel_rfl) (by kernel_rfl) (by kernel_rfl) (by kernel_rfl) (fun _ _ _ h => h) (Or.inl ⟨by rfl, ?y14⟩) hH0 ?r14
        case y14 => (intro w hSw; (try dsimp only at hSw); go_simp; all_goals with_reducible rfl)
        (try simp only [Act.put, List.setIfInBounds_toArray, List.set_cons_zero, List.set_cons_succ])
        refine tail_one (i := 6) rfl (by kernel_rfl) (fun K hK => ?_)
        go_simp; refine (l7Same_any _ x _ (by exact rd_below hR.out (by (repeat' first | (with_reducible exact Below.refl _ _) | (with_reducible refine Below.drew ?_) | (with_reducible refine Below.setCell ?_ ?_ _) | (with_reducible refine Below.alloc ?_ ?_ _) | (with_reducible refine Below.mono (by assumption) ?_) | (with_reducible refine Below.trans ?_ (Below.mono (by assumption) ?_))) <;> (first | (with_reducible assumption) | ((try simp only [World.size_alloc, World.size_setCell, World.size_drew]) <;> omega) | (simp [World.setCell]; done) | (simp [World.setCell]; omega)))) hxz).mono ?_; rintro e wa ⟨csa, rfl, fa, b22⟩; obtain ⟨pa, ca, rfl, -, -⟩ := Grads_rd fa.rd; have zb22 := Below.size b22; (try simp only [World.size_alloc, World.size_setCell, World.size_drew] at zb22); go_wp2_with fail
        refine hK.out _ _ ?_ (fun hH1 => ?_)
        · (obtain ⟨kS0, kS1, kS2, kS3, kS4, kS5⟩ := hH0; (try dsimp only); (first | (go_keep; done) | ((try dsimp only); (repeat' apply And.intro) <;> (first | (go_keep; done) | (refine (frozen_alloc ?_).trans ?_ <;> first | assumption | omega | (simp; done) | (simp; omega) | (go_keep; done)) | (refine ((Below.cell b24 ?_).trans ((Below.cell b22 ?_).trans ?_)) <;> first | assumption | omega | (simp; done) | (simp; omega) | (simp; assumption) | (go_keep; done)) | (refine ((Below.cell b22 ?_).trans ?_) <;> first | assumption | omega | (simp; done) | (simp; omega) | (simp; assumption) | (go_keep; done)) | (refine ((Below.cell b24 ?_).trans ?_) <;> first | assumption | omega | (simp; done) | (simp; omega) | (simp; assumption) | (go_keep; done)) | (refine ((Below.frozen b22 ?_).trans ?_) <;> first | assumption | omega | (simp; done) | (simp; omega) | (simp; assumption) | (go_keep; done)) | (refine ((Below.frozen b24 ?_).trans ?_) <;> first | assumption | omega | (simp; done) | (simp; omega) | (simp; assumption) | (go_keep; done))))))
        clear hK K hH0
        (try simp only [Act.put, List.setIfInBounds_toArray, List.set_cons_zero, List.set_cons_succ])
        refine tail_one (i := 7) rfl (by kernel_rfl) (fun K hK => ?_)
        go_simp
        refine hK.out _ _ ?_ (fun hH2 => ?_)
        · (obtain ⟨kS0, kS1, kS2, kS3, kS4, kS5⟩ := hH1; (try dsimp only); (first | (go_keep; done) | ((try dsimp only); (repeat' apply And.intro) <;> (first | (go_keep; done) | (refine (frozen_alloc ?_).trans ?_ <;> first | assumption | omega | (simp; done) | (simp; omega) | (go_keep; done)) | (refine ((Below.cell b24 ?_).trans ((Below.cell b22 ?_).trans ?_)) <;> first | assumption | omega | (simp; done) | (simp; omega) | (simp; assumption) | (go_keep; done)) | (refine ((Below.cell b22 ?_).trans ?_) <;> first | assumption | omega | (simp; done) | (simp; omega) | (simp; assumption) | (go_keep; done)) | (refine ((Below.cell b24 ?_).trans ?_) <;> first | assumption | omega | (simp; done) | (simp; omega) | (simp; assumption) | (go_keep; done)) | (refine ((Below.frozen b22 ?_).trans ?_) <;> first | assumption | omega | (simp; done) | (simp; omega) | (simp; assumption) | (go_keep; done)) | (refine ((Below.frozen b24 ?_).trans ?_) <;> first | assumption | omega | (simp; done) | (simp; omega) | (simp; assumption) | (go_keep; done))))))
        clear hK K hH1
        (try simp only [Act.put, List.setIfInBounds_toArray, List.set_cons_zero, List.set_cons_succ])
        refine tail_one (i := 8) rfl (by kernel_rfl) (fun K hK => ?_)
        refine step_app rfl (.tmp 17) (.tmp 23) 24 rfl 36 (.agg #[.slice none 0 0, .int .i64 0, .bool false]) tGrads 40 Try.underlying24 (by kernel_rfl) rfl _ rfl (List.take k L) (w.heap.size + 2) wr.heap.size _ _ _ rfl _ x (FrIn.mono (FrIn.kp HF.out (by (repeat' first | (with_reducible exact Kp.refl _ _ _) | (with_reducible refine Kp.drew ?_) | (with_reducible refine Kp.setCell ?_ ?_ _) | (with_reducible refine Kp.alloc ?_ ?_ _) | (with_reducible refine Kp.ofb (by assumption) ?_) | (with_reducible refine Kp.below ?_ (by assumption) ?_)) <;> (first | (with_reducible assumption) | ((try simp only [World.size_alloc, World.size_setCell, World.size_drew]) <;> omega) | (simp [World.setCell]; done) | (simp [World.setCell]; omega)))) (by first | (with_reducible assumption) | ((try simp only [World.size_alloc, World.size_setCell, World.size_drew]) <;> omega) | (simp [World.setCell]; done) | (simp [World.setCell]; omega)) (by first | (with_reducible assumption) | ((try simp only [World.size_alloc, World.size_setCell, World.size_drew]) <;> omega) | (simp [World.setCell]; done) | (simp [World.setCell]; omega)) (by first | (with_reducible assumption) | ((try simp only [World.size_alloc, World.size_setCell, World.size_drew]) <;> omega) | (simp [World.setCell]; done) | (simp [World.setCell]; omega))) (by omega) (by exact FrIn.mono (FrIn.kp fa (by (repeat' first | (with_reducible exact Kp.refl _ _ _) | (with_reducible refine Kp.drew ?_) | (with_reducible refine Kp.setCell ?_ ?_ _) | (with_reducible refine Kp.alloc ?_ ?_ _) | (with_reducible refine Kp.ofb (by assumption) ?_) | (with_reducible refine Kp.below ?_ (by assumption) ?_)) <;> (first | (with_reducible assumption) | ((try simp only [World.size_alloc, World.size_setCell, World.size_drew]) <;> omega) | (simp [World.setCell]; done) | (simp [World.setCell]; omega)))) (by first | (with_reducible assumption) | ((try simp only [World.size_alloc, World.size_setCell, World.size_drew]) <;> omega) | (simp [World.setCell]; done) | (simp [World.setCell]; omega)) (Nat.le_refl _) (by first | (with_reducible assumption) | ((try simp only [World.size_alloc, World.size_setCell, World.size_drew]) <;> omega) | (simp [World.setCell]; done) | (simp [World.setCell]; omega))) (fun u y hu => new_cells' rfl u y hu) (by omega) (by simp only [maxLen]; omega) ?_; intro p2 cap2 w2 hf2 b24 k24 hz3; rw [HTK.out] at hf2; have zb24 := Below.size b24; (try simp only [World.size_alloc, World.size_setCell, World.size_drew] at zb24)
        refine hK.out _ _ ?_ (fun hH3 => ?_)
        · (obtain ⟨kS0, kS1, kS2, kS3, kS4, kS5⟩ := hH2; (try dsimp only); (first | (go_keep; done) | ((try dsimp only); (repeat' apply And.intro) <;> (first | (go_keep; done) | (refine (frozen_alloc ?_).trans ?_ <;> first | assumption | omega | (simp; done) | (simp; omega) | (go_keep; done)) | (refine ((Below.cell b24 ?_).trans ((Below.cell b22 ?_).trans ?_)) <;> first | assumption | omega | (simp; done) | (simp; omega) | (simp; assumption) | (go_keep; done)) | (refine ((Below.cell b22 ?_).trans ?_) <;> first | assumption | omega | (simp; done) | (simp; omega) | (simp; assumption) | (go_keep; done)) | (refine ((Below.cell b24 ?_).trans ?_) <;> first | assumption | omega | (simp; done) | (simp; omega) | (simp; assumption) | (go_keep; done)) | (refine ((Below.frozen b22 ?_).trans ?_) <;> first | assumption | omega | (simp; done) | (simp; omega) | (simp; assumption) | (go_keep; done)) | (refine ((Below.frozen b24 ?_).trans ?_) <;> first | assumption | omega | (simp; done) | (simp; omega) | (simp; assumption) | (go_keep; done))))))
        clear hK K hH2
        (try simp only [Act.put, List.setIfInBounds_toArray, List.set_cons_zero, List.set_cons_succ])
        refine tail_take (i := 9) (v := ?v15) rfl (by kernel_rfl) (by kernel_rfl) (by kernel_rfl) (by kernel_rfl) (fun _ _ _ h => h) (Or.inl ⟨by rfl, ?y15⟩) hH3 ?r15
        case y15 => (intro w hSw; (try dsimp only at hSw); go_simp; all_goals with_reducible rfl)
        (try simp only [Act.put, List.setIfInBounds_toArray, List.set_cons_zero, List.set_cons_succ])
        refine tail_last rfl (by kernel_rfl) (by kernel_rfl) (fun K hK => ?_)
        go_simp
        refine hK _ _ ?_
        clear hK K
        have hHL := hH3; clear hH3
        (try simp only [Act.put, List.setIfInBounds_toArray, List.set_cons_zero, List.set_cons_succ])
        go_wp2
        go_roundw
        case rel =>
          refine ⟨k + 1, by omega, by go_num, ?_, (by rw [World.frozen?_setCell]; exact hHL.2.2.2.2.1), ?_, _, _, _, (by apply World.cell?_setCell_same; exact hHL.2.2.2.1), ?_⟩
          · exact (ho.bel (B := w.heap.size + 2) (by (repeat' first | (with_reducible exact Below.refl _ _) | (with_reducible refine Below.drew ?_) | (with_reducible refine Below.setCell ?_ ?_ _) | (with_reducible refine Below.alloc ?_ ?_ _) | (with_reducible refine Below.mono (by assumption) ?_) | (with_reducible refine Below.trans ?_ (Below.mono (by assumption) ?_))) <;> (first | (with_reducible assumption) | ((try simp only [World.size_alloc, World.size_setCell, World.size_drew]) <;> omega) | (simp [World.setCell]; done) | (simp [World.setCell]; omega))) (by simp)).setCell (by simp) _
          · exact (World.cell?_setCell_other _ _ _ _ (by simp)).trans hHL.2.2.2.2.2
          · show FrIn _ _ _ _ _ _
            rw [HN.out]
            exact (FrIn.mono (FrIn.kp hf2 (by (repeat' first | (with_reducible exact Kp.refl _ _ _) | (with_reducible refine Kp.drew ?_) | (with_reducible refine Kp.setCell ?_ ?_ _) | (with_reducible refine Kp.alloc ?_ ?_ _) | (with_reducible refine Kp.ofb (by assumption) ?_) | (with_reducible refine Kp.below ?_ (by assumption) ?_)) <;> (first | (with_reducible assumption) | ((try simp only [World.size_alloc, World.size_setCell, World.size_drew]) <;> omega) | (simp [World.setCell]; done) | (simp [World.setCell]; omega)))) (by first | (with_reducible assumption) | ((try simp only [World.size_alloc, World.size_setCell, World.size_drew]) <;> omega) | (simp [World.setCell]; done) | (simp [World.setCell]; omega)) (by first | (with_reducible assumption) | ((try simp only [World.size_alloc, World.size_setCell, World.size_drew]) <;> omega) | (simp [World.setCell]; done) | (simp [World.setCell]; omega)) (by first | (with_reducible assumption) | ((try simp only [World.size_alloc, World.size_setCell, World.size_drew]) <;> omega) | (simp [World.setCell]; done) | (simp [World.setCell]; omega)))
        case measure => simp [intOf]; omega
      · obtain rfl : k = List.length L := by omega
        have hf := HF.out
        rw [List.take_length] at hf
        have hnl := hf.slen
        subst hnl
        have t0 : wr.cell? ⟨w.heap.size, 0, none⟩ = some (.slice none 0 0) := by rw [ou _ _ (by simp) (by omega)]; simp
        have t1 : wr.cell? ⟨w.heap.size, 1, none⟩ = some (.int .i64 0) := by rw [ou _ _ (by simp) (by omega)]; simp
        have hdx : decide ((List.length L : Int) < 4) = false := by simp; omega
        go_wp2
        refine bodyPost_ret (v := .agg #[.slice p' (List.length L) c', .int .i64 0]) (by simp [results, Try.results14, go_sem, t0, t1]) rfl ⟨_, rfl, ?_, (by (repeat' first | (with_reducible exact Below.refl _ _) | (with_reducible refine Below.drew ?_) | (with_reducible refine Below.setCell ?_ ?_ _) | (with_reducible refine Below.alloc ?_ ?_ _) | (with_reducible refine Below.mono (by assumption) ?_) | (with_reducible refine Below.trans ?_ (Below.mono (by assumption) ?_))) <;> (first | (with_reducible assumption) | ((try simp only [World.size_alloc, World.size_setCell, World.size_drew]) <;> omega) | (simp [World.setCell]; done) | (simp [World.setCell]; omega)))⟩
        rw [HL4.out]
        exact FrIn.pair (c1 := [_]) (c2 := [_]) (mid := wr.heap.size) (FrIn.mono (FrIn.kp hf (by (repeat' first | (with_reducible exact Kp.refl _ _ _) | (with_reducible refine Kp.drew ?_) | (with_reducible refine Kp.setCell ?_ ?_ _) | (with_reducible refine Kp.alloc ?_ ?_ _) | (with_reducible refine Kp.ofb (by assumption) ?_) | (with_reducible refine Kp.below ?_ (by assumption) ?_)) <;> (first | (with_reducible assumption) | ((try simp only [World.size_alloc, World.size_setCell, World.size_drew]) <;> omega) | (simp [World.setCell]; done) | (simp [World.setCell]; omega)))) (by first | (with_reducible assumption) | ((try simp only [World.size_alloc, World.size_setCell, World.size_drew]) <;> omega) | (simp [World.setCell]; done) | (simp [World.setCell]; omega)) (by first | (with_reducible assumption) | ((try simp only [World.size_alloc, World.size_setCell, World.size_drew]) <;> omega) | (simp [World.setCell]; done) | (simp [World.setCell]; omega)) (by first | (with_reducible assumption) | ((try simp only [World.size_alloc, World.size_setCell, World.size_drew]) <;> omega) | (simp [World.setCell]; done) | (simp [World.setCell]; omega))) (FrIn.int (by decide) (by first | (with_reducible assumption) | ((try simp only [World.size_alloc, World.size_setCell, World.size_drew]) <;> omega) | (simp [World.setCell]; done) | (simp [World.setCell]; omega))) (by first | (with_reducible assumption) | ((try simp only [World.size_alloc, World.size_setCell, World.size_drew]) <;> omega) | (simp [World.setCell]; done) | (simp [World.setCell]; omega)) (by first | (with_reducible assumption) | ((try simp only [World.size_alloc, World.size_setCell, World.size_drew]) <;> omega) | (simp [World.setCell]; done) | (simp [World.setCell]; omega))
  · have hs := h.take (List.length l) (by omega)
    obtain ⟨L, hL⟩ : ∃ L : List tGrads.D, L = List.take (List.length l) l := ⟨_, rfl⟩
    have hLl : L.length = (List.length l) := by rw [hL, List.length_take]; (try omega)
    have hL4 : List.take 4 l = L := by first | exact hL.symm | (rw [hL, List.take_of_length_le (show List.length l ≤ 4 by omega), List.take_length])
    have hLz : ∀ k (hk : k < L.length), szT tGrads L[k] ≤ 1000000000 := fun k hk => by
      have h1 := szT_get (e := 36) L k hk
      have h2 := szT_sublist (e := 36) (t := tGrads) (List.take_sublist (List.length l) l)
      rw [← hL] at h2
      omega
    rw [← hL] at hs
    have H := Lib.hid hs; have HL := Lib.hid hLl; have HL4 := Lib.hid hL4; have HZ := Lib.hid hLz
    have hll : L.length ≤ (List.length l) := by omega
    have hlg : (List.length l) ≤ L.length := by omega
    have hl4 : L.length ≤ 4 := by omega
    clear h hs hL hLl hL4 hLz hz
    go_enter Try.func14, Try.ntmps14
    go_wp2
    go_loopw [4] (fun i wr => ∃ k : Nat, k ≤ List.length L ∧ i = .int .i64 k ∧ Only [w.heap.size + 1] ((w.alloc (.cells #[.slice none 0 0, .int .i64 0] 26)).alloc (.cells #[.slice none 0 0, .int .i64 0] 26)) wr ∧
      wr.frozen? ⟨w.heap.size + 1, 0, none⟩ = false ∧ wr.cell? ⟨w.heap.size + 1, 1, none⟩ = some (.int .i64 0) ∧ ∃ n' p' c', wr.cell? ⟨w.heap.size + 1, 0, none⟩ = some (.slice p' n' c') ∧
      Hid (FrIn (.slice 36 tGrads) (w.heap.size + 2) wr.heap.size wr [.slice p' n' c'] (List.take k L))) (fun i _ => List.length L - (intOf i).toNat)
    case atStart => exact ⟨0, by omega, rfl, Only.refl _ _, by simp, by simp, 0, none, 0, by simp, FrIn.nil (by simp)⟩
    case round =>
      obtain ⟨k, hk, rfl, ho, hfz, hc1, n', p', c', hc0, HF⟩ := hrel
      obtain ⟨ou, ov⟩ := ocell ho
      have oz := ho.size
      simp only [World.size_alloc] at ou ov oz
      have B1 : Below w.heap.size w wr := Below.trans (b := (w.alloc (.cells #[.slice none 0 0, .int .i64 0] 26)).alloc (.cells #[.slice none 0 0, .int .i64 0] 26)) (by (repeat' first | (with_reducible exact Below.refl _ _) | (with_reducible refine Below.drew ?_) | (with_reducible refine Below.setCell ?_ ?_ _) | (with_reducible refine Below.alloc ?_ ?_ _) | (with_reducible refine Below.mono (by assumption) ?_) | (with_reducible refine Below.trans ?_ (Below.mono (by assumption) ?_))) <;> (first | (with_reducible assumption) | ((try simp only [World.size_alloc, World.size_setCell, World.size_drew]) <;> omega) | (simp [World.setCell]; done) | (simp [World.setCell]; omega))) (ho.below (fun q hq => by simp at hq; omega) (by simp; omega))
      by_cases hlt : k < List.length L
      · obtain ⟨x, hx⟩ : ∃ x, L[k] = x := ⟨_, rfl⟩
        obtain ⟨b, off, p0, c0, hpe, hlb, e0, e1, e2, s0, w1⟩ := Grads_at H.out k hlt x hx
        have hxz := HZ.out k hlt
        have hsn := List.take_succ_eq_append_getElem hlt
        rw [hx] at hsn hxz
        subst hpe
        have g0 := (B1.cell hlb).trans e0
        have g1 := (B1.cell hlb).trans e1
        have g2 := (B1.cell hlb).trans e2
        have hR := Lib.hid (Grads_rdmk s0 w1)
        have HN := Lib.hid hsn
        have htk : (List.take k L).length = k := by simp; omega
        have HTK := Lib.hid htk
        have htl : (List.take k L).length ≤ 4 := by omega
        have hkl : (k : Int) < ((List.length l : Nat) : Int) := by omega
        have hkn : k < (List.length l) := by omega
        have hk4 : (k : Int) < 4 := by omega
        have hkx : (k : Int) < (List.length l : Int) := by omega
        clear e0 e1 e2 s0 w1 hx hsn ou ov htk
        go_wp2_with fail
        refine wp_region_tail (S := (fun w' => w'.cell? ⟨b, off + k * 3, none⟩ = some (.slice p0 (List.length x.1) c0) ∧ w'.cell? ⟨b, off + k * 3 + 1, none⟩ = some (.int .i64 x.2.1) ∧ w'.cell? ⟨b, off + k * 3 + 2, none⟩ = some (.bool x.2.2) ∧ w'.cell? ⟨w.heap.size + 1, 0, none⟩ = some (.slice p' n' c') ∧ w'.frozen? ⟨w.heap.size + 1, 0, none⟩ = false ∧ w'.cell? ⟨w.heap.size + 1, 1, none⟩ = some (.int .i64 0))) 10 (by kernel_rfl) ?_ (fun hH0 => ?_)
        · (try dsimp only); (first | (go_keep; done) | ((try dsimp only); (repeat' apply And.intro) <;> (first | (go_keep; done) | (refine (frozen_alloc ?_).trans ?_ <;> first | assumption | omega | (simp; done) | (simp; omega) | (go_keep; done)) | (refine ((Below.cell b24 ?_).trans ((Below.cell b22 ?_).trans ?_)) <;> first | assumption | omega | (simp; done) | (simp; omega) | (simp; assumption) | (go_keep; done)) | (refine ((Below.cell b22 ?_).trans ?_) <;> first | assumption | omega | (simp; done) | (simp; omega) | (simp; assumption) | (go_keep; done)) | (refine ((Below.cell b24 ?_).trans ?_) <;> first | assumption | omega | (simp; done) | (simp; omega) | (simp; assumption) | (go_keep; done)) | (refine ((Below.frozen b22 ?_).trans ?_) <;> first | assumption | omega | (simp; done) | (simp; omega) | (simp; assumption) | (go_keep; done)) | (refine ((Below.frozen b24 ?_).trans ?_) <;> first | assumption | omega | (simp; done) | (simp; omega) | (simp; assumption) | (go_keep; done)))))
        refine tail_take (i := 0) (v := ?v16) rfl (by kernel_rfl) (by kernel_rfl) (by kernel_rfl) (by kernel_rfl) (fun _ _ _ h => h) (Or.inl ⟨by rfl, ?y16⟩) hH0 ?r16
        case y16 => (intro w hSw; (try dsimp only at hSw); go_simp; all_goals with_reducible rfl)
        (try simp only [Act.put, List.setIfInBounds_toArray, List.set_cons_zero, List.set_cons_succ])
        refine tail_take (i := 1) (v := ?v17) rfl (by kernel_rfl) (by kernel_rfl) (by kernel_rfl) (by kernel_rfl) (fun _ _ _ h => h) (Or.inl ⟨by rfl, ?y17⟩) hH0 ?r17
        case y17 => (intro w hSw; (try dsimp only at hSw); go_simp; all_goals with_reducible rfl)
        (try simp only [Act.put, List.setIfInBounds_toArray, List.set_cons_zero, List.set_cons_succ])
        refine tail_take (i := 2) (v := ?v18) rfl (by kernel_rfl) (by kernel_rfl) (by kernel_rfl) (by kernel_rfl) (fun _ _ _ h => h) (Or.inl ⟨by rfl, ?y18⟩) hH0 ?r18
        case y18 => (intro w hSw; (try dsimp only at hSw); go_simp; all_goals with_reducible rfl)
        (try simp only [Act.put, List.setIfInBounds_toArray, List.set_cons_zero, List.set_cons_succ])
        refine tail_take (i := 3) (v := ?v19) rfl (by kernel_rfl) (by kernel_rfl) (by kernel_rfl) (by kernel_rfl) (fun _ _ _ h => h) (Or.inl ⟨by rfl, ?y19⟩) hH0 ?r19
        case y19 => (intro w hSw; (try dsimp only at hSw); go_simp; all_goals with_reducible rfl)
        (try simp only [Act.put, List.setIfInBounds_toArray, List.set_cons_zero, List.set_cons_succ])
        refine tail_take (i := 4) (v := ?v20) rfl (by kernel_rfl) (by kernel_rfl) (by kernel_rfl) (by kernel_rfl) (fun _ _ _ h => h) (Or.inl ⟨by rfl, ?y20⟩) hH0 ?r20
        case y20 => (intro w hSw; (try dsimp only at hSw); go_simp; all_goals with_reducible rfl)
        (try simp only [Act.put, List.setIfInBounds_toArray, List.set_cons_zero, List.set_cons_succ])
        refine tail_take (i := 5) (v := ?v21) rfl (by kernel_rfl) (by kernel_rfl) (by kernel_rfl) (by kernel_rfl) (fun _ _ _ h => h) (Or.inl ⟨by rfl, ?y21⟩) hH0 ?r21
        case y21 => (intro w hSw; (try dsimp only at hSw); go_simp; all_goals with_reducible rfl)
        (try simp only [Act.put, List.setIfInBounds_toArray, List.set_cons_zero, List.set_cons_succ])
        refine tail_one (i := 6) rfl (by kernel_rfl) (fun K hK => ?_)
        go_simp; refine (l7Same_any _ x _ (by exact rd_below hR.out (by (repeat' first | (with_reducible exact Below.refl _ _) | (with_reducible refine Below.drew ?_) | (with_reducible refine Below.setCell ?_ ?_ _) | (with_reducible refine Below.alloc ?_ ?_ _) | (with_reducible refine Below.mono (by assumption) ?_) | (with_reducible refine Below.trans ?_ (Below.mono (by assumption) ?_))) <;> (first | (with_reducible assumption) | ((try simp only [World.size_alloc, World.size_setCell, World.size_drew]) <;> omega) | (simp [World.setCell]; done) | (simp [World.setCell]; omega)))) hxz).mono ?_; rintro e wa ⟨csa, rfl, fa, b22⟩; obtain ⟨pa, ca, rfl, -, -⟩ := Grads_rd fa.rd; have zb22 := Below.size b22; (try simp only [World.size_alloc, World.size_setCell, World.size_drew] at zb22); go_wp2_with fail
        refine hK.out _ _ ?_ (fun hH1 => ?_)
        · (obtain ⟨kS0, kS1, kS2, kS3, kS4, kS5⟩ := hH0; (try dsimp only); (first | (go_keep; done) | ((try dsimp only); (repeat' apply And.intro) <;> (first | (go_keep; done) | (refine (frozen_alloc ?_).trans ?_ <;> first | assumption | omega | (simp; done) | (simp; omega) | (go_keep; done)) | (refine ((Below.cell b24 ?_).trans ((Below.cell b22 ?_).trans ?_)) <;> first | assumption | omega | (simp; done) | (simp; omega) | (simp; assumption) | (go_keep; done)) | (refine ((Below.cell b22 ?_).trans ?_) <;> first | assumption | omega | (simp; done) | (simp; omega) | (simp; assumption) | (go_keep; done)) | (refine ((Below.cell b24 ?_).trans ?_) <;> first | assumption | omega | (simp; done) | (simp; omega) | (simp; assumption) | (go_keep; done)) | (refine ((Below.frozen b22 ?_).trans ?_) <;> first | assumption | omega | (simp; done) | (simp; omega) | (simp; assumption) | (go_keep; done)) | (refine ((Below.frozen b24 ?_).trans ?_) <;> first | assumption | omega | (simp; done) | (simp; omega) | (simp; assumption) | (go_keep; done))))))
        clear hK K hH0
        (try simp only [Act.put, List.setIfInBounds_toArray, List.set_cons_zero, List.set_cons_succ])
        refine tail_one (i := 7) rfl (by kernel_rfl) (fun K hK => ?_)
        go_simp
        refine hK.out _ _ ?_ (fun hH2 => ?_)
        · (obtain ⟨kS0, kS1, kS2, kS3, kS4, kS5⟩ := hH1; (try dsimp only); (first | (go_keep; done) | ((try dsimp only); (repeat' apply And.intro) <;> (first | (go_keep; done) | (refine (frozen_alloc ?_).trans ?_ <;> first | assumption | omega | (simp; done) | (simp; omega) | (go_keep; done)) | (refine ((Below.cell b24 ?_).trans ((Below.cell b22 ?_).trans ?_)) <;> first | assumption | omega | (simp; done) | (simp; omega) | (simp; assumption) | (go_keep; done)) | (refine ((Below.cell b22 ?_).trans ?_) <;> first | assumption | omega | (simp; done) | (simp; omega) | (simp; assumption) | (go_keep; done)) | (refine ((Below.cell b24 ?_).trans ?_) <;> first | assumption | omega | (simp; done) | (simp; omega) | (simp; assumption) | (go_keep; done)) | (refine ((Below.frozen b22 ?_).trans ?_) <;> first | assumption | omega | (simp; done) | (simp; omega) | (simp; assumption) | (go_keep; done)) | (refine ((Below.frozen b24 ?_).trans ?_) <;> first | assumption | omega | (simp; done) | (simp; omega) | (simp; assumption) | (go_keep; done))))))
        clear hK K hH1
        (try simp only [Act.put, List.setIfInBounds_toArray, List.set_cons_zero, List.set_cons_succ])
        refine tail_one (i := 8) rfl (by kernel_rfl) (fun K hK => ?_)
        refine step_app rfl (.tmp 17) (.tmp 23) 24 rfl 36 (.agg #[.slice none 0 0, .int .i64 0, .bool false]) tGrads 40 Try.underlying24 (by kernel_rfl) rfl _ rfl (List.take k L) (w.heap.size + 2) wr.heap.size _ _ _ rfl _ x (FrIn.mono (FrIn.kp HF.out (by (repeat' first | (with_reducible exact Kp.refl _ _ _) | (with_reducible refine Kp.drew ?_) | (with_reducible refine Kp.setCell ?_ ?_ _) | (with_reducible refine Kp.alloc ?_ ?_ _) | (with_reducible refine Kp.ofb (by assumption) ?_) | (with_reducible refine Kp.below ?_ (by assumption) ?_)) <;> (first | (with_reducible assumption) | ((try simp only [World.size_alloc, World.size_setCell, World.size_drew]) <;> omega) | (simp [World.setCell]; done) | (simp [World.setCell]; omega)))) (by first | (with_reducible assumption) | ((try simp only [World.size_alloc, World.size_setCell, World.size_drew]) <;> omega) | (simp [World.setCell]; done) | (simp [World.setCell]; omega)) (by first | (with_reducible assumption) | ((try simp only [World.size_alloc, World.size_setCell, World.size_drew]) <;> omega) | (simp [World.setCell]; done) | (simp [World.setCell]; omega)) (by first | (with_reducible assumption) | ((try simp only [World.size_alloc, World.size_setCell, World.size_drew]) <;> omega) | (simp [World.setCell]; done) | (simp [World.setCell]; omega))) (by omega) (by exact FrIn.mono (FrIn.kp fa (by (repeat' first | (with_reducible exact Kp.refl _ _ _) | (with_reducible refine Kp.drew ?_) | (with_reducible refine Kp.setCell ?_ ?_ _) | (with_reducible refine Kp.alloc ?_ ?_ _) | (with_reducible refine Kp.ofb (by assumption) ?_) | (with_reducible refine Kp.below ?_ (by assumption) ?_)) <;> (first | (with_reducible assumption) | ((try simp only [World.size_alloc, World.size_setCell, World.size_drew]) <;> omega) | (simp [World.setCell]; done) | (simp [World.setCell]; omega)))) (by first | (with_reducible assumption) | ((try simp only [World.size_alloc, World.size_setCell, World.size_drew]) <;> omega) | (simp [World.setCell]; done) | (simp [World.setCell]; omega)) (Nat.le_refl _) (by first | (with_reducible assumption) | ((try simp only [World.size_alloc, World.size_setCell, World.size_drew]) <;> omega) | (simp [World.setCell]; done) | (simp [World.setCell]; omega))) (fun u y hu => new_cells' rfl u y hu) (by omega) (by simp only [maxLen]; omega) ?_; intro p2 cap2 w2 hf2 b24 k24 hz3; rw [HTK.out] at hf2; have zb24 := Below.size b24; (try simp only [World.size_alloc, World.size_setCell, World.size_drew] at zb24)
        refine hK.out _ _ ?_ (fun hH3 => ?_)
        · (obtain ⟨kS0, kS1, kS2, kS3, kS4, kS5⟩ := hH2; (try dsimp only); (first | (go_keep; done) | ((try dsimp only); (repeat' apply And.intro) <;> (first | (go_keep; done) | (refine (frozen_alloc ?_).trans ?_ <;> first | assumption | omega | (simp; done) | (simp; omega) | (go_keep; done)) | (refine ((Below.cell b24 ?_).trans ((Below.cell b22 ?_).trans ?_)) <;> first | assumption | omega | (simp; done) | (simp; omega) | (simp; assumption) | (go_keep; done)) | (refine ((Below.cell b22 ?_).trans ?_) <;> first | assumption | omega | (simp; done) | (simp; omega) | (simp; assumption) | (go_keep; done)) | (refine ((Below.cell b24 ?_).trans ?_) <;> first | assumption | omega | (simp; done) | (simp; omega) | (simp; assumption) | (go_keep; done)) | (refine ((Below.frozen b22 ?_).trans ?_) <;> first | assumption | omega | (simp; done) | (simp; omega) | (simp; assumption) | (go_keep; done)) | (refine ((Below.frozen b24 ?_).trans ?_) <;> first | assumption | omega | (simp; done) | (simp; omega) | (simp; assumption) | (go_keep; done))))))
        clear hK K hH2
        (try simp only [Act.put, List.setIfInBounds_toArray, List.set_cons_zero, List.set_cons_succ])
        refine tail_take (i := 9) (v := ?v22) rfl (by kernel_rfl) (by kernel_rfl) (by kernel_rfl) (by kernel_rfl) (fun _ _ _ h => h) (Or.inl ⟨by rfl, ?y22⟩) hH3 ?r22
        case y22 => (intro w hSw; (try dsimp only at hSw); go_simp; all_goals with_reducible rfl)
        (try simp only [Act.put, List.setIfInBounds_toArray, List.set_cons_zero, List.set_cons_succ])
        refine tail_last rfl (by kernel_rfl) (by kernel_rfl) (fun K hK => ?_)
        go_simp
        refine hK _ _ ?_
        clear hK K
        have hHL := hH3; clear hH3
        (try simp only [Act.put, List.setIfInBounds_toArray, List.set_cons_zero, List.set_cons_succ])
        go_wp2
        go_roundw
        case rel =>
          refine ⟨k + 1, by omega, by go_num, ?_, (by rw [World.frozen?_setCell]; exact hHL.2.2.2.2.1), ?_, _, _, _, (by apply World.cell?_setCell_same; exact hHL.2.2.2.1), ?_⟩
          · exact (ho.bel (B := w.heap.size + 2) (by (repeat' first | (with_reducible exact Below.refl _ _) | (with_reducible refine Below.drew ?_) | (with_reducible refine Below.setCell ?_ ?_ _) | (with_reducible refine Below.alloc ?_ ?_ _) | (with_reducible refine Below.mono (by assumption) ?_) | (with_reducible refine Below.trans ?_ (Below.mono (by assumption) ?_))) <;> (first | (with_reducible assumption) | ((try simp only [World.size_alloc, World.size_setCell, World.size_drew]) <;> omega) | (simp [World.setCell]; done) | (simp [World.setCell]; omega))) (by simp)).setCell (by simp) _
          · exact (World.cell?_setCell_other _ _ _ _ (by simp)).trans hHL.2.2.2.2.2
          · show FrIn _ _ _ _ _ _
            rw [HN.out]
            exact (FrIn.mono (FrIn.kp hf2 (by (repeat' first | (with_reducible exact Kp.refl _ _ _) | (with_reducible refine Kp.drew ?_) | (with_reducible refine Kp.setCell ?_ ?_ _) | (with_reducible refine Kp.alloc ?_ ?_ _) | (with_reducible refine Kp.ofb (by assumption) ?_) | (with_reducible refine Kp.below ?_ (by assumption) ?_)) <;> (first | (with_reducible assumption) | ((try simp only [World.size_alloc, World.size_setCell, World.size_drew]) <;> omega) | (simp [World.setCell]; done) | (simp [World.setCell]; omega)))) (by first | (with_reducible assumption) | ((try simp only [World.size_alloc, World.size_setCell, World.size_drew]) <;> omega) | (simp [World.setCell]; done) | (simp [World.setCell]; omega)) (by first | (with_reducible assumption) | ((try simp only [World.size_alloc, World.size_setCell, World.size_drew]) <;> omega) | (simp [World.setCell]; done) | (simp [World.setCell]; omega)) (by first | (with_reducible assumption) | ((try simp only [World.size_alloc, World.size_setCell, World.size_drew]) <;> omega) | (simp [World.setCell]; done) | (simp [World.setCell]; omega)))
        case measure => simp [intOf]; omega
      · obtain rfl : k = List.length L := by omega
        have hf := HF.out
        rw [List.take_length] at hf
        have hnl := hf.slen
        subst hnl
        have t0 : wr.cell? ⟨w.heap.size, 0, none⟩ = some (.slice none 0 0) := by rw [ou _ _ (by simp) (by omega)]; simp
        have t1 : wr.cell? ⟨w.heap.size, 1, none⟩ = some (.int .i64 0) := by rw [ou _ _ (by simp) (by omega)]; simp
        have hdx : decide ((List.length L : Int) < (List.length l : Int)) = false := by simp; omega
        go_wp2
        refine bodyPost_ret (v := .agg #[.slice p' (List.length L) c', .int .i64 0]) (by simp [results, Try.results14, go_sem, t0, t1]) rfl ⟨_, rfl, ?_, (by (repeat' first | (with_reducible exact Below.refl _ _) | (with_reducible refine Below.drew ?_) | (with_reducible refine Below.setCell ?_ ?_ _) | (with_reducible refine Below.alloc ?_ ?_ _) | (with_reducible refine Below.mono (by assumption) ?_) | (with_reducible refine Below.trans ?_ (Below.mono (by assumption) ?_))) <;> (first | (with_reducible assumption) | ((try simp only [World.size_alloc, World.size_setCell, World.size_drew]) <;> omega) | (simp [World.setCell]; done) | (simp [World.setCell]; omega)))⟩
        rw [HL4.out]
        exact FrIn.pair (c1 := [_]) (c2 := [_]) (mid := wr.heap.size) (FrIn.mono (FrIn.kp hf (by (repeat' first | (with_reducible exact Kp.refl _ _ _) | (with_reducible refine Kp.drew ?_) | (with_reducible refine Kp.setCell ?_ ?_ _) | (with_reducible refine Kp.alloc ?_ ?_ _) | (with_reducible refine Kp.ofb (by assumption) ?_) | (with_reducible refine Kp.below ?_ (by assumption) ?_)) <;> (first | (with_reducible assumption) | ((try simp only [World.size_alloc, World.size_setCell, World.size_drew]) <;> omega) | (simp [World.setCell]; done) | (simp [World.setCell]; omega)))) (by first | (with_reducible assumption) | ((try simp only [World.size_alloc, World.size_setCell, World.size_drew]) <;> omega) | (simp [World.setCell]; done) | (simp [World.setCell]; omega)) (by first | (with_reducible assumption) | ((try simp only [World.size_alloc, World.size_setCell, World.size_drew]) <;> omega) | (simp [World.setCell]; done) | (simp [World.setCell]; omega)) (by first | (with_reducible assumption) | ((try simp only [World.size_alloc, World.size_setCell, World.size_drew]) <;> omega) | (simp [World.setCell]; done) | (simp [World.setCell]; omega))) (FrIn.int (by decide) (by first | (with_reducible assumption) | ((try simp only [World.size_alloc, World.size_setCell, World.size_drew]) <;> omega) | (simp [World.setCell]; done) | (simp [World.setCell]; omega))) (by first | (with_reducible assumption) | ((try simp only [World.size_alloc, World.size_setCell, World.size_drew]) <;> omega) | (simp [World.setCell]; done) | (simp [World.setCell]; omega)) (by first | (with_reducible assumption) | ((try simp only [World.size_alloc, World.size_setCell, World.size_drew]) <;> omega) | (simp [World.setCell]; done) | (simp [World.setCell]; omega))

theorem ringNew_both (l : List tGrads.D) (hz : ((szT (.slice 36 tGrads) l : Nat) : Int) ≤ 1048576) :
    ∃ R : tRing.D, (∀ p c w, SlRd tGrads.n (rd tGrads w) w p (List.length l) c l → Calls Try.prog 14 #[.slice p (List.length l) c] w (RetAg tRing w R)) ∧
      (∀ p c w, SlRd tGrads.n (rd tGrads w) w p (List.length l) c l → Calls Try.prog 16 #[.slice p (List.length l) c] w (RetAg tRing w R)) ∧ cntt tRing R ≤ 40000000 := by
  refine ⟨(List.take 4 l, (0 : Int)), fun p c w h => specRingNew_any p _ c l w h (by omega), fun p c w h => implRingNew_any p _ c l w h (by omega), ?_⟩
  have h1 := cntt_le tRing (List.take 4 l, (0 : Int)) (by decide)
  have h2 := szT_sublist (e := 36) (t := tGrads) (List.take_sublist 4 l)
  have h3 : szT tRing (List.take 4 l, (0 : Int)) = szT (.slice 36 tGrads) (List.take 4 l) + 0 := rfl
  omega
end Go.Proofs.Ytnijnjclmlfahaa
