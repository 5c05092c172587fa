/- The walk of FnExactDidOf: the instructions of a stage that were done. -/
import Derived.Test.YteejpennjkihaaaTAct
import Derived.Test.YteejpennjkihaaaApp
namespace Go.Proofs.Yteejpennjkihaaa
open Go.ChangeShapes Go.WideShapes Go.ChangeAt Go.RowKit
set_option linter.unusedVariables false
set_option linter.unusedSimpArgs false
set_option linter.unnecessarySimpa false

def did (s : Int) (l : List tAct.D) : List tIns.D := (l.filter fun x => x.2.2 && x.1 == s).map fun x => x.2.1
theorem did_snoc (s : Int) (l : List tAct.D) (k : Nat) (h : k < l.length) (x : tAct.D) (hx : l[k] = x) : did s (l.take (k+1)) = if (x.2.2 && x.1 == s) = true then did s (l.take k) ++ [x.2.1] else did s (l.take k) := by
  unfold did
  rw [List.take_succ_eq_append_getElem h, hx, List.filter_append, List.map_append, List.filter_cons]
  split <;> simp
theorem did_le (s : Int) (l : List tAct.D) : (did s l).length ≤ l.length := by
  unfold did; rw [List.length_map]; exact List.length_filter_le _ _

theorem act_at {w : World} {p : Option Addr} {len cap : Nat} {l : List tAct.D} (h : SlRd tAct.n (rd tAct w) w p len cap l) (k : Nat) (hk : k < l.length) :
    ∃ b off, p = some ⟨b, off, none⟩ ∧ b < w.heap.size ∧ w.cell? ⟨b, off + k * 4, none⟩ = some (.int .i64 l[k].1) ∧ w.cell? ⟨b, off + k * 4 + 1, none⟩ = some (.int .i64 l[k].2.1.1) ∧
      w.cell? ⟨b, off + k * 4 + 2, none⟩ = some (.int .i64 l[k].2.1.2) ∧ w.cell? ⟨b, off + k * 4 + 3, none⟩ = some (.bool l[k].2.2) ∧ (Lit.int .i64 l[k].2.1.1).wf = true ∧ (Lit.int .i64 l[k].2.1.2).wf = true := by
  obtain ⟨b, off, hp, hb, cs, hl, hc, _, _, rfl, ⟨rfl, _⟩, _, _, rfl, ⟨_, _, rfl, ⟨rfl, h1⟩, rfl, h2⟩, rfl⟩ := h.2.2.2.2 k hk
  exact ⟨b, off, hp, hb, hc 0 (by simp), hc 1 (by simp), hc 2 (by simp), hc 3 (by simp), h1, h2⟩

set_option maxRecDepth 100000 in
set_option maxHeartbeats 1000000 in
theorem implDidOf_any (p : Option Addr) (len cap : Nat) (l : List tAct.D) (s : Int) (w : World) (h : SlRd tAct.n (rd tAct w) w p len cap l) (hz : l.length ≤ 1048576) :
    Calls Try.prog 41 #[.slice p len cap, .int .i64 s] w (RetSl 118 tIns w (did s l)) := by
  obtain rfl := h.lens
  go_enter Try.func41, Try.ntmps41
  go_wp2
  go_loopw [5, 11] (fun v i wr => ∃ k : Nat, k ≤ l.length ∧ i = .int .i64 k ∧ (∃ n p cap, v = .slice p n cap ∧ FrIn (.slice 118 tIns) w.heap.size wr.heap.size wr [.slice p n cap] (did s (l.take k))) ∧ Below w.heap.size w wr) (fun _ i _ => l.length - (intOf i).toNat)
  case atStart => exact ⟨0, by omega, rfl, ⟨_, _, _, rfl, FrIn.empty rfl⟩, (Below.refl _ _).alloc (Nat.le_refl _) _⟩
  case round =>
    obtain ⟨k, hk, rfl, ⟨n, pv, cv, rfl, hf⟩, hb⟩ := hrel
    by_cases hlt : k < l.length
    · obtain ⟨b, off, rfl, hlb, e1, e2, e3, e4, hw1, hw2⟩ := act_at h k hlt
      have c1 := (hb.cell hlb).trans e1
      have c2 := (hb.cell hlb).trans e2
      have c3 := (hb.cell hlb).trans e3
      have c4 := (hb.cell hlb).trans e4
      obtain ⟨x, hx⟩ : ∃ x, l[k] = x := ⟨_, rfl⟩
      rw [hx] at c1 c2 c3 c4 hw1 hw2
      have HS := Lib.hid (did_snoc s l k hlt x hx)
      have hnl := hf.slen
      have hdl := did_le s (l.take k)
      have htk : (l.take k).length ≤ k := List.length_take_le _ _
      obtain ⟨x1, ⟨x2, x3⟩, x4⟩ := x
      clear h e1 e2 e3 e4 hx
      have HF := Lib.hid hf
      clear hf
      by_cases hs : x4 = true ∧ x1 = s
      · obtain ⟨rfl, rfl⟩ := hs
        have hd2 : (did x1 (l.take k)).length ≤ 1048576 := by omega
        have hnl' := Lib.hid hnl
        have hhb := hb.size
        clear hnl hdl htk
        go_wp2_with (at_builtin; refine wpList_app rfl (.tmp 23) (.tmp 26) 54 rfl 118 (.agg #[.int .i64 0, .int .i64 0]) tIns 16 Try.underlying54 (by kernel_rfl) rfl _ rfl (did x1 (l.take k)) w.heap.size wr.heap.size wr.heap.size _ _ _ _ rfl (x2, x3) (by exact (HF.out.alloc _)) hhb (by simp) (by exact FrIn.pair (c1 := [_]) (c2 := [_]) (FrIn.int hw1 (by simp)) (FrIn.int hw2 (by simp)) (Nat.le_refl _) (Nat.le_refl _)) (by omega) (by simp [maxLen]; omega) ?_; intro p2 cap2 w2 hf2 hb2 hk2 hsz2)
        go_roundw
        case rel =>
          refine ⟨k + 1, by omega, by go_num, ⟨_, _, _, rfl, ?_⟩, Below.trans (hb.alloc hb.size _) hb2⟩
          rw [HS.out, if_pos (by simp)]
          exact hf2
        case measure => simp [intOf]; omega
      · have hs' : (x4 && x1 == s) = false := by
          cases x4 <;> simp_all
        clear hnl hdl htk hs
        cases x4
        · go_wp2
          all_goals
            go_roundw
            case rel =>
              refine ⟨k + 1, by omega, by go_num, ⟨_, _, _, rfl, ?_⟩, (hb.alloc hb.size _)⟩
              rw [HS.out, if_neg (by simpa using hs')]
              exact (HF.out.alloc _).mono (Nat.le_refl _) (by simp) (Nat.le_refl _)
            case measure => simp [intOf]; omega
        · have hs2 : (x1 == s) = false := by simpa using hs'
          go_wp2
          go_roundw
          case rel =>
            refine ⟨k + 1, by omega, by go_num, ⟨_, _, _, rfl, ?_⟩, (hb.alloc hb.size _)⟩
            rw [HS.out, if_neg (by simpa using hs')]
            exact (HF.out.alloc _).mono (Nat.le_refl _) (by simp) (Nat.le_refl _)
          case measure => simp [intOf]; omega
    · clear h
      have hnl := hf.slen
      have HF := Lib.hid hf
      clear hf
      go_wp2
      go_ret
      have e1 : l.take k = l := List.take_of_length_le (by omega)
      have hf := HF.out
      rw [e1] at hf hnl
      subst hnl
      exact ⟨_, _, rfl, hf, hb⟩

set_option maxRecDepth 100000 in
set_option maxHeartbeats 1000000 in
theorem specDidOf_any (p : Option Addr) (len cap : Nat) (l : List tAct.D) (s : Int) (w : World) (h : SlRd tAct.n (rd tAct w) w p len cap l) (hz : l.length ≤ 1048576) :
    Calls Try.prog 40 #[.slice p len cap, .int .i64 s] w (RetSl 118 tIns w (did s l)) := by
  obtain rfl := h.lens
  go_enter Try.func40, Try.ntmps40
  go_wp2
  go_loopw [5, 6] (fun v i wr => ∃ k : Nat, k ≤ l.length ∧ i = .int .i64 k ∧ (∃ n p cap, v = .slice p n cap ∧ FrIn (.slice 118 tIns) w.heap.size wr.heap.size wr [.slice p n cap] (did s (l.take k))) ∧ Below w.heap.size w wr) (fun _ i _ => l.length - (intOf i).toNat)
  case atStart => exact ⟨0, by omega, rfl, ⟨_, _, _, rfl, FrIn.empty rfl⟩, (Below.refl _ _).alloc (Nat.le_refl _) _⟩
  case round =>
    obtain ⟨k, hk, rfl, ⟨n, pv, cv, rfl, hf⟩, hb⟩ := hrel
    by_cases hlt : k < l.length
    · obtain ⟨b, off, rfl, hlb, e1, e2, e3, e4, hw1, hw2⟩ := act_at h k hlt
      have c1 := (hb.cell hlb).trans e1
      have c2 := (hb.cell hlb).trans e2
      have c3 := (hb.cell hlb).trans e3
      have c4 := (hb.cell hlb).trans e4
      obtain ⟨x, hx⟩ : ∃ x, l[k] = x := ⟨_, rfl⟩
      rw [hx] at c1 c2 c3 c4 hw1 hw2
      have HS := Lib.hid (did_snoc s l k hlt x hx)
      have hnl := hf.slen
      have hdl := did_le s (l.take k)
      have htk : (l.take k).length ≤ k := List.length_take_le _ _
      obtain ⟨x1, ⟨x2, x3⟩, x4⟩ := x
      clear h e1 e2 e3 e4 hx
      have HF := Lib.hid hf
      clear hf
      by_cases hs : x4 = true ∧ x1 = s
      · obtain ⟨rfl, rfl⟩ := hs
        have hd2 : (did x1 (l.take k)).length ≤ 1048576 := by omega
        have hnl' := Lib.hid hnl
        have hhb := hb.size
        clear hnl hdl htk
        go_wp2_with (at_builtin; refine wpList_app rfl (.tmp 28) (.tmp 34) 54 rfl 118 (.agg #[.int .i64 0, .int .i64 0]) tIns 16 Try.underlying54 (by kernel_rfl) rfl _ rfl (did x1 (l.take k)) w.heap.size wr.heap.size wr.heap.size _ _ _ _ rfl (x2, x3) (by exact HF.out) hhb (by simp) (by exact FrIn.pair (c1 := [_]) (c2 := [_]) (FrIn.int hw1 (by simp)) (FrIn.int hw2 (by simp)) (Nat.le_refl _) (Nat.le_refl _)) (by omega) (by simp [maxLen]; omega) ?_; intro p2 cap2 w2 hf2 hb2 hk2 hsz2)
        go_roundw
        case rel =>
          refine ⟨k + 1, by omega, by go_num, ⟨_, _, _, rfl, ?_⟩, Below.trans hb hb2⟩
          rw [HS.out, if_pos (by simp)]
          exact hf2
        case measure => simp [intOf]; omega
      · have hs' : (x4 && x1 == s) = false := by
          cases x4 <;> simp_all
        clear hnl hdl htk hs
        cases x4
        · go_wp2
          all_goals
            go_roundw
            case rel =>
              refine ⟨k + 1, by omega, by go_num, ⟨_, _, _, rfl, ?_⟩, hb⟩
              rw [HS.out, if_neg (by simpa using hs')]
              exact HF.out.mono (Nat.le_refl _) (by simp) (Nat.le_refl _)
            case measure => simp [intOf]; omega
        · have hs2 : (x1 == s) = false := by simpa using hs'
          go_wp2
          go_roundw
          case rel =>
            refine ⟨k + 1, by omega, by go_num, ⟨_, _, _, rfl, ?_⟩, hb⟩
            rw [HS.out, if_neg (by simpa using hs')]
            exact HF.out.mono (Nat.le_refl _) (by simp) (Nat.le_refl _)
          case measure => simp [intOf]; omega
    · clear h
      have hnl := hf.slen
      have HF := Lib.hid hf
      clear hf
      go_wp2
      go_ret
      have e1 : l.take k = l := List.take_of_length_le (by omega)
      have hf := HF.out
      rw [e1] at hf hnl
      subst hnl
      exact ⟨_, _, rfl, hf, hb⟩
theorem didOf_both (l : List tAct.D) (s : Int) (hz : (szT (.slice 120 tAct) l : Int) ≤ 1048576) :
    ∃ R : List tIns.D, (∀ p c w, SlRd tAct.n (rd tAct w) w p l.length c l → Calls Try.prog 40 #[.slice p l.length c, .int .i64 s] w (RetSl 118 tIns w R)) ∧
        (∀ p c w, SlRd tAct.n (rd tAct w) w p l.length c l → Calls Try.prog 41 #[.slice p l.length c, .int .i64 s] w (RetSl 118 tIns w R)) ∧ cnt (.slice 118 tIns) R ≤ 4000000 := by
  have hl : l.length ≤ 1048576 := by rw [szT_slice] at hz; omega
  refine ⟨did s l, fun p c w h => specDidOf_any p _ c l s w h hl, fun p c w h => implDidOf_any p _ c l s w h hl, ?_⟩
  have h1 := did_le s l
  have : ∀ m : List tIns.D, (m.map (cnt tIns)).sum = m.length * 2 := fun m => by
    induction m with
    | nil => rfl
    | cons a m ih => rw [List.map_cons, List.sum_cons, ih, List.length_cons]; show (1 + 1) + _ = _; omega
  rw [cnt_slice, this]; omega

set_option maxRecDepth 100000 in
set_option maxHeartbeats 2000000 in
theorem fnExactDidOf_walk (w : World) (p0 : Option Addr) (len0 cap0 : Nat) (l0 : List tAct.D) (h0 : SlRd tAct.n (rd tAct w) w p0 len0 cap0 l0) (x1 : Int) (h1 : (Lit.int .i64 x1).wf = true) :
    Calls Try.prog 9 #[.slice p0 len0 cap0, .int .i64 x1] w fun e w' => e = .returned (.bool true) ∧ Below w.heap.size w w' := by
  by_cases hz0 : ((szT (.slice 120 tAct) l0 : Nat) : Int) ≤ (1048576 : Int)
  rotate_left
  · skip
    go_enter Try.func9, Try.ntmps9
    go_wp2_with fail
    refine (szActS_no _ _ _ l0 _ _ (by exact h0) (by omega) (by omega) (by omega)).mono ?_
    rintro e w1 ⟨rfl, b1⟩
    have B1 := b1
    have z1 := b1.size
    go_wp2
    go_ret
    exact ⟨rfl, B1⟩
  obtain ⟨R0, hS, hI, hcr0⟩ := didOf_both l0 x1 (by omega)
  have HS := Lib.hid hS; have HI := Lib.hid hI; clear hS hI
  clear h1
  go_enter Try.func9, Try.ntmps9
  go_wp2_with fail
  refine (szActS_ok _ _ _ l0 _ _ (by exact h0) (by omega) (by omega) (by omega)).mono ?_
  rintro e w1 ⟨rfl, b1⟩
  have B1 := b1
  have z1 := b1.size
  obtain ⟨lf0, hlf0⟩ : ∃ z : Int, z = (1048576 : Int) - (szT (.slice 120 tAct) l0 : Nat) := ⟨_, rfl⟩
  rw [← hlf0]
  have hnl0 : ¬ (lf0 < 0) := by omega
  have hnl02 : lf0 ≤ 1048576 := by omega
  clear hlf0
  go_wp2_with fail
  refine (toActS_any _ _ _ l0 _ (by exact h0.below B1) (by omega)).mono ?_
  rintro e w2 ⟨tp0, tc0, rfl, t0, b2⟩
  have B2 := B1.trans (b2.mono B1.size)
  have z2 := b2.size
  go_wp2_with fail
  refine (HS.out _ _  _ (by exact fr_sl t0)).mono ?_
  rintro e w3 ⟨w0rp0, w0rc0, rfl, w0r0, b3⟩
  have B3 := B2.trans (b3.mono B2.size)
  have z3 := b3.size
  replace t0 := t0.below b3 (by omega)
  clear t0
  go_wp2_with fail
  refine (toActS_any _ _ _ l0 _ (by exact h0.below B3) (by omega)).mono ?_
  rintro e w4 ⟨xp0, xc0, rfl, x0, b4⟩
  have B4 := B3.trans (b4.mono B3.size)
  have z4 := b4.size
  replace w0r0 := w0r0.below b4 (by omega)
  go_wp2_with fail
  refine (HI.out _ _  _ (by exact fr_sl x0)).mono ?_
  rintro e w5 ⟨g0rp0, g0rc0, rfl, g0r0, b5⟩
  have B5 := B4.trans (b5.mono B4.size)
  have z5 := b5.size
  replace w0r0 := w0r0.below b5 (by omega)
  replace x0 := x0.below b5 (by omega)
  go_wp2_with fail
  refine (eqInsS_any _ _ _ _ _ _ R0 _ (by exact fr_sl g0r0) (by exact fr_sl w0r0)).mono ?_
  rintro e w6 ⟨rfl, b6⟩
  have B6 := B5.trans (b6.mono B5.size)
  have z6 := b6.size
  replace w0r0 := w0r0.below b6 (by omega)
  replace x0 := x0.below b6 (by omega)
  replace g0r0 := g0r0.below b6 (by omega)
  go_wp2_with fail
  refine (toActS_any _ _ _ l0 _ (by exact h0.below B6) (by omega)).mono ?_
  rintro e w7 ⟨yp0, yc0, rfl, y0, b7⟩
  have B7 := B6.trans (b7.mono B6.size)
  have z7 := b7.size
  replace w0r0 := w0r0.below b7 (by omega)
  replace x0 := x0.below b7 (by omega)
  replace g0r0 := g0r0.below b7 (by omega)
  go_wp2_with fail
  refine (eqActS_any _ _ _ _ _ _ l0 _ (by exact fr_sl x0) (by exact fr_sl y0)).mono ?_
  rintro e w8 ⟨rfl, b8⟩
  have B8 := B7.trans (b8.mono B7.size)
  have z8 := b8.size
  replace w0r0 := w0r0.below b8 (by omega)
  replace x0 := x0.below b8 (by omega)
  replace g0r0 := g0r0.below b8 (by omega)
  clear y0
  go_wp2_with fail
  obtain ⟨bl9, rep9, nd9, in9⟩ := rep_of_FrIn x0
  clear x0
  refine (markActS_any _ _ _ _ l0 _ _ (by exact rep9) nd9 (by omega) (by have := cnt_le _ _ l0 (show Ty.per (.slice 120 tAct) ≤ 20 by decide); omega)).mono ?_
  rintro e w9 ⟨rfl, rp9, on9⟩
  have B9 := B8.trans (on9.below (B := w.heap.size) (fun b hb => by have := in9 b hb; omega) (by omega))
  have z9 := on9.size
  replace w0r0 := w0r0.only on9 (fun b hb => by have := in9 b hb; omega)
  replace g0r0 := g0r0.only on9 (fun b hb => by have := in9 b hb; omega)
  have x0 := FrIn.of_rep rp9 nd9 in9 (by omega)
  clear rep9 rp9
  clear x0
  go_wp2_with fail
  refine (eqInsS_any _ _ _ _ _ _ R0 _ (by exact fr_sl g0r0) (by exact fr_sl w0r0)).mono ?_
  rintro e w10 ⟨rfl, b10⟩
  have B10 := B9.trans (b10.mono B9.size)
  have z10 := b10.size
  replace w0r0 := w0r0.below b10 (by omega)
  replace g0r0 := g0r0.below b10 (by omega)
  go_wp2_with fail
  obtain ⟨bl11, rep11, nd11, in11⟩ := rep_of_FrIn g0r0
  clear g0r0
  refine (markInsS_any _ _ _ _ R0 _ _ (by exact rep11) nd11 (by omega) (by omega)).mono ?_
  rintro e w11 ⟨rfl, rp11, on11⟩
  have B11 := B10.trans (on11.below (B := w.heap.size) (fun b hb => by have := in11 b hb; omega) (by omega))
  have z11 := on11.size
  replace w0r0 := w0r0.only on11 (fun b hb => by have := in11 b hb; omega)
  have g0r0 := FrIn.of_rep rp11 nd11 in11 (by omega)
  clear rep11 rp11
  go_wp2_with fail
  refine (heldInsS_any _ _ _ _ R0 _ (by exact fr_sl g0r0) (by omega) (by omega)).mono ?_
  rintro e w12 ⟨rfl, b12⟩
  have B12 := B11.trans (b12.mono B11.size)
  have z12 := b12.size
  replace w0r0 := w0r0.below b12 (by omega)
  replace g0r0 := g0r0.below b12 (by omega)
  go_wp2_with fail
  refine (toActS_any _ _ _ l0 _ (by exact h0.below B12) (by omega)).mono ?_
  rintro e w13 ⟨up0, uc0, rfl, u0, b13⟩
  have B13 := B12.trans (b13.mono B12.size)
  have z13 := b13.size
  replace w0r0 := w0r0.below b13 (by omega)
  replace g0r0 := g0r0.below b13 (by omega)
  go_wp2_with fail
  refine (HI.out _ _  _ (by exact fr_sl u0)).mono ?_
  rintro e w14 ⟨h0rp0, h0rc0, rfl, h0r0, b14⟩
  have B14 := B13.trans (b14.mono B13.size)
  have z14 := b14.size
  replace w0r0 := w0r0.below b14 (by omega)
  replace g0r0 := g0r0.below b14 (by omega)
  replace u0 := u0.below b14 (by omega)
  clear u0
  go_wp2_with fail
  refine (eqInsS_any _ _ _ _ _ _ R0 _ (by exact fr_sl h0r0) (by exact fr_sl w0r0)).mono ?_
  rintro e w15 ⟨rfl, b15⟩
  have B15 := B14.trans (b15.mono B14.size)
  have z15 := b15.size
  replace w0r0 := w0r0.below b15 (by omega)
  replace g0r0 := g0r0.below b15 (by omega)
  replace h0r0 := h0r0.below b15 (by omega)
  go_wp2_with fail
  refine (heldInsS_any _ _ _ _ R0 _ (by exact fr_sl g0r0) (by omega) (by omega)).mono ?_
  rintro e w16 ⟨rfl, b16⟩
  have B16 := B15.trans (b16.mono B15.size)
  have z16 := b16.size
  replace w0r0 := w0r0.below b16 (by omega)
  replace g0r0 := g0r0.below b16 (by omega)
  replace h0r0 := h0r0.below b16 (by omega)
  go_wp2
  go_ret
  exact ⟨rfl, B16⟩
end Go.Proofs.Yteejpennjkihaaa
