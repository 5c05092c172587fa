/- The laws' own helpers over Ins: copy, compare, count, mark, look at the marks. -/
import Derived.Test.YteejpennjkihaaaMark
namespace Go.Proofs.Yteejpennjkihaaa
open Go.ChangeShapes Go.WideShapes Go.ChangeAt Go.RowKit
set_option linter.unusedVariables false
set_option linter.unusedSimpArgs false
abbrev tIns : Ty := .pair tInt tInt

set_option maxHeartbeats 1000000 in
set_option maxRecDepth 100000 in
theorem toIns_any (cs : Array Value) (d : tIns.D) (w : World) (h : rd tIns w cs.toList d) (hz : szT tIns d ≤ 1048576) :
    Calls Try.prog 118 #[.agg cs] w (RetAg tIns w d) := by
  obtain ⟨x0, x1⟩ := d
  obtain ⟨_, _, hcs, ⟨rfl, w0⟩, ⟨rfl, w1⟩⟩ := h
  obtain rfl : cs = #[.int .i64 x0, .int .i64 x1] := arr_of hcs
  clear hz hcs
  go_enter Try.func118, Try.ntmps118
  go_wp2
  refine bodyPost_ret (v := .agg #[.int .i64 x0, .int .i64 x1]) (by simp [results, Try.results118, go_sem]) rfl ⟨_, rfl, ?_, ?_⟩
  · refine FrIn.pair (c1 := [_]) (c2 := [_]) (mid := w.heap.size) ?_ ?_ (by first | omega | (simp [World.setCell]; done) | (simp [World.setCell]; omega)) (by first | omega | (simp [World.setCell]; done) | (simp [World.setCell]; omega))
    · exact FrIn.int w0 (by first | omega | (simp [World.setCell]; done) | (simp [World.setCell]; omega))
    · exact FrIn.int w1 (by first | omega | (simp [World.setCell]; done) | (simp [World.setCell]; omega))
  · exact (by (repeat' first | refine Below.setCell ?_ (by first | omega | (simp [World.setCell]; done) | (simp [World.setCell]; omega)) _ | refine Below.alloc ?_ (by first | omega | (simp [World.setCell]; done) | (simp [World.setCell]; omega)) _); exact Below.refl _ _)



set_option maxHeartbeats 1000000 in
set_option maxRecDepth 100000 in
theorem eqIns_any (ca cb : Array Value) (d : tIns.D) (w : World) (ha : rd tIns w ca.toList d) (hb : rd tIns w cb.toList d) :
    Calls Try.prog 89 #[.agg ca, .agg cb] w (RetV (.bool true) w) := by
  obtain ⟨x0, x1⟩ := d
  obtain ⟨_, _, ahcs, ⟨rfl, aw0⟩, ⟨rfl, aw1⟩⟩ := ha
  obtain ⟨_, _, bhcs, ⟨rfl, bw0⟩, ⟨rfl, bw1⟩⟩ := hb
  obtain rfl : ca = #[.int .i64 x0, .int .i64 x1] := arr_of ahcs
  obtain rfl : cb = #[.int .i64 x0, .int .i64 x1] := arr_of bhcs
  clear ahcs bhcs
  go_enter Try.func89, Try.ntmps89
  go_wp2
  go_ret
  exact ⟨rfl, (by (repeat' first | refine Below.setCell ?_ (by first | omega | (simp [World.setCell]; done) | (simp [World.setCell]; omega)) _ | refine Below.alloc ?_ (by first | omega | (simp [World.setCell]; done) | (simp [World.setCell]; omega)) _); exact Below.refl _ _)⟩

set_option maxHeartbeats 1000000 in
set_option maxRecDepth 100000 in
theorem eqInsS_any (p q : Option Addr) (len cap len' cap' : Nat) (l : List tIns.D) (w : World) (h : SlRd tIns.n (rd tIns w) w p len cap l) (h' : SlRd tIns.n (rd tIns w) w q len' cap' l) :
    Calls Try.prog 42 #[.slice p len cap, .slice q len' cap'] w (RetV (.bool true) w) := by
  obtain rfl := h.lens
  obtain rfl := h'.lens
  have hmx : l.length ≤ maxLen := by have := h.2.1; have := h.2.2.1; omega
  unfold maxLen at hmx
  go_enter Try.func42, Try.ntmps42
  go_wp2
  go_loopw [5] (fun i wr => ∃ k : Nat, k ≤ l.length ∧ i = .int .i64 k ∧ Below w.heap.size w wr) (fun i _ => l.length - (intOf i).toNat)
  case atStart => exact ⟨0, by omega, rfl, Below.refl _ _⟩
  case round =>
    obtain ⟨k, hk, rfl, hb⟩ := hrel
    by_cases hlt : k < l.length
    · obtain ⟨b, off, rfl, hlb, cs, hcs, hc, hR⟩ := h.2.2.2.2 k hlt
      obtain ⟨b2, off2, rfl, hlb2, cs2, hcs2, hc2, hR2⟩ := h'.2.2.2.2 k hlt
      obtain ⟨x, hx⟩ : ∃ x, l[k] = x := ⟨_, rfl⟩
      rw [hx] at hR hR2
      have hR0 : rd tIns wr.drew cs x := rd_mono (fun q hq => hb.block q hq) _ _ _ hR
      have hR20 : rd tIns wr.drew cs2 x := rd_mono (fun q hq => hb.block q hq) _ _ _ hR2
      obtain ⟨x0, x1⟩ := x
      obtain ⟨_, _, rfl, ⟨rfl, aw0⟩, ⟨rfl, aw1⟩⟩ := hR
      obtain ⟨_, _, rfl, ⟨rfl, bw0⟩, ⟨rfl, bw1⟩⟩ := hR2
      have c0 : wr.cell? ⟨b, off + k * 2, none⟩ = some (.int .i64 x0) := (hb.cell hlb).trans (by have hh := hc 0 (by simp); rw [show Ty.n tIns = 2 from rfl] at hh; simpa using hh)
      have c1 : wr.cell? ⟨b, off + k * 2 + 1, none⟩ = some (.int .i64 x1) := (hb.cell hlb).trans (by have hh := hc 1 (by simp); rw [show Ty.n tIns = 2 from rfl] at hh; simpa using hh)
      have d0 : wr.cell? ⟨b2, off2 + k * 2, none⟩ = some (.int .i64 x0) := (hb.cell hlb2).trans (by have hh := hc2 0 (by simp); rw [show Ty.n tIns = 2 from rfl] at hh; simpa using hh)
      have d1 : wr.cell? ⟨b2, off2 + k * 2 + 1, none⟩ = some (.int .i64 x1) := (hb.cell hlb2).trans (by have hh := hc2 1 (by simp); rw [show Ty.n tIns = 2 from rfl] at hh; simpa using hh)
      have HR := Lib.hid hR0; have HR2 := Lib.hid hR20
      clear h h' hc hc2 hx hcs hcs2 hR0 hR20
      go_wp2
      go_still_tail 8, (by kernel_rfl)
      change wpList _ _ _ _ _ wr.drew
      have hb2 : Below w.heap.size w wr.drew := hb.drew
      generalize wr.drew = w2 at hb2 HR HR2 ⊢
      go_wp2_with fail
      refine (eqIns_any _ _ (x0, x1) _ (by exact HR.out) (by exact HR2.out)).mono ?_
      rintro e w3 ⟨rfl, b3⟩
      go_wp2
      go_roundw
      case rel => exact ⟨k + 1, by omega, by go_num, hb2.trans (b3.mono hb2.size)⟩
      case measure => simp [intOf]; omega
    · clear h h'
      go_wp2
      go_ret
      exact ⟨rfl, hb⟩

set_option maxHeartbeats 1000000 in
set_option maxRecDepth 100000 in
theorem markInsS_any (p : Option Addr) (len cap : Nat) (k0 : Int) (l : List tIns.D) (bl : List Nat) (w : World) (h : rep (.slice 118 tIns) w [.slice p len cap] l bl) (hnd : bl.Nodup) (h0 : 0 ≤ k0) (h1 : k0 + (cnt (.slice 118 tIns) l : Nat) ≤ 1000000000000) :
    Calls Try.prog 44 #[.slice p len cap, .int .i64 k0] w (RetMk (.slice 118 tIns) w [.slice p len cap] (mk (.slice 118 tIns) l k0) bl (k0 + (cnt (.slice 118 tIns) l : Nat))) := by
  obtain ⟨rfl, hmx⟩ := rep_len h
  have HL := Lib.hid (mk_length (e := 118) (t := tIns) l k0)
  have hcn : cnt (.slice 118 tIns) l = l.length * 2 := by rw [cnt_slice]; clear h h1 HL hmx; induction l with
    | nil => rfl
    | cons a m ih => rw [List.map_cons, List.sum_cons, ih, List.length_cons]; show (1 + 1) + _ = _; omega
  have hct : ∀ k, k ≤ l.length → ((l.take k).map (cnt tIns)).sum = k * 2 := fun k hk => by
    have : ∀ m : List tIns.D, (m.map (cnt tIns)).sum = m.length * 2 := fun m => by induction m with
      | nil => rfl
      | cons a m ih => rw [List.map_cons, List.sum_cons, ih, List.length_cons]; show (1 + 1) + _ = _; omega
    rw [this, List.length_take, Nat.min_eq_left hk]
  have HCN := Lib.hid hcn; have HCT := Lib.hid hct
  rw [hcn] at h1
  clear hcn hct
  unfold maxLen at hmx
  go_enter Try.func44, Try.ntmps44
  go_wp2
  go_loopw [1, 5] (fun q i wr => ∃ k : Nat, k ≤ l.length ∧ i = .int .i64 k ∧ (∃ kk : Int, q = .int .i64 kk ∧ kk = k0 + k * 2 ∧ 0 ≤ kk ∧ kk ≤ 1000000000000) ∧ Only bl w wr ∧ rep (.slice 118 tIns) wr [.slice p l.length cap] ((mk (.slice 118 tIns) l k0 : List tIns.D).take k ++ l.drop k) bl) (fun _ i _ => l.length - (intOf i).toNat)
  case atStart => exact ⟨0, by omega, rfl, ⟨_, rfl, by simp, by omega, by omega⟩, Only.refl _ _, by simpa using h⟩
  case round =>
    obtain ⟨k, hk, rfl, ⟨kk, rfl, hkk, hk0, hk1⟩, hb, hf⟩ := hrel
    clear h
    by_cases hlt : k < l.length
    · have hkl : k < ((mk (.slice 118 tIns) l k0 : List tIns.D).take k ++ l.drop k).length := by simp only [List.length_append, List.length_take, List.length_drop, HL.out]; omega
      obtain ⟨b, cap', c, bk, hv, hbm, -, hfz, hcl, hc, hR, hU⟩ := rep_lens_all hf hnd k hkl
      simp only [Value.slice.injEq] at hv
      obtain ⟨rfl, -, -⟩ := hv
      have e0 : wr.cell? ⟨b, k * 2, none⟩ = some (c[0]'(by rw [hcl]; decide)) := by simpa [Ty.n] using hc 0 (by rw [hcl]; decide)
      have g0 : wr.frozen? ⟨b, k * 2, none⟩ = false := hfz _
      have e1 : wr.cell? ⟨b, k * 2 + 1, none⟩ = some (c[1]'(by rw [hcl]; decide)) := by simpa [Ty.n] using hc 1 (by rw [hcl]; decide)
      have g1 : wr.frozen? ⟨b, k * 2 + 1, none⟩ = false := hfz _
      have hbk : bk = [] := by
        obtain ⟨_, _, _, _, _, rfl, ⟨_, _, rfl⟩, ⟨_, _, rfl⟩⟩ := hR; rfl
      subst hbk
      have hkub : kk + 2 ≤ 1000000000000 := by omega
      have HU := Lib.hid (hU [.int .i64 (kk), .int .i64 (kk + 1)] ((kk), (kk + 1)) rfl ⟨[_], [_], [], [], rfl, rfl, ⟨rfl, wf_i64 (by constructor <;> dsimp only <;> omega), rfl⟩, ⟨rfl, wf_i64 (by constructor <;> dsimp only <;> omega), rfl⟩⟩)
      have HM := Lib.hid (mk_get (e := 118) (t := tIns) l k0 k hlt (by rw [HL.out]; exact hlt))
      have HK := Lib.hid hkk
      clear hU hc hfz hf hkk hR
      go_wp2
      go_roundw
      case rel =>
        refine ⟨k + 1, by omega, by go_num, ⟨_, rfl, by have := HK.out; omega, by omega, by omega⟩, (by (repeat' refine Only.setCell ?_ hbm _); exact hb), ?_⟩
        have h2 := HU.out
        have h3 := HM.out
        rw [HCT.out k hk] at h3
        have h4 : k0 + ((k * 2 : Nat) : Int) = kk := by have := HK.out; omega
        rw [h4] at h3
        rw [set_mix _ _ _ hlt HL.out _ (h3.trans (by rfl))] at h2
        exact h2
      case measure => simp [intOf]; omega
    · have HK := Lib.hid hkk; clear hkk
      go_wp2
      go_ret
      obtain rfl : k = l.length := by omega
      refine ⟨ret_int (by rw [HCN.out]; have := HK.out; omega), ?_, hb⟩
      have e1 : (mk (.slice 118 tIns) l k0 : List tIns.D).take l.length ++ l.drop l.length = mk (.slice 118 tIns) l k0 := by
        rw [List.drop_length, List.append_nil, List.take_of_length_le (by rw [HL.out]; exact Nat.le_refl _)]
      rw [e1] at hf
      exact hf

set_option maxHeartbeats 1000000 in
set_option maxRecDepth 100000 in
theorem heldInsS_any (p : Option Addr) (len cap : Nat) (k0 : Int) (l : List tIns.D) (w : World) (h : SlRd tIns.n (rd tIns w) w p len cap (mk (.slice 118 tIns) l k0)) (h0 : 0 ≤ k0) (h1 : k0 + (cnt (.slice 118 tIns) l : Nat) ≤ 1000000000000) :
    Calls Try.prog 45 #[.slice p len cap, .int .i64 k0] w (RetV (.int .i64 (k0 + (cnt (.slice 118 tIns) l : Nat))) w) := by
  have HL := mk_length (e := 118) (t := tIns) l k0
  obtain rfl : len = l.length := by rw [h.lens]; exact HL
  have hcn : cnt (.slice 118 tIns) l = l.length * 2 := by rw [cnt_slice]; clear h h1 HL; induction l with
    | nil => rfl
    | cons a m ih => rw [List.map_cons, List.sum_cons, ih, List.length_cons]; show (1 + 1) + _ = _; omega
  have hct : ∀ k, k ≤ l.length → ((l.take k).map (cnt tIns)).sum = k * 2 := fun k hk => by
    have : ∀ m : List tIns.D, (m.map (cnt tIns)).sum = m.length * 2 := fun m => by induction m with
      | nil => rfl
      | cons a m ih => rw [List.map_cons, List.sum_cons, ih, List.length_cons]; show (1 + 1) + _ = _; omega
    rw [this, List.length_take, Nat.min_eq_left hk]
  have HCN := Lib.hid hcn; have HCT := Lib.hid hct
  rw [hcn] at h1
  have HL2 := Lib.hid HL
  clear hcn hct HL
  go_enter Try.func45, Try.ntmps45
  go_wp2
  go_loopw [1, 5] (fun q i wr => ∃ k : Nat, k ≤ l.length ∧ i = .int .i64 k ∧ (∃ kk : Int, q = .int .i64 kk ∧ kk = k0 + k * 2 ∧ 0 ≤ kk ∧ kk ≤ 1000000000000) ∧ Below w.heap.size w wr) (fun _ i _ => l.length - (intOf i).toNat)
  case atStart => exact ⟨0, by omega, rfl, ⟨_, rfl, by simp, by omega, by omega⟩, Below.refl _ _⟩
  case round =>
    obtain ⟨k, hk, rfl, ⟨kk, rfl, hkk, hk0, hk1⟩, hb⟩ := hrel
    by_cases hlt : k < l.length
    · obtain ⟨b, off, rfl, hlb, cs, hcs, hc, hR⟩ := h.2.2.2.2 k (by rw [HL2.out]; exact hlt)
      have hx := mk_get (e := 118) (t := tIns) l k0 k hlt (by rw [HL2.out]; exact hlt)
      have h4 : k0 + ((k * 2 : Nat) : Int) = kk := by omega
      rw [HCT.out k hk, h4] at hx
      rw [hx] at hR
      have hkub : kk + 2 ≤ 1000000000000 := by omega
      have hR2 : rd tIns w cs ((kk), (kk + 1)) := hR
      clear hR hx
      obtain ⟨_, _, rfl, ⟨rfl, aw0⟩, ⟨rfl, aw1⟩⟩ := hR2
      have c0 : wr.cell? ⟨b, off + k * 2, none⟩ = some (.int .i64 (kk)) := (hb.cell hlb).trans (by have hh := hc 0 (by simp); rw [show Ty.n tIns = 2 from rfl] at hh; simpa using hh)
      have c1 : wr.cell? ⟨b, off + k * 2 + 1, none⟩ = some (.int .i64 (kk + 1)) := (hb.cell hlb).trans (by have hh := hc 1 (by simp); rw [show Ty.n tIns = 2 from rfl] at hh; simpa using hh)
      have HK := Lib.hid hkk
      clear h hc hcs h4 hkk
      go_wp2
      go_roundw
      case rel => exact ⟨k + 1, by omega, by go_num, ⟨_, rfl, by have := HK.out; omega, by omega, by omega⟩, hb⟩
      case measure => simp [intOf]; omega
    · clear h
      have HK := Lib.hid hkk; clear hkk
      go_wp2
      go_ret
      obtain rfl : k = l.length := by omega
      exact ⟨ret_int (by rw [HCN.out]; have := HK.out; omega), hb⟩

end Go.Proofs.Yteejpennjkihaaa
