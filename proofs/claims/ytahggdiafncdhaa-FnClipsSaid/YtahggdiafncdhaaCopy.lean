/- Rows of numbers, and lists of such rows, once more. -/
import Derived.Test.YtahggdiafncdhaaCe
import Derived.Test.YtahggdiafncdhaaTRow
import Derived.Deep.RegionHeld3
namespace Go.Proofs.Ytahggdiafncdhaa
open Go.ChangeShapes Go.WideShapes Go.ChangeAt Go.RowKit Go.Deep
set_option linter.unusedVariables false
set_option linter.unusedSimpArgs false

section
variable {P : Program}
theorem wpList_copyInts {ops : Array Oper} {rest : List Oper} {o : Oper} {a : Act} {Q : Exit → Act → World → Prop} {w0 : World} (hgd : o.guard = none) (s y : Operand) (T : TypeId)
    (hop : o.op = .call { callee := .builtin .append, args := #[s, y], argTypes := #[T, T] })
    (e : TypeId) (z : Value) (ht : P.underlying T = some (.slice e)) (hinfo : (P.info? e).map (fun i => (i.zero, i.size, i.bytes)) = some (some z, 1, 8)) (hzs : z.cells.size = 1)
    (b : Nat) (hs : a.eval s = .slice (some ⟨b, 0, none⟩) 0 0) (p : Option Addr) (n c : Nat) (hy : a.eval y = .slice p n c) (l : List Int)
    (hb : b = w0.heap.size) (h : SlRd 1 (rd tInt w0) w0 p n c l) (hl : l.length ≤ 17592186044416)
    (hK : ∀ p' cap w', FrIn (.slice e tInt) w0.heap.size w'.heap.size w' [.slice p' l.length cap] l → Below w0.heap.size w0 w' → wpList P ops Q rest (a.put o.dst (.slice p' l.length cap)) w') :
    wpList P ops Q (o :: rest) a (w0.alloc (.cells #[] e)) := by
  refine wpList_plain hgd fun K hKK => ?_
  obtain ⟨p', cap, w', hr, hf, hbl⟩ := run_copyInts (P := P) w0 T o.type e z ht hinfo hzs b hb p n c l _ rfl (SlRd.below (t := tInt) h ((Below.refl _ _).alloc (Nat.le_refl _) _)) hl
  unfold Oper.wp execOp
  simp only [hop, resolve, invoke, builtin, Sem.run_bind, Sem.run_pure, Result.andThen_ok, List.map_toArray, List.map_cons, List.map_nil, hs, hy, hr]
  exact hKK _ _ (hK p' cap w' hf hbl)
end

set_option maxRecDepth 100000 in
theorem copyInts_any (p : Option Addr) (n c : Nat) (l : List Int) (w : World) (h : SlRd 1 (rd tInt w) w p n c l) (hl : l.length ≤ 17592186044416) :
    Calls Try.prog 104 #[.slice p n c] w (RetSl 3 tInt w l) := by
  have H := Lib.hid h; clear h
  go_enter Try.func104, Try.ntmps104
  go_wp2_with (at_builtin; refine wpList_copyInts rfl (.tmp 3) (.tmp 4) 32 rfl 3 (.int .i64 0) Try.underlying32 (by kernel_rfl) rfl _ rfl p n c rfl l rfl (by exact H.out) hl ?_; intro p' cap w' hf hb)
  go_ret
  exact ⟨p', cap, rfl, hf, hb⟩

set_option maxRecDepth 100000 in
set_option maxHeartbeats 1000000 in
theorem copyRows_any (p : Option Addr) (len cap : Nat) (l : List tRow.D) (w : World) (h : SlRd tRow.n (rd tRow w) w p len cap l) (hz : szT (.slice 92 tRow) l ≤ 1000000000) :
    Calls Try.prog 90 #[.slice p len cap] w (RetSl 92 tRow w l) := by
  obtain rfl := h.lens
  rw [szT_slice] at hz
  go_enter Try.func90, Try.ntmps90
  go_wp2
  go_loopw [3, 9] (fun v i wr => ∃ k : Nat, k ≤ l.length ∧ i = .int .i64 k ∧ (∃ n p cap, v = .slice p n cap ∧ Hid (FrIn (.slice 92 tRow) w.heap.size wr.heap.size wr [.slice p n cap] (l.take k))) ∧ Below w.heap.size w wr) (fun _ i _ => l.length - (intOf i).toNat)
  case atStart => exact ⟨0, by omega, rfl, ⟨_, _, _, rfl, FrIn.empty rfl⟩, (Below.refl _ _).alloc (Nat.le_refl _) _⟩
  case round =>
    obtain ⟨k, hk, rfl, ⟨n, pv, cv, rfl, HF⟩, hb⟩ := hrel
    by_cases hlt : k < l.length
    · obtain ⟨b, off, rfl, hlb, cs, hcs, hc, hR⟩ := h.2.2.2.2 k hlt
      have hzk := sum_get_le (szT tRow) l k hlt
      have hsn := List.take_succ_eq_append_getElem hlt
      obtain ⟨x, hx⟩ : ∃ x : List Int, l[k] = x := ⟨_, rfl⟩
      rw [hx] at hR hzk hsn
      obtain ⟨q, qn, qc, rfl, hs⟩ := hR
      have c0 : wr.cell? ⟨b, off + k, none⟩ = some (.slice q qn qc) := (hb.cell hlb).trans (by have hh := hc 0 (by simp); rw [show Ty.n tRow = 1 from rfl] at hh; simpa using hh)
      have hxl : x.length ≤ 1000000000 := by have := szT_ints x; have : szT tRow x = szT tInts x := rfl; omega
      have HS := Lib.hid hs; have HN := Lib.hid hsn
      have htk : (l.take k).length ≤ 1000000000 := by have := List.length_take_le k l; omega
      have hbs := hb.size
      have hnl := HF.out.slen
      have HNL := Lib.hid hnl
      clear h hs hc hcs hx hsn hzk hnl
      go_wp2_with fail
      refine (copyInts_any q qn qc x _ (by exact SlRd.below (t := tInt) HS.out (hb.alloc hb.size _)) (by omega)).mono ?_
      rintro e w1 ⟨p1, c1, rfl, f1, b1⟩
      have hb1 : Below w.heap.size w w1 := (hb.alloc hb.size _).trans (b1.mono (by simp; omega))
      have F0 := Lib.hid ((HF.out.alloc (.cells #[.slice q qn qc] 92)).below b1 (by simp))
      have f1' : FrIn tRow wr.heap.size w1.heap.size w1 [.slice p1 x.length c1] x := f1.mono (by simp) (Nat.le_refl _) (Nat.le_refl _)
      have F1 := Lib.hid f1'
      clear f1 f1' HF
      go_wp2_with (at_builtin; refine wpList_app rfl (.tmp 13) (.tmp 18) 35 rfl 92 (.agg #[.slice none 0 0]) tRow 24 Try.underlying35 (by kernel_rfl) rfl _ rfl (l.take k) w.heap.size wr.heap.size w1.heap.size _ _ _ _ rfl x (by exact F0.out) hbs rfl (by exact F1.out) (by omega) (by simp only [maxLen]; omega) ?_; intro p2 cap2 w2 hf2 hb2 hk2 hsz2)
      go_roundw
      case rel =>
        refine ⟨k + 1, by omega, by go_num, ⟨_, _, _, rfl, ?_⟩, hb1.trans hb2⟩
        show FrIn _ _ _ _ _ _
        rw [HN.out]
        rw [List.length_take, Nat.min_eq_left hk] at hf2
        exact hf2
      case measure => simp [intOf]; omega
    · clear h
      go_wp2
      go_ret
      have e1 : l.take k = l := List.take_of_length_le (by omega)
      have hf := HF.out
      have hnl := hf.slen
      rw [e1] at hf hnl
      subst hnl
      exact ⟨_, _, rfl, hf, hb⟩

set_option maxRecDepth 100000 in
set_option maxHeartbeats 1000000 in
theorem l11Rows_any (p : Option Addr) (len cap : Nat) (l : List tRow.D) (w : World) (h : SlRd tRow.n (rd tRow w) w p len cap l) (hz : szT (.slice 92 tRow) l ≤ 1000000000) :
    Calls Try.prog 83 #[.slice p len cap] w (RetSl 92 tRow w l) := by
  obtain rfl := h.lens
  rw [szT_slice] at hz
  go_enter Try.func83, Try.ntmps83
  go_wp2
  go_loopw [3, 4] (fun v i wr => ∃ k : Nat, k ≤ l.length ∧ i = .int .i64 k ∧ (∃ n p cap, v = .slice p n cap ∧ Hid (FrIn (.slice 92 tRow) w.heap.size wr.heap.size wr [.slice p n cap] (l.take k))) ∧ Below w.heap.size w wr) (fun _ i _ => l.length - (intOf i).toNat)
  case atStart => exact ⟨0, by omega, rfl, ⟨_, _, _, rfl, FrIn.empty rfl⟩, (Below.refl _ _).alloc (Nat.le_refl _) _⟩
  case round =>
    obtain ⟨k, hk, rfl, ⟨n, pv, cv, rfl, HF⟩, hb⟩ := hrel
    by_cases hlt : k < l.length
    · obtain ⟨b, off, rfl, hlb, cs, hcs, hc, hR⟩ := h.2.2.2.2 k hlt
      have hzk := sum_get_le (szT tRow) l k hlt
      have hsn := List.take_succ_eq_append_getElem hlt
      obtain ⟨x, hx⟩ : ∃ x : List Int, l[k] = x := ⟨_, rfl⟩
      rw [hx] at hR hzk hsn
      obtain ⟨q, qn, qc, rfl, hs⟩ := hR
      have c0 : wr.cell? ⟨b, off + k, none⟩ = some (.slice q qn qc) := (hb.cell hlb).trans (by have hh := hc 0 (by simp); rw [show Ty.n tRow = 1 from rfl] at hh; simpa using hh)
      have hxl : x.length ≤ 1000000000 := by have := szT_ints x; have : szT tRow x = szT tInts x := rfl; omega
      have hlbr : b < wr.heap.size := by have := hb.size; omega
      have HS := Lib.hid hs; have HN := Lib.hid hsn
      have htk : (l.take k).length ≤ 1000000000 := by have := List.length_take_le k l; omega
      have hbs := hb.size
      clear h hs hc hcs hx hsn hzk
      go_wp2_with (first
        | (at_builtin; refine wpList_copyInts rfl (.tmp 13) (.tmp 18) 32 rfl 3 (.int .i64 0) Try.underlying32 (by kernel_rfl) rfl _ rfl q qn qc rfl x rfl (by exact SlRd.below (t := tInt) HS.out hb) (by omega) ?_; intro p1 c1 w1 f1 b1; have hb1 : Below w.heap.size w w1 := hb.trans (b1.mono hb.size); have F0 := Lib.hid (HF.out.below b1 (Nat.le_refl _)); have F1 : Hid (FrIn tRow wr.heap.size w1.heap.size w1 [.slice p1 x.length c1] x) := f1; clear f1)
        | (at_builtin; refine wpList_app rfl (.tmp 12) (.tmp 21) 35 rfl 92 (.agg #[.slice none 0 0]) tRow 24 Try.underlying35 (by kernel_rfl) rfl _ rfl (l.take k) w.heap.size wr.heap.size _ _ _ _ _ rfl x (by exact Hid.out (by assumption)) hbs rfl (by exact Hid.out (by assumption)) (by omega) (by simp only [maxLen]; omega) ?_; intro p2 cap2 w2 hf2 hb2 hk2 hsz2))
      go_roundw
      case rel =>
        refine ⟨k + 1, by omega, by go_num, ⟨_, _, _, rfl, ?_⟩, hb1.trans hb2⟩
        show FrIn _ _ _ _ _ _
        rw [HN.out]
        rw [List.length_take, Nat.min_eq_left hk] at hf2
        exact hf2
      case measure => simp [intOf]; omega
    · clear h
      go_wp2
      go_ret
      have e1 : l.take k = l := List.take_of_length_le (by omega)
      have hf := HF.out
      have hnl := hf.slen
      rw [e1] at hf hnl
      subst hnl
      exact ⟨_, _, rfl, hf, hb⟩
end Go.Proofs.Ytahggdiafncdhaa
