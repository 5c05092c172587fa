/- The laws' own helpers over rows of numbers: copy, compare, count, mark, look at the marks. -/
import Derived.Test.YtnijnjclmlfahaaLens
import Derived.Outline
namespace Go.Proofs.Ytnijnjclmlfahaa
open Go.ChangeShapes Go.WideShapes Go.ChangeAt Go.RowKit
set_option linter.unusedVariables false

theorem i64_of {a0 : Int} (w0 : (Lit.int .i64 a0).wf = true) : -9223372036854775808 ≤ a0 ∧ a0 ≤ 9223372036854775807 := by
  simpa [Lit.wf, IntKind.min, IntKind.max, IntKind.signed, IntKind.bits] using w0

theorem wf_i64 {a0 : Int} (h : -9223372036854775808 ≤ a0 ∧ a0 ≤ 9223372036854775807) : (Lit.int .i64 a0).wf = true := by
  simpa [Lit.wf, IntKind.min, IntKind.max, IntKind.signed, IntKind.bits] using h

theorem wrap64_id {x : Int} (h1 : -9223372036854775808 ≤ x) (h2 : x ≤ 9223372036854775807) : wrap64 x = x := by unfold wrap64; omega

def RetV (v : Value) (w : World) (r : Ending) (w' : World) : Prop := r = .returned v ∧ Below w.heap.size w w'
def RetSl (e : TypeId) (t : Ty) (w : World) (l : List t.D) (r : Ending) (w' : World) : Prop :=
  ∃ p cap, r = .returned (.slice p l.length cap) ∧ FrIn (.slice e t) w.heap.size w'.heap.size w' [.slice p l.length cap] l ∧ Below w.heap.size w w'
def RetAg (t : Ty) (w : World) (d : t.D) (r : Ending) (w' : World) : Prop :=
  ∃ cs : Array Value, r = .returned (.agg cs) ∧ FrIn t w.heap.size w'.heap.size w' cs.toList d ∧ Below w.heap.size w w'
/-- Marks: the number behind, what then stands there, and nothing else written. -/
def RetMk (t : Ty) (w : World) (cs : List Value) (d : t.D) (bl : List Nat) (n : Int) (r : Ending) (w' : World) : Prop :=
  r = .returned (.int .i64 n) ∧ rep t w' cs d bl ∧ Only bl w w'

theorem ret_int {k : IntKind} {a b : Int} (h : a = b) : Ending.returned (.int k a) = .returned (.int k b) := by rw [h]
theorem ret_bool {a b : Bool} (h : a = b) : Ending.returned (.bool a) = .returned (.bool b) := by rw [h]

theorem bcell {W w1 : World} (hb : Below W.heap.size W w1) : (∀ b o, b < W.heap.size → w1.cell? ⟨b, o, none⟩ = W.cell? ⟨b, o, none⟩) ∧ (∀ b o, b < W.heap.size → w1.frozen? ⟨b, o, none⟩ = W.frozen? ⟨b, o, none⟩) :=
  ⟨fun b o h => hb.cell (p := ⟨b, o, none⟩) h, fun b o h => hb.frozen (p := ⟨b, o, none⟩) h⟩

theorem arr_of {cs : Array Value} {l : List Value} (h : cs.toList = l) : cs = l.toArray := by rw [← h]

theorem SlRd.below {t : Ty} {w w' : World} {p : Option Addr} {len cap : Nat} {l : List t.D} (h : SlRd t.n (rd t w) w p len cap l) (hb : Below w.heap.size w w') : SlRd t.n (rd t w') w' p len cap l :=
  h.mono (Below.keeps hb) (fun cs x hx => rd_mono (Below.keeps hb) t cs x hx)

theorem rd_below {t : Ty} {w w' : World} {cs : List Value} {d : t.D} (h : rd t w cs d) (hb : Below w.heap.size w w') : rd t w' cs d := rd_mono (Below.keeps hb) t cs d h

/-- What a result of the call's own reads as. -/
theorem fr_sl {e : TypeId} {t : Ty} {lo hi : Nat} {w : World} {p : Option Addr} {len cap : Nat} {l : List t.D} (h : FrIn (.slice e t) lo hi w [.slice p len cap] l) : SlRd t.n (rd t w) w p len cap l := by
  obtain ⟨p', len', cap', hv, hs⟩ := h.rd
  simp only [List.cons.injEq, Value.slice.injEq, and_true] at hv
  obtain ⟨rfl, rfl, rfl⟩ := hv
  exact hs

theorem FrIn.set1 {t : Ty} {lo hi : Nat} {w : World} {cs : List Value} {d : t.D} (h : FrIn t lo hi w cs d) {a : Addr} (ha : a.block < lo ∨ hi ≤ a.block) (v : Value) : FrIn t lo hi (w.setCell a v) cs d :=
  h.keep (fun b h1 h2 => Below.heap_setCell _ _ _ _ (by omega)) (by simp [World.setCell])
theorem FrIn.alloc {t : Ty} {lo hi : Nat} {w : World} {cs : List Value} {d : t.D} (h : FrIn t lo hi w cs d) (o : Obj) : FrIn t lo hi (w.alloc o) cs d :=
  h.keep (fun b h1 h2 => Below.heap_alloc _ _ _ (by have := h.hi_le; omega)) (by simp)

abbrev tInt : Ty := .int .i64
abbrev tInts : Ty := .slice 3 tInt

theorem SlRd.lens {α : Type} {n : Nat} {R : List Value → α → Prop} {w : World} {p : Option Addr} {len cap : Nat} {l : List α} (h : SlRd n R w p len cap l) : len = l.length := h.1

/-- One number of a row. -/
theorem int_at {w : World} {p : Option Addr} {len cap : Nat} {l : List Int} (h : SlRd 1 (rd tInt w) w p len cap l) (k : Nat) (hk : k < l.length) :
    ∃ b off, p = some ⟨b, off, none⟩ ∧ b < w.heap.size ∧ w.cell? ⟨b, off + k, none⟩ = some (.int .i64 l[k]) ∧ -9223372036854775808 ≤ l[k] ∧ l[k] ≤ 9223372036854775807 := by
  obtain ⟨b, off, hp, hb, cs, hl, hc, rfl, hw⟩ := h.2.2.2.2 k hk
  exact ⟨b, off, hp, hb, by simpa using hc 0 (by simp), (i64_of hw).1, (i64_of hw).2⟩

theorem toIntS_any (p : Option Addr) (len cap : Nat) (l : List Int) (w : World) (h : SlRd 1 (rd tInt w) w p len cap l) (hlen : l.length ≤ 1048576) :
    Calls Try.prog 91 #[.slice p len cap] w (RetSl 3 tInt w l) := by
  obtain rfl := h.lens
  have hmk := run_make_fr Try.prog 69 3 (.int .i64 0) 8 tInt Try.underlying69 (by kernel_rfl) rfl l.length (by omega) (by omega)
  go_enter Try.func91, Try.ntmps91
  go_wp2
  go_loopw [4] (fun i wr => ∃ k : Nat, k ≤ l.length ∧ i = .int .i64 k ∧ Below w.heap.size w wr ∧ FrIn tInts w.heap.size wr.heap.size wr [.slice (some ⟨w.heap.size, 0, none⟩) l.length l.length] (l.take k ++ List.replicate (l.length - k) (0 : Int))) (fun i _ => l.length - (intOf i).toNat)
  case atStart => exact ⟨0, by omega, rfl, (Below.refl _ _).alloc (Nat.le_refl _) _, (FrIn.made w tInt _ l.length (by simp [maxLen]; omega)).mono (Nat.le_refl _) (by simp) (Nat.le_refl _)⟩
  case round =>
    obtain ⟨k, hk, rfl, hb, hf⟩ := hrel
    by_cases hlt : k < l.length
    · obtain ⟨b, off, rfl, hlb, hc, hw1, hw2⟩ := int_at h k hlt
      have c1 : wr.cell? ⟨b, off + k, none⟩ = some (.int .i64 l[k]) := (hb.cell hlb).trans hc
      obtain ⟨b', cap', hv, _, _, hfz, c, hcl, hcc, _⟩ := hf.at k (by simp; omega)
      simp only [Value.slice.injEq, Option.some.injEq, Addr.mk.injEq, and_true] at hv
      obtain ⟨rfl, -, rfl⟩ := hv
      have c2 : wr.cell? ⟨w.heap.size, k, none⟩ = some (c[0]'(by rw [hcl]; exact Nat.one_pos)) := by simpa [Ty.n] using hcc 0 (by rw [hcl]; exact Nat.one_pos)
      have c3 := hfz k
      have HF := Lib.hid hf
      clear h hc hcc hfz hf
      go_wp2
      go_roundw
      case rel =>
        refine ⟨k + 1, by omega, by go_num, hb.setCell (Nat.le_refl _) _, ?_⟩
        have h1 := HF.out.set k (by simp; omega) (hb.size) (Nat.le_refl _) (FrIn.int (wf_i64 ⟨hw1, hw2⟩) (Nat.le_refl _))
        simp only [Ty.n, Nat.mul_one, setCells] at h1
        rw [set_zero l (0 : Int) k hlt] at h1
        simpa [World.setCell] using h1
      case measure => simp [intOf]; omega
    · clear h
      go_wp2
      go_ret
      obtain rfl : k = l.length := by omega
      exact ⟨_, _, rfl, by simpa using hf, hb⟩

theorem eqIntS_any (p q : Option Addr) (len cap len' cap' : Nat) (l : List Int) (w : World) (h : SlRd 1 (rd tInt w) w p len cap l) (h' : SlRd 1 (rd tInt w) w q len' cap' l) :
    Calls Try.prog 95 #[.slice p len cap, .slice q len' cap'] w (RetV (.bool true) w) := by
  obtain rfl := h.lens
  obtain rfl := h'.lens
  have hmx : l.length ≤ maxLen := by have := h.2.1; have := h.2.2.1; omega
  unfold maxLen at hmx
  go_enter Try.func95, Try.ntmps95
  go_wp2
  go_loopw [5] (fun i wr => ∃ k : Nat, k ≤ l.length ∧ i = .int .i64 k ∧ Below w.heap.size w wr) (fun i _ => l.length - (intOf i).toNat)
  case atStart => exact ⟨0, by omega, rfl, Below.refl _ _⟩
  case round =>
    obtain ⟨k, hk, rfl, hb⟩ := hrel
    by_cases hlt : k < l.length
    · obtain ⟨b, off, rfl, hlb, hc, hw1, hw2⟩ := int_at h k hlt
      obtain ⟨b2, off2, rfl, hlb2, hc2, -, -⟩ := int_at h' k hlt
      have c1 : wr.cell? ⟨b, off + k, none⟩ = some (.int .i64 l[k]) := (hb.cell hlb).trans hc
      have c2 : wr.cell? ⟨b2, off2 + k, none⟩ = some (.int .i64 l[k]) := (hb.cell hlb2).trans hc2
      clear h h' hc hc2
      go_wp2
      go_quiet (fail)
      go_wp2
      go_roundw
      case rel => exact ⟨k + 1, by omega, by go_num, below_drewN hb _⟩
      case measure => simp [intOf]; omega
    · clear h h'
      go_wp2
      go_ret
      exact ⟨rfl, hb⟩

theorem szIntS_any (p : Option Addr) (len cap : Nat) (left : Int) (w : World) (h1 : len ≤ maxLen) (h0 : 0 ≤ left) (h2 : left ≤ 9223372036854775807) :
    Calls Try.prog 87 #[.slice p len cap, .int .i64 left] w (RetV (.int .i64 (szR left len)) w) := by
  unfold maxLen at h1
  by_cases hc : (len : Int) ≤ left
  · have hc2 : ¬ (left - len < 0) := by omega
    go_enter Try.func87, Try.ntmps87
    go_wp2
    go_ret
    exact ⟨ret_int (by unfold szR; rw [if_pos (by omega)]), Below.refl _ _⟩
  · have hc2 : left - len < 0 := by omega
    go_enter Try.func87, Try.ntmps87
    go_wp2
    go_ret
    exact ⟨ret_int (by unfold szR; rw [if_neg (by omega)]), Below.refl _ _⟩

theorem szIntS_ok (p : Option Addr) (len cap : Nat) (left : Int) (w : World) (h1 : len ≤ maxLen) (h0 : 0 ≤ left) (h2 : left ≤ 9223372036854775807) (h : (len : Int) ≤ left) :
    Calls Try.prog 87 #[.slice p len cap, .int .i64 left] w (RetV (.int .i64 (left - len)) w) := by
  have := szIntS_any p len cap left w h1 h0 h2
  rwa [szR_pos h] at this
theorem szIntS_no (p : Option Addr) (len cap : Nat) (left : Int) (w : World) (h1 : len ≤ maxLen) (h0 : 0 ≤ left) (h2 : left ≤ 9223372036854775807) (h : ¬ (len : Int) ≤ left) :
    Calls Try.prog 87 #[.slice p len cap, .int .i64 left] w (RetV (.int .i64 (-1)) w) := by
  have := szIntS_any p len cap left w h1 h0 h2
  rwa [szR_neg h] at this

theorem szT_ints (l : List Int) : szT tInts l = l.length := by
  rw [szT_slice, sum_zero (szT tInt) l (fun _ => rfl)]; rfl

theorem sum_one (l : List Int) : (l.map (cnt tInt)).sum = l.length := by
  induction l with
  | nil => rfl
  | cons a m ih =>
    rw [List.map_cons, List.sum_cons, ih, List.length_cons]
    show 1 + _ = _
    omega

theorem mk_ints (l : List Int) (k0 : Int) (k : Nat) (hk : k < l.length) : (mk tInts l k0)[k]'(by show k < (mkList _ _ _ _).length; rw [mkList_length]; exact hk) = k0 + k := by
  show (mkList (mk tInt) (cnt tInt) l k0)[k]'_ = _
  rw [mkList_get _ _ _ _ _ hk]
  show k0 + _ = _
  rw [sum_one, List.length_take, Nat.min_eq_left (by omega)]

theorem mk_ints_length (l : List Int) (k0 : Int) : (mk tInts l k0 : List Int).length = l.length := mkList_length _ _ _ _

theorem cnt_ints (l : List Int) : cnt tInts l = l.length := sum_one l

theorem markIntS_any (p : Option Addr) (len cap : Nat) (k0 : Int) (l : List Int) (bl : List Nat) (w : World) (h : rep tInts w [.slice p len cap] l bl) (hnd : bl.Nodup) (h0 : 0 ≤ k0) (h1 : k0 + l.length ≤ 1000000000000) :
    Calls Try.prog 120 #[.slice p len cap, .int .i64 k0] w (RetMk tInts w [.slice p len cap] (mk tInts l k0) bl (k0 + (cnt tInts l : Int))) := by
  obtain ⟨rfl, hmx⟩ := rep_len h
  have HL := Lib.hid (mk_ints_length l k0)
  unfold maxLen at hmx
  go_enter Try.func120, Try.ntmps120
  go_wp2
  go_loopw [1, 5] (fun q i wr => ∃ k : Nat, k ≤ l.length ∧ i = .int .i64 k ∧ q = .int .i64 (k0 + k) ∧ Only bl w wr ∧ rep tInts wr [.slice p l.length cap] ((mk tInts l k0 : List Int).take k ++ l.drop k) bl) (fun _ i _ => l.length - (intOf i).toNat)
  case atStart => exact ⟨0, by omega, rfl, by simp, Only.refl _ _, by simpa using h⟩
  case round =>
    obtain ⟨k, hk, rfl, rfl, hb, hf⟩ := hrel
    clear h
    by_cases hlt : k < l.length
    · have hkk : k < ((mk tInts l k0 : List Int).take k ++ l.drop k).length := by simp only [List.length_append, List.length_take, List.length_drop, HL.out]; omega
      obtain ⟨b, cap', c, bk, hv, hbm, -, hfz, hcl, hc, hR, -, -, -, -, hU⟩ := rep_lens hf hnd k hkk
      simp only [Value.slice.injEq] at hv
      obtain ⟨rfl, -, -⟩ := hv
      obtain ⟨rfl, _, rfl⟩ := hR
      have c1 : wr.cell? ⟨b, k, none⟩ = some (.int .i64 l[k]) := by
        have := hc 0 (by simp)
        simp only [Ty.n, Nat.mul_one, Nat.add_zero, List.getElem_cons_zero] at this
        rw [this, get_mix _ _ _ hlt HL.out]
      have c2 := hfz k
      have HU := Lib.hid (hU 0 (.int .i64 (k0 + k)) (k0 + k) (by simp) ⟨rfl, wf_i64 (by omega), rfl⟩)
      have HM := Lib.hid (mk_ints l k0 k hlt)
      clear hU hc hfz hf
      go_wp2
      go_roundw
      case rel =>
        refine ⟨k + 1, by omega, by go_num, by go_num, hb.setCell hbm _, ?_⟩
        have h2 := HU.out
        rw [set_mix _ _ _ hlt HL.out _ HM.out] at h2
        simpa [Ty.n] using h2
      case measure => simp [intOf]; omega
    · go_wp2
      go_ret
      obtain rfl : k = l.length := by omega
      refine ⟨ret_int (by rw [cnt_ints]), ?_, hb⟩
      have e1 : (mk tInts l k0 : List Int).take l.length ++ l.drop l.length = mk tInts l k0 := by
        rw [List.drop_length, List.append_nil, List.take_of_length_le (by rw [HL.out]; exact Nat.le_refl _)]
      rw [e1] at hf
      exact hf

theorem heldIntS_any (p : Option Addr) (len cap : Nat) (k0 : Int) (l : List Int) (w : World) (h : SlRd 1 (rd tInt w) w p len cap (mk tInts l k0)) (h0 : 0 ≤ k0) (h1 : k0 + l.length ≤ 1000000000000) :
    Calls Try.prog 125 #[.slice p len cap, .int .i64 k0] w (RetV (.int .i64 (k0 + (cnt tInts l : Int))) w) := by
  have HL := mk_ints_length l k0
  obtain rfl : len = l.length := by rw [h.lens]; exact HL
  go_enter Try.func125, Try.ntmps125
  go_wp2
  go_loopw [1, 5] (fun q i wr => ∃ k : Nat, k ≤ l.length ∧ i = .int .i64 k ∧ q = .int .i64 (k0 + k) ∧ Below w.heap.size w wr) (fun _ i _ => l.length - (intOf i).toNat)
  case atStart => exact ⟨0, by omega, rfl, by simp, Below.refl _ _⟩
  case round =>
    obtain ⟨k, hk, rfl, rfl, hb⟩ := hrel
    by_cases hlt : k < l.length
    · obtain ⟨b, off, rfl, hlb, hc, hw1, hw2⟩ := int_at h k (by rw [HL]; exact hlt)
      have c1 : wr.cell? ⟨b, off + k, none⟩ = some (.int .i64 (k0 + k)) := (hb.cell hlb).trans (by rw [hc, mk_ints l k0 k hlt])
      clear h hc HL hw1 hw2
      go_wp2
      go_roundw
      case rel => exact ⟨k + 1, by omega, by go_num, by go_num, hb⟩
      case measure => simp [intOf]; omega
    · clear h HL
      go_wp2
      go_ret
      obtain rfl : k = l.length := by omega
      exact ⟨ret_int (by rw [cnt_ints]), hb⟩
end Go.Proofs.Ytnijnjclmlfahaa
