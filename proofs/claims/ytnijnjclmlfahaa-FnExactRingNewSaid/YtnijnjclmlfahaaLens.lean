/- Writing into a row of the call's own, one cell or one element's own rows at a time. Sizes; what a call that only writes into given blocks leaves alone. No program in sight. -/
import Derived.Test.YtnijnjclmlfahaaMake
namespace Go.Proofs.Ytnijnjclmlfahaa
open Go.ChangeShapes Go.WideShapes Go.ChangeAt Go.RowKit Go.Deep
set_option linter.unusedVariables false

section
variable {t : Ty} {e : TypeId} {w : World} {v : Value} {l : List t.D} {bl : List Nat}

theorem rep_lens (h : rep (.slice e t) w [v] l bl) (hnd : bl.Nodup) (k : Nat) (hk : k < l.length) :
    ∃ b cap c bk, v = .slice (some ⟨b, 0, none⟩) l.length cap ∧ b ∈ bl ∧ b < w.heap.size ∧ (∀ j, w.frozen? ⟨b, j, none⟩ = false) ∧ c.length = t.n ∧ (∀ j (hj : j < c.length), w.cell? ⟨b, k * t.n + j, none⟩ = some c[j]) ∧
      rep t w c l[k] bk ∧ (∀ q ∈ bk, q ∈ bl) ∧ bk.Nodup ∧ b ∉ bk ∧
      (∀ (w' : World) (x' : t.D), (∀ q, q ∉ bk → q < w.heap.size → w'.heap[q]? = w.heap[q]?) → rep t w' c x' bk → rep (.slice e t) w' [v] (l.set k x') bl) ∧
      (∀ (j : Nat) (u : Value) (x' : t.D), j < c.length → rep t w (c.set j u) x' bk → rep (.slice e t) (w.setCell ⟨b, k * t.n + j, none⟩ u) [v] (l.set k x') bl) := by
  obtain ⟨v0, xs, bl', hv, ho, hr, rfl⟩ := h
  obtain rfl : v = v0 := by simpa using hv
  have hlt := rep_lt (.slice e t) w [v] l _ ⟨v, xs, bl', rfl, ho, hr, rfl⟩
  obtain ⟨h1, ⟨rfl, hn⟩ | ⟨g, cap, cur, rfl, hg, hh, hc, hm, hcs, hx⟩⟩ := ho
  · omega
  · obtain ⟨xs1, c, xs2, b1, bk, b2, he, hl, hcl, rfl, hr1, hR, hr2⟩ := hr.split k hk
    have hnd' := hnd
    simp only [Value.ownBlock, Option.toList_some, List.singleton_append, List.nodup_cons, List.mem_append, not_or, List.nodup_append] at hnd'
    obtain ⟨⟨nb1, nbk, nb2⟩, n1, ⟨nk, n2, d2⟩, d1⟩ := hnd'
    refine ⟨g, cap, c, bk, rfl, by simp [Value.ownBlock], (Array.getElem?_eq_some_iff.1 hh).1, fun j => by simp [World.frozen?, hh], hcl, fun j hj => ?_, hR, fun q hq => by simp [hq], nk, nbk, ?_, ?_⟩
    · have h2 : xs[k * t.n + j]? = some c[j] := by
        rw [he, List.getElem?_append_right (by omega), List.getElem?_append_left (by omega), hl, Nat.add_sub_cancel_left, List.getElem?_eq_getElem hj]
      have h3 : cur[k * t.n + j]? = some c[j] := by
        rw [← hx, List.getElem?_take] at h2
        split at h2
        · simpa using h2
        · cases h2
      simp [World.cell?, hh, h3]
    · intro w' x' hw' hx'
      have hsub : ∀ q, q ∈ b1 ∨ q ∈ b2 → w'.heap[q]? = w.heap[q]? := fun q hq => by
        refine hw' q (fun hqb => ?_) ?_
        · rcases hq with hq | hq
          · exact d1 q hq q (.inl hqb) rfl
          · exact d2 q hqb q hq rfl
        · refine hlt q ?_
          rcases hq with hq | hq <;> simp [hq]
      refine ⟨_, xs1 ++ (c ++ xs2), b1 ++ (bk ++ b2), rfl, ⟨by rw [List.length_set, ← h1, he], .inr ⟨g, cap, cur, by simp, Nat.zero_le _, (hw' g nbk (hlt g (by simp [Value.ownBlock]))).trans hh, by simpa using hc, hm, hcs, by rw [List.length_set, hx, he]⟩⟩, ?_, rfl⟩
      refine RepL.join hk hcl (hr1.mono (fun c y bb hq hy => rep_keep _ _ _ _ (fun q hqb => hsub q (.inl (hq q hqb))) hy)) hx' (hr2.mono (fun c y bb hq hy => rep_keep _ _ _ _ (fun q hqb => hsub q (.inr (hq q hqb))) hy))
    · intro j u x' hj hx'
      have hsub : ∀ q, q ∈ b1 ∨ q ∈ bk ∨ q ∈ b2 → (w.setCell ⟨g, k * t.n + j, none⟩ u).heap[q]? = w.heap[q]? := fun q hq => by
        refine Below.heap_setCell _ _ _ _ (fun e => ?_)
        obtain rfl : q = g := e
        rcases hq with hq | hq | hq
        · exact nb1 hq
        · exact nbk hq
        · exact nb2 hq
      have hle : k * t.n + t.n ≤ l.length * t.n := by
        have : (k + 1) * t.n ≤ l.length * t.n := Nat.mul_le_mul_right _ (by omega)
        rw [Nat.add_mul] at this; omega
      refine ⟨_, xs1 ++ (c.set j u ++ xs2), b1 ++ (bk ++ b2), rfl, ⟨?_, .inr ⟨g, cap, cur.setIfInBounds (k * t.n + j) u, by simp, Nat.zero_le _, setCell_block u hh, by simpa using hc, hm, by simpa using hcs, ?_⟩⟩, ?_, rfl⟩
      · have := congrArg List.length he
        simp only [List.length_append, h1] at this
        simp only [List.length_append, List.length_set]; omega
      · rw [List.length_set, Array.toList_setIfInBounds, List.take_set, hx, he]
        rw [List.set_append_right _ _ (by omega), List.set_append_left _ _ (by omega)]
        congr 3
        omega
      · refine RepL.join hk (by simpa using hcl) (hr1.mono (fun c y bb hq hy => rep_keep _ _ _ _ (fun q hqb => hsub q (.inl (hq q hqb))) hy)) (rep_keep _ _ _ _ (fun q hqb => hsub q (.inr (.inl hqb))) hx') (hr2.mono (fun c y bb hq hy => rep_keep _ _ _ _ (fun q hqb => hsub q (.inr (.inr (hq q hqb)))) hy))
end

/-- w' is w but for the blocks bl (and new blocks). -/
structure Only (bl : List Nat) (w w' : World) : Prop where
  os : w'.os = w.os
  tape : w'.tape = w.tape
  output : w'.output = w.output
  size : w.heap.size ≤ w'.heap.size
  block : ∀ q, q ∉ bl → q < w.heap.size → w'.heap[q]? = w.heap[q]?

section
variable {bl bl' : List Nat} {w w' w'' : World}
theorem Only.refl (bl : List Nat) (w : World) : Only bl w w := ⟨rfl, rfl, rfl, Nat.le_refl _, fun _ _ _ => rfl⟩
theorem Only.trans (h : Only bl w w') (k : Only bl w' w'') : Only bl w w'' :=
  ⟨k.os.trans h.os, k.tape.trans h.tape, k.output.trans h.output, Nat.le_trans h.size k.size, fun q hq hz => (k.block q hq (Nat.lt_of_lt_of_le hz h.size)).trans (h.block q hq hz)⟩
theorem Only.mono (h : Only bl w w') (hb : ∀ q ∈ bl, q ∈ bl') : Only bl' w w' := ⟨h.os, h.tape, h.output, h.size, fun q hq hz => h.block q (fun hm => hq (hb q hm)) hz⟩
theorem Only.setCell (h : Only bl w w') {p : Addr} (hp : p.block ∈ bl) (u : Value) : Only bl w (w'.setCell p u) :=
  h.trans ⟨rfl, rfl, rfl, by simp [World.setCell], fun q hq _ => Below.heap_setCell _ _ _ _ (fun e => hq (e ▸ hp))⟩
theorem Only.alloc (h : Only bl w w') (o : Obj) : Only bl w (w'.alloc o) :=
  h.trans ⟨rfl, rfl, rfl, by simp, fun q hq hz => Below.heap_alloc _ _ _ hz⟩
theorem Only.drew (h : Only bl w w') : Only bl w w'.drew := ⟨h.os, h.tape, h.output, h.size, h.block⟩
theorem Only.of_below {B : Nat} (h : Below B w w') (hB : B = w.heap.size) : Only bl w w' := ⟨h.os, h.tape, h.output, h.size, fun q _ hz => h.block q (by omega)⟩
theorem Only.below {B : Nat} (h : Only bl w w') (hb : ∀ q ∈ bl, B ≤ q) (hB : B ≤ w.heap.size) : Below B w w' :=
  ⟨h.os, h.tape, h.output, h.size, fun k hk => h.block k (fun hm => by have := hb k hm; omega) (by omega)⟩
theorem Only.setCell_new (h : Only bl w w') {p : Addr} (hp : w.heap.size ≤ p.block) (u : Value) : Only bl w (w'.setCell p u) :=
  ⟨h.os, h.tape, h.output, by simpa [World.setCell] using h.size, fun q hq hz => (Below.heap_setCell _ _ _ _ (by omega)).trans (h.block q hq hz)⟩
end

theorem set_mix {α : Type} (A l : List α) (k : Nat) (hk : k < l.length) (hA : A.length = l.length) (x : α) (hx : A[k]'(by omega) = x) : (A.take k ++ l.drop k).set k x = A.take (k + 1) ++ l.drop (k + 1) := by
  have h1 : (A.take k).length = k := by simp; omega
  rw [List.set_append_right _ _ (by omega), h1, Nat.sub_self, List.drop_eq_getElem_cons hk, List.set_cons_zero, List.take_succ_eq_append_getElem (by omega), hx]
  simp

theorem set_zero {α : Type} (l : List α) (z : α) (k : Nat) (hk : k < l.length) : (l.take k ++ List.replicate (l.length - k) z).set k l[k] = l.take (k + 1) ++ List.replicate (l.length - (k + 1)) z := by
  have h1 : (l.take k).length = k := by simp; omega
  rw [List.set_append_right _ _ (by omega), h1, Nat.sub_self, show l.length - k = l.length - (k + 1) + 1 by omega, List.replicate_succ, List.set_cons_zero, List.take_succ_eq_append_getElem hk, List.append_assoc, List.singleton_append]

theorem get_mix {α : Type} (A l : List α) (k : Nat) (hk : k < l.length) (hA : A.length = l.length) : (A.take k ++ l.drop k)[k]'(by simp; omega) = l[k] := by
  have h1 : (A.take k).length = k := by simp; omega
  rw [List.getElem_append_right (by omega)]
  simp [h1]

theorem rep_len {t : Ty} {e : TypeId} {w : World} {p : Option Addr} {len cap : Nat} {l : List t.D} {bl : List Nat} (h : rep (.slice e t) w [.slice p len cap] l bl) : len = l.length ∧ len ≤ maxLen := by
  obtain ⟨v0, xs, bl', hv, ho, hr, rfl⟩ := h
  obtain rfl : Value.slice p len cap = v0 := by simpa using hv
  obtain ⟨h1, ⟨h0, hn⟩ | ⟨g, cap', cur, hv', hg, hh, hc, hm, hcs, hx⟩⟩ := ho
  · simp only [Value.slice.injEq] at h0
    exact ⟨by omega, by omega⟩
  · simp only [Value.slice.injEq] at hv'
    exact ⟨by omega, by omega⟩

/-! ### sizes -/

/-- The sum of all slices' lengths. -/
def szT : (t : Ty) → t.D → Nat
  | .int _, _ => 0
  | .bool, _ => 0
  | .str, _ => 0
  | .slice _ t, l => List.length l + (l.map (szT t)).sum
  | .pair a b, x => szT a x.1 + szT b x.2

theorem szT_slice (e : TypeId) (t : Ty) (l : List t.D) : szT (.slice e t) l = l.length + (l.map (szT t)).sum := rfl

def szR (left : Int) (n : Nat) : Int := if (n : Int) ≤ left then left - n else -1

theorem szR_pos {left : Int} {n : Nat} (h : (n : Int) ≤ left) : szR left n = left - n := if_pos h
theorem szR_neg {left : Int} {n : Nat} (h : ¬ (n : Int) ≤ left) : szR left n = -1 := if_neg h
theorem sum_zero {α : Type} (f : α → Nat) (l : List α) (h : ∀ x, f x = 0) : (l.map f).sum = 0 := by
  induction l with
  | nil => rfl
  | cons a m ih => rw [List.map_cons, List.sum_cons, ih, h]

theorem sum_take_succ {α : Type} (f : α → Nat) (l : List α) (k : Nat) (h : k < l.length) : ((l.take (k + 1)).map f).sum = ((l.take k).map f).sum + f l[k] := by
  rw [List.take_succ_eq_append_getElem h, List.map_append, List.sum_append]; simp only [List.map_cons, List.map_nil, List.sum_cons, List.sum_nil, Nat.add_zero]

theorem sum_take_le {α : Type} (f : α → Nat) (l : List α) (k : Nat) : ((l.take k).map f).sum ≤ (l.map f).sum := by
  conv => rhs; rw [← List.take_append_drop k l, List.map_append, List.sum_append]
  omega

theorem sum_get_le {α : Type} (f : α → Nat) (l : List α) (k : Nat) (h : k < l.length) : f l[k] ≤ (l.map f).sum := by
  have h1 := sum_take_succ f l k h
  have h2 := sum_take_le f l (k + 1)
  omega

/-! ### marks: what the laws write into what was handed back -/

/-- How many numbers and flags an element in a row has. -/
def cnt : (t : Ty) → t.D → Nat
  | .int _, _ => 1
  | .bool, _ => 1
  | .str, _ => 1
  | .slice _ t, l => (l.map (cnt t)).sum
  | .pair a b, x => cnt a x.1 + cnt b x.2

def mkList {α : Type} (f : α → Int → α) (c : α → Nat) : List α → Int → List α
  | [], _ => []
  | x :: l, k => f x k :: mkList f c l (k + (c x : Int))

/-- What stands there behind the marks. -/
def mk : (t : Ty) → t.D → Int → t.D
  | .int _, _, k => k
  | .bool, _, k => decide (k % 3 = 0)
  | .str, s, _ => s
  | .slice _ t, l, k => mkList (mk t) (cnt t) l k
  | .pair a b, x, k => (mk a x.1 k, mk b x.2 (k + (cnt a x.1 : Int)))

theorem mkList_length {α : Type} (f : α → Int → α) (c : α → Nat) : (l : List α) → (k : Int) → (mkList f c l k).length = l.length
  | [], k => rfl
  | x :: l, k => by simp [mkList, mkList_length f c l]

theorem mkList_get {α : Type} (f : α → Int → α) (c : α → Nat) : (l : List α) → (k : Int) → (i : Nat) → (h : i < l.length) → (h' : i < (mkList f c l k).length) → (mkList f c l k)[i] = f l[i] (k + (((l.take i).map c).sum : Int))
  | [], k, i, h, _ => by simp at h
  | x :: l, k, 0, h, _ => by simp [mkList]
  | x :: l, k, i + 1, h, h' => by
    simp only [mkList, List.getElem_cons_succ, List.take_succ_cons, List.map_cons, List.sum_cons]
    rw [mkList_get f c l _ i (by simpa using h)]
    congr 1
    omega
end Go.Proofs.Ytnijnjclmlfahaa
