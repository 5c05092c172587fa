/- More on writing into rows of the call's own: a whole element at once. No program in sight. -/
import Derived.Test.YtnijnjclmlfahaaInts
namespace Go.Proofs.Ytnijnjclmlfahaa
open Go.ChangeShapes Go.WideShapes Go.ChangeAt Go.RowKit Go.Deep
set_option linter.unusedVariables false

section
variable {t : Ty} {e : TypeId} {w : World} {v : Value} {l : List t.D} {bl : List Nat}

/-- As rep_lens; all cells of an element are stored, in order. -/
theorem rep_lens_all (h : rep (.slice e t) w [v] l bl) (hnd : bl.Nodup) (k : Nat) (hk : k < l.length) :
    ∃ b cap c bk, v = .slice (some ⟨b, 0, none⟩) l.length cap ∧ b ∈ bl ∧ b < w.heap.size ∧ (∀ j, w.frozen? ⟨b, j, none⟩ = false) ∧ c.length = t.n ∧ (∀ j (hj : j < c.length), w.cell? ⟨b, k * t.n + j, none⟩ = some c[j]) ∧
      rep t w c l[k] bk ∧
      (∀ (c' : List Value) (x' : t.D), c'.length = t.n → rep t w c' x' bk → rep (.slice e t) (setCells w b (k * t.n) c') [v] (l.set k x') bl) := by
  obtain ⟨v0, xs, bl', hv, ho, hr, rfl⟩ := h
  obtain rfl : v = v0 := by simpa using hv
  obtain ⟨h1, ⟨rfl, hn⟩ | ⟨g, cap, cur, rfl, hg, hh, hc, hm, hcs, hx⟩⟩ := ho
  · omega
  · obtain ⟨xs1, c, xs2, b1, bk, b2, he, hl, hcl, rfl, hr1, hR, hr2⟩ := hr.split k hk
    have hnd' := hnd
    simp only [Value.ownBlock, Option.toList_some, List.singleton_append, List.nodup_cons, List.mem_append, not_or, List.nodup_append] at hnd'
    obtain ⟨⟨nb1, nbk, nb2⟩, n1, ⟨nk, n2, d2⟩, d1⟩ := hnd'
    refine ⟨g, cap, c, bk, rfl, by simp [Value.ownBlock], (Array.getElem?_eq_some_iff.1 hh).1, fun j => by simp [World.frozen?, hh], hcl, fun j hj => ?_, hR, ?_⟩
    · have h2 : xs[k * t.n + j]? = some c[j] := by
        rw [he, List.getElem?_append_right (by omega), List.getElem?_append_left (by omega), hl, Nat.add_sub_cancel_left, List.getElem?_eq_getElem hj]
      have h3 : cur[k * t.n + j]? = some c[j] := by
        rw [← hx, List.getElem?_take] at h2
        split at h2
        · simpa using h2
        · cases h2
      simp [World.cell?, hh, h3]
    · intro c' x' hc'l hx'
      have hle : k * t.n + t.n ≤ l.length * t.n := by
        have : (k + 1) * t.n ≤ l.length * t.n := Nat.mul_le_mul_right _ (by omega)
        rw [Nat.add_mul] at this; omega
      have hcc : l.length * t.n ≤ cap * t.n := Nat.mul_le_mul_right _ hc
      obtain ⟨cu, hcu, hcul⟩ := setCells_block c' w g (k * t.n) cur hh (by omega)
      have hsub : ∀ q, q ∈ b1 ∨ q ∈ bk ∨ q ∈ b2 → (setCells w g (k * t.n) c').heap[q]? = w.heap[q]? := fun q hq => by
        refine setCells_other _ _ _ _ _ (fun e => ?_)
        obtain rfl : q = g := e
        rcases hq with hq | hq | hq
        · exact nb1 hq
        · exact nbk hq
        · exact nb2 hq
      refine ⟨_, xs1 ++ (c' ++ xs2), b1 ++ (bk ++ b2), rfl, ⟨?_, .inr ⟨g, cap, cu, by simp, Nat.zero_le _, hcu, by simpa using hc, hm, ?_, ?_⟩⟩, ?_, rfl⟩
      · have := congrArg List.length he
        simp only [List.length_append, h1] at this
        simp only [List.length_append, List.length_set]; omega
      · have := congrArg List.length hcul
        simp only [Array.length_toList, List.length_append, List.length_take, List.length_drop] at this
        omega
      · rw [hcul, List.length_set]
        have e1 : xs1 = cur.toList.take (k * t.n) := by
          have := congrArg (List.take (k * t.n)) hx
          rw [he, List.take_left' hl, List.take_take, Nat.min_eq_left (by omega)] at this
          exact this.symm
        have e2 : xs2 = (cur.toList.drop (k * t.n + c'.length)).take (l.length * t.n - (k * t.n + c'.length)) := by
          have := congrArg (List.drop (k * t.n + c'.length)) hx
          rw [he, ← List.append_assoc, List.drop_left' (by simp [hl, hcl, hc'l]), List.drop_take] at this
          exact this.symm
        rw [← e1, List.take_append, hl, List.take_of_length_le (l := xs1) (by omega), List.take_append, List.take_of_length_le (l := c') (by omega), e2]
        congr 3
        omega
      · refine RepL.join hk hc'l (hr1.mono (fun c y bb hq hy => rep_keep _ _ _ _ (fun q hqb => hsub q (.inl (hq q hqb))) hy)) (rep_keep _ _ _ _ (fun q hqb => hsub q (.inr (.inl hqb))) hx') (hr2.mono (fun c y bb hq hy => rep_keep _ _ _ _ (fun q hqb => hsub q (.inr (.inr (hq q hqb)))) hy))
end

theorem rep_form {t : Ty} {e : TypeId} {w : World} {cs : List Value} {l : List t.D} {bl : List Nat} (h : rep (.slice e t) w cs l bl) : ∃ p n q, cs = [.slice p n q] := by
  obtain ⟨v, xs, bl', rfl, ho, _⟩ := h
  rcases ho.2 with ⟨rfl, _⟩ | ⟨g, cap, cur, rfl, _⟩
  · exact ⟨_, _, _, rfl⟩
  · exact ⟨_, _, _, rfl⟩

theorem Only.setCells {bl : List Nat} {w w' : World} : {vs : List Value} → {b off : Nat} → Only bl w w' → b ∈ bl → Only bl w (setCells w' b off vs)
  | [], b, off, h, hb => h
  | v :: vs, b, off, h, hb => Only.setCells (vs := vs) (h.setCell (p := ⟨b, off, none⟩) hb v) hb

theorem mk_length {t : Ty} {e : TypeId} (l : List t.D) (k0 : Int) : List.length (mk (.slice e t) l k0) = l.length := mkList_length _ _ _ _

theorem mk_get {t : Ty} {e : TypeId} (l : List t.D) (k0 : Int) (k : Nat) (hk : k < l.length) (h' : k < List.length (mk (.slice e t) l k0)) :
    (mk (.slice e t) l k0 : List t.D)[k] = mk t l[k] (k0 + (((l.take k).map (cnt t)).sum : Nat)) := mkList_get _ _ _ _ _ hk h'

theorem cnt_slice {t : Ty} {e : TypeId} (l : List t.D) : cnt (.slice e t) l = (l.map (cnt t)).sum := rfl

theorem rep_of_FrIn {t : Ty} {lo hi : Nat} {w : World} {cs : List Value} {d : t.D} (h : FrIn t lo hi w cs d) : ∃ bl, rep t w cs d bl ∧ bl.Nodup ∧ (∀ b ∈ bl, lo ≤ b ∧ b < hi) := by
  obtain ⟨bl, h1, h2, h3, _⟩ := h
  exact ⟨bl, h1, h2, h3⟩
theorem FrIn.only {t : Ty} {lo hi : Nat} {w w' : World} {cs : List Value} {d : t.D} {bl : List Nat} (h : FrIn t lo hi w cs d) (hw : Only bl w w') (hb : ∀ b ∈ bl, b < lo ∨ hi ≤ b) : FrIn t lo hi w' cs d :=
  h.keep (fun b h1 h2 => hw.block b (fun hm => by have := hb b hm; omega) (by have := h.hi_le; omega)) hw.size

theorem FrIn.of_rep {t : Ty} {lo hi : Nat} {w : World} {cs : List Value} {d : t.D} {bl : List Nat} (h : rep t w cs d bl) (hn : bl.Nodup) (hb : ∀ b ∈ bl, lo ≤ b ∧ b < hi) (hz : hi ≤ w.heap.size) : FrIn t lo hi w cs d :=
  ⟨bl, h, hn, hb, hz⟩
def Ty.scal : Ty → Nat
  | .slice _ _ => 0
  | .pair a b => a.scal + b.scal
  | _ => 1

def Ty.per : Ty → Nat
  | .slice _ t => max t.scal t.per
  | .pair a b => max a.per b.per
  | _ => 0

theorem cnt_le_gen : (t : Ty) → (d : t.D) → cnt t d ≤ t.scal + t.per * szT t d := by
  intro t
  induction t with
  | int k => intro d; exact Nat.le_add_right _ _
  | bool => intro d; exact Nat.le_add_right _ _
  | str => intro d; exact Nat.le_add_right _ _
  | slice e t ih =>
    intro l
    rw [cnt_slice, szT_slice]
    simp only [Ty.scal, Ty.per, Nat.zero_add]
    have h : ∀ m : List t.D, (m.map (cnt t)).sum ≤ max t.scal t.per * (m.length + (m.map (szT t)).sum) := by
      intro m
      induction m with
      | nil => simp
      | cons a m ihm =>
        rw [List.map_cons, List.sum_cons, List.map_cons, List.sum_cons, List.length_cons]
        have h1 := ih a
        have h2 : t.scal ≤ max t.scal t.per := Nat.le_max_left _ _
        have h3 : t.per * szT t a ≤ max t.scal t.per * szT t a := Nat.mul_le_mul_right _ (Nat.le_max_right _ _)
        have e1 : max t.scal t.per * (m.length + 1 + (szT t a + (m.map (szT t)).sum)) = max t.scal t.per + max t.scal t.per * szT t a + max t.scal t.per * (m.length + (m.map (szT t)).sum) := by
          rw [show m.length + 1 + (szT t a + (m.map (szT t)).sum) = 1 + szT t a + (m.length + (m.map (szT t)).sum) by omega, Nat.mul_add, Nat.mul_add, Nat.mul_one]
        omega
    exact h l
  | pair a b iha ihb =>
    intro x
    have h1 := iha x.1
    have h2 := ihb x.2
    have h3 : a.per * szT a x.1 ≤ max a.per b.per * szT a x.1 := Nat.mul_le_mul_right _ (Nat.le_max_left _ _)
    have h4 : b.per * szT b x.2 ≤ max a.per b.per * szT b x.2 := Nat.mul_le_mul_right _ (Nat.le_max_right _ _)
    show cnt a x.1 + cnt b x.2 ≤ a.scal + b.scal + max a.per b.per * (szT a x.1 + szT b x.2)
    rw [Nat.mul_add]
    omega

theorem cnt_le (e : TypeId) (t : Ty) (l : List t.D) (h : (Ty.slice e t).per ≤ 20) : cnt (.slice e t) l ≤ 20 * szT (.slice e t) l := by
  have h1 := cnt_le_gen (.slice e t) l
  have h2 : (Ty.slice e t).per * szT (.slice e t) l ≤ 20 * szT (.slice e t) l := Nat.mul_le_mul_right _ h
  have h3 : (Ty.slice e t).scal = 0 := rfl
  omega
theorem alloc_cell {w : World} {o : Obj} {a : Addr} (h : a.block < w.heap.size) : (w.alloc o).cell? a = w.cell? a :=
  World.cell?_of_block (Below.heap_alloc _ _ _ h)
/-- Of a struct by value only what its slices lead to is marked. -/
def cntt : (t : Ty) → t.D → Nat
  | .slice e t, l => cnt (.slice e t) l
  | .pair a b, x => cntt a x.1 + cntt b x.2
  | .int _, _ => 0
  | .bool, _ => 0
  | .str, _ => 0

def mkt : (t : Ty) → t.D → Int → t.D
  | .slice e t, l, k => mk (.slice e t) l k
  | .pair a b, x, k => (mkt a x.1 k, mkt b x.2 (k + (cntt a x.1 : Int)))
  | .int _, x, _ => x
  | .bool, x, _ => x
  | .str, x, _ => x

theorem cntt_le_gen : (t : Ty) → (d : t.D) → cntt t d ≤ t.per * szT t d := by
  intro t
  induction t with
  | int k => intro d; exact Nat.zero_le _
  | bool => intro d; exact Nat.zero_le _
  | str => intro d; exact Nat.zero_le _
  | slice e t ih =>
    intro l
    have h1 := cnt_le_gen (.slice e t) l
    have h3 : (Ty.slice e t).scal = 0 := rfl
    show cnt (.slice e t) l ≤ _
    omega
  | pair a b iha ihb =>
    intro x
    have h1 := iha x.1
    have h2 := ihb x.2
    have h3 : a.per * szT a x.1 ≤ max a.per b.per * szT a x.1 := Nat.mul_le_mul_right _ (Nat.le_max_left _ _)
    have h4 : b.per * szT b x.2 ≤ max a.per b.per * szT b x.2 := Nat.mul_le_mul_right _ (Nat.le_max_right _ _)
    show cntt a x.1 + cntt b x.2 ≤ max a.per b.per * (szT a x.1 + szT b x.2)
    rw [Nat.mul_add]
    omega

theorem cntt_le (t : Ty) (d : t.D) (h : t.per ≤ 20) : cntt t d ≤ 20 * szT t d :=
  Nat.le_trans (cntt_le_gen t d) (Nat.mul_le_mul_right _ h)

/-- Marks of a struct by value. -/
def RetMt (t : Ty) (w : World) (cs : List Value) (d : t.D) (bl : List Nat) (n : Int) (r : Ending) (w' : World) : Prop :=
  r = .returned (.int .i64 n) ∧ rep t w' cs d bl ∧ Only bl w w'

theorem nd_r {a b : List Nat} (h : (a ++ b).Nodup) : b.Nodup := (List.nodup_append.1 h).2.1
theorem nd_l {a b : List Nat} (h : (a ++ b).Nodup) : a.Nodup := (List.nodup_append.1 h).1
theorem nd_x {a b : List Nat} (h : (a ++ b).Nodup) {q : Nat} (h1 : q ∈ a) (h2 : q ∈ b) : False := (List.nodup_append.1 h).2.2 q h1 q h2 rfl

theorem Only.cell {bl : List Nat} {w w' : World} (h : Only bl w w') {a : Addr} (ha : a.block ∉ bl) (hz : a.block < w.heap.size) : w'.cell? a = w.cell? a :=
  World.cell?_of_block (h.block a.block ha hz)
theorem Only.frozen {bl : List Nat} {w w' : World} (h : Only bl w w') {a : Addr} (ha : a.block ∉ bl) (hz : a.block < w.heap.size) : w'.frozen? a = w.frozen? a :=
  World.frozen?_of_block (h.block a.block ha hz)
end Go.Proofs.Ytnijnjclmlfahaa
