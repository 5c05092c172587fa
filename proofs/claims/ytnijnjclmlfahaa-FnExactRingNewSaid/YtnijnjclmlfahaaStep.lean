/- Appends as steps of a region that draws its order; rows of plain elements once more. No program in sight. -/
import Derived.Test.YtnijnjclmlfahaaKit
namespace Go.Proofs.Ytnijnjclmlfahaa
open Go.ChangeShapes Go.WideShapes Go.ChangeAt Go.RowKit Go.Deep
set_option linter.unusedVariables false
set_option linter.unusedSimpArgs false

section
variable {P : Program} {ops : Array Oper} {o : Oper} {a : Act} {K : Act → World → Prop} {Q : Exit → Act → World → Prop} {w : World}

theorem step_of_wp (hgd : o.guard = none) {E : Prop} (h : Oper.wp P o a w K Q) : if Region.wanted o (yielded ops a.tmps) = true then Oper.wp P o a w K Q else E := by
  have hw : Region.wanted o (yielded ops a.tmps) = true := by simp [Region.wanted, hgd]
  rw [if_pos hw]; exact h

/-- An append of one element, whatever has come between. -/
theorem wp_app (s y : Operand) (T : TypeId)
    (hop : o.op = .call { callee := .builtin .append, args := #[s, y], argTypes := #[T, T] })
    (e : TypeId) (z : Value) (t : Ty) (bytes : Nat) (ht : P.underlying T = some (.slice e)) (hinfo : (P.info? e).map (fun i => (i.zero, i.size, i.bytes)) = some (some z, t.n, bytes)) (hzs : z.cells.size = t.n)
    (v : Value) (hv : a.eval s = v) (l : List t.D) (lo mid hi' : Nat) (b cp : Nat) (hy : a.eval y = .slice (some ⟨b, 0, none⟩) 1 cp) (news : List Value) (x : t.D)
    (hs : FrIn (.slice e t) lo mid w [v] l) (hlm : lo ≤ mid) (hx : FrIn t mid hi' w news x) (hnews : ∀ j u, news[j]? = some u → w.cell? ⟨b, j, none⟩ = some u)
    (hbytes : (l.length + 1) * bytes ≤ 140737488355328) (h63 : l.length + 1 ≤ maxLen)
    (h : ∀ p cap w', FrIn (.slice e t) lo w'.heap.size w' [.slice p (l.length + 1) cap] (l ++ [x]) → Below lo w w' → (∀ q, mid ≤ q → q < w.heap.size → w'.heap[q]? = w.heap[q]?) → w.heap.size ≤ w'.heap.size →
      K (a.put o.dst (.slice p (l.length + 1) cap)) w') : Oper.wp P o a w K Q := by
  obtain ⟨i, hi, hzz⟩ := Option.map_eq_some_iff.1 hinfo
  simp only [Prod.mk.injEq] at hzz
  obtain ⟨h0, hsz, hby⟩ := hzz
  have hone : ∀ u ∈ news, u.oneCell' = true := by
    obtain ⟨bl, hr, _⟩ := hx
    exact rep_one _ _ _ _ _ hr
  have hmz : mid ≤ w.heap.size := hs.hi_le
  have hadd : ∀ j, ((⟨b, 0, none⟩ : Addr).add j) = ⟨b, j, none⟩ := fun j => by simp only [Addr.add]; split <;> simp_all
  obtain ⟨v', w', hr, hf, hg, p, cap, rfl⟩ := run_append_fr (P := P) w T o.type e i z t bytes ht hi h0 hsz hby hzs v l lo mid hi' hs hlm ⟨b, 0, none⟩ cp news x hx (fun j u hj => by rw [hadd]; exact hnews j u hj) hone hbytes h63
  have hown := hs.own
  unfold Oper.wp execOp
  simp only [hop, resolve, invoke, builtin, Sem.run_bind, Sem.run_pure, Result.andThen_ok, List.map_toArray, List.map_cons, List.map_nil, hv, hy, hr]
  refine h p cap w' hf ?_ ?_ hg.size
  · exact (Below.refl lo w).grown hg (by omega) (fun k hk => (hown k hk).1)
  · intro q h1 h2
    exact hg.block q h2 (fun he => by have := hown q he.symm; omega)

theorem step_app (hgd : o.guard = none) (s y : Operand) (T : TypeId)
    (hop : o.op = .call { callee := .builtin .append, args := #[s, y], argTypes := #[T, T] })
    (e : TypeId) (z : Value) (t : Ty) (bytes : Nat) (ht : P.underlying T = some (.slice e)) (hinfo : (P.info? e).map (fun i => (i.zero, i.size, i.bytes)) = some (some z, t.n, bytes)) (hzs : z.cells.size = t.n)
    (v : Value) (hv : a.eval s = v) (l : List t.D) (lo mid hi' : Nat) (b cp : Nat) (hy : a.eval y = .slice (some ⟨b, 0, none⟩) 1 cp) (news : List Value) (x : t.D)
    (hs : FrIn (.slice e t) lo mid w [v] l) (hlm : lo ≤ mid) (hx : FrIn t mid hi' w news x) (hnews : ∀ j u, news[j]? = some u → w.cell? ⟨b, j, none⟩ = some u)
    (hbytes : (l.length + 1) * bytes ≤ 140737488355328) (h63 : l.length + 1 ≤ maxLen)
    (h : ∀ p cap w', FrIn (.slice e t) lo w'.heap.size w' [.slice p (l.length + 1) cap] (l ++ [x]) → Below lo w w' → (∀ q, mid ≤ q → q < w.heap.size → w'.heap[q]? = w.heap[q]?) → w.heap.size ≤ w'.heap.size →
      K (a.put o.dst (.slice p (l.length + 1) cap)) w') {E : Prop} : if Region.wanted o (yielded ops a.tmps) = true then Oper.wp P o a w K Q else E :=
  step_of_wp hgd (wp_app s y T hop e z t bytes ht hinfo hzs v hv l lo mid hi' b cp hy news x hs hlm hx hnews hbytes h63 h)

theorem list_app {rest : List Oper} {QQ : Exit → Act → World → Prop} (hgd : o.guard = none) (s y : Operand) (T : TypeId)
    (hop : o.op = .call { callee := .builtin .append, args := #[s, y], argTypes := #[T, T] })
    (e : TypeId) (z : Value) (t : Ty) (bytes : Nat) (ht : P.underlying T = some (.slice e)) (hinfo : (P.info? e).map (fun i => (i.zero, i.size, i.bytes)) = some (some z, t.n, bytes)) (hzs : z.cells.size = t.n)
    (v : Value) (hv : a.eval s = v) (l : List t.D) (lo mid hi' : Nat) (b cp : Nat) (hy : a.eval y = .slice (some ⟨b, 0, none⟩) 1 cp) (news : List Value) (x : t.D)
    (hs : FrIn (.slice e t) lo mid w [v] l) (hlm : lo ≤ mid) (hx : FrIn t mid hi' w news x) (hnews : ∀ j u, news[j]? = some u → w.cell? ⟨b, j, none⟩ = some u)
    (hbytes : (l.length + 1) * bytes ≤ 140737488355328) (h63 : l.length + 1 ≤ maxLen)
    (h : ∀ p cap w', FrIn (.slice e t) lo w'.heap.size w' [.slice p (l.length + 1) cap] (l ++ [x]) → Below lo w w' → (∀ q, mid ≤ q → q < w.heap.size → w'.heap[q]? = w.heap[q]?) → w.heap.size ≤ w'.heap.size →
      wpList P ops QQ rest (a.put o.dst (.slice p (l.length + 1) cap)) w') : wpList P ops QQ (o :: rest) a w :=
  wpList_plain hgd fun K' hK => wp_app s y T hop e z t bytes ht hinfo hzs v hv l lo mid hi' b cp hy news x hs hlm hx hnews hbytes h63 fun p cap w' h1 h2 h3 h4 => hK _ _ (h p cap w' h1 h2 h3 h4)
end

theorem new_cells' {w0 : World} {c : Array Value} {e' : TypeId} {b : Nat} (hb : b = w0.heap.size) (j : Nat) (u : Value) (h : c.toList[j]? = some u) :
    (w0.alloc (.cells c e')).cell? ⟨b, j, none⟩ = some u := by
  subst hb
  simp only [World.cell?, Go.heap_alloc_new w0]
  simpa using h

/-! ### rows of plain elements -/

def Ty.plain : Ty → Bool
  | .slice _ _ => false
  | .pair a b => a.plain && b.plain
  | _ => true

theorem rep_plain {w : World} : (t : Ty) → t.plain = true → {cs : List Value} → {d : t.D} → rd t w cs d → rep t w cs d []
  | .int k, _, cs, d, h => ⟨h.1, h.2, rfl⟩
  | .bool, _, cs, d, h => ⟨h, rfl⟩
  | .str, _, cs, d, h => ⟨h.1, h.2, rfl⟩
  | .pair a b, hp, cs, d, h => by
    obtain ⟨c1, c2, rfl, h1, h2⟩ := h
    simp only [Ty.plain, Bool.and_eq_true] at hp
    exact ⟨c1, c2, [], [], rfl, rfl, rep_plain a hp.1 h1, rep_plain b hp.2 h2⟩

theorem plain_cells {t : Ty} (hp : t.plain = true) {w : World} {b off : Nat} : (l : List t.D) → (s : Nat) →
    (∀ k (h : k < l.length), ∃ cs : List Value, cs.length = t.n ∧ (∀ j (hj : j < cs.length), w.cell? ⟨b, off + (s + k) * t.n + j, none⟩ = some cs[j]) ∧ rd t w cs l[k]) →
    ∃ news, RepL t.n (rep t w) news l [] ∧ ∀ j u, news[j]? = some u → w.cell? ⟨b, off + s * t.n + j, none⟩ = some u
  | [], s, _ => ⟨[], ⟨rfl, rfl⟩, fun j u h => by simp at h⟩
  | x :: l, s, h => by
    obtain ⟨cs, hl, hc, hr⟩ := h 0 (by simp)
    obtain ⟨news, hn, hj⟩ := plain_cells hp l (s + 1) (fun k hk => by
      obtain ⟨cs', a1, a2, a3⟩ := h (k + 1) (by simpa using hk)
      refine ⟨cs', a1, fun j hj => ?_, by simpa using a3⟩
      have := a2 j hj
      rwa [show s + (k + 1) = s + 1 + k by omega] at this)
    refine ⟨cs ++ news, ⟨cs, news, [], [], hl, rfl, rfl, rep_plain t hp hr, hn⟩, fun j u hu => ?_⟩
    by_cases hlt : j < cs.length
    · rw [List.getElem?_append_left hlt, List.getElem?_eq_getElem hlt] at hu
      have := hc j hlt
      simp only [Nat.add_zero] at this
      rw [this]; exact hu
    · rw [List.getElem?_append_right (by omega)] at hu
      have := hj _ _ hu
      rw [hl] at this
      rw [← this]
      congr 2
      rw [Nat.add_mul]; omega

theorem plain_src {t : Ty} (hp : t.plain = true) {w : World} {p : Option Addr} {n c : Nat} {l : List t.D} (h : SlRd t.n (rd t w) w p n c l) :
    ∃ news, RepL t.n (rep t w) news l [] ∧ ((p = none ∧ n = 0 ∧ c = 0) ∨ ∃ a, p = some a ∧ ∀ j u, news[j]? = some u → w.cell? (a.add j) = some u) := by
  obtain ⟨h1, h2, h3, h4, h5⟩ := h
  cases p with
  | none =>
    have hc := h4 rfl
    obtain rfl : l = [] := List.eq_nil_of_length_eq_zero (by omega)
    exact ⟨[], ⟨rfl, rfl⟩, .inl ⟨rfl, by omega, hc⟩⟩
  | some a =>
    cases hl : l with
    | nil => exact ⟨[], ⟨rfl, rfl⟩, .inr ⟨a, rfl, fun j u hj => by simp at hj⟩⟩
    | cons x l' =>
      obtain ⟨b, off, hab, _, _⟩ := h5 0 (by rw [hl]; simp)
      obtain rfl : a = ⟨b, off, none⟩ := by simpa using hab
      rw [← hl]
      obtain ⟨news, hn, hj⟩ := plain_cells hp (b := b) (off := off) l 0 (fun k hk => by
        obtain ⟨b', off', hab', _, cs, a1, a2, a3⟩ := h5 k hk
        obtain ⟨rfl, rfl⟩ : b = b' ∧ off = off' := by simpa using hab'
        exact ⟨cs, a1, fun j hj => by rw [Nat.zero_add]; exact a2 j hj, a3⟩)
      refine ⟨news, hn, .inr ⟨_, rfl, fun j u hu => ?_⟩⟩
      have hadd : ((⟨b, off, none⟩ : Addr).add j) = ⟨b, off + j, none⟩ := by
        simp only [Addr.add]; split <;> simp_all
      rw [hadd]
      have := hj j u hu
      simpa using this

section
variable {P : Program} {ops : Array Oper} {o : Oper} {a : Act} {K : Act → World → Prop} {Q : Exit → Act → World → Prop} {w : World}

/-- An append of all elements of a row of plain elements to a slice of the call's own. -/
theorem wp_appN (s y : Operand) (T : TypeId)
    (hop : o.op = .call { callee := .builtin .append, args := #[s, y], argTypes := #[T, T] })
    (e : TypeId) (z : Value) (t : Ty) (hp : t.plain = true) (bytes : Nat) (ht : P.underlying T = some (.slice e)) (hinfo : (P.info? e).map (fun i => (i.zero, i.size, i.bytes)) = some (some z, t.n, bytes)) (hzs : z.cells.size = t.n)
    (v : Value) (hv : a.eval s = v) (l : List t.D) (lo mid : Nat) (p : Option Addr) (n c : Nat) (hy : a.eval y = .slice p n c) (l2 : List t.D)
    (hs : FrIn (.slice e t) lo mid w [v] l) (hlm : lo ≤ mid) (hx : SlRd t.n (rd t w) w p n c l2)
    (hbytes : (l.length + l2.length) * bytes ≤ 140737488355328) (h63 : l.length + l2.length ≤ maxLen)
    (h : ∀ p cap w', FrIn (.slice e t) lo w'.heap.size w' [.slice p (l.length + l2.length) cap] (l ++ l2) → Below lo w w' → (∀ q, mid ≤ q → q < w.heap.size → w'.heap[q]? = w.heap[q]?) → w.heap.size ≤ w'.heap.size →
      K (a.put o.dst (.slice p (l.length + l2.length) cap)) w') : Oper.wp P o a w K Q := by
  obtain ⟨i, hi, hzz⟩ := Option.map_eq_some_iff.1 hinfo
  simp only [Prod.mk.injEq] at hzz
  obtain ⟨h0, hsz, hby⟩ := hzz
  have hmz : mid ≤ w.heap.size := hs.hi_le
  have hn := hx.lens
  obtain ⟨news, hrep, hsrc⟩ := plain_src hp hx
  subst hn
  obtain ⟨v', w', hr, hf, hg, p', cap, rfl⟩ := run_append_frN (P := P) w T o.type e i z t bytes ht hi h0 hsz hby hzs v l lo mid hs hlm p l2.length c news l2 rfl hsrc hrep hbytes h63
  have hown := hs.own
  unfold Oper.wp execOp
  simp only [hop, resolve, invoke, builtin, Sem.run_bind, Sem.run_pure, Result.andThen_ok, List.map_toArray, List.map_cons, List.map_nil, hv, hy, hr]
  refine h p' cap w' hf ?_ ?_ hg.size
  · exact (Below.refl lo w).grown hg (by omega) (fun k hk => (hown k hk).1)
  · intro q h1 h2
    exact hg.block q h2 (fun he => by have := hown q he.symm; omega)

theorem step_appN (hgd : o.guard = none) (s y : Operand) (T : TypeId)
    (hop : o.op = .call { callee := .builtin .append, args := #[s, y], argTypes := #[T, T] })
    (e : TypeId) (z : Value) (t : Ty) (hp : t.plain = true) (bytes : Nat) (ht : P.underlying T = some (.slice e)) (hinfo : (P.info? e).map (fun i => (i.zero, i.size, i.bytes)) = some (some z, t.n, bytes)) (hzs : z.cells.size = t.n)
    (v : Value) (hv : a.eval s = v) (l : List t.D) (lo mid : Nat) (p : Option Addr) (n c : Nat) (hy : a.eval y = .slice p n c) (l2 : List t.D)
    (hs : FrIn (.slice e t) lo mid w [v] l) (hlm : lo ≤ mid) (hx : SlRd t.n (rd t w) w p n c l2)
    (hbytes : (l.length + l2.length) * bytes ≤ 140737488355328) (h63 : l.length + l2.length ≤ maxLen)
    (h : ∀ p cap w', FrIn (.slice e t) lo w'.heap.size w' [.slice p (l.length + l2.length) cap] (l ++ l2) → Below lo w w' → (∀ q, mid ≤ q → q < w.heap.size → w'.heap[q]? = w.heap[q]?) → w.heap.size ≤ w'.heap.size →
      K (a.put o.dst (.slice p (l.length + l2.length) cap)) w') {E : Prop} : if Region.wanted o (yielded ops a.tmps) = true then Oper.wp P o a w K Q else E :=
  step_of_wp hgd (wp_appN s y T hop e z t hp bytes ht hinfo hzs v hv l lo mid p n c hy l2 hs hlm hx hbytes h63 h)

theorem list_appN {rest : List Oper} {QQ : Exit → Act → World → Prop} (hgd : o.guard = none) (s y : Operand) (T : TypeId)
    (hop : o.op = .call { callee := .builtin .append, args := #[s, y], argTypes := #[T, T] })
    (e : TypeId) (z : Value) (t : Ty) (hp : t.plain = true) (bytes : Nat) (ht : P.underlying T = some (.slice e)) (hinfo : (P.info? e).map (fun i => (i.zero, i.size, i.bytes)) = some (some z, t.n, bytes)) (hzs : z.cells.size = t.n)
    (v : Value) (hv : a.eval s = v) (l : List t.D) (lo mid : Nat) (p : Option Addr) (n c : Nat) (hy : a.eval y = .slice p n c) (l2 : List t.D)
    (hs : FrIn (.slice e t) lo mid w [v] l) (hlm : lo ≤ mid) (hx : SlRd t.n (rd t w) w p n c l2)
    (hbytes : (l.length + l2.length) * bytes ≤ 140737488355328) (h63 : l.length + l2.length ≤ maxLen)
    (h : ∀ p cap w', FrIn (.slice e t) lo w'.heap.size w' [.slice p (l.length + l2.length) cap] (l ++ l2) → Below lo w w' → (∀ q, mid ≤ q → q < w.heap.size → w'.heap[q]? = w.heap[q]?) → w.heap.size ≤ w'.heap.size →
      wpList P ops QQ rest (a.put o.dst (.slice p (l.length + l2.length) cap)) w') : wpList P ops QQ (o :: rest) a w :=
  wpList_plain hgd fun K' hK => wp_appN s y T hop e z t hp bytes ht hinfo hzs v hv l lo mid p n c hy l2 hs hlm hx hbytes h63 fun p cap w' h1 h2 h3 h4 => hK _ _ (h p cap w' h1 h2 h3 h4)
end

/-- An empty row just made, however long ago. -/
theorem FrIn.emptyAt {w : World} {t : Ty} {e : TypeId} {b : Nat} (hb : w.heap[b]? = some (.cells #[] e)) : FrIn (.slice e t) b (b + 1) w [.slice (some ⟨b, 0, none⟩) 0 0] ([] : List t.D) := by
  have hlt := (Array.getElem?_eq_some_iff.1 hb).1
  exact ⟨[b], ⟨_, [], [], rfl, ⟨by simp, .inr ⟨b, 0, #[], by simp, Nat.zero_le _, hb, Nat.le_refl _, Nat.zero_le _, by simp, by simp⟩⟩, ⟨rfl, rfl⟩, rfl⟩, by simp, (fun q hq => by simp at hq; omega), by omega⟩

/-! ### 'append([]T{}, l...)' of plain elements -/
section
variable {P : Program} {ops : Array Oper} {o : Oper} {a : Act} {K : Act → World → Prop} {Q : Exit → Act → World → Prop} {w : World}

/-- What a copy is made of: its blocks are the empty row's, or new. -/
structure Made (e : TypeId) (t : Ty) (B : Nat) (w w' : World) (p : Option Addr) (cap : Nat) (l : List t.D) (bl : List Nat) : Prop where
  rep : rep (.slice e t) w' [.slice p l.length cap] l bl
  nd : bl.Nodup
  at' : ∀ b ∈ bl, (b = B ∨ w.heap.size ≤ b) ∧ b < w'.heap.size

theorem run_copyN (T ty e : TypeId) (z : Value) (t : Ty) (hp : t.plain = true) (bytes : Nat) (ht : P.underlying T = some (.slice e)) (hinfo : (P.info? e).map (fun i => (i.zero, i.size, i.bytes)) = some (some z, t.n, bytes)) (hzs : z.cells.size = t.n)
    (B : Nat) (hB : w.heap[B]? = some (.cells #[] e)) (p : Option Addr) (n c : Nat) (l : List t.D) (hx : SlRd t.n (rd t w) w p n c l)
    (hbytes : l.length * bytes ≤ 140737488355328) (h63 : l.length ≤ maxLen) :
    ∃ p' cap w' bl, (Builtin.append_ #[T, T] ty #[.slice (some ⟨B, 0, none⟩) 0 0, .slice p n c]).run P w = .ok (.slice p' l.length cap) w' ∧ Made e t B w w' p' cap l bl ∧ Below w.heap.size w w' := by
  obtain ⟨i, hi, hzz⟩ := Option.map_eq_some_iff.1 hinfo
  simp only [Prod.mk.injEq] at hzz
  obtain ⟨h0, hsz, hby⟩ := hzz
  have hn := hx.lens
  obtain ⟨news, hrep, hsrc⟩ := plain_src hp hx
  subst hn
  have hlt := (Array.getElem?_eq_some_iff.1 hB).1
  have hnl : news.length = l.length * t.n := hrep.len
  by_cases hm0 : l.length = 0
  · obtain rfl : l = [] := List.eq_nil_of_length_eq_zero hm0
    obtain rfl : news = [] := List.eq_nil_of_length_eq_zero (by simpa using hnl)
    refine ⟨some ⟨B, 0, none⟩, 0, w, [B], ?_, ⟨⟨_, [], [], rfl, ⟨by simp, .inr ⟨B, 0, #[], by simp, Nat.zero_le _, hB, Nat.le_refl _, Nat.zero_le _, by simp, by simp⟩⟩, ⟨rfl, rfl⟩, rfl⟩, by simp, fun b hb => by simp at hb; omega⟩, Below.refl _ _⟩
    rcases hsrc with ⟨rfl, -, rfl⟩ | ⟨a, rfl, -⟩
    · simp [Builtin.append_, run_underlying ht, sizeOf, typeInfo, hi, Builtin.lenOf, Builtin.firstCells, loadCells, loadCellsFrom]
      try rfl
    · simp [Builtin.append_, run_underlying ht, sizeOf, typeInfo, hi, Builtin.lenOf, Builtin.firstCells, loadCells, loadCellsFrom]
      try rfl
  · obtain ⟨a, rfl, hnews⟩ : ∃ a, p = some a ∧ ∀ j u, news[j]? = some u → w.cell? (a.add j) = some u := by
      rcases hsrc with ⟨_, h, _⟩ | h
      · exact absurd h hm0
      · exact h
    have hsmall : l.length ≤ 9223372036854775807 := by simp only [maxLen] at h63; omega
    have hpos := Ty.n_pos t
    have hr := run_append_grow (P := P) w T ty e i z ht hi h0 ⟨B, 0, none⟩ 0 0 [] (by simp) (fun j u hj => by simp at hj) a l.length c news (by rw [hnl, hsz]) hnews (by omega) (by omega) (growslice_fits (by omega) (by rw [hby, Nat.zero_add]; omega))
    simp only [Nat.zero_add, List.nil_append] at hr
    refine ⟨_, _, _, [w.heap.size], hr, ⟨⟨_, news, [], rfl, ⟨by simpa using hnl, .inr ⟨w.heap.size, _, _, rfl, Nat.zero_le _, heap_alloc_new w.drew _, grownCap_ge w _ 0 e, grownCap_le_maxLen w _ 0 e h63, ?_, ?_⟩⟩, ?_, by simp [Value.ownBlock]⟩, by simp, fun b hb => by simp at hb; simp; omega⟩, ((Below.refl _ w).drew).alloc (Nat.le_refl _) _⟩
    · have := grownCap_ge w l.length 0 e
      simp only [Array.size_append, List.size_toArray, size_zeroCells, hzs, hnl, List.length_nil, Nat.zero_add]
      rw [← Nat.add_mul]
      congr 1
      omega
    · simp only [Array.toList_append]
      exact List.take_left' (by simp [hnl])
    · exact hrep.mono (fun c y b hb hy => rep_keep _ _ _ _ (fun k hk => by have := hb k hk; simp at this) hy)

theorem wp_copyN (s y : Operand) (T : TypeId)
    (hop : o.op = .call { callee := .builtin .append, args := #[s, y], argTypes := #[T, T] })
    (e : TypeId) (z : Value) (t : Ty) (hp : t.plain = true) (bytes : Nat) (ht : P.underlying T = some (.slice e)) (hinfo : (P.info? e).map (fun i => (i.zero, i.size, i.bytes)) = some (some z, t.n, bytes)) (hzs : z.cells.size = t.n)
    (B : Nat) (hv : a.eval s = .slice (some ⟨B, 0, none⟩) 0 0) (p : Option Addr) (n c : Nat) (hy : a.eval y = .slice p n c) (l : List t.D)
    (hB : w.heap[B]? = some (.cells #[] e)) (hx : SlRd t.n (rd t w) w p n c l) (hbytes : l.length * bytes ≤ 140737488355328) (h63 : l.length ≤ maxLen)
    (h : ∀ p' cap w' bl, Made e t B w w' p' cap l bl → Below w.heap.size w w' → K (a.put o.dst (.slice p' l.length cap)) w') : Oper.wp P o a w K Q := by
  obtain ⟨p', cap, w', bl, hr, hm, hb⟩ := run_copyN (P := P) T o.type e z t hp bytes ht hinfo hzs B hB p n c l hx hbytes h63
  unfold Oper.wp execOp
  simp only [hop, resolve, invoke, builtin, Sem.run_bind, Sem.run_pure, Result.andThen_ok, List.map_toArray, List.map_cons, List.map_nil, hv, hy, hr]
  exact h p' cap w' bl hm hb

theorem step_copyN (hgd : o.guard = none) (s y : Operand) (T : TypeId)
    (hop : o.op = .call { callee := .builtin .append, args := #[s, y], argTypes := #[T, T] })
    (e : TypeId) (z : Value) (t : Ty) (hp : t.plain = true) (bytes : Nat) (ht : P.underlying T = some (.slice e)) (hinfo : (P.info? e).map (fun i => (i.zero, i.size, i.bytes)) = some (some z, t.n, bytes)) (hzs : z.cells.size = t.n)
    (B : Nat) (hv : a.eval s = .slice (some ⟨B, 0, none⟩) 0 0) (p : Option Addr) (n c : Nat) (hy : a.eval y = .slice p n c) (l : List t.D)
    (hB : w.heap[B]? = some (.cells #[] e)) (hx : SlRd t.n (rd t w) w p n c l) (hbytes : l.length * bytes ≤ 140737488355328) (h63 : l.length ≤ maxLen)
    (h : ∀ p' cap w' bl, Made e t B w w' p' cap l bl → Below w.heap.size w w' → K (a.put o.dst (.slice p' l.length cap)) w') {E : Prop} : if Region.wanted o (yielded ops a.tmps) = true then Oper.wp P o a w K Q else E :=
  step_of_wp hgd (wp_copyN s y T hop e z t hp bytes ht hinfo hzs B hv p n c hy l hB hx hbytes h63 h)

theorem list_copyN {rest : List Oper} {QQ : Exit → Act → World → Prop} (hgd : o.guard = none) (s y : Operand) (T : TypeId)
    (hop : o.op = .call { callee := .builtin .append, args := #[s, y], argTypes := #[T, T] })
    (e : TypeId) (z : Value) (t : Ty) (hp : t.plain = true) (bytes : Nat) (ht : P.underlying T = some (.slice e)) (hinfo : (P.info? e).map (fun i => (i.zero, i.size, i.bytes)) = some (some z, t.n, bytes)) (hzs : z.cells.size = t.n)
    (B : Nat) (hv : a.eval s = .slice (some ⟨B, 0, none⟩) 0 0) (p : Option Addr) (n c : Nat) (hy : a.eval y = .slice p n c) (l : List t.D)
    (hB : w.heap[B]? = some (.cells #[] e)) (hx : SlRd t.n (rd t w) w p n c l) (hbytes : l.length * bytes ≤ 140737488355328) (h63 : l.length ≤ maxLen)
    (h : ∀ p' cap w' bl, Made e t B w w' p' cap l bl → Below w.heap.size w w' → wpList P ops QQ rest (a.put o.dst (.slice p' l.length cap)) w') : wpList P ops QQ (o :: rest) a w :=
  wpList_plain hgd fun K' hK => wp_copyN s y T hop e z t hp bytes ht hinfo hzs B hv p n c hy l hB hx hbytes h63 fun p' cap w' bl h1 h2 => hK _ _ (h p' cap w' bl h1 h2)
end

theorem Made.kp {e : TypeId} {t : Ty} {B : Nat} {w w' w'' : World} {p : Option Addr} {cap : Nat} {l : List t.D} {bl : List Nat} (h : Made e t B w w' p cap l bl) (hb : Below w'.heap.size w' w'') :
    Made e t B w w'' p cap l bl := ⟨rep_keep _ _ _ _ (fun b hb' => hb.block b (h.at' b hb').2) h.rep, h.nd, fun b hb' => ⟨(h.at' b hb').1, Nat.lt_of_lt_of_le (h.at' b hb').2 hb.size⟩⟩
theorem nd_two {a b : List Nat} (h1 : a.Nodup) (h2 : b.Nodup) (h : ∀ x ∈ a, ∀ y ∈ b, x ≠ y) : (a ++ b).Nodup := List.nodup_append.2 ⟨h1, h2, h⟩

/-! ### a part of a slice -/
def subP (p : Option Addr) (cap lo n : Nat) : Option Addr := if cap = lo then p else p.map (·.add (lo * n))

theorem run_slice_sub {P : Program} {T e : TypeId} {n : Nat} (ht : P.underlying T = some (.slice e)) (hn : (P.info? e).map (·.size) = some n) (p : Option Addr) (len cap lo hi : Nat) (h1 : lo ≤ hi) (h2 : hi ≤ cap) (w : World) :
    (Instr.slice T (.slice p len cap) (some (.int .i64 (lo : Int))) (some (.int .i64 (hi : Int))) none).run P w = .ok (.slice (subP p cap lo n) (hi - lo) (cap - lo)) w := by
  obtain ⟨i, hi', hs⟩ := Option.map_eq_some_iff.1 hn
  have e1 : (0 : Int) ≤ (hi : Int) ∧ (hi : Int) ≤ (cap : Int) := by omega
  have e2 : (0 : Int) ≤ (lo : Int) ∧ (lo : Int) ≤ (hi : Int) := by omega
  have e3 : hi ≤ cap := by omega
  have e4 : lo ≤ hi := by omega
  simp [Instr.slice, Instr.sliceBounds, Instr.sliceBound, asIntOf, run_underlying ht, sizeOf, typeInfo, hi', hs, e3, e4, subP]

theorem run_slice_to {P : Program} {T e : TypeId} {n : Nat} (ht : P.underlying T = some (.slice e)) (hn : (P.info? e).map (·.size) = some n) (p : Option Addr) (len cap hi : Nat) (h2 : hi ≤ cap) (w : World) :
    (Instr.slice T (.slice p len cap) none (some (.int .i64 (hi : Int))) none).run P w = .ok (.slice (subP p cap 0 n) (hi - 0) (cap - 0)) w := by
  obtain ⟨i, hi', hs⟩ := Option.map_eq_some_iff.1 hn
  have e1 : (0 : Int) ≤ (hi : Int) ∧ (hi : Int) ≤ (cap : Int) := by omega
  simp [Instr.slice, Instr.sliceBounds, Instr.sliceBound, asIntOf, run_underlying ht, sizeOf, typeInfo, hi', hs, h2, subP]

theorem run_slice_from {P : Program} {T e : TypeId} {n : Nat} (ht : P.underlying T = some (.slice e)) (hn : (P.info? e).map (·.size) = some n) (p : Option Addr) (len cap lo : Nat) (h1 : lo ≤ len) (h2 : len ≤ cap) (w : World) :
    (Instr.slice T (.slice p len cap) (some (.int .i64 (lo : Int))) none none).run P w = .ok (.slice (subP p cap lo n) (len - lo) (cap - lo)) w := by
  obtain ⟨i, hi', hs⟩ := Option.map_eq_some_iff.1 hn
  have e2 : (0 : Int) ≤ (lo : Int) ∧ (lo : Int) ≤ (len : Int) := by omega
  simp [Instr.slice, Instr.sliceBounds, Instr.sliceBound, asIntOf, run_underlying ht, sizeOf, typeInfo, hi', hs, h1, subP]

theorem SlRd.sub {α : Type} {n : Nat} {R : List Value → α → Prop} {w : World} {p : Option Addr} {len cap : Nat} {l : List α} (h : SlRd n R w p len cap l) (lo hi : Nat) (h1 : lo ≤ hi) (h2 : hi ≤ len) :
    SlRd n R w (subP p cap lo n) (hi - lo) (cap - lo) ((l.take hi).drop lo) := by
  obtain ⟨a1, a2, a3, a4, a5⟩ := h
  refine ⟨by simp; omega, by omega, by omega, fun hp => ?_, fun k hk => ?_⟩
  · unfold subP at hp
    split at hp
    · omega
    · have := a4 (by simpa using hp); omega
  · have hk' : lo + k < hi := by simp at hk; omega
    obtain ⟨b, off, hp, hb, cs, c1, c2, c3⟩ := a5 (lo + k) (by omega)
    have hc : cap ≠ lo := by omega
    refine ⟨b, off + lo * n, ?_, hb, cs, c1, fun j hj => ?_, ?_⟩
    · unfold subP
      rw [if_neg hc, hp]
      simp only [Option.map_some, Addr.add]
      split <;> simp_all
    · have := c2 j hj
      rw [show off + lo * n + k * n + j = off + (lo + k) * n + j by rw [Nat.add_mul]; omega]
      exact this
    · simp only [List.getElem_drop, List.getElem_take]; exact c3

theorem SlRd.take {α : Type} {n : Nat} {R : List Value → α → Prop} {w : World} {p : Option Addr} {len cap : Nat} {l : List α} (h : SlRd n R w p len cap l) (hi : Nat) (h2 : hi ≤ len) : SlRd n R w p hi cap (l.take hi) := by
  obtain ⟨a1, a2, a3, a4, a5⟩ := h
  refine ⟨by simp; omega, by omega, a3, a4, fun k hk => ?_⟩
  have hk' : k < hi := by simp at hk; omega
  obtain ⟨b, off, hp, hb, cs, c1, c2, c3⟩ := a5 k (by omega)
  exact ⟨b, off, hp, hb, cs, c1, c2, by simpa using c3⟩
end Go.Proofs.Ytnijnjclmlfahaa
