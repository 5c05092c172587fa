/- Appending all of a slice of plain elements to a slice of the call's own. No program in sight. -/
import Derived.Test.YtnijnjclmlfahaaApp
namespace Go.Proofs.Ytnijnjclmlfahaa
open Go.ChangeShapes Go.WideShapes Go.ChangeAt Go.RowKit Go.Deep
set_option linter.unusedVariables false
set_option linter.unusedSimpArgs false

theorem RepL.one_cells {t : Ty} {w : World} : {l : List t.D} → {xs : List Value} → {bl : List Nat} → RepL t.n (rep t w) xs l bl → ∀ u ∈ xs, u.oneCell' = true
  | [], xs, bl, h => by simp [h.1]
  | x :: l, xs, bl, h => by
    obtain ⟨c, xs', b1, b2, _, rfl, rfl, h1, h2⟩ := h
    intro u hu
    rw [List.mem_append] at hu
    rcases hu with hu | hu
    · exact rep_one _ _ _ _ _ h1 u hu
    · exact h2.one_cells u hu

section
variable {P : Program} (w : World)

theorem run_append_frN (T ty e : TypeId) (i : TypeInfo) (z : Value) (t : Ty) (bytes : Nat) (ht : P.underlying T = some (.slice e)) (hi : P.info? e = some i) (hz : i.zero = some z)
    (hsize : i.size = t.n) (hby : i.bytes = bytes) (hzs : z.cells.size = t.n)
    (v : Value) (l : List t.D) (lo mid : Nat) (hs : FrIn (.slice e t) lo mid w [v] l) (hlm : lo ≤ mid)
    (p : Option Addr) (m c : Nat) (news : List Value) (l2 : List t.D) (hm : l2.length = m) (hsrc : (p = none ∧ m = 0 ∧ c = 0) ∨ ∃ a, p = some a ∧ ∀ j u, news[j]? = some u → w.cell? (a.add j) = some u)
    (hrep : RepL t.n (rep t w) news l2 [])
    (hbytes : (l.length + m) * bytes ≤ 140737488355328) (h63 : l.length + m ≤ maxLen) :
    ∃ v' w', (Builtin.append_ #[T, T] ty #[v, .slice p m c]).run P w = .ok v' w' ∧ FrIn (.slice e t) lo w'.heap.size w' [v'] (l ++ l2) ∧ w.grownBy w' v.ownBlock ∧
      (∃ p' cap, v' = .slice p' (l.length + m) cap) := by
  subst hby
  have hone := hrep.one_cells
  have hnl : news.length = m * t.n := by rw [hrep.len, hm]
  have hmz := hs.hi_le
  by_cases hm0 : m = 0
  · subst hm0
    obtain rfl : l2 = [] := List.eq_nil_of_length_eq_zero hm
    obtain rfl : news = [] := List.eq_nil_of_length_eq_zero (by simpa using hnl)
    have hkeep : FrIn (.slice e t) lo w.heap.size w [v] l := hs.mono (Nat.le_refl _) hmz (Nat.le_refl _)
    have hself : w.grownBy w v.ownBlock := ⟨rfl, rfl, rfl, Nat.le_refl _, fun _ _ _ => rfl⟩
    obtain ⟨bl, ⟨v0, xs, bl', hv0, ho, hr, rfl⟩, hnd, hin, _⟩ := hs
    obtain rfl : v0 = v := by simpa using hv0.symm
    rcases ho.2 with ⟨rfl, hn0⟩ | ⟨g, cap, cur, rfl, hbg, hg, hnc, hcm, hcs, htake⟩
    · refine ⟨.slice none 0 0, w, ?_, by simpa using hkeep, hself, ⟨none, 0, by rw [hn0]⟩⟩
      rcases hsrc with ⟨rfl, -, rfl⟩ | ⟨a, rfl, -⟩
      · simp [Builtin.append_, run_underlying ht, sizeOf, typeInfo, hi, Builtin.lenOf, Builtin.firstCells, loadCells, loadCellsFrom]
      · simp [Builtin.append_, run_underlying ht, sizeOf, typeInfo, hi, Builtin.lenOf, Builtin.firstCells, loadCells, loadCellsFrom]
    · refine ⟨.slice (some ⟨g, 0, none⟩) l.length cap, w, ?_, by simpa using hkeep, hself, ⟨_, _, rfl⟩⟩
      rcases hsrc with ⟨rfl, -, rfl⟩ | ⟨a, rfl, -⟩
      · simp [Builtin.append_, run_underlying ht, sizeOf, typeInfo, hi, Builtin.lenOf, Builtin.firstCells, loadCells, loadCellsFrom, hnc]
        try rfl
      · simp [Builtin.append_, run_underlying ht, sizeOf, typeInfo, hi, Builtin.lenOf, Builtin.firstCells, loadCells, loadCellsFrom, hnc]
        try rfl
  · obtain ⟨a, rfl, hnews⟩ : ∃ a, p = some a ∧ ∀ j u, news[j]? = some u → w.cell? (a.add j) = some u := by
      rcases hsrc with ⟨_, h, _⟩ | h
      · exact absurd h hm0
      · exact h
    obtain ⟨bl, ⟨v0, xs, bl', hv0, ho, hr, rfl⟩, hnd, hin, _⟩ := hs
    obtain rfl : v0 = v := by simpa using hv0.symm
    have hxl : xs.length = l.length * t.n := ho.1
    have build : ∀ (w' : World) (g cap : Nat) (cur : Array Value), w'.heap[g]? = some (.cells cur e (0, 0)) → l.length + m ≤ cap → cap ≤ maxLen → cur.size = cap * t.n →
        cur.toList.take ((l.length + m) * t.n) = xs ++ news → (∀ b, b < w.heap.size → some b ≠ v0.ownBlock → w'.heap[b]? = w.heap[b]?) → w.heap.size ≤ w'.heap.size → g < w'.heap.size →
        (v0.ownBlock = some g ∨ w.heap.size ≤ g) → FrIn (.slice e t) lo w'.heap.size w' [.slice (some ⟨g, 0, none⟩) (l.length + m) cap] (l ++ l2) := by
      intro w' g cap cur hg hcap hcm hcs htake hother hsz hgl hgb
      have hlt' : ∀ b ∈ bl', b < w.heap.size := fun b hb => by have := hin b (by simp [hb]); omega
      have hne' : ∀ b ∈ bl', some b ≠ v0.ownBlock := fun b hb he => by
        rw [List.nodup_append] at hnd
        exact hnd.2.2 b (by simp [← he]) b hb rfl
      refine ⟨g :: bl', ⟨_, xs ++ news, bl', rfl, ⟨by simp [hxl, hnl, hm, Nat.add_mul], .inr ⟨g, cap, cur, by simp [hm], Nat.zero_le _, hg, by simpa [hm] using hcap, hcm, hcs, by simpa [hm] using htake⟩⟩, ?_, rfl⟩, ?_, ?_, Nat.le_refl _⟩
      · have h1 := (hr.mono (fun c y b hb hy => rep_keep _ _ _ _ (fun k hk => hother k (hlt' k (hb k hk)) (hne' k (hb k hk))) hy)).append (hrep.mono (R' := rep t w') (fun c y b hb hy => rep_keep _ _ _ _ (fun k hk => by have := hb k hk; simp at this) hy))
        simpa using h1
      · rw [List.nodup_cons]
        rw [List.nodup_append] at hnd
        refine ⟨fun hmem => ?_, hnd.2.1⟩
        rcases hgb with hgb | hgb
        · exact hne' g hmem hgb.symm
        · have := hlt' g hmem; omega
      · intro b hb
        rw [List.mem_cons] at hb
        rcases hb with rfl | hb
        · rcases hgb with hgb | hgb
          · have := hin b (by simp [hgb]); omega
          · omega
        · have := hin b (by simp [hb]); have := hlt' b hb; omega
    have hsmall : l.length + m ≤ 9223372036854775807 := by simp only [maxLen] at h63; omega
    have hnl' : news.length = m * i.size := by rw [hnl, hsize]
    have hpos := Ty.n_pos t
    rcases ho.2 with ⟨rfl, hn0⟩ | ⟨g, cap, cur, rfl, hbg, hg, hnc, hcm, hcs, htake⟩
    · obtain rfl : l = [] := List.eq_nil_of_length_eq_zero hn0
      have hx0 : xs = [] := List.eq_nil_of_length_eq_zero (by simpa using hxl)
      simp only [List.length_nil, Nat.zero_add] at hbytes h63 hsmall build
      have hr := run_append_nil (P := P) w T ty e i z ht hi hz a m c news hnl' hnews (by omega) (by omega) (by omega)
      refine ⟨_, _, hr, ?_, ⟨rfl, rfl, rfl, by simp, fun k hk _ => heap_alloc_old w.drew _ hk⟩, ⟨_, _, by simp only [List.length_nil, Nat.zero_add]; rfl⟩⟩
      refine build _ w.heap.size _ _ (heap_alloc_new w.drew _) (grownCap_ge w m 0 e) (grownCap_le_maxLen w m 0 e h63) ?_ ?_ (fun b hb _ => heap_alloc_old w.drew _ hb) (by simp) (by simp) (.inr (Nat.le_refl _))
      · have := grownCap_ge w m 0 e
        simp only [Array.size_append, List.size_toArray, size_zeroCells, hzs, hnl', hsize, ← Nat.add_mul]
        congr 1
        omega
      · simp only [hx0, Array.toList_append, List.nil_append]
        exact List.take_left' (by simp [hnl])
    · by_cases hroom : l.length + m ≤ cap
      · have hfit : l.length * i.size + news.length ≤ cur.size := by rw [hnl', hcs, ← Nat.add_mul, hsize]; exact Nat.mul_le_mul_right _ hroom
        have hr := run_append_room (P := P) w T ty e i ht hi g l.length cap cur hg a m c news hnl' hnews hone hroom hfit
        refine ⟨_, _, hr, ?_, ⟨rfl, rfl, rfl, by simp, fun k _ hk => setRow_other w g k _ (fun e => hk (by simp [Value.ownBlock, e]))⟩, ⟨_, _, rfl⟩⟩
        refine build _ g cap _ (setRow_heap w g cur _ e _ hg) hroom hcm ?_ ?_ (fun b hb hk => setRow_other w g b _ (fun e => hk (by simp [Value.ownBlock, e]))) (by simp) (by have := (Array.getElem?_eq_some_iff.1 hg).1; simpa using this) (.inl rfl)
        · simp only [List.size_toArray, List.length_append, List.length_take, List.length_drop, Array.length_toList]
          omega
        · rw [hsize, htake]
          exact List.take_left' (by simp [hxl, hnl, Nat.add_mul])
      · have holds : ∀ j u, xs[j]? = some u → w.cell? ((⟨g, 0, none⟩ : Addr).add j) = some u := ho.cells (g := g) rfl
        have hr := run_append_grow (P := P) w T ty e i z ht hi hz ⟨g, 0, none⟩ l.length cap xs (by rw [hxl, hsize]) holds a m c news hnl' hnews (by omega) (by omega) (growslice_fits (by omega) hbytes)
        refine ⟨_, _, hr, ?_, ⟨rfl, rfl, rfl, by simp, fun k hk _ => heap_alloc_old w.drew _ hk⟩, ⟨_, _, rfl⟩⟩
        refine build _ w.heap.size _ _ (heap_alloc_new w.drew _) (grownCap_ge w _ cap e) (grownCap_le_maxLen w _ cap e h63) ?_ ?_ (fun b hb _ => heap_alloc_old w.drew _ hb) (by simp) (by simp) (.inr (Nat.le_refl _))
        · have := grownCap_ge w (l.length + m) cap e
          simp only [Array.size_append, List.size_toArray, size_zeroCells, hzs, hxl, hnl]
          rw [show l.length * t.n + m * t.n = (l.length + m) * t.n by rw [Nat.add_mul], ← Nat.add_mul]
          congr 1
          omega
        · simp only [Array.toList_append]
          exact List.take_left' (by simp [hxl, hnl, Nat.add_mul])
end

/-- A row of numbers that came in, as what an append reads. -/
theorem RepL_ints (w : World) : (l : List Int) → (∀ x ∈ l, (Lit.int .i64 x).wf = true) → RepL tInt.n (rep tInt w) (l.map (fun x => Value.int .i64 x)) l []
  | [], _ => ⟨rfl, rfl⟩
  | x :: l, h => ⟨[.int .i64 x], l.map (fun x => Value.int .i64 x), [], [], rfl, rfl, rfl, ⟨rfl, h x (by simp), rfl⟩, RepL_ints w l (fun y hy => h y (by simp [hy]))⟩

theorem ints_src {w : World} {p : Option Addr} {n c : Nat} {l : List Int} (h : SlRd 1 (rd tInt w) w p n c l) :
    ((p = none ∧ n = 0 ∧ c = 0) ∨ ∃ a, p = some a ∧ ∀ j u, (l.map (fun x => Value.int .i64 x))[j]? = some u → w.cell? (a.add j) = some u) ∧ (∀ x ∈ l, (Lit.int .i64 x).wf = true) := by
  refine ⟨?_, fun x hx => ?_⟩
  · cases p with
    | none =>
      have h0 := h.2.2.2.1 rfl
      have := h.2.1
      exact .inl ⟨rfl, by omega, h0⟩
    | some a =>
      refine .inr ⟨a, rfl, fun j u hj => ?_⟩
      have hjl : j < l.length := by have := (List.getElem?_eq_some_iff.1 hj).1; simpa using this
      obtain ⟨b, off, hp, _, hc, _, _⟩ := int_at h j hjl
      obtain rfl : a = ⟨b, off, none⟩ := by simpa using hp
      have hadd : ((⟨b, off, none⟩ : Addr).add j) = ⟨b, off + j, none⟩ := by
        simp only [Addr.add]; split <;> simp_all
      rw [hadd, hc]
      simpa [hjl] using hj
  · obtain ⟨k, hk, rfl⟩ := List.getElem_of_mem hx
    obtain ⟨b, off, hp, _, hc, h1, h2⟩ := int_at h k hk
    exact wf_i64 ⟨h1, h2⟩

section
variable {P : Program}

/-- 'append([]int{}, l...)': a row of numbers once more. The world is given with the empty row just made. -/
theorem run_copyInts (w0 : World) (T ty e : TypeId) (z : Value) (ht : P.underlying T = some (.slice e)) (hinfo : (P.info? e).map (fun i => (i.zero, i.size, i.bytes)) = some (some z, 1, 8)) (hzs : z.cells.size = 1)
    (b : Nat) (hb : b = w0.heap.size) (p : Option Addr) (n c : Nat) (l : List Int) (w1 : World) (hw1 : w1 = w0.alloc (.cells #[] e)) (h : SlRd 1 (rd tInt w1) w1 p n c l) (hl : l.length ≤ 17592186044416) :
    ∃ p' cap w', (Builtin.append_ #[T, T] ty #[.slice (some ⟨b, 0, none⟩) 0 0, .slice p n c]).run P w1 = .ok (.slice p' l.length cap) w' ∧
      FrIn (.slice e tInt) w0.heap.size w'.heap.size w' [.slice p' l.length cap] l ∧ Below w0.heap.size w0 w' := by
  subst hw1
  obtain ⟨i, hi, hzz⟩ := Option.map_eq_some_iff.1 hinfo
  simp only [Prod.mk.injEq] at hzz
  obtain ⟨h0, hsz, hby⟩ := hzz
  have hn := h.lens
  obtain ⟨hsrc, hwf⟩ := ints_src h
  obtain ⟨v', w', hr, hf, hg, p', cap, rfl⟩ := run_append_frN (P := P) (w0.alloc (.cells #[] e)) T ty e i z tInt 8 ht hi h0 hsz hby hzs (.slice (some ⟨b, 0, none⟩) 0 0) [] w0.heap.size _ (FrIn.empty (t := tInt) (e := e) hb) (by simp) p n c _ l hn.symm hsrc (RepL_ints _ l hwf) (by simp; omega) (by simp [maxLen]; omega)
  simp only [List.length_nil, Nat.zero_add, hn] at hr hf
  refine ⟨p', cap, w', by rw [hn]; exact hr, by simpa using hf, ?_⟩
  refine ((Below.refl _ _).alloc (Nat.le_refl _) _).grown hg (by simp) (fun k hk => ?_)
  simp [Value.ownBlock] at hk
  omega
end
end Go.Proofs.Ytnijnjclmlfahaa
