/- Plain words on what a fresh result owns: rows of its own, each block met once; appending, making and storing keep that. No program in sight. -/
import Derived.Test.YtnijnjclmlfahaaBase
namespace Go.Proofs.Ytnijnjclmlfahaa
open Go.ChangeShapes Go.WideShapes Go.ChangeAt Go.RowKit Go.Deep
set_option linter.unusedVariables false

/-- Row 'xs' holds the elements 'l', n cells each; their blocks are 'bl'. -/
def RepL {α : Type} (n : Nat) (R : List Value → α → List Nat → Prop) : List Value → List α → List Nat → Prop
  | xs, [], bl => xs = [] ∧ bl = []
  | xs, x :: l, bl => ∃ c xs' b1 b2, c.length = n ∧ xs = c ++ xs' ∧ bl = b1 ++ b2 ∧ R c x b1 ∧ RepL n R xs' l b2

section
variable {α : Type} {n : Nat} {R R' : List Value → α → List Nat → Prop}

theorem RepL.len : {l : List α} → {xs : List Value} → {bl : List Nat} → RepL n R xs l bl → xs.length = l.length * n
  | [], xs, bl, h => by simp [h.1]
  | x :: l, xs, bl, h => by
    obtain ⟨c, xs', b1, b2, hc, rfl, rfl, _, hr⟩ := h
    simp [hc, RepL.len hr, Nat.add_mul]; omega

theorem RepL.append : {l : List α} → {xs : List Value} → {bl : List Nat} → RepL n R xs l bl → {m : List α} → {ys : List Value} → {bm : List Nat} → RepL n R ys m bm →
    RepL n R (xs ++ ys) (l ++ m) (bl ++ bm)
  | [], xs, bl, h, m, ys, bm, k => by obtain ⟨rfl, rfl⟩ := h; simpa using k
  | x :: l, xs, bl, h, m, ys, bm, k => by
    obtain ⟨c, xs', b1, b2, hc, rfl, rfl, h1, hr⟩ := h
    exact ⟨c, xs' ++ ys, b1, b2 ++ bm, hc, by simp, by simp, h1, hr.append k⟩

theorem RepL.one {c : List Value} {x : α} {b : List Nat} (hc : c.length = n) (h : R c x b) : RepL n R c [x] b :=
  ⟨c, [], b, [], hc, by simp, by simp, h, rfl, rfl⟩

theorem RepL.mono : {l : List α} → {xs : List Value} → {bl : List Nat} → (∀ c x b, (∀ k ∈ b, k ∈ bl) → R c x b → R' c x b) → RepL n R xs l bl → RepL n R' xs l bl
  | [], xs, bl, hR, h => h
  | x :: l, xs, bl, hR, h => by
    obtain ⟨c, xs', b1, b2, hc, rfl, rfl, h1, hr⟩ := h
    exact ⟨c, xs', b1, b2, hc, rfl, rfl, hR _ _ _ (fun k hk => by simp [hk]) h1, hr.mono (fun c x b hb => hR c x b (fun k hk => by simp [hb k hk]))⟩

theorem RepL.split : (k : Nat) → {l : List α} → {xs : List Value} → {bl : List Nat} → (hk : k < l.length) → RepL n R xs l bl →
    ∃ xs1 c xs2 b1 bk b2, xs = xs1 ++ (c ++ xs2) ∧ xs1.length = k * n ∧ c.length = n ∧ bl = b1 ++ (bk ++ b2) ∧ RepL n R xs1 (l.take k) b1 ∧ R c l[k] bk ∧ RepL n R xs2 (l.drop (k + 1)) b2
  | _, [], xs, bl, hk, h => by simp at hk
  | 0, x :: l, xs, bl, hk, h => by
    obtain ⟨c, xs', b1, b2, hc, rfl, rfl, h1, hr⟩ := h
    exact ⟨[], c, xs', [], b1, b2, rfl, by simp, hc, rfl, ⟨rfl, rfl⟩, h1, hr⟩
  | k + 1, x :: l, xs, bl, hk, h => by
    obtain ⟨c, xs', b1, b2, hc, rfl, rfl, h1, hr⟩ := h
    obtain ⟨xs1, c', xs2, d1, dk, d2, rfl, hl, hc', rfl, ha, hb, hd⟩ := RepL.split k (by simpa using hk) hr
    exact ⟨c ++ xs1, c', xs2, b1 ++ d1, dk, d2, by simp, by simp [hc, hl, Nat.add_mul]; omega, hc', by simp, ⟨c, xs1, b1, d1, hc, rfl, rfl, h1, ha⟩, by simpa using hb, by simpa using hd⟩

theorem RepL.join {k : Nat} {l : List α} {xs1 c xs2 : List Value} {b1 bk b2 : List Nat} {x : α} (hk : k < l.length) (hc : c.length = n) (h1 : RepL n R xs1 (l.take k) b1) (h : R c x bk)
    (h2 : RepL n R xs2 (l.drop (k + 1)) b2) : RepL n R (xs1 ++ (c ++ xs2)) (l.set k x) (b1 ++ (bk ++ b2)) := by
  rw [List.set_eq_take_append_cons_drop, if_pos hk]
  exact h1.append ⟨c, xs2, bk, b2, hc, rfl, rfl, h, h2⟩
end

/-- The cells 'cs' hold 'd', in rows of their own; 'bl': the blocks, each once for each way to it. -/
def rep : (t : Ty) → World → List Value → t.D → List Nat → Prop
  | .int k, _, cs, x, bl => cs = [.int k x] ∧ (Lit.int k x).wf = true ∧ bl = []
  | .bool, _, cs, x, bl => cs = [.bool x] ∧ bl = []
  | .str, _, cs, s, bl => cs = [.string s] ∧ s.size ≤ maxLen ∧ bl = []
  | .slice e t, w, cs, l, bl => ∃ v xs bl', cs = [v] ∧ w.ownsRow 0 e t.n v l.length xs ∧ RepL t.n (rep t w) xs l bl' ∧ bl = v.ownBlock.toList ++ bl'
  | .pair a b, w, cs, x, bl => ∃ c1 c2 b1 b2, cs = c1 ++ c2 ∧ bl = b1 ++ b2 ∧ rep a w c1 x.1 b1 ∧ rep b w c2 x.2 b2

theorem ownsRow_keep {w w' : World} {B : Nat} {e : TypeId} {n : Nat} {v : Value} {m : Nat} {xs : List Value} (h : w.ownsRow B e n v m xs) (hw : ∀ g, v.ownBlock = some g → w'.heap[g]? = w.heap[g]?) : w'.ownsRow B e n v m xs := by
  obtain ⟨h1, h2⟩ := h
  refine ⟨h1, ?_⟩
  rcases h2 with h2 | ⟨g, cap, cur, rfl, hg, hh, r⟩
  · exact .inl h2
  · exact .inr ⟨g, cap, cur, rfl, hg, (hw g rfl).trans hh, r⟩

theorem rep_keep {w w' : World} : (t : Ty) → (cs : List Value) → (d : t.D) → (bl : List Nat) → (∀ b ∈ bl, w'.heap[b]? = w.heap[b]?) → rep t w cs d bl → rep t w' cs d bl := by
  intro t
  induction t with
  | int k => intro cs d bl hb h; exact h
  | bool => intro cs d bl hb h; exact h
  | str => intro cs d bl hb h; exact h
  | slice e t ih =>
    intro cs d bl hb h
    obtain ⟨v, xs, bl', rfl, ho, hr, rfl⟩ := h
    exact ⟨v, xs, bl', rfl, ownsRow_keep ho (fun g hg => hb g (by simp [hg])), hr.mono (fun c x b hk hx => ih c x b (fun k hkb => hb k (by simp [hk k hkb])) hx), rfl⟩
  | pair a b iha ihb =>
    intro cs d bl hb h
    obtain ⟨c1, c2, b1, b2, rfl, rfl, h1, h2⟩ := h
    exact ⟨c1, c2, b1, b2, rfl, rfl, iha _ _ _ (fun k hk => hb k (by simp [hk])) h1, ihb _ _ _ (fun k hk => hb k (by simp [hk])) h2⟩

theorem rep_length (t : Ty) (w : World) (cs : List Value) (d : t.D) (bl : List Nat) (h : rep t w cs d bl) : cs.length = t.n := by
  induction t generalizing cs bl with
  | int k => simp [h.1, Ty.n]
  | bool => simp [h.1, Ty.n]
  | str => simp [h.1, Ty.n]
  | slice e t ih => obtain ⟨v, xs, bl', rfl, _⟩ := h; rfl
  | pair a b iha ihb =>
    obtain ⟨c1, c2, b1, b2, rfl, rfl, h1, h2⟩ := h
    simp [Ty.n, iha _ _ _ h1, ihb _ _ _ h2]

theorem rep_lt (t : Ty) (w : World) (cs : List Value) (d : t.D) (bl : List Nat) (h : rep t w cs d bl) : ∀ b ∈ bl, b < w.heap.size := by
  induction t generalizing cs bl with
  | int k => simp [h.2.2]
  | bool => simp [h.2]
  | str => simp [h.2.2]
  | slice e t ih =>
    obtain ⟨v, xs, bl', rfl, ho, hr, rfl⟩ := h
    intro b hb
    rw [List.mem_append] at hb
    rcases hb with hb | hb
    · exact (ho.lt b (by simpa using hb)).2
    · clear ho
      induction d generalizing xs bl' with
      | nil => simp [hr.2] at hb
      | cons x l ihl =>
        obtain ⟨c, xs', b1, b2, hc, rfl, rfl, h1, hr⟩ := hr
        rw [List.mem_append] at hb
        rcases hb with hb | hb
        · exact ih _ _ _ h1 b hb
        · exact ihl _ _ hr hb
  | pair a b iha ihb =>
    obtain ⟨c1, c2, b1, b2, rfl, rfl, h1, h2⟩ := h
    intro k hk
    rw [List.mem_append] at hk
    rcases hk with hk | hk
    · exact iha _ _ _ h1 k hk
    · exact ihb _ _ _ h2 k hk

theorem rep_rd (w : World) : (t : Ty) → (cs : List Value) → (d : t.D) → (bl : List Nat) → rep t w cs d bl → rd t w cs d := by
  intro t
  induction t with
  | int k => intro cs d bl h; exact ⟨h.1, h.2.1⟩
  | bool => intro cs d bl h; exact h.1
  | str => intro cs d bl h; exact ⟨h.1, h.2.1⟩
  | slice e t ih =>
    intro cs d bl h
    obtain ⟨v, xs, bl', rfl, ho, hr, rfl⟩ := h
    obtain ⟨h1, ⟨rfl, hn⟩ | ⟨g, cap, cur, rfl, hg, hh, hc, hm, hs, hx⟩⟩ := ho
    · exact ⟨none, 0, 0, rfl, hn.symm, Nat.le_refl _, Nat.zero_le _, fun _ => rfl, fun k hk => by omega⟩
    · refine ⟨some ⟨g, 0, none⟩, d.length, cap, rfl, rfl, hc, hm, (fun h => by cases h), fun k hk => ?_⟩
      obtain ⟨xs1, c, xs2, b1, bk, b2, he, hl, hcl, _, _, hR, _⟩ := hr.split k hk
      refine ⟨g, 0, rfl, (Array.getElem?_eq_some_iff.1 hh).1, c, hcl, fun j hj => ?_, ih _ _ _ hR⟩
      have h2 : xs[k * t.n + j]? = some c[j] := by
        rw [he, List.getElem?_append_right (by omega), List.getElem?_append_left (by omega), hl, Nat.add_sub_cancel_left, List.getElem?_eq_getElem hj]
      have h3 : cur[k * t.n + j]? = some c[j] := by
        rw [← hx, List.getElem?_take] at h2
        split at h2
        · simpa using h2
        · cases h2
      simp [World.cell?, hh, h3]
  | pair a b iha ihb =>
    intro cs d bl h
    obtain ⟨c1, c2, b1, b2, rfl, rfl, h1, h2⟩ := h
    exact ⟨c1, c2, rfl, iha _ _ _ h1, ihb _ _ _ h2⟩

/-- 'cs' holds d in rows of its own, all in the blocks from lo to hi. -/
def FrIn (t : Ty) (lo hi : Nat) (w : World) (cs : List Value) (d : t.D) : Prop :=
  ∃ bl, rep t w cs d bl ∧ bl.Nodup ∧ (∀ b ∈ bl, lo ≤ b ∧ b < hi) ∧ hi ≤ w.heap.size

section
variable {t : Ty} {lo hi lo' hi' : Nat} {w w' : World} {cs : List Value} {d : t.D}

theorem FrIn.rd (h : FrIn t lo hi w cs d) : rd t w cs d := by
  obtain ⟨bl, h, _⟩ := h
  exact rep_rd _ _ _ _ _ h

theorem FrIn.mono (h : FrIn t lo hi w cs d) (h1 : lo' ≤ lo) (h2 : hi ≤ hi') (h3 : hi' ≤ w.heap.size) : FrIn t lo' hi' w cs d := by
  obtain ⟨bl, h, hn, hb, hs⟩ := h
  exact ⟨bl, h, hn, fun b hb' => by have := hb b hb'; omega, h3⟩

/-- Blocks from lo to hi are as they were. -/
theorem FrIn.keep (h : FrIn t lo hi w cs d) (hw : ∀ b, lo ≤ b → b < hi → w'.heap[b]? = w.heap[b]?) (hs : w.heap.size ≤ w'.heap.size) : FrIn t lo hi w' cs d := by
  obtain ⟨bl, h, hn, hb, hz⟩ := h
  exact ⟨bl, rep_keep _ _ _ _ (fun b hb' => hw b (hb b hb').1 (hb b hb').2) h, hn, hb, by omega⟩

theorem FrIn.below {B : Nat} (h : FrIn t lo hi w cs d) (hw : Below B w w') (hB : hi ≤ B) : FrIn t lo hi w' cs d :=
  h.keep (fun b _ h2 => hw.block b (by omega)) hw.size

theorem FrIn.hi_le (h : FrIn t lo hi w cs d) : hi ≤ w.heap.size := h.choose_spec.2.2.2
end

theorem FrIn.int {k : IntKind} {lo hi : Nat} {w : World} {x : Int} (hx : (Lit.int k x).wf = true) (h : hi ≤ w.heap.size) : FrIn (.int k) lo hi w [.int k x] x :=
  ⟨[], ⟨rfl, hx, rfl⟩, List.nodup_nil, (fun b hb => by simp at hb), h⟩
theorem FrIn.bool {lo hi : Nat} {w : World} {x : Bool} (h : hi ≤ w.heap.size) : FrIn .bool lo hi w [.bool x] x :=
  ⟨[], ⟨rfl, rfl⟩, List.nodup_nil, (fun b hb => by simp at hb), h⟩
theorem FrIn.str {lo hi : Nat} {w : World} {x : ByteArray} (hx : x.size ≤ maxLen) (h : hi ≤ w.heap.size) : FrIn .str lo hi w [.string x] x :=
  ⟨[], ⟨rfl, hx, rfl⟩, List.nodup_nil, (fun b hb => by simp at hb), h⟩
theorem FrIn.nil {e : TypeId} {t : Ty} {lo hi : Nat} {w : World} (h : hi ≤ w.heap.size) : FrIn (.slice e t) lo hi w [.slice none 0 0] ([] : List t.D) :=
  ⟨[], ⟨_, [], [], rfl, World.ownsRow_nil _ _ _ _, ⟨rfl, rfl⟩, rfl⟩, List.nodup_nil, (fun b hb => by simp at hb), h⟩

theorem FrIn.pair {a b : Ty} {lo mid hi : Nat} {w : World} {c1 c2 : List Value} {x : a.D} {y : b.D} (h1 : FrIn a lo mid w c1 x) (h2 : FrIn b mid hi w c2 y) (hl : lo ≤ mid) (hm : mid ≤ hi) :
    FrIn (.pair a b) lo hi w (c1 ++ c2) (x, y) := by
  obtain ⟨b1, r1, n1, i1, _⟩ := h1
  obtain ⟨b2, r2, n2, i2, s2⟩ := h2
  refine ⟨b1 ++ b2, ⟨c1, c2, b1, b2, rfl, rfl, r1, r2⟩, ?_, fun k hk => ?_, s2⟩
  · rw [List.nodup_append]
    refine ⟨n1, n2, fun x hx y hy e => ?_⟩
    have := i1 x hx; have := i2 y hy; omega
  · rw [List.mem_append] at hk
    rcases hk with hk | hk
    · have := i1 k hk; omega
    · have := i2 k hk; omega

theorem FrIn.pair' {a b : Ty} {lo mid hi : Nat} {w : World} {c1 c2 : List Value} {x : a.D} {y : b.D} (h1 : FrIn a mid hi w c1 x) (h2 : FrIn b lo mid w c2 y) (hl : lo ≤ mid) (hm : mid ≤ hi) :
    FrIn (.pair a b) lo hi w (c1 ++ c2) (x, y) := by
  obtain ⟨b1, r1, n1, i1, s1⟩ := h1
  obtain ⟨b2, r2, n2, i2, s2⟩ := h2
  refine ⟨b1 ++ b2, ⟨c1, c2, b1, b2, rfl, rfl, r1, r2⟩, ?_, fun k hk => ?_, s1⟩
  · rw [List.nodup_append]
    refine ⟨n1, n2, fun x hx y hy e => ?_⟩
    have := i1 x hx; have := i2 y hy; omega
  · rw [List.mem_append] at hk
    rcases hk with hk | hk
    · have := i1 k hk; omega
    · have := i2 k hk; omega

/-! ### append -/

section
variable {P : Program} (w : World)

/-- An append of one element to a slice of the call's own. -/
theorem run_append_fr (T ty e : TypeId) (i : TypeInfo) (z : Value) (t : Ty) (bytes : Nat) (ht : P.underlying T = some (.slice e)) (hi : P.info? e = some i) (hz : i.zero = some z)
    (hsize : i.size = t.n) (hby : i.bytes = bytes) (hzs : z.cells.size = t.n)
    (v : Value) (l : List t.D) (lo mid hi' : Nat) (hs : FrIn (.slice e t) lo mid w [v] l) (hlm : lo ≤ mid)
    (a : Addr) (c : Nat) (news : List Value) (x : t.D) (hx : FrIn t mid hi' w news x) (hnews : ∀ j u, news[j]? = some u → w.cell? (a.add j) = some u) (h1 : ∀ u ∈ news, u.oneCell' = true)
    (hbytes : (l.length + 1) * bytes ≤ 140737488355328) (h63 : l.length + 1 ≤ maxLen) :
    ∃ v' w', (Builtin.append_ #[T, T] ty #[v, .slice (some a) 1 c]).run P w = .ok v' w' ∧ FrIn (.slice e t) lo w'.heap.size w' [v'] (l ++ [x]) ∧ w.grownBy w' v.ownBlock ∧
      (∃ p cap, v' = .slice p (l.length + 1) cap) := by
  subst hby
  obtain ⟨bl, ⟨v0, xs, bl', hv0, ho, hr, rfl⟩, hnd, hin, hmz⟩ := hs
  obtain rfl : v0 = v := by simpa using hv0.symm
  obtain ⟨bx, hrx, hndx, hinx, hhz⟩ := hx
  have hnl : news.length = t.n := rep_length _ _ _ _ _ hrx
  have hxl : xs.length = l.length * t.n := ho.1
  -- what the new row is, whichever block it is in
  have build : ∀ (w' : World) (g cap : Nat) (cur : Array Value), w'.heap[g]? = some (.cells cur e (0, 0)) → l.length + 1 ≤ cap → cap ≤ maxLen → cur.size = cap * t.n →
      cur.toList.take ((l.length + 1) * t.n) = xs ++ news → (∀ b, b < w.heap.size → some b ≠ v0.ownBlock → w'.heap[b]? = w.heap[b]?) → w.heap.size ≤ w'.heap.size → g < w'.heap.size →
      (v0.ownBlock = some g ∨ w.heap.size ≤ g) → FrIn (.slice e t) lo w'.heap.size w' [.slice (some ⟨g, 0, none⟩) (l.length + 1) cap] (l ++ [x]) := by
    intro w' g cap cur hg hcap hcm hcs htake hother hsz hgl hgb
    have hlt' : ∀ b ∈ bl', b < w.heap.size := fun b hb => by have := hin b (by simp [hb]); omega
    have hne' : ∀ b ∈ bl', some b ≠ v0.ownBlock := fun b hb he => by
      rw [List.nodup_append] at hnd
      exact hnd.2.2 b (by simp [← he]) b hb rfl
    have hnex : ∀ b ∈ bx, some b ≠ v0.ownBlock := fun b hb he => by
      have h1 := hin b (by simp [← he])
      have h2 := hinx b hb
      omega
    refine ⟨g :: (bl' ++ bx), ⟨_, xs ++ news, bl' ++ bx, rfl, ⟨by simp [hxl, hnl, Nat.add_mul], .inr ⟨g, cap, cur, by simp, Nat.zero_le _, hg, by simpa using hcap, hcm, hcs, by simpa using htake⟩⟩, ?_, rfl⟩, ?_, ?_, Nat.le_refl _⟩
    · refine (hr.mono (fun c y b hb hy => rep_keep _ _ _ _ (fun k hk => hother k (hlt' k (hb k hk)) (hne' k (hb k hk))) hy)).append (RepL.one hnl (rep_keep _ _ _ _ (fun k hk => hother k ?_ (hnex k hk)) hrx))
      have := hinx k hk; omega
    · rw [List.nodup_cons, List.nodup_append]
      rw [List.nodup_append] at hnd
      refine ⟨fun hmem => ?_, hnd.2.1, hndx, fun p hp q hq he => ?_⟩
      · rw [List.mem_append] at hmem
        rcases hgb with hgb | hgb
        · rcases hmem with hm | hm
          · exact hne' g hm hgb.symm
          · exact hnex g hm hgb.symm
        · rcases hmem with hm | hm
          · have := hlt' g hm; omega
          · have := hinx g hm; omega
      · have h1 := hin p (by simp [hp]); have h2 := hinx q hq; omega
    · intro b hb
      rw [List.mem_cons, List.mem_append] at hb
      rcases hb with rfl | hb | hb
      · rcases hgb with hgb | hgb
        · have := hin b (by simp [hgb]); omega
        · omega
      · have := hin b (by simp [hb]); have := hlt' b hb; omega
      · have := hinx b hb; omega
  have hsmall : l.length + 1 ≤ 9223372036854775807 := by simp only [maxLen] at h63; omega
  have hnl' : news.length = 1 * i.size := by omega
  have hpos := Ty.n_pos t
  rcases ho.2 with ⟨rfl, hn0⟩ | ⟨g, cap, cur, rfl, hbg, hg, hnc, hcm, hcs, htake⟩
  · obtain rfl : l = [] := List.eq_nil_of_length_eq_zero hn0
    have hx0 : xs = [] := List.eq_nil_of_length_eq_zero (by simpa using hxl)
    have hr := run_append_nil (P := P) w T ty e i z ht hi hz a 1 c news hnl' hnews (by omega) (by omega) (by simp at hbytes; omega)
    refine ⟨_, _, hr, ?_, ⟨rfl, rfl, rfl, by simp, fun k hk _ => heap_alloc_old w.drew _ hk⟩, ⟨_, _, rfl⟩⟩
    refine build _ w.heap.size _ _ (heap_alloc_new w.drew _) (grownCap_ge w 1 0 e) (grownCap_le_maxLen w 1 0 e (by simp [maxLen])) ?_ ?_ (fun b hb _ => heap_alloc_old w.drew _ hb) (by simp) (by simp) (.inr (Nat.le_refl _))
    · have := grownCap_ge w 1 0 e
      simp only [Array.size_append, List.size_toArray, size_zeroCells, hzs, hnl', hsize, ← Nat.add_mul]
      congr 1
      omega
    · simp only [hx0, Array.toList_append, List.nil_append]
      exact List.take_left' (by simp [hnl])
  · by_cases hroom : l.length + 1 ≤ cap
    · have hfit : l.length * i.size + news.length ≤ cur.size := by rw [hnl', hcs, ← Nat.add_mul, hsize]; exact Nat.mul_le_mul_right _ hroom
      have hr := run_append_room (P := P) w T ty e i ht hi g l.length cap cur hg a 1 c news hnl' hnews h1 hroom hfit
      refine ⟨_, _, hr, ?_, ⟨rfl, rfl, rfl, by simp, fun k _ hk => setRow_other w g k _ (fun e => hk (by simp [Value.ownBlock, e]))⟩, ⟨_, _, rfl⟩⟩
      refine build _ g cap _ (setRow_heap w g cur _ e _ hg) hroom hcm ?_ ?_ (fun b hb hk => setRow_other w g b _ (fun e => hk (by simp [Value.ownBlock, e]))) (by simp) (by have := (Array.getElem?_eq_some_iff.1 hg).1; simpa using this) (.inl rfl)
      · simp only [List.size_toArray, List.length_append, List.length_take, List.length_drop, Array.length_toList]
        omega
      · rw [hsize, htake]
        exact List.take_left' (by simp [hxl, hnl, Nat.add_mul])
    · have holds : ∀ j u, xs[j]? = some u → w.cell? ((⟨g, 0, none⟩ : Addr).add j) = some u := ho.cells (g := g) rfl
      have hr := run_append_grow (P := P) w T ty e i z ht hi hz ⟨g, 0, none⟩ l.length cap xs (by rw [hxl, hsize]) holds a 1 c news hnl' hnews (by omega) (by omega) (growslice_fits (by omega) hbytes)
      refine ⟨_, _, hr, ?_, ⟨rfl, rfl, rfl, by simp, fun k hk _ => heap_alloc_old w.drew _ hk⟩, ⟨_, _, rfl⟩⟩
      refine build _ w.heap.size _ _ (heap_alloc_new w.drew _) (grownCap_ge w _ cap e) (grownCap_le_maxLen w _ cap e h63) ?_ ?_ (fun b hb _ => heap_alloc_old w.drew _ hb) (by simp) (by simp) (.inr (Nat.le_refl _))
      · have := grownCap_ge w (l.length + 1) cap e
        simp only [Array.size_append, List.size_toArray, size_zeroCells, hzs, hxl, hnl]
        rw [show l.length * t.n + t.n = (l.length + 1) * t.n by rw [Nat.add_mul]; omega, ← Nat.add_mul]
        congr 1
        omega
      · simp only [Array.toList_append]
        exact List.take_left' (by simp [hxl, hnl, Nat.add_mul])

theorem wpList_append_fr {ops : Array Oper} {rest : List Oper} {o : Oper} {a : Act} {Q : Exit → Act → World → Prop} (hgd : o.guard = none) (s y : Operand) (T : TypeId)
    (hop : o.op = .call { callee := .builtin .append, args := #[s, y], argTypes := #[T, T] })
    (e : TypeId) (i : TypeInfo) (z : Value) (t : Ty) (bytes : Nat) (ht : P.underlying T = some (.slice e)) (hi : P.info? e = some i) (hz : i.zero = some z)
    (hsize : i.size = t.n) (hby : i.bytes = bytes) (hzs : z.cells.size = t.n)
    (v : Value) (hv : a.eval s = v) (l : List t.D) (lo mid hi' : Nat) (hs : FrIn (.slice e t) lo mid w [v] l) (hlm : lo ≤ mid)
    (ad : Addr) (c : Nat) (news : List Value) (hy : a.eval y = .slice (some ad) 1 c) (x : t.D) (hx : FrIn t mid hi' w news x) (hnews : ∀ j u, news[j]? = some u → w.cell? (ad.add j) = some u) (h1 : ∀ u ∈ news, u.oneCell' = true)
    (hbytes : (l.length + 1) * bytes ≤ 140737488355328) (h63 : l.length + 1 ≤ maxLen)
    (h : ∀ p cap w', FrIn (.slice e t) lo w'.heap.size w' [.slice p (l.length + 1) cap] (l ++ [x]) → w.grownBy w' v.ownBlock → wpList P ops Q rest (a.put o.dst (.slice p (l.length + 1) cap)) w') : wpList P ops Q (o :: rest) a w := by
  refine wpList_plain hgd fun K hK => ?_
  obtain ⟨v', w', hr, h2, h3, p, cap, rfl⟩ := run_append_fr (P := P) w T o.type e i z t bytes ht hi hz hsize hby hzs v l lo mid hi' hs hlm ad c news x hx hnews h1 hbytes h63
  unfold Oper.wp execOp
  simp only [hop, resolve, invoke, builtin, Sem.run_bind, Sem.run_pure, Result.andThen_ok, List.map_toArray, List.map_cons, List.map_nil, hv, hy, hr]
  exact hK _ _ (h p cap w' h2 h3)
end

end Go.Proofs.Ytnijnjclmlfahaa
