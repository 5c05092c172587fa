/- Making a row of zero values, storing into a row of the call's own. No program in sight. -/
import Derived.Test.YtnijnjclmlfahaaOwn
import Derived.Laws.MakeOwn
namespace Go.Proofs.Ytnijnjclmlfahaa
open Go.ChangeShapes Go.WideShapes Go.ChangeAt Go.RowKit Go.Deep
set_option linter.unusedVariables false

def zeroC : Ty → List Value
  | .int k => [.int k 0]
  | .bool => [.bool false]
  | .str => [.string ⟨#[]⟩]
  | .slice _ _ => [.slice none 0 0]
  | .pair a b => zeroC a ++ zeroC b

def zeroD : (t : Ty) → t.D
  | .int _ => (0 : Int)
  | .bool => false
  | .str => (⟨#[]⟩ : ByteArray)
  | .slice _ t => ([] : List t.D)
  | .pair a b => (zeroD a, zeroD b)

theorem wf_zero (k : IntKind) : (Lit.int k 0).wf = true := by cases k <;> rfl

theorem rep_zero (w : World) (t : Ty) : rep t w (zeroC t) (zeroD t) [] := by
  induction t with
  | int k => exact ⟨rfl, wf_zero k, rfl⟩
  | bool => exact ⟨rfl, rfl⟩
  | str => exact ⟨rfl, Nat.zero_le _, rfl⟩
  | slice e t ih => exact ⟨_, [], [], rfl, World.ownsRow_nil _ _ _ _, ⟨rfl, rfl⟩, rfl⟩
  | pair a b iha ihb => exact ⟨_, _, [], [], rfl, rfl, iha, ihb⟩

theorem zeroC_length (t : Ty) : (zeroC t).length = t.n := by
  induction t with
  | pair a b iha ihb => simp [zeroC, Ty.n, iha, ihb]
  | _ => simp [zeroC, Ty.n]

/-- The cells of n zero values. -/
def zrowL (t : Ty) : Nat → List Value
  | 0 => []
  | n + 1 => zeroC t ++ zrowL t n
def zrow (t : Ty) (n : Nat) : Array Value := (zrowL t n).toArray

theorem zrowL_length (t : Ty) (n : Nat) : (zrowL t n).length = n * t.n := by
  induction n with
  | zero => simp [zrowL]
  | succ n ih => simp [zrowL, ih, zeroC_length, Nat.add_mul]; omega

theorem zrow_size (t : Ty) (n : Nat) : (zrow t n).size = n * t.n := by simp [zrow, zrowL_length]

theorem zrowL_get (t : Ty) : (n j : Nat) → j < n * t.n → (zrowL t n)[j]? = (zeroC t)[j % t.n]?
  | 0, j, h => by simp at h
  | n + 1, j, h => by
    have hp := Ty.n_pos t
    simp only [zrowL]
    by_cases hj : j < t.n
    · rw [List.getElem?_append_left (by rw [zeroC_length]; exact hj), Nat.mod_eq_of_lt hj]
    · rw [List.getElem?_append_right (by rw [zeroC_length]; omega), zeroC_length, zrowL_get t n (j - t.n) (by rw [Nat.add_mul] at h; omega), Nat.mod_eq_sub_mod (a := j) (by omega)]

theorem made_zrow (z : Value) (t : Ty) (n : Nat) (hz : z.cells.toList = zeroC t) : madeCells z.cells (n * t.n) = zrow t n := by
  have hsz : z.cells.size = t.n := by rw [← Array.length_toList, hz, zeroC_length]
  have hp := Ty.n_pos t
  apply Array.ext
  · rw [size_madeCells, zrow_size]
  · intro j h1 h2
    rw [size_madeCells] at h1
    have h3 := zrowL_get t n j h1
    have hm : j % t.n < t.n := Nat.mod_lt _ hp
    have h4 : (zrow t n)[j]? = (zeroC t)[j % t.n]? := by simpa [zrow] using h3
    rw [Array.getElem?_eq_getElem h2, ← hz, Array.getElem?_toList, Array.getElem?_eq_getElem (by omega)] at h4
    have h5 : (zrow t n)[j] = z.cells[j % t.n]'(by omega) := by simpa using h4
    rw [h5]
    simp only [madeCells, Array.getElem_map, Array.getElem_range, hsz]
    rw [getElem!_pos z.cells (j % t.n) (by omega)]

theorem run_make_fr (P : Program) (T e : TypeId) (z : Value) (bytes : Nat) (t : Ty) (ht : P.underlying T = some (.slice e)) (hinfo : (P.info? e).map (fun i => (i.zero, i.size, i.bytes)) = some (some z, t.n, bytes))
    (hz : z.cells.toList = zeroC t) (n : Nat) (hb : bytes * n ≤ 281474976710656) (hn : n ≤ 9223372036854775807) (w : World) :
    (Instr.makeSlice T (.int .i64 (n : Int)) (.int .i64 (n : Int))).run P w = .ok (.slice (some ⟨w.heap.size, 0, none⟩) n n) (w.alloc (.cells (zrow t n) e)) := by
  obtain ⟨i, hi, hzz⟩ := Option.map_eq_some_iff.1 hinfo
  simp only [Prod.mk.injEq] at hzz
  obtain ⟨h0, hs, hby⟩ := hzz
  have hb' : (i.bytes : Int) * (n : Int) ≤ 281474976710656 := by
    have h : ((bytes * n : Nat) : Int) ≤ 281474976710656 := by omega
    rw [hby]; rwa [Int.natCast_mul] at h
  have hr := run_make (P := P) w T e i z ht hi h0 .i64 .i64 n n (by omega) (Int.le_refl _) hb' (by omega)
  rw [hr]
  simp only [Int.toNat_natCast, hs, made_zrow z t n hz]

theorem RepL_zrow (w : World) (t : Ty) : (n : Nat) → RepL t.n (rep t w) (zrowL t n) (List.replicate n (zeroD t)) []
  | 0 => ⟨rfl, rfl⟩
  | n + 1 => ⟨zeroC t, zrowL t n, [], [], zeroC_length t, rfl, rfl, rep_zero w t, RepL_zrow w t n⟩

/-- What 'make' gives. -/
theorem FrIn.made (w : World) (t : Ty) (e : TypeId) (n : Nat) (hn : n ≤ maxLen) :
    FrIn (.slice e t) w.heap.size (w.heap.size + 1) (w.alloc (.cells (zrow t n) e)) [.slice (some ⟨w.heap.size, 0, none⟩) n n] (List.replicate n (zeroD t)) := by
  refine ⟨[w.heap.size], ⟨_, zrowL t n, [], rfl, ⟨by simp [zrowL_length], .inr ⟨w.heap.size, n, zrow t n, by simp, Nat.zero_le _, Go.heap_alloc_new w _, by simp, hn, zrow_size t n, ?_⟩⟩, RepL_zrow _ t n, rfl⟩, by simp, (fun b hb => by simp at hb; omega), by simp⟩
  simp only [zrow, List.length_replicate]
  exact List.take_of_length_le (by rw [zrowL_length]; exact Nat.le_refl _)

/-! ### stores -/

def setCells (w : World) (b off : Nat) : List Value → World
  | [] => w
  | v :: vs => setCells (w.setCell ⟨b, off, none⟩ v) b (off + 1) vs

theorem setCell_block {w : World} {b j : Nat} {c : Array Value} {e : TypeId} {fr : Nat × Nat} (v : Value) (h : w.heap[b]? = some (.cells c e fr)) :
    (w.setCell ⟨b, j, none⟩ v).heap[b]? = some (.cells (c.setIfInBounds j v) e fr) := by
  simp [World.setCell, Array.getElem?_modify, h]

theorem setCells_block : (vs : List Value) → (w : World) → (b off : Nat) → (c : Array Value) → {e : TypeId} → {fr : Nat × Nat} → w.heap[b]? = some (.cells c e fr) → off + vs.length ≤ c.size →
    ∃ c', (setCells w b off vs).heap[b]? = some (.cells c' e fr) ∧ c'.toList = c.toList.take off ++ (vs ++ c.toList.drop (off + vs.length))
  | [], w, b, off, c, e, fr, h, hs => ⟨c, h, by simp⟩
  | v :: vs, w, b, off, c, e, fr, h, hs => by
    simp only [List.length_cons] at hs
    obtain ⟨c', h1, h2⟩ := setCells_block vs _ b (off + 1) _ (setCell_block (j := off) v h) (by simp; omega)
    refine ⟨c', h1, ?_⟩
    rw [h2, Array.toList_setIfInBounds, List.set_eq_take_append_cons_drop, if_pos (by simp; omega)]
    have e1 : (List.take off c.toList).length = off := by simp; omega
    rw [List.take_append, e1, List.drop_append, e1]
    simp only [Nat.add_sub_cancel_left, List.take_succ_cons, List.take_zero, List.length_cons]
    rw [List.take_of_length_le (l := List.take off c.toList) (by omega), List.drop_of_length_le (l := List.take off c.toList) (by omega)]
    rw [show off + 1 + vs.length - off = vs.length + 1 by omega, List.drop_succ_cons, List.drop_drop]
    simp [Nat.add_assoc, Nat.add_comm 1]

theorem setCells_size : (vs : List Value) → (w : World) → (b off : Nat) → (setCells w b off vs).heap.size = w.heap.size
  | [], w, b, off => rfl
  | v :: vs, w, b, off => by rw [setCells, setCells_size vs]; simp [World.setCell]

theorem setCells_other : (vs : List Value) → (w : World) → (b off k : Nat) → k ≠ b → (setCells w b off vs).heap[k]? = w.heap[k]?
  | [], w, b, off, k, h => rfl
  | v :: vs, w, b, off, k, h => by rw [setCells, setCells_other vs _ _ _ _ h, Below.heap_setCell _ _ _ _ h]

theorem Below.setCells {B : Nat} {a w : World} : {vs : List Value} → {b off : Nat} → Below B a w → B ≤ b → Below B a (setCells w b off vs)
  | [], b, off, h, hb => h
  | v :: vs, b, off, h, hb => Below.setCells (vs := vs) (h.setCell (p := ⟨b, off, none⟩) hb v) hb

section
variable {t : Ty} {e : TypeId} {lo mid hi : Nat} {w : World} {b len cap : Nat} {l : List t.D}

/-- The cells of element k of a row of the call's own: there, and not frozen. -/
theorem FrIn.at {v : Value} (h : FrIn (.slice e t) lo mid w [v] l) (k : Nat) (hk : k < l.length) :
    ∃ b cap, v = .slice (some ⟨b, 0, none⟩) l.length cap ∧ lo ≤ b ∧ b < mid ∧ (∀ j, w.frozen? ⟨b, j, none⟩ = false) ∧
      ∃ c, c.length = t.n ∧ (∀ j (hj : j < c.length), w.cell? ⟨b, k * t.n + j, none⟩ = some c[j]) ∧ FrIn t lo mid w c l[k] := by
  obtain ⟨bl, ⟨v0, xs, bl', hv, ho, hr, rfl⟩, hnd, hin, hs⟩ := h
  obtain rfl : v = v0 := by simpa using hv
  obtain ⟨h1, ⟨rfl, hn⟩ | ⟨g, cap, cur, rfl, hg, hh, hc, hm, hcs, hx⟩⟩ := ho
  · omega
  · obtain ⟨xs1, c, xs2, b1, bk, b2, he, hl, hcl, rfl, _, hR, _⟩ := hr.split k hk
    have hb := hin g (by simp [Value.ownBlock])
    refine ⟨g, cap, rfl, hb.1, hb.2, fun j => by simp [World.frozen?, hh], c, hcl, fun j hj => ?_, ?_⟩
    · have h2 : xs[k * t.n + j]? = some c[j] := by
        rw [he, List.getElem?_append_right (by omega), List.getElem?_append_left (by omega), hl, Nat.add_sub_cancel_left, List.getElem?_eq_getElem hj]
      have h3 : cur[k * t.n + j]? = some c[j] := by
        rw [← hx, List.getElem?_take] at h2
        split at h2
        · simpa using h2
        · cases h2
      simp [World.cell?, hh, h3]
    · refine ⟨bk, hR, ?_, fun b' hb' => hin b' (by simp [hb']), hs⟩
      rw [List.nodup_append, List.nodup_append] at hnd
      have := hnd.2.1
      simp only [List.nodup_append] at this
      exact this.2.1.1

/-- A whole element is stored. -/
theorem FrIn.set (h : FrIn (.slice e t) lo mid w [.slice (some ⟨b, 0, none⟩) len cap] l) (k : Nat) (hk : k < l.length) (hlm : lo ≤ mid) (hmh : mid ≤ hi) {c : List Value} {x : t.D} (hx : FrIn t mid hi w c x) :
    FrIn (.slice e t) lo hi (setCells w b (k * t.n) c) [.slice (some ⟨b, 0, none⟩) len cap] (l.set k x) := by
  obtain ⟨bl, ⟨v0, xs, bl', hv, ho, hr, rfl⟩, hnd, hin, hs⟩ := h
  obtain rfl : Value.slice (some ⟨b, 0, none⟩) len cap = v0 := by simpa using hv
  obtain ⟨bx, hrx, hndx, hinx, hhz⟩ := hx
  have hcl' : c.length = t.n := rep_length _ _ _ _ _ hrx
  obtain ⟨h1, ⟨h0, hn⟩ | ⟨g, cap', cur, hv', hg, hh, hc, hm, hcs, htk⟩⟩ := ho
  · omega
  · obtain ⟨rfl, rfl, rfl⟩ : b = g ∧ len = l.length ∧ cap = cap' := by simpa using hv'
    obtain ⟨xs1, c0, xs2, b1, bk, b2, he, hl, hcl, rfl, hr1, hR, hr2⟩ := hr.split k hk
    have hbin := hin b (by simp [Value.ownBlock])
    have hsz : k * t.n + c.length ≤ cur.size := by
      rw [hcl', hcs]
      have : (k + 1) * t.n ≤ cap * t.n := Nat.mul_le_mul_right _ (by omega)
      rw [Nat.add_mul] at this; omega
    obtain ⟨c', hb', hc'⟩ := setCells_block c w b (k * t.n) cur hh hsz
    have hnd' := hnd
    simp only [Value.ownBlock, Option.toList_some, List.singleton_append, List.nodup_cons, List.mem_append, not_or, List.nodup_append] at hnd'
    obtain ⟨⟨nb1, nbk, nb2⟩, n1, ⟨nk, n2, d2⟩, d1⟩ := hnd'
    have mv : ∀ (bs : List Nat) (ys : List Value) (m : List t.D), b ∉ bs → RepL t.n (rep t w) ys m bs → RepL t.n (rep t (setCells w b (k * t.n) c)) ys m bs := fun bs ys m hb hr =>
      hr.mono (fun c y bb hq hy => rep_keep _ _ _ _ (fun q hqb => setCells_other _ _ _ _ _ (fun e => hb (by rw [← e]; exact hq q hqb))) hy)
    have hx' : rep t (setCells w b (k * t.n) c) c x bx := rep_keep _ _ _ _ (fun q hqb => setCells_other _ _ _ _ _ (fun e => by have := hinx q hqb; omega)) hrx
    refine ⟨b :: (b1 ++ (bx ++ b2)), ⟨_, xs1 ++ (c ++ xs2), b1 ++ (bx ++ b2), rfl, ⟨?_, .inr ⟨b, cap, c', by simp, Nat.zero_le _, hb', by simpa using hc, hm, ?_, ?_⟩⟩, RepL.join hk hcl' (mv _ _ _ nb1 hr1) hx' (mv _ _ _ nb2 hr2), rfl⟩, ?_, ?_, ?_⟩
    · have := congrArg List.length he
      simp only [List.length_append, h1] at this
      simp only [List.length_append, List.length_set]; omega
    · have := congrArg List.length hc'
      simp only [Array.length_toList, List.length_append, List.length_take, List.length_drop] at this
      omega
    · rw [hc', List.length_set]
      have e1 : xs1 = cur.toList.take (k * t.n) := by
        have := congrArg (List.take (k * t.n)) htk
        rw [he, List.take_left' hl, List.take_take, Nat.min_eq_left (Nat.mul_le_mul_right _ (by omega))] at this
        exact this.symm
      have e2 : xs2 = (cur.toList.drop (k * t.n + c.length)).take (l.length * t.n - (k * t.n + c.length)) := by
        have := congrArg (List.drop (k * t.n + c.length)) htk
        rw [he, ← List.append_assoc, List.drop_left' (by simp [hl, hcl, hcl']), List.drop_take] at this
        exact this.symm
      have hle : k * t.n + c.length ≤ l.length * t.n := by
        have : (k + 1) * t.n ≤ l.length * t.n := Nat.mul_le_mul_right _ (by omega)
        rw [Nat.add_mul] at this; omega
      rw [← e1, List.take_append, hl, List.take_of_length_le (l := xs1) (by omega), List.take_append, List.take_of_length_le (l := c) (by omega), e2]
      congr 3
      omega
    · simp only [List.nodup_cons, List.mem_append, not_or, List.nodup_append]
      refine ⟨⟨nb1, fun hm => ?_, nb2⟩, n1, ⟨hndx, n2, fun p hp q hq e => ?_⟩, fun p hp q hq e => ?_⟩
      · have := hinx b hm; omega
      · have := hinx p hp; have := hin q (by simp [hq]); omega
      · rcases hq with hq | hq
        · have := hinx q hq; have := hin p (by simp [hp]); omega
        · exact d1 p hp q (by simp [hq]) e
    · intro q hq
      simp only [List.mem_cons, List.mem_append] at hq
      rcases hq with rfl | hq | hq | hq
      · omega
      · have := hin q (by simp [hq]); omega
      · have := hinx q hq; omega
      · have := hin q (by simp [hq]); omega
    · rw [setCells_size]; exact hhz
end
end Go.Proofs.Ytnijnjclmlfahaa
