/- Plain words on how data lie in memory: what a row of cells reads as, what a fresh result owns. No program in sight. -/
import Derived.Test.YtnijnjclmlfahaaRows
import Derived.WalkKit
import Derived.ProofKit
import Derived.OpenShut
import Derived.Deep.Slices
import Derived.Lib.Hide
import Derived.Deep.QuietTactic
import Derived.BigQuiet
import Derived.Deep.LoopGhost
import Derived.Deep.RegionWith
import Derived.Deep.DeepMust
import Derived.WalkLawsBesides
import Derived.WalkSpells
import Derived.OwnWalk
import Derived.StillTailTactics
namespace Go.Proofs.Ytnijnjclmlfahaa
open Go.ChangeShapes Go.WideShapes Go.ChangeAt Go.RowKit Go.Deep
set_option linter.unusedVariables false

/-- The shapes of data that the laws take and hand back. 'slice e t': 'e' is the element type's number. -/
inductive Ty where
  | int (k : IntKind)
  | bool
  | str
  | slice (e : TypeId) (t : Ty)
  | pair (a b : Ty)

def Ty.n : Ty → Nat
  | .pair a b => a.n + b.n
  | _ => 1

@[reducible] def Ty.D : Ty → Type
  | .int _ => Int
  | .bool => Bool
  | .str => ByteArray
  | .slice _ t => List t.D
  | .pair a b => a.D × b.D

theorem Ty.n_pos (t : Ty) : 0 < t.n := by
  induction t with
  | pair a b iha ihb => simp [Ty.n]; omega
  | _ => simp [Ty.n]

/-- A slice's cells, element by element. -/
def SlRd {α : Type} (n : Nat) (R : List Value → α → Prop) (w : World) (p : Option Addr) (len cap : Nat) (l : List α) : Prop :=
  len = l.length ∧ len ≤ cap ∧ cap ≤ maxLen ∧ (p = none → cap = 0) ∧
    ∀ k (h : k < l.length), ∃ b off, p = some ⟨b, off, none⟩ ∧ b < w.heap.size ∧ ∃ cs, cs.length = n ∧ (∀ j (hj : j < cs.length), w.cell? ⟨b, off + k * n + j, none⟩ = some cs[j]) ∧ R cs l[k]

theorem list_of {α : Type} {Q : Nat → α → Prop} : (len : Nat) → (∀ k, k < len → ∃ d, Q k d) → ∃ l : List α, l.length = len ∧ ∀ k (h : k < l.length), Q k l[k]
  | 0, _ => ⟨[], rfl, fun k hk => by simp at hk⟩
  | q + 1, hex => by
    obtain ⟨l, hlen, hall⟩ := list_of q (fun k hk => hex k (by omega))
    obtain ⟨d, h1⟩ := hex q (by omega)
    refine ⟨l ++ [d], by simp [hlen], fun k hk => ?_⟩
    by_cases hkq : k < l.length
    · rw [List.getElem_append_left hkq]; exact hall k hkq
    · have : k = l.length := by simp at hk; omega
      subst this
      rw [← hlen] at h1
      simpa using h1

/-- The cells 'cs' read as 'd' in the world w. -/
def rd : (t : Ty) → World → List Value → t.D → Prop
  | .int k, _, cs, x => cs = [.int k x] ∧ (Lit.int k x).wf = true
  | .bool, _, cs, x => cs = [.bool x]
  | .str, _, cs, s => cs = [.string s] ∧ s.size ≤ maxLen
  | .slice _ t, w, cs, l => ∃ p len cap, cs = [.slice p len cap] ∧ SlRd t.n (rd t w) w p len cap l
  | .pair a b, w, cs, x => ∃ c1 c2, cs = c1 ++ c2 ∧ rd a w c1 x.1 ∧ rd b w c2 x.2

theorem rd_length : (t : Ty) → (w : World) → (cs : List Value) → (d : t.D) → rd t w cs d → cs.length = t.n := by
  intro t
  induction t with
  | int k => intro w cs d h; obtain ⟨rfl, _⟩ := h; rfl
  | bool => intro w cs d h; cases h; rfl
  | str => intro w cs d h; obtain ⟨rfl, _⟩ := h; rfl
  | slice e t ih => intro w cs d h; obtain ⟨p, len, cap, rfl, _⟩ := h; rfl
  | pair a b iha ihb =>
    intro w cs d h
    obtain ⟨c1, c2, rfl, h1, h2⟩ := h
    simp [Ty.n, iha _ _ _ h1, ihb _ _ _ h2]

/-- All cells of w are in w' as they were. -/
def Keeps (w w' : World) : Prop := ∀ b, b < w.heap.size → w'.heap[b]? = w.heap[b]?

theorem Keeps.cell {w w' : World} (h : Keeps w w') {a : Addr} {v : Value} (hc : w.cell? a = some v) : w'.cell? a = some v :=
  (World.cell?_of_block (h a.block (World.block_lt_of_cell? w a hc))).trans hc

theorem Keeps.size {w w' : World} (h : Keeps w w') : w.heap.size ≤ w'.heap.size := by
  by_cases hz : w.heap.size = 0
  · omega
  · have h0 := h (w.heap.size - 1) (by omega)
    have h1 : w.heap[w.heap.size - 1]? = some (w.heap[w.heap.size - 1]'(by omega)) := Array.getElem?_eq_getElem (by omega)
    obtain ⟨h2, _⟩ := Array.getElem?_eq_some_iff.1 (h0.trans h1)
    omega

theorem Below.keeps {w w' : World} (h : Below w.heap.size w w') : Keeps w w' := h.block

theorem SlRd.mono {α : Type} {n : Nat} {R R' : List Value → α → Prop} {w w' : World} {p : Option Addr} {len cap : Nat} {l : List α}
    (hw : Keeps w w') (hR : ∀ cs x, R cs x → R' cs x) (h : SlRd n R w p len cap l) : SlRd n R' w' p len cap l := by
  obtain ⟨h1, h2, h3, h4, h5⟩ := h
  refine ⟨h1, h2, h3, h4, fun k hk => ?_⟩
  obtain ⟨b, off, hp, hb, cs, hn, hc, hr⟩ := h5 k hk
  exact ⟨b, off, hp, Nat.lt_of_lt_of_le hb hw.size, cs, hn, fun j hj => hw.cell (hc j hj), hR _ _ hr⟩

theorem rd_mono {w w' : World} (hw : Keeps w w') : (t : Ty) → (cs : List Value) → (d : t.D) → rd t w cs d → rd t w' cs d := by
  intro t
  induction t with
  | int k => intro cs d h; exact h
  | bool => intro cs d h; exact h
  | str => intro cs d h; exact h
  | slice e t ih =>
    intro cs d h
    obtain ⟨p, len, cap, rfl, h⟩ := h
    exact ⟨p, len, cap, rfl, h.mono hw (fun cs x => ih cs x)⟩
  | pair a b iha ihb =>
    intro cs d h
    obtain ⟨c1, c2, rfl, h1, h2⟩ := h
    exact ⟨c1, c2, rfl, iha _ _ h1, ihb _ _ h2⟩

/-! ### What the form reads of an argument, in these words -/

/-- The shape of a type of the program, its cells counted. -/
def fieldsTy (P : Program) (go : TypeId → Option Ty) : Nat → List Field → Option Ty
  | _, [] => none
  | off, [f] => match go f.type with
    | some t => if f.offset = off ∧ P.cellsOf f.type = t.n then some t else none
    | none => none
  | off, f :: g :: fs => match go f.type with
    | some t => if f.offset = off ∧ P.cellsOf f.type = t.n then (fieldsTy P go (off + t.n) (g :: fs)).map (Ty.pair t) else none
    | none => none

def tyOf (P : Program) : Nat → TypeId → Option Ty
  | 0, _ => none
  | n + 1, T => match P.underlying T with
    | some .bool => some .bool
    | some (.int k) => some (.int k)
    | some .string => some .str
    | some (.slice e) => match tyOf P n e with
      | some t => if P.cellsOf e = t.n then some (.slice e t) else none
      | none => none
    | some (.struct fs) => match fieldsTy P (tyOf P n) 0 fs.toList with
      | some t => if P.cellsOf T = t.n then some t else none
      | none => none
    | _ => none

section
variable {H : Type} {enc : TypeId × Value → H} {P : Program} {w : World} {base : Nat} {spare : Nat → Bool} {held : Bool}

theorem rd_fields {go : TypeId → Option Ty} {m : Nat} (hgo : ∀ T t, go T = some t → ∀ cs x, DataW.trod enc P w base spare held m T cs = some x → ∃ d, rd t w cs d) :
    ∀ (fs : List Field) (off : Nat) (t : Ty) (cs : List Value), fieldsTy P go off fs = some t → cs.length = off + t.n →
      (∀ (i : Nat) (f : Field), fs[i]? = some f → ∃ x, DataW.trod enc P w base spare held m f.type ((cs.drop f.offset).take (P.cellsOf f.type)) = some x) →
      ∃ d, rd t w (cs.drop off) d
  | [], off, t, cs, h, _, _ => by simp [fieldsTy] at h
  | [f], off, t, cs, h, hl, hx => by
    unfold fieldsTy at h
    cases hg : go f.type with
    | none => simp [hg] at h
    | some u =>
      simp only [hg] at h
      split at h
      · rename_i hc
        obtain rfl : u = t := by simpa using h
        obtain ⟨x, hx⟩ := hx 0 f rfl
        obtain ⟨d, hd⟩ := hgo _ _ hg _ _ hx
        rw [hc.1, hc.2, List.take_of_length_le (by simp; omega)] at hd
        exact ⟨d, hd⟩
      · cases h
  | f :: g :: fs, off, t, cs, h, hl, hx => by
    unfold fieldsTy at h
    cases hg : go f.type with
    | none => simp [hg] at h
    | some u =>
      simp only [hg] at h
      split at h
      · rename_i hc
        cases hr : fieldsTy P go (off + u.n) (g :: fs) with
        | none => simp [hr] at h
        | some v =>
          obtain rfl : Ty.pair u v = t := by simpa [hr] using h
          simp only [Ty.n] at hl
          obtain ⟨x, hx0⟩ := hx 0 f rfl
          obtain ⟨d, hd⟩ := hgo _ _ hg _ _ hx0
          obtain ⟨d', hd'⟩ := rd_fields hgo (g :: fs) (off + u.n) v cs hr (by omega) (fun i f' hf' => hx (i + 1) f' (by simpa using hf'))
          rw [hc.1, hc.2] at hd
          exact ⟨(d, d'), _, _, by rw [← List.drop_drop]; exact (List.take_append_drop u.n (cs.drop off)).symm, hd, hd'⟩
      · cases h

theorem rd_of_trod : ∀ (n : Nat) (T : TypeId) (t : Ty), tyOf P n T = some t → ∀ (m : Nat) (cs : List Value) (x : DataW H × List MemPlace),
    DataW.trod enc P w base spare held m T cs = some x → ∃ d, rd t w cs d
  | 0, T, t, h => by simp [tyOf] at h
  | n + 1, T, t, h => by
    intro m cs x hx
    unfold tyOf at h
    split at h
    · rename_i hu
      obtain rfl : Ty.bool = t := by simpa using h
      obtain ⟨b, rfl, _⟩ := DataW.trod_bool hu hx
      exact ⟨b, rfl⟩
    · rename_i k hu
      obtain rfl : Ty.int k = t := by simpa using h
      obtain ⟨b, rfl, _, hw⟩ := DataW.trod_int hu hx
      exact ⟨b, rfl, hw⟩
    · rename_i hu
      obtain rfl : Ty.str = t := by simpa using h
      obtain ⟨b, rfl, _, hw⟩ := DataW.trod_string hu hx
      exact ⟨b, rfl, hw⟩
    · rename_i e hu
      split at h
      · rename_i u hr
        split at h
        · rename_i hc
          obtain rfl : Ty.slice e u = t := by simpa using h
          rcases open_slice hu hx with ⟨rfl, _⟩ | ⟨a, len, cap, m', n', D, Pl, rfl, hb, hl, hm, hmm, _, hi⟩
          · exact ⟨[], none, 0, 0, rfl, rfl, Nat.le_refl _, Nat.zero_le _, fun _ => rfl, fun k hk => by simp at hk⟩
          · have hle : len ≤ m' := by rw [hmm]; split <;> omega
            have hex : ∀ k, k < len → ∃ (d : u.D), ∃ cs, w.cells? base (a.add (k * u.n)) u.n = some cs ∧ rd u w cs d := by
              intro k hk
              obtain ⟨cs, hcs, ht⟩ := hi k (by omega)
              obtain ⟨d, hd⟩ := rd_of_trod n e u hr _ _ _ ht
              rw [hc] at hcs
              exact ⟨d, cs, hcs, hd⟩
            obtain ⟨l, hlen, hall⟩ := list_of len hex
            refine ⟨l, some a, len, cap, rfl, hlen.symm, hl, hm, (fun h => by cases h), fun k hk => ?_⟩
            obtain ⟨cs, h1, h2⟩ := hall k hk
            obtain ⟨_, hcl, hat⟩ := World.cells?_some h1
            have hsp : a.spot = none := by
              obtain ⟨cs0, h0, _⟩ := hall 0 (by omega)
              obtain ⟨_, hcl0, hat0⟩ := World.cells?_some h0
              have hpos := Ty.n_pos u
              have hc0 := hat0 0 hpos
              rw [List.getElem?_eq_getElem (by omega)] at hc0
              simp only [Nat.zero_mul, Addr.add, if_true] at hc0
              unfold World.cell? at hc0
              split at hc0
              · cases hs : a.spot with
                | none => rfl
                | some s => simp [hs] at hc0
              · cases hc0
            obtain ⟨ab, ao, asp⟩ := a
            simp only at hsp
            subst hsp
            have hadd : ∀ j, ((⟨ab, ao, none⟩ : Addr).add (k * u.n)).add j = ⟨ab, ao + k * u.n + j, none⟩ := fun j => by
              simp only [Addr.add]
              repeat (split <;> simp_all)
            have hlt : ∀ j (hj : j < cs.length), w.cell? ⟨ab, ao + k * u.n + j, none⟩ = some cs[j] := fun j hj => by
              rw [← hadd, hat j (by omega), List.getElem?_eq_getElem hj]
            have hpos := Ty.n_pos u
            exact ⟨ab, ao, rfl, World.block_lt_of_cell? w _ (hlt 0 (by omega)), cs, hcl, hlt, h2⟩
        · cases h
      · cases h
    · rename_i fs hu
      obtain ⟨xs, q, _, _, hcl, hxl, hf⟩ := DataW.trod_struct hu hx
      split at h
      · rename_i u hfs
        split at h
        · rename_i hc
          obtain rfl : u = t := by simpa using h
          have := rd_fields (m := q) (w := w) (fun T t hg cs x hx => rd_of_trod n T t hg q cs x hx) fs.toList 0 u cs hfs (by omega) (fun i f hi => by
            have hi' : fs[i]? = some f := by simpa using hi
            have h1 := hf i f hi'
            have hlt : i < fs.size := (Array.getElem?_eq_some_iff.1 hi').1
            exact ⟨_, h1.trans (List.getElem?_eq_getElem (by omega))⟩)
          simpa using this
        · cases h
      · cases h
    · cases h
end
end Go.Proofs.Ytnijnjclmlfahaa
