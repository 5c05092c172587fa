/- Appending to a slice of the call's own, as a law for the walk. No program in sight. -/
import Derived.Test.YtnijnjclmlfahaaInts
namespace Go.Proofs.Ytnijnjclmlfahaa
open Go.ChangeShapes Go.WideShapes Go.ChangeAt Go.RowKit Go.Deep
set_option linter.unusedVariables false

theorem rep_one (t : Ty) (w : World) (cs : List Value) (d : t.D) (bl : List Nat) (h : rep t w cs d bl) : ∀ u ∈ cs, u.oneCell' = true := by
  induction t generalizing cs bl with
  | int k => obtain ⟨rfl, _⟩ := h; intro u hu; simp at hu; subst hu; rfl
  | bool => obtain ⟨rfl, _⟩ := h; intro u hu; simp at hu; subst hu; rfl
  | str => obtain ⟨rfl, _⟩ := h; intro u hu; simp at hu; subst hu; rfl
  | slice e t ih =>
    obtain ⟨v, xs, bl', rfl, ho, _⟩ := h
    intro u hu
    simp at hu
    subst hu
    rcases ho.2 with ⟨rfl, _⟩ | ⟨g, cap, cur, rfl, _⟩ <;> rfl
  | pair a b iha ihb =>
    obtain ⟨c1, c2, b1, b2, rfl, rfl, h1, h2⟩ := h
    intro u hu
    rw [List.mem_append] at hu
    rcases hu with hu | hu
    · exact iha _ _ _ h1 u hu
    · exact ihb _ _ _ h2 u hu

theorem FrIn.own {e : TypeId} {t : Ty} {lo mid : Nat} {w : World} {v : Value} {l : List t.D} (h : FrIn (.slice e t) lo mid w [v] l) : ∀ g, v.ownBlock = some g → lo ≤ g ∧ g < mid := by
  obtain ⟨bl, ⟨v0, xs, bl', hv, _, _, rfl⟩, _, hin, _⟩ := h
  obtain rfl : v = v0 := by simpa using hv
  exact fun g hg => hin g (by simp [hg])

theorem FrIn.slen {e : TypeId} {t : Ty} {lo mid : Nat} {w : World} {p : Option Addr} {len cap : Nat} {l : List t.D} (h : FrIn (.slice e t) lo mid w [.slice p len cap] l) : len = l.length := (fr_sl h).lens

theorem FrIn.empty {w : World} {t : Ty} {e : TypeId} {b : Nat} (hb : b = w.heap.size) : FrIn (.slice e t) w.heap.size (w.alloc (.cells #[] e)).heap.size (w.alloc (.cells #[] e)) [.slice (some ⟨b, 0, none⟩) 0 0] ([] : List t.D) := by
  subst hb
  refine ⟨[w.heap.size], ⟨_, [], [], rfl, ⟨by simp, .inr ⟨w.heap.size, 0, #[], by simp, Nat.zero_le _, Go.heap_alloc_new w _, Nat.le_refl _, Nat.zero_le _, by simp, by simp⟩⟩, ⟨rfl, rfl⟩, rfl⟩, by simp, (fun b hb => by simp at hb; simp; omega), Nat.le_refl _⟩

theorem new_cells {w0 : World} {c : Array Value} {e' : TypeId} {b : Nat} (hb : b = w0.heap.size) (j : Nat) (u : Value) (h : c.toList[j]? = some u) :
    (w0.alloc (.cells c e')).cell? ((⟨b, 0, none⟩ : Addr).add j) = some u := by
  subst hb
  have hadd : ((⟨w0.heap.size, 0, none⟩ : Addr).add j) = ⟨w0.heap.size, j, none⟩ := by
    simp only [Addr.add]; split <;> simp_all
  rw [hadd]
  simp only [World.cell?, Go.heap_alloc_new w0]
  simpa using h

section
variable {P : Program}
theorem wpList_app {ops : Array Oper} {rest : List Oper} {o : Oper} {a : Act} {Q : Exit → Act → World → Prop} {w0 : World} (hgd : o.guard = none) (s y : Operand) (T : TypeId)
    (hop : o.op = .call { callee := .builtin .append, args := #[s, y], argTypes := #[T, T] })
    (e : TypeId) (z : Value) (t : Ty) (bytes : Nat) (ht : P.underlying T = some (.slice e)) (hinfo : (P.info? e).map (fun i => (i.zero, i.size, i.bytes)) = some (some z, t.n, bytes)) (hzs : z.cells.size = t.n)
    (v : Value) (hv : a.eval s = v) (l : List t.D) (lo mid hi' : Nat) (c : Array Value) (e' : TypeId) (b cp : Nat) (hy : a.eval y = .slice (some ⟨b, 0, none⟩) 1 cp) (x : t.D)
    (hs : FrIn (.slice e t) lo mid w0 [v] l) (hlm : lo ≤ mid) (hb : b = w0.heap.size) (hx : FrIn t mid hi' w0 c.toList x)
    (hbytes : (l.length + 1) * bytes ≤ 140737488355328) (h63 : l.length + 1 ≤ maxLen)
    (h : ∀ p cap w', FrIn (.slice e t) lo w'.heap.size w' [.slice p (l.length + 1) cap] (l ++ [x]) → Below lo w0 w' → (∀ q, mid ≤ q → q < w0.heap.size → w'.heap[q]? = w0.heap[q]?) → w0.heap.size < w'.heap.size →
      wpList P ops Q rest (a.put o.dst (.slice p (l.length + 1) cap)) w') : wpList P ops Q (o :: rest) a (w0.alloc (.cells c e')) := by
  obtain ⟨i, hi, hzz⟩ := Option.map_eq_some_iff.1 hinfo
  simp only [Prod.mk.injEq] at hzz
  obtain ⟨h0, hsz, hby⟩ := hzz
  have hone : ∀ u ∈ c.toList, u.oneCell' = true := by
    obtain ⟨bl, hr, _⟩ := hx
    exact rep_one _ _ _ _ _ hr
  have hmz : mid ≤ w0.heap.size := hs.hi_le
  refine wpList_append_fr _ hgd s y T hop e i z t bytes ht hi h0 hsz hby hzs v hv l lo mid hi' (hs.alloc _) hlm ⟨b, 0, none⟩ cp c.toList hy x (hx.alloc _) (fun j u hj => new_cells hb j u hj) hone hbytes h63 ?_
  intro p cap w' hf hg
  have hown := hs.own
  refine h p cap w' hf ?_ ?_ ?_
  · exact ((Below.refl lo w0).alloc (by omega) _).grown hg (by simp; omega) (fun k hk => (hown k hk).1)
  · intro q h1 h2
    rw [hg.block q (by simp; omega) (fun he => by have := hown q he.symm; omega)]
    exact Below.heap_alloc _ _ _ h2
  · have := hg.size
    simp at this; omega
end
end Go.Proofs.Ytnijnjclmlfahaa
