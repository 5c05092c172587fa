/- Small words for walks: what a call handed back stays as it was. No program in sight. -/
import Derived.Test.YtnijnjclmlfahaaAppN
import Derived.Test.YtnijnjclmlfahaaMark
import Derived.Deep.RegionHeld3
namespace Go.Proofs.Ytnijnjclmlfahaa
open Go.ChangeShapes Go.WideShapes Go.ChangeAt Go.RowKit Go.Deep
set_option linter.unusedVariables false

/-- The blocks from lo to hi are in w' as they were in w. -/
def Kp (lo hi : Nat) (w w' : World) : Prop := (∀ b, lo ≤ b → b < hi → w'.heap[b]? = w.heap[b]?) ∧ w.heap.size ≤ w'.heap.size
theorem Kp.refl (lo hi : Nat) (w : World) : Kp lo hi w w := ⟨fun _ _ _ => rfl, Nat.le_refl _⟩
theorem Kp.trans {lo hi : Nat} {a b c : World} (h : Kp lo hi a b) (k : Kp lo hi b c) : Kp lo hi a c := ⟨fun q h1 h2 => (k.1 q h1 h2).trans (h.1 q h1 h2), Nat.le_trans h.2 k.2⟩
theorem Kp.drew {lo hi : Nat} {a w : World} (h : Kp lo hi a w) : Kp lo hi a w.drew := h
theorem Kp.alloc {lo hi : Nat} {a w : World} (h : Kp lo hi a w) (hs : hi ≤ w.heap.size) (o : Obj) : Kp lo hi a (w.alloc o) :=
  h.trans ⟨fun b h1 h2 => Below.heap_alloc _ _ _ (by omega), by simp⟩
theorem Kp.setCell {lo hi : Nat} {a w : World} (h : Kp lo hi a w) {p : Addr} (hp : p.block < lo ∨ hi ≤ p.block) (v : Value) : Kp lo hi a (w.setCell p v) :=
  h.trans ⟨fun b h1 h2 => Below.heap_setCell _ _ _ _ (by omega), by simp [World.setCell]⟩
theorem Kp.below {lo hi B : Nat} {a w w' : World} (h : Kp lo hi a w) (hb : Below B w w') (hB : hi ≤ B) : Kp lo hi a w' :=
  h.trans ⟨fun b h1 h2 => hb.block b (by omega), hb.size⟩
theorem Kp.ofb {lo hi B : Nat} {w w' : World} (hb : Below B w w') (hB : hi ≤ B) : Kp lo hi w w' := (Kp.refl lo hi w).below hb hB
theorem Kp.only {lo hi : Nat} {bl : List Nat} {a w w' : World} (h : Kp lo hi a w) (hb : Only bl w w') (hB : ∀ b ∈ bl, b < lo ∨ hi ≤ b) (hs : hi ≤ w.heap.size) : Kp lo hi a w' :=
  h.trans ⟨fun b h1 h2 => hb.block b (fun hm => by have := hB b hm; omega) (by omega), hb.size⟩
theorem FrIn.kp {t : Ty} {lo hi : Nat} {w w' : World} {cs : List Value} {d : t.D} (h : FrIn t lo hi w cs d) (k : Kp lo hi w w') : FrIn t lo hi w' cs d := h.keep k.1 k.2

theorem ocell {bl : List Nat} {w w' : World} (h : Only bl w w') : (∀ b o, b ∉ bl → b < w.heap.size → w'.cell? ⟨b, o, none⟩ = w.cell? ⟨b, o, none⟩) ∧ (∀ b o, b ∉ bl → b < w.heap.size → w'.frozen? ⟨b, o, none⟩ = w.frozen? ⟨b, o, none⟩) :=
  ⟨fun b o hb hz => h.cell (a := ⟨b, o, none⟩) hb hz, fun b o hb hz => h.frozen (a := ⟨b, o, none⟩) hb hz⟩
theorem Only.bel {bl : List Nat} {B : Nat} {w w' w'' : World} (h : Only bl w w') (k : Below B w' w'') (hB : w.heap.size ≤ B) : Only bl w w'' :=
  ⟨k.os.trans h.os, k.tape.trans h.tape, k.output.trans h.output, Nat.le_trans h.size k.size, fun q hq hz => (k.block q (by omega)).trans (h.block q hq hz)⟩
theorem frozen_alloc {w : World} {o : Obj} {a : Addr} (h : a.block < w.heap.size) : (w.alloc o).frozen? a = w.frozen? a := World.frozen?_of_block (Below.heap_alloc _ _ _ h)
theorem below_yy {B : Nat} {w w' : World} (h : Below B w w') (k : Nat) (hk : k ≤ w.heap.size) : k ≤ w'.heap.size := Nat.le_trans hk h.size
theorem szT_sublist {e : TypeId} {t : Ty} {l1 l2 : List t.D} (h : l1.Sublist l2) : szT (.slice e t) l1 ≤ szT (.slice e t) l2 := by
  rw [szT_slice, szT_slice]
  induction h with
  | slnil => simp
  | cons a _ ih => simp only [List.map_cons, List.sum_cons, List.length_cons]; omega
  | cons_cons a _ ih => simp only [List.map_cons, List.sum_cons, List.length_cons]; omega

theorem sum_map_le {α : Type} (f : α → Nat) (S : Nat) : (l : List α) → (∀ x ∈ l, f x ≤ S) → (l.map f).sum ≤ l.length * S
  | [], _ => by simp
  | a :: l, h => by
    have h1 := h a (by simp)
    have h2 := sum_map_le f S l (fun x hx => h x (by simp [hx]))
    simp only [List.map_cons, List.sum_cons, List.length_cons, Nat.add_mul]; omega

end Go.Proofs.Ytnijnjclmlfahaa
