/- A region that draws its order and ends in a store: what is known of the world has to hold till that store alone. No program in sight. -/
import Derived.Test.YtnijnjclmlfahaaStep
import Derived.OrdersHeld
namespace Go.Proofs.Ytnijnjclmlfahaa
open Go.ChangeShapes Go.WideShapes Go.ChangeAt Go.RowKit Go.Deep
set_option linter.unusedVariables false
set_option linter.unusedSimpArgs false

theorem heap_at_alloc {w : World} {o : Obj} {B : Nat} (h : B = w.heap.size) : (w.alloc o).heap[B]? = some o := by subst h; exact Go.heap_alloc_new w o
theorem heap_old_alloc {w : World} {o x : Obj} {B : Nat} (h : B < w.heap.size) (k : w.heap[B]? = some x) : (w.alloc o).heap[B]? = some x := (Below.heap_alloc _ _ _ h).trans k
theorem heap_drew {w : World} {x : Obj} {B : Nat} (k : w.heap[B]? = some x) : w.drew.heap[B]? = some x := k
theorem heap_below {w w' : World} {x : Obj} {B C : Nat} (hb : Below C w w') (h : B < C) (k : w.heap[B]? = some x) : w'.heap[B]? = some x := (hb.block B h).trans k

section
variable {P : Program} {ops : Array Oper} {Q : Exit → Act → World → Prop} {md : Region.Mode} {S : World → Prop} {last : Nat}

/-- Whatever comes next: behind it S holds, but for the operation 'last'. -/
def Tail (P : Program) (md : Region.Mode) (ops : Array Oper) (Q : Exit → Act → World → Prop) (S : World → Prop) (last : Nat) : Nat → Array Bool → Act → World → Prop
  | 0, done, a, w => Region.ready md ops done = [] ∧ Q .normal a w
  | n + 1, done, a, w => (Region.ready md ops done = [] → Q .normal a w) ∧
      ∀ i ∈ Region.ready md ops done, wpOp P ops Q i (fun a' w' => (i ≠ last → S w') ∧ Tail P md ops Q S last n (done.setIfInBounds i true) a' w') a w

theorem Tail.any : (n : Nat) → (done : Array Bool) → (a : Act) → (w : World) → Tail P md ops Q S last n done a w → wpAny P md ops Q n done a w
  | 0, _, _, _, h => h
  | n + 1, _, _, _, h => ⟨h.1, fun i hi => wpOp_mono (fun a' w' q => Tail.any n _ a' w' q.2) (h.2 i hi)⟩

theorem wp_region_tail {id : Nat} {a : Act} {w : World} (last : Nat) (hm : P.follows .mixedOrders = true) (hS : S w.drew)
    (h : S w.drew → Tail P .any ops Q S last ops.size (Array.replicate ops.size false) a w.drew) : (Code.region id ops true).wp P Q a w :=
  wp_region_any hm (Tail.any _ _ _ _ (h hS))

/-- Does 'last' wait for i? -/
def waits (md : Region.Mode) (ops : Array Oper) (last i : Nat) : Bool := ((ops[last]?).map fun o => o.after.any fun e => Region.binds md e && e.on == i).getD false

theorem not_ready {i : Nat} {done : Array Bool} (hw : waits md ops last i = true) (hi : i ∈ Region.ready md ops done) : last ∉ Region.ready md ops done := by
  intro hl
  obtain ⟨h0, _⟩ := mem_ready.1 hi
  obtain ⟨_, o, ho, hall⟩ := mem_ready.1 hl
  unfold waits at hw
  rw [ho] at hw
  simp only [Option.map_some, Option.getD_some, Array.any_eq_true', Bool.and_eq_true, beq_iff_eq] at hw
  obtain ⟨e, he, hb, rfl⟩ := hw
  have h1 := hall e he hb
  rcases Nat.lt_or_ge e.on done.size with h' | h'
  · simp [h'] at h0 h1; rw [h0] at h1; cases h1
  · simp [Array.getElem?_eq_none h'] at h1

theorem Tail.take_aux {i : Nat} {oi : Oper} {v : Value} (hi : ops[i]? = some oi) (hsel : ∀ (j : Nat) (o : Oper) cs b, ops[j]? = some o → o.op ≠ .select cs b)
    (hwt : waits md ops last i = true) (hQ : ∀ c a w, Q (.panic c) (a.put oi.dst v) w → Q (.panic c) a w) : ∀ (n : Nat) (done : Array Bool) (a : Act) (w : World),
      (∀ j oj, ops[j]? = some oj → j ≠ i → done.getD j true = false → (∀ e ∈ oj.after, Region.binds md e = true → e.on ≠ i) → oi.apart ops oj = true) →
      i ∈ Region.ready md ops done → YieldsIf P ops S oi v a → S w → Tail P md ops Q S last n (done.setIfInBounds i true) (a.put oi.dst v) w → Tail P md ops Q S last (n + 1) done a w := by
  intro n
  induction n with
  | zero =>
    intro done a w _ hr hy hS H
    refine ⟨fun h => absurd hr (by rw [h]; simp), fun j hj => ?_⟩
    rcases Decidable.em (j = i) with rfl | hne
    · exact hy.wpOp hi hS ⟨fun _ => hS, H⟩
    · exact absurd (ready_mono hj hne) (by rw [H.1]; simp)
  | succ n ih =>
    intro done a w hfree hr hy hS H
    refine ⟨fun h => absurd hr (by rw [h]; simp), fun j hj => ?_⟩
    rcases Decidable.em (j = i) with rfl | hne
    · exact hy.wpOp hi hS ⟨fun _ => hS, H⟩
    · have hjl : j ≠ last := fun e => not_ready hwt hr (e ▸ hj)
      obtain ⟨hun, oj, hoj, hall⟩ := mem_ready.1 hj
      have hno : ∀ e ∈ oj.after, Region.binds md e = true → e.on ≠ i := by
        rintro e he hb rfl
        have g1 := hall e he hb
        have g0 := (mem_ready.1 hr).1
        rcases Nat.lt_or_ge e.on done.size with h' | h'
        · simp [h'] at g0 g1; rw [g0] at g1; cases g1
        · simp [Array.getElem?_eq_none h'] at g1
      have k1 := wpOp_putIf hoj (hfree j oj hoj hne hun hno) (fun cs b => hsel i oi cs b hi) (fun cs b => hsel j oj cs b hoj) hQ hy (H.2 j (ready_mono hj hne))
      refine wpOp_mono (fun a' w' q => ⟨fun _ => q.2.1 hjl, ?_⟩) k1
      refine ih (done.setIfInBounds j true) a' w' (fun k ok hk hki hku hko => hfree k ok hk hki ?_ hko) (ready_mono hr (Ne.symm hne)) q.1 (q.2.1 hjl) ?_
      · rcases Decidable.em (j = k) with rfl | hjk
        · exact hun
        · rwa [getD_set_ne true hjk] at hku
      · rw [Array.setIfInBounds_comm _ _ hne]; exact q.2.2

theorem tail_take {i : Nat} {oi : Oper} {v : Value} {n : Nat} {done : Array Bool} {a : Act} {w : World} (hi : ops[i]? = some oi) (hs : Region.noSelect ops = true) (hf : Region.free md ops done i = true)
    (hr : (Region.ready md ops done).contains i = true) (hwt : waits md ops last i = true) (hQ : ∀ c a w, Q (.panic c) (a.put oi.dst v) w → Q (.panic c) a w) (hy : YieldsIf P ops S oi v a) (hS : S w)
    (h : Tail P md ops Q S last n (done.setIfInBounds i true) (a.put oi.dst v) w) : Tail P md ops Q S last (n + 1) done a w :=
  Tail.take_aux hi (Region.noSelect_spec hs) hwt hQ n done a w (Region.free_spec hi hf) (by simpa using hr) hy hS h

/-- A premise that no tactic looks into. -/
def Kept (p : Prop) : Prop := p
theorem Kept.out {p : Prop} (h : Kept p) : p := h

/-- One operation alone may come up. -/
theorem tail_one {i : Nat} {o : Oper} {n : Nat} {done : Array Bool} {a : Act} {w : World} (hi : ops[i]? = some o) (hr : Region.ready md ops done = [i])
    (h : ∀ K : Act → World → Prop, Kept (∀ a w, S w → (S w → Tail P md ops Q S last n (done.setIfInBounds i true) a w) → K a w) → if Region.wanted o (yielded ops a.tmps) = true then Oper.wp P o a w K Q else K (a.put o.dst undef) w) :
    Tail P md ops Q S last (n + 1) done a w := by
  refine ⟨fun h0 => absurd (hr.symm.trans h0) (by simp), fun j hj => ?_⟩
  rw [hr] at hj
  obtain rfl : j = i := by simpa using hj
  exact wpOp_step hi (fun K hK => h K (fun a w hS hT => hK a w ⟨fun _ => hS, hT hS⟩))

/-- Two may come up. -/
theorem tail_two {i j : Nat} {oi oj : Oper} {n : Nat} {done : Array Bool} {a : Act} {w : World} (hi : ops[i]? = some oi) (hj : ops[j]? = some oj) (hr : Region.ready md ops done = [i, j])
    (h1 : ∀ K : Act → World → Prop, Kept (∀ a w, S w → (S w → Tail P md ops Q S last n (done.setIfInBounds i true) a w) → K a w) → if Region.wanted oi (yielded ops a.tmps) = true then Oper.wp P oi a w K Q else K (a.put oi.dst undef) w)
    (h2 : ∀ K : Act → World → Prop, Kept (∀ a w, S w → (S w → Tail P md ops Q S last n (done.setIfInBounds j true) a w) → K a w) → if Region.wanted oj (yielded ops a.tmps) = true then Oper.wp P oj a w K Q else K (a.put oj.dst undef) w) :
    Tail P md ops Q S last (n + 1) done a w := by
  refine ⟨fun h0 => absurd (hr.symm.trans h0) (by simp), fun k hk => ?_⟩
  rw [hr] at hk
  rcases (by simpa using hk : k = i ∨ k = j) with rfl | rfl
  · exact wpOp_step hi (fun K hK => h1 K (fun a w hS hT => hK a w ⟨fun _ => hS, hT hS⟩))
  · exact wpOp_step hj (fun K hK => h2 K (fun a w hS hT => hK a w ⟨fun _ => hS, hT hS⟩))

/-- The last one. -/
theorem tail_last {o : Oper} {n : Nat} {done : Array Bool} {a : Act} {w : World} (hi : ops[last]? = some o) (hr : Region.ready md ops done = [last]) (hd : Region.ready md ops (done.setIfInBounds last true) = [])
    (h : ∀ K : Act → World → Prop, (∀ a w, Q .normal a w → K a w) → if Region.wanted o (yielded ops a.tmps) = true then Oper.wp P o a w K Q else K (a.put o.dst undef) w) :
    Tail P md ops Q S last (n + 1) done a w := by
  refine ⟨fun h0 => absurd (hr.symm.trans h0) (by simp), fun j hj => ?_⟩
  rw [hr] at hj
  obtain rfl : j = last := by simpa using hj
  refine wpOp_step hi (fun K hK => h K (fun a w hq => hK a w ⟨fun hne => absurd rfl hne, ?_⟩))
  cases n with
  | zero => exact ⟨hd, hq⟩
  | succ n => exact ⟨fun _ => hq, fun i hi => absurd hi (by rw [hd]; simp)⟩
end
end Go.Proofs.Ytnijnjclmlfahaa
