/- The shared words of the proofs: SobB SobC Vc Lens Ints Mark ULens UInts App AppN Kit FrA GivN GivM Wlk Det. No conditions. -/
import Derived.Test.YtllphmcjocidaaaGreatDoorCd
import Derived.Orders
import Derived.Test.YtllphmcjocidaaaGreatDoorProg
import Derived.Test.YtllphmcjocidaaaGreatDoorCa
import Derived.Outline
import Derived.Deep.RegionHeld3
/- A region whose operations come in any order: all orders. No program in sight. -/
namespace Go.Proofs.YtllphmcjocidaaaGreatDoor
open Go.ChangeShapes Go.WideShapes Go.ChangeAt Go.RowKit Go.Deep
set_option linter.unusedVariables false
set_option linter.unusedSimpArgs false

section
variable {P : Program} {Cs : List Con} {X : Cx} {g0 γ γ' : Gh} {β β' : Bt} {e env : List SV} {ops : Array Oper} {clo : Array Nat} {wrt : List (Nat × Nat)} {N : Nat} {tm0 : Tm} {es0 fx : Es} {n0 : Nat} {pre rs x y : List Rc} {r : Rc} {S : Nat → Bool} {a : Act} {w w' : World} {σ : St} {wr : Bool} {D : List Nat}

theorem DoesG.op {i : Nat} {o : Oper} (hi : ops[i]? = some o) {K : Act → World → Prop} {Q : Exit → Act → World → Prop} (h : DoesG P ops o a w fun v w' => K (a.put o.dst v) w') : wpOp P ops Q i K a w := by
  unfold wpOp
  simp only [hi]
  rcases h with ⟨h1, h2⟩ | ⟨h1, h2⟩
  · rw [h1]; exact h2
  · rw [h1]
    simp only [if_true]
    exact .inl (h2.upon fun v w' h => h)

theorem first_out : (l : List Rc) → (∃ r ∈ l, S r.i = false) → ∃ x r y, l = x ++ r :: y ∧ S r.i = false ∧ ∀ q ∈ x, S q.i = true
  | [], ⟨r, h, _⟩ => by simp at h
  | q :: l, ⟨r, h1, h2⟩ => by
    cases hq : S q.i
    · exact ⟨[], q, l, rfl, hq, fun _ h => by simp at h⟩
    · have : ∃ r ∈ l, S r.i = false := by
        rw [List.mem_cons] at h1
        rcases h1 with rfl | h1
        · rw [hq] at h2; cases h2
        · exact ⟨r, h1, h2⟩
      obtain ⟨x, r', y, e1, e2, e3⟩ := first_out l this
      refine ⟨q :: x, r', y, by rw [e1]; rfl, e2, fun z hz => ?_⟩
      rw [List.mem_cons] at hz
      rcases hz with rfl | hz
      · exact hq
      · exact e3 z hz

theorem ahead_bits {clo : Array Nat} : (l : List Edge) → (s : Nat) → ∀ j, ((l.foldl (fun s e => if Region.binds .any e then s ||| (2 ^ e.on ||| clo.getD e.on 0) else s) s).testBit j = true ↔ s.testBit j = true ∨ ∃ e ∈ l, Region.binds .any e = true ∧ (j = e.on ∨ (clo.getD e.on 0).testBit j = true))
  | [], s, j => by simp
  | e :: l, s, j => by
    rw [List.foldl_cons, ahead_bits l]
    cases hb : Region.binds .any e
    · simp only [Bool.false_eq_true, if_false, List.mem_cons, exists_eq_or_imp, hb, false_and, false_or]
    · simp only [if_true, List.mem_cons, exists_eq_or_imp, hb, true_and, Nat.testBit_or, Bool.or_eq_true, Nat.testBit_two_pow, decide_eq_true_eq]
      constructor
      · rintro ((h | h | h) | h)
        · exact .inl h
        · exact .inr (.inl (.inl h.symm))
        · exact .inr (.inl (.inr h))
        · exact .inr (.inr h)
      · rintro (h | (h | h) | h)
        · exact .inl (.inl h)
        · exact .inl (.inr (.inl h.symm))
        · exact .inl (.inr (.inr h))
        · exact .inr h

theorem any_ok (h : OrdOK P X e ops clo wrt N tm0 es0 fx n0 rs) (hcov : ∀ i, i < ops.size → ∃ r ∈ rs, r.i = i) (hah : ∀ i o, ops[i]? = some o → clo.getD i 0 = aheadOf clo o) {Q : Exit → Act → World → Prop}
    (hQ : ∀ (S : Nat → Bool) γ β a w, (∀ r ∈ rs, S r.i = true) → Dyn X g0 e clo N tm0 es0 fx n0 rs S γ β a w → Q .normal a w) :
    ∀ (fuel : Nat) (listed : Array Bool) (γ : Gh) (β : Bt) (a : Act) (w : World), listed.size = ops.size → (rs.filter fun r => !listed.getD r.i false).length ≤ fuel → Dyn X g0 e clo N tm0 es0 fx n0 rs (fun j => listed.getD j false) γ β a w → wpAny P .any ops Q fuel listed a w := by
  have lt : ∀ r ∈ rs, r.i < ops.size := fun r hr => by
    obtain ⟨x, y, he⟩ := List.append_of_mem hr
    exact (Array.getElem?_eq_some_iff.1 (h.at' he).1).1
  -- where nothing is ready all is done
  have all : ∀ (listed : Array Bool), listed.size = ops.size → Region.ready .any ops listed = [] → ∀ r ∈ rs, listed.getD r.i false = true := fun listed hsz hr => by
    refine Classical.byContradiction fun hno => ?_
    have : ∃ r ∈ rs, (fun j => listed.getD j false) r.i = false := by
      refine Classical.byContradiction fun h1 => hno fun r hr => ?_
      cases hb : listed.getD r.i false
      · exact absurd ⟨r, hr, hb⟩ h1
      · rfl
    obtain ⟨x, r, y, e1, e2, e3⟩ := first_out (S := fun j => listed.getD j false) rs this
    have hr0 : r ∈ rs := by rw [e1]; simp
    have hi := (h.at' e1).1
    have : r.i ∈ Region.ready .any ops listed := by
      rw [mem_ready]
      have hl := lt r hr0
      refine ⟨?_, r.o, hi, fun ed he hb => ?_⟩
      · simp only [Array.getD_eq_getD_getElem?] at e2 ⊢
        rw [Array.getElem?_eq_getElem (by omega)] at e2 ⊢
        simpa using e2
      · have hbit : (clo.getD r.i 0).testBit ed.on = true := by
          rw [hah r.i r.o hi]
          exact (ahead_bits r.o.after.toList 0 ed.on).2 (.inr ⟨ed, by simpa using he, hb, .inl rfl⟩)
        obtain ⟨q, q1, q2⟩ := h.lin x r y e1 ed.on hbit
        rw [← q2]
        exact e3 q q1
    rw [hr] at this
    cases this
  intro fuel
  induction fuel with
  | zero =>
    intro listed γ β a w hsz hf hd
    have hall : ∀ r ∈ rs, listed.getD r.i false = true := fun r hr => by
      have h0 : (rs.filter fun r => !listed.getD r.i false) = [] := List.eq_nil_of_length_eq_zero (by omega)
      rw [List.filter_eq_nil_iff] at h0
      have := h0 r hr
      simpa using this
    refine ⟨?_, hQ _ _ _ _ _ hall hd⟩
    rw [List.eq_nil_iff_forall_not_mem]
    intro i hi
    rw [mem_ready] at hi
    obtain ⟨h1, o, h2, _⟩ := hi
    have hl := (Array.getElem?_eq_some_iff.1 h2).1
    obtain ⟨r, hr, rfl⟩ := hcov i hl
    have := hall r hr
    simp only [Array.getD_eq_getD_getElem?] at h1 this
    rw [Array.getElem?_eq_getElem (by omega)] at h1 this
    simp only [Option.getD_some] at h1 this
    rw [h1] at this; cases this
  | succ fuel ih =>
    intro listed γ β a w hsz hf hd
    refine ⟨fun hr => hQ _ _ _ _ _ (all listed hsz hr) hd, fun i hi => ?_⟩
    obtain ⟨h1, o, h2, h3⟩ := mem_ready.1 hi
    have hl := (Array.getElem?_eq_some_iff.1 h2).1
    obtain ⟨r, hr, rfl⟩ := hcov i hl
    obtain ⟨x, y, hs⟩ := List.append_of_mem hr
    have ho := (h.at' hs).1
    rw [h2] at ho
    simp only [Option.some.injEq] at ho
    subst ho
    have hS : (fun j => listed.getD j false) r.i = false := by
      simp only [Array.getD_eq_getD_getElem?] at h1 ⊢
      rw [Array.getElem?_eq_getElem (by omega)] at h1 ⊢
      simpa using h1
    refine DoesG.op h2 ((hd.step h hs hS fun j hj => ?_).mono fun v w' ⟨γ', β', hd'⟩ => ?_)
    · rw [hah r.i r.o h2] at hj
      rcases (ahead_bits r.o.after.toList 0 j).1 hj with h4 | ⟨ed, e1, e2, e3⟩
      · simp at h4
      · have hon := h3 ed (by simpa using e1) e2
        rcases e3 with rfl | e3
        · exact hon
        · have hlt : ed.on < ops.size := by
            rcases Nat.lt_or_ge ed.on listed.size with h' | h'
            · omega
            · simp [Array.getElem?_eq_none h'] at hon
          obtain ⟨q, hq, hqe⟩ := hcov ed.on hlt
          exact hd.closed q hq (by rw [hqe]; exact hon) j (by rw [hqe]; exact e3)
    · have hset : (fun j => (listed.setIfInBounds r.i true).getD j false) = plus (fun j => listed.getD j false) r.i := by
        funext j
        simp only [plus, Array.getD_eq_getD_getElem?]
        by_cases hj : j = r.i
        · subst hj
          rw [Array.getElem?_setIfInBounds_self]
          simp [hsz, hl]
        · rw [Array.getElem?_setIfInBounds_ne (fun h => hj h.symm)]
          simp [hj]
      refine ih _ γ' β' _ _ (by simpa using hsz) ?_ (by rw [hset]; exact hd')
      have hcnt : (rs.filter fun q => !(listed.setIfInBounds r.i true).getD q.i false).length < (rs.filter fun q => !listed.getD q.i false).length := by
        have e0 : ∀ q : Rc, (listed.setIfInBounds r.i true).getD q.i false = plus (fun j => listed.getD j false) r.i q.i := fun q => congrFun hset q.i
        simp only [e0]
        rw [hs]
        simp only [List.filter_append, List.filter_cons, List.length_append]
        have hr1 : (!plus (fun j => listed.getD j false) r.i r.i) = false := by simp [plus]
        have hr2 : (!listed.getD r.i false) = true := by simpa using hS
        rw [hr1, hr2]
        simp only [Bool.false_eq_true, if_false, if_true, List.length_cons]
        have mono : ∀ l : List Rc, (l.filter fun q => !plus (fun j => listed.getD j false) r.i q.i).length ≤ (l.filter fun q => !listed.getD q.i false).length := fun l => by
          rw [← List.countP_eq_length_filter, ← List.countP_eq_length_filter]
          refine List.countP_mono_left fun q _ hq => ?_
          simp only [plus, Bool.not_or, Bool.and_eq_true] at hq
          exact hq.1
        have m1 := mono x
        have m2 := mono y
        omega
      omega

theorem sort_sub {clo : Array Nat} : (n : Nat) → (done : Nat) → (l : List (Nat × Oper)) → ∀ p ∈ sortOps clo n done l, p ∈ l
  | 0, done, l, p, hp => hp
  | n + 1, done, l, p, hp => by
    have pick : ∀ (c : Nat) (l : List (Nat × Oper)) (q : Nat × Oper), pickOp done clo c l = some q → q ∈ l := by
      intro c l
      induction l with
      | nil => intro q h; simp [pickOp] at h
      | cons z l ih =>
        intro q h
        simp only [pickOp] at h
        split at h
        · simp only [Option.some.injEq] at h; subst h; simp
        · exact List.mem_cons_of_mem _ (ih q h)
    simp only [sortOps] at hp
    split at hp
    · rename_i q hq
      rw [List.mem_cons] at hp
      rcases hp with rfl | hp
      · simp only [Option.or_eq_some_iff] at hq
        rcases hq with h | ⟨_, h | ⟨_, h | ⟨_, h | ⟨_, h⟩⟩⟩⟩ <;> exact pick _ _ _ h
      · exact (List.mem_filter.1 (sort_sub n _ _ p hp)).1
    · exact hp

theorem once_ix : (l : List Oper) → (l.filterMap (·.dst)).Nodup → ∀ {i j : Nat} {o o' : Oper} {t : Nat}, l[i]? = some o → l[j]? = some o' → o.dst = some t → o'.dst = some t → i = j
  | [], _, i, j, o, o', t, h1, _, _, _ => by simp at h1
  | z :: l, hn, i, j, o, o', t, h1, h2, h3, h4 => by
    have mem : ∀ {k : Nat} {u : Oper}, l[k]? = some u → u.dst = some t → t ∈ l.filterMap (·.dst) := fun {k u} hk hu => by
      rw [List.mem_filterMap]
      exact ⟨u, List.mem_of_getElem? hk, hu⟩
    have hl : (l.filterMap (·.dst)).Nodup := by
      cases hz : z.dst with
      | none => simpa [List.filterMap_cons, hz] using hn
      | some t => rw [List.filterMap_cons, hz] at hn; exact (List.nodup_cons.1 hn).2
    have hzt : z.dst = some t → t ∉ l.filterMap (·.dst) := fun hz => by
      rw [List.filterMap_cons, hz] at hn; exact (List.nodup_cons.1 hn).1
    cases i with
    | zero =>
      simp only [List.getElem?_cons_zero, Option.some.injEq] at h1
      subst h1
      cases j with
      | zero => rfl
      | succ j => exact absurd (mem (by simpa using h2) h4) (hzt h3)
    | succ i =>
      cases j with
      | zero =>
        simp only [List.getElem?_cons_zero, Option.some.injEq] at h2
        subst h2
        exact absurd (mem (by simpa using h1) h3) (hzt h4)
      | succ j => exact congrArg Nat.succ (once_ix l hl (i := i) (j := j) (by simpa using h1) (by simpa using h2) h3 h4)
end
end Go.Proofs.YtllphmcjocidaaaGreatDoor

/- Regions do what their trees say: all of them. No program in sight. -/
namespace Go.Proofs.YtllphmcjocidaaaGreatDoor
open Go.ChangeShapes Go.WideShapes Go.ChangeAt Go.RowKit Go.Deep
set_option linter.unusedVariables false
set_option linter.unusedSimpArgs false

section
variable {P : Program} {Cs : List Con} {X : Cx} {g0 γ γ' : Gh} {β β' : Bt} {e env : List SV} {ops : Array Oper} {clo : Array Nat} {wrt : List (Nat × Nat)} {N : Nat} {tm0 : Tm} {es0 : Es} {n0 : Nat} {pre rs x y : List Rc} {r : Rc} {S : Nat → Bool} {a : Act} {w w' : World} {σ : St} {wr : Bool} {D : List Nat} {C : Con}

theorem wrt_find {l : List Oper} {t : Nat} : (((l.zipIdx.filterMap fun p => p.1.dst.map fun t => (t, p.2)).find? fun p => p.1 == t) = none → ∀ (j : Nat) (o : Oper), l[j]? = some o → o.dst ≠ some t) ∧
    ∀ p, ((l.zipIdx.filterMap fun p => p.1.dst.map fun t => (t, p.2)).find? fun p => p.1 == t) = some p → ∃ o, l[p.2]? = some o ∧ o.dst = some t := by
  refine ⟨fun h j o hj hd => ?_, fun p h => ?_⟩
  · rw [List.find?_eq_none] at h
    have : (t, j) ∈ l.zipIdx.filterMap fun p => p.1.dst.map fun t => (t, p.2) := by
      rw [List.mem_filterMap]
      exact ⟨(o, j), List.mem_zipIdx_iff_getElem?.2 hj, by simp [hd]⟩
    exact h _ this (by simp)
  · have h1 := List.mem_of_find?_eq_some h
    have h2 := List.find?_some h
    simp only [beq_iff_eq] at h2
    rw [List.mem_filterMap] at h1
    obtain ⟨⟨o, j⟩, h3, h4⟩ := h1
    simp only [Option.map_eq_some_iff] at h4
    obtain ⟨t', h5, rfl⟩ := h4
    simp only at h2
    subst h2
    exact ⟨o, List.mem_zipIdx_iff_getElem?.1 h3, h5⟩

theorem before_size (ops : Array Oper) : (Region.before ops).size = ops.size := by
  have key : ∀ (f : Array Nat → Oper → Nat) (l : List Oper) (acc : Array Nat), (l.foldl (fun a o => a.push (f a o)) acc).size = acc.size + l.length := by
    intro f l
    induction l with
    | nil => intro acc; rfl
    | cons o l ih => intro acc; rw [List.foldl_cons, ih, Array.size_push, List.length_cons]; omega
  unfold Region.before
  rw [← Array.foldl_toList, key]
  simp

/-- A region that is drawn. -/
theorem drawn_ok (hm : P.follows .mixedOrders = true) (hC : ∀ (c : Nat) (C : Con), Cs[c]? = some C → Con.Holds P C) {σF : St} {rt : RT} {id : Nat} (hk : drawOK ops (Region.before ops) (ordOf ops true) = true)
    {fx : Es} (hfs : ∀ p ∈ fx, p ∈ σ.es) (h : exOps P Cs wr D ops (ordOf ops true) σ (drOf ops true fx) = .ok rt) (hp : RTPath Cs rt env σF e) (hn : env.length = σ.nx) (hst : StOK X g0 γ β e w σ a) : (Code.region id ops true).wp P (RegPost X g0 e σF) a w := by
  simp only [drawOK, Bool.and_eq_true, decide_eq_true_eq, List.all_eq_true, beq_iff_eq, List.mem_range, List.contains_iff_mem] at hk
  obtain ⟨⟨⟨⟨⟨k1, k2⟩, k3⟩, k4⟩, k5⟩, k6⟩ := hk
  have hmem : ∀ p ∈ ordOf ops true, ops[p.1]? = some p.2 := fun p hp => by
    simp only [ordOf, if_true] at hp
    obtain ⟨_, h2⟩ := enum_mem (sort_sub _ _ _ p hp)
    simpa using h2
  have hrel : RelD (Region.before ops) (ops.toList.zipIdx.filterMap fun p => p.1.dst.map fun t => (t, p.2)) σ.n σ.tm σ.es fx σ.nr [] σ (drOf ops true fx) := ⟨rfl, rfl, rfl, rfl, rfl, fun r hr => (by simp at hr), rfl, rfl, rfl, rfl, rfl, fun _ => hfs⟩
  obtain ⟨rs, q1, q2, q0, q3, q4, q5, q6⟩ := trace_ok (X := X) hC (ordOf ops true) h hp hn hrel hst.facts hmem
  simp only [List.nil_append] at q3 q4 q5
  have hi : rs.map (·.i) = (ordOf ops true).map (·.1) := by rw [← q1]; simp
  have hlen : rs.length = ops.size := by rw [← k2, ← q1]; simp
  have hop : ∀ r ∈ rs, ops[r.i]? = some r.o := fun r hr => hmem (r.i, r.o) (by rw [← q1]; exact List.mem_map.2 ⟨r, hr, rfl⟩)
  have hnd : (rs.map (·.i)).Nodup := by rw [hi]; exact k3
  have hcov : ∀ i, i < ops.size → ∃ r ∈ rs, r.i = i := fun i hlt => by
    have := k4 i hlt
    rw [← hi, List.mem_map] at this
    exact this
  have hord : OrdOK P X e ops (Region.before ops) (ops.toList.zipIdx.filterMap fun p => p.1.dst.map fun t => (t, p.2)) σ.n σ.tm σ.es fx σ.nr rs := by
    refine ⟨q2, hnd, fun x r y hs j hj => ?_, fun r hr r' hr' t h1 h2 => ?_, hfs, fun r hr => by rw [before_size]; exact (Array.getElem?_eq_some_iff.1 (hop r hr)).1, fun t hf r hr => ?_, fun t p hf => ?_⟩
    · rcases lin_ok (ordOf ops true) k5 (x := x.map fun r => (r.i, r.o)) (y := y.map fun r => (r.i, r.o)) (p := (r.i, r.o)) (by rw [← q1, hs]; simp) j hj with h1 | ⟨q, h1, h2⟩
      · simp at h1
      · rw [List.mem_map] at h1
        obtain ⟨q', h3, rfl⟩ := h1
        exact ⟨q', h3, h2⟩
    · have := once_ix ops.toList (by simpa [dstsOnce] using k1) (by simpa using hop r hr) (by simpa using hop r' hr') h1 h2
      exact nodup_inj hnd hr hr' this
    · exact wrt_find.1 hf r.i r.o (by simpa using hop r hr)
    · obtain ⟨o, h1, h2⟩ := wrt_find.2 p hf
      have hlt : p.2 < ops.size := by
        have := (List.getElem?_eq_some_iff.1 h1).1
        simpa using this
      obtain ⟨r, hr, he⟩ := hcov p.2 hlt
      refine ⟨r, hr, he, ?_⟩
      have h3 := hop r hr
      rw [he] at h3
      have h4 : ops[p.2]? = some o := by simpa using h1
      rw [h3] at h4
      simp only [Option.some.injEq] at h4
      rw [h4]; exact h2
  have hah : ∀ i o, ops[i]? = some o → (Region.before ops).getD i 0 = aheadOf (Region.before ops) o := fun i o ho => by
    have : (i, o) ∈ enum 0 ops.toList := by
      have key : ∀ (l : List Oper) (n j : Nat) (o : Oper), l[j]? = some o → (n + j, o) ∈ enum n l := by
        intro l
        induction l with
        | nil => intro n j o h; simp at h
        | cons z l ih =>
          intro n j o h
          cases j with
          | zero => simp at h; subst h; simp [enum]
          | succ j =>
            have := ih (n + 1) j o (by simpa using h)
            rw [show n + (j + 1) = n + 1 + j by omega]
            exact List.mem_cons_of_mem _ this
      have := key ops.toList 0 i o (by simpa using ho)
      simpa using this
    exact k6 (i, o) this
  have hnone : ∀ j, (Array.replicate ops.size false).getD j false = false := fun j => by
    rw [Array.getD_eq_getD_getElem?, Array.getElem?_replicate]
    split <;> rfl
  have hnr : σ.nr ≤ nrOf σ.nr rs ∧ ∀ r ∈ rs, σ.nr ≤ r.nr := by
    obtain ⟨n1, n2⟩ := GoodFrom.nums rs q2
    simp only [List.nil_append] at n1 n2
    have e1 : nrOf σ.nr [] = σ.nr := rfl
    rw [e1] at n1 n2
    exact ⟨n1, fun r hr => (n2 r hr).1⟩
  refine wp_region_any hm (any_ok (g0 := g0) hord hcov hah (fun S γ' β' a' w' hall hd => ⟨rfl, ?_⟩) ops.size _ γ β a _ (by simp) (by
    rw [List.filter_eq_self.2 (fun r _ => by rw [hnone]; rfl)]
    omega) ?_)
  · have hfl : rs.filter (fun r => (Array.replicate ops.size false).getD r.i false) = [] := List.filter_eq_nil_iff.2 fun r _ => by rw [hnone]; simp
    have ht : tabS σ.es (fun j => (Array.replicate ops.size false).getD j false) rs = σ.es := by unfold tabS; rw [hfl]; rfl
    have htm : tmS σ.n σ.tm (fun j => (Array.replicate ops.size false).getD j false) rs = σ.tm := by unfold tmS; rw [hfl]; rfl
    have hlat : Later X γ (Os γ σ.es) e w γ (Os γ σ.es) e { w with drawn := w.drawn + 1 } := ⟨fun _ _ h => h, ⟨[], by simp⟩, Nat.le_refl _, fun b _ h _ => ⟨rfl, h⟩⟩
    refine ⟨fun r hr h => (by rw [hnone] at h; cases h), ?_, by rw [ht]; exact hst.keys, ⟨hst.frame.os, hst.frame.tape, hst.frame.output, hst.frame.size, hst.frame.block⟩, hst.gh, hst.len, fun t => ?_, fun r hr _ q h1 h2 => hst.fresh q (by have := hnr.2 r hr; omega), fun q hq => hst.fresh q (by have := hnr.1; omega), hst.nodef, hst.base⟩
    · rw [ht]
      exact ⟨hst.mem.nd, hst.mem.at', fun b hb => (hlat.gd (hst.mem.good b hb)).1, fun p hp => entOK.later hlat rfl (fun _ _ => rfl) (fun _ _ => rfl) (hst.mem.ent p hp)⟩
    · rw [ht, htm]
      exact valOK.later hlat (hst.vals t)
  · have hfl : rs.filter (fun r => S r.i) = rs := List.filter_eq_self.2 fun r hr => hall r hr
    have ht : tabS σ.es S rs = esOf σ.es rs := by unfold tabS; rw [hfl]
    have htm : tmS σ.n σ.tm S rs = σF.tm := by unfold tmS; rw [hfl, q3]
    have hs1 : StOK X g0 γ' β' e w' { σF with es := esOf σ.es rs } a' := by
      refine ⟨by rw [← ht]; exact hd.mem, by rw [← ht]; exact hd.keys, hd.frame, hd.gh, ?_, fun t => ?_, q6, fun r hr => hd.top r (by rw [← q5]; exact hr), hd.nodef, hd.base⟩
      · show σF.n = _
        rw [q0]; exact hd.len
      · have := hd.vals t
        rw [htm, ht] at this
        exact this
    obtain ⟨β2, hs2⟩ := hs1.sealed
    refine ⟨γ', β2, ?_⟩
    have e1 : ({ σF with es := esOf σ.es rs } : St).upd (sealAll ({ σF with es := esOf σ.es rs } : St).es) σF.nx σF.nr σF.cr = σF := by
      cases σF
      simp only at q4
      rw [q4]
      rfl
    have hs2 : StOK X g0 γ' β2 e w' (({ σF with es := esOf σ.es rs } : St).upd (sealAll ({ σF with es := esOf σ.es rs } : St).es) σF.nx σF.nr σF.cr) a' := hs2
    rw [e1] at hs2
    exact hs2

theorem exRegion_some {draw : Bool} {x : RT} : (n : Nat) → {D : List Nat} → {σ : St} → {γ : Gh} → {β : Bt} → exRegion P Cs wr ops draw n D σ = .ok x → StOK X g0 γ β e w σ a →
    ∃ D' σ' β' fx, (draw = true → drawOK ops (Region.before ops) (ordOf ops draw) = true) ∧ exOps P Cs wr D' ops (ordOf ops draw) σ' (drOf ops draw fx) = .ok x ∧ StOK X g0 γ β' e w σ' a ∧ σ'.nx = σ.nx ∧ (draw = false → fx = []) ∧ ∀ p ∈ fx, p ∈ σ'.es
  | 0, D, σ, γ, β, h, hst => by simp [exRegion] at h
  | n + 1, D, σ, γ, β, h, hst => by
    simp only [exRegion] at h
    split at h
    · cases h
    · rename_i hk
      split at h
      · rename_i x' hx
        simp only [Except.ok.injEq] at h
        subst h
        refine ⟨D, σ, β, [], fun hd => ?_, hx, hst, rfl, fun _ => rfl, fun p hp => (by simp at hp)⟩
        subst hd
        simpa using hk
      · split at h
        · rename_i x' hx
          split at hx
          · rename_i hdr
            simp only [Except.ok.injEq] at h
            subst h
            rcases orTry_ok hx with hx2 | hx2
            · refine ⟨D, σ, β, lastOf ops σ, fun hd => ?_, hx2, hst, rfl, fun hd => (by rw [hdr] at hd; cases hd), fun p hp => (List.mem_filter.1 hp).1⟩
              subst hd
              simpa using hk
            · refine ⟨D, σ, β, rowsOf ops σ, fun hd => ?_, hx2, hst, rfl, fun hd => (by rw [hdr] at hd; cases hd), fun p hp => (List.mem_append.1 hp).elim (fun h => (List.mem_filter.1 h).1) fun h => (List.mem_filter.1 h).1⟩
              subst hd
              simpa using hk
          · cases hx
        · rename_i err2 hx
          split at h
          · split at h
            · split at h
              · rename_i σ' hz
                obtain ⟨β1, f1, f2, f3⟩ := hst.frz hz
                obtain ⟨D', σ2, β2, fx, g1, g2, g3, g4, g5⟩ := exRegion_some n h f1
                exact ⟨D', σ2, β2, fx, g1, g2, g3, g4.trans f2, g5⟩
              · cases h
            · split at h
              · cases h
              · exact exRegion_some n h hst
          · cases h

theorem reg_ok (hm : P.follows .mixedOrders = true) (hC : ∀ (c : Nat) (C : Con), Cs[c]? = some C → Con.Holds P C) (X : Cx) (g0 : Gh) : RegOK P Cs wr X g0 := by
  intro id ops draw D σ rt env e σF γ β w a h hp hn hst
  obtain ⟨D', σ', β', fx, h1, h2, h3, h4, h5, h6⟩ := exRegion_some 12 h hst
  cases draw with
  | true => exact drawn_ok hm hC (h1 rfl) h6 h2 hp (by rw [h4]; exact hn) h3
  | false => exact region_ok hC (by rw [h5 rfl] at h2; simpa [ordOf] using h2) hp (by rw [h4]; exact hn) h3

/-- THE WHOLE: what a function's tree says is what the function does. -/
theorem tree_ok (hm : P.follows .mixedOrders = true) {fuel : Nat} {orc : Orc} {T' : T} (hC : ∀ (c : Nat) (C : Con), Cs[c]? = some C → Con.Holds P C) (h : exFn P Cs C wr fuel orc = .ok T')
    (hw : ∀ x : C.argTy.D, okD C.argTy x → C.pre x → T'.wp Cs [⟨C.argTy, x⟩] [] fun v => v.as C.resTy = C.fn x) : Con.Holds P C := exFn_ok hC (fun X g0 => reg_ok hm hC X g0) h hw
end
#print axioms tree_ok
end Go.Proofs.YtllphmcjocidaaaGreatDoor

/- What the proofs of trees share. -/
namespace Go.Proofs.YtllphmcjocidaaaGreatDoor
open Go.ChangeShapes Go.WideShapes Go.ChangeAt Go.RowKit Go.Deep
set_option linter.unusedVariables false
set_option linter.unusedSimpArgs false

theorem mixedP : Tryz.prog.follows .mixedOrders = true := by kernel_rfl
theorem consNil {P : Program} : ∀ (c : Nat) (C : Con), ([] : List Con)[c]? = some C → Con.Holds P C := fun c C h => by simp at h
theorem consAt {P : Program} {C0 : Con} {Cs : List Con} (h0 : Con.Holds P C0) (h : ∀ (c : Nat) (C : Con), Cs[c]? = some C → Con.Holds P C) : ∀ (c : Nat) (C : Con), (C0 :: Cs)[c]? = some C → Con.Holds P C := fun c C hc => by
  cases c with
  | zero => simp only [List.getElem?_cons_zero, Option.some.injEq] at hc; subst hc; exact h0
  | succ c => exact h c C (by simpa using hc)
theorem le_tI (k : IntKind) (x y : Int) : @LE.le (Ty.D (.int k)) Int.instLEInt x y = @LE.le Int Int.instLEInt x y := rfl
theorem lt_tI (k : IntKind) (x y : Int) : @LT.lt (Ty.D (.int k)) Int.instLTInt x y = @LT.lt Int Int.instLTInt x y := rfl
theorem ne_tI (k : IntKind) (x y : Int) : @Ne (Ty.D (.int k)) x y = @Ne Int x y := rfl
theorem eq_tI (k : IntKind) (x y : Int) : @Eq (Ty.D (.int k)) x y = @Eq Int x y := rfl
theorem zero_tI (k : IntKind) : (@OfNat.ofNat (Ty.D (.int k)) 0 (@instOfNat 0)) = (0 : Int) := rfl
theorem okD_bool (b : Bool) : okD .bool b = True := rfl
theorem getD_at {α : Type} {l : List α} {k : Nat} (h : k < l.length) {d : α} : l.getD k d = l[k] := by simp [h]
theorem take_at {α : Type} {l : List α} {k : Nat} (h : k < l.length) : l.take k ++ [l[k]] = l.take (k + 1) := by rw [List.take_succ_eq_append_getElem h]
def clampI (x : Int) : Int := min (max x (-2147483647)) 2147483647
def satI (x : Int) : Int × Bool := (clampI x, decide (x ≠ clampI x))
def fixAdd (a b : Int) : Int × Bool := satI (clampI a + clampI b)
theorem toNat_pred (k : Nat) : ((k : Int) - 1).toNat = k - 1 := by omega
theorem toNat_succ (k : Nat) : ((k : Int) + 1).toNat = k + 1 := by omega
theorem toNat_l0 : Int.toNat 0 = 0 := rfl
theorem toNat_l1 : Int.toNat 1 = 1 := rfl
/-- A tree's condition, and what is decided, in plain words. -/
theorem vcx {t : T} {Cs : List Con} {env : List SV} {L : List (SV → Prop)} {Q : SV → Prop} {P : Prop} (p : P) (h : t.wp Cs env L Q ↔ P := by dsimp only [T.wp, pjA, prA, mkA, litTy, litFn, Ar.val, envAt, Prim.cond, Prim.fn, Prim.ity, Prim.oty, List.getElem?_cons_succ, List.getElem?_cons_zero, Option.getD_some, List.cons_append, List.nil_append, inK, arI, cmpI, maxI, minI, negI]; (try simp only [SV.as_self, true_and, forall_const, okD_bool, le_tI, lt_tI, ne_tI, eq_tI, zero_tI]); exact Iff.rfl) : t.wp Cs env L Q := h.mpr p
theorem dcx {P Q : Prop} (q : Q) (h : P ↔ Q := by (try simp only [Int.toNat_natCast, Bool.not_eq_true', Bool.not_eq_false', Bool.and_eq_true, Bool.and_eq_false_iff, decide_eq_true_eq, decide_eq_false_iff_not, Int.not_lt, Int.not_le, ge_iff_le, gt_iff_lt, List.length_cons, List.length_nil, List.length_append, Nat.zero_add, List.nil_append, beq_iff_eq, beq_eq_false_iff_ne, bne_iff_ne, bne_eq_false_iff_eq, ne_eq, toNat_pred, toNat_succ, toNat_l0, toNat_l1]); exact Iff.rfl) : P := h.mpr q
end Go.Proofs.YtllphmcjocidaaaGreatDoor

/- Writing into a row of the call's own, one cell or one element's own rows at a time. Sizes; what a call that only writes into given blocks leaves alone. No program in sight. -/
namespace Go.Proofs.YtllphmcjocidaaaGreatDoor
open Go.ChangeShapes Go.WideShapes Go.ChangeAt Go.RowKit Go.Deep
set_option linter.unusedVariables false

section
variable {t : Ty} {e : TypeId} {w : World} {v : Value} {l : List t.D} {bl : List Nat}

theorem rep_lens (h : rep (.slice e t) w [v] l bl) (hnd : bl.Nodup) (k : Nat) (hk : k < l.length) :
    ∃ b cap c bk, v = .slice (some ⟨b, 0, none⟩) l.length cap ∧ b ∈ bl ∧ b < w.heap.size ∧ (∀ j, w.frozen? ⟨b, j, none⟩ = false) ∧ c.length = t.n ∧ (∀ j (hj : j < c.length), w.cell? ⟨b, k * t.n + j, none⟩ = some c[j]) ∧
      rep t w c l[k] bk ∧ (∀ q ∈ bk, q ∈ bl) ∧ bk.Nodup ∧ b ∉ bk ∧
      (∀ (w' : World) (x' : t.D), (∀ q, q ∉ bk → q < w.heap.size → w'.heap[q]? = w.heap[q]?) → rep t w' c x' bk → rep (.slice e t) w' [v] (l.set k x') bl) ∧
      (∀ (j : Nat) (u : Value) (x' : t.D), j < c.length → rep t w (c.set j u) x' bk → rep (.slice e t) (w.setCell ⟨b, k * t.n + j, none⟩ u) [v] (l.set k x') bl) := by
  obtain ⟨v0, xs, bl', hv, ho, hr, rfl⟩ := h
  obtain rfl : v = v0 := by simpa using hv
  have hlt := rep_lt (.slice e t) w [v] l _ ⟨v, xs, bl', rfl, ho, hr, rfl⟩
  obtain ⟨h1, ⟨rfl, hn⟩ | ⟨g, cap, cur, rfl, hg, hh, hc, hm, hcs, hx⟩⟩ := ho
  · omega
  · obtain ⟨xs1, c, xs2, b1, bk, b2, he, hl, hcl, rfl, hr1, hR, hr2⟩ := hr.split k hk
    have hnd' := hnd
    simp only [Value.ownBlock, Option.toList_some, List.singleton_append, List.nodup_cons, List.mem_append, not_or, List.nodup_append] at hnd'
    obtain ⟨⟨nb1, nbk, nb2⟩, n1, ⟨nk, n2, d2⟩, d1⟩ := hnd'
    refine ⟨g, cap, c, bk, rfl, by simp [Value.ownBlock], (Array.getElem?_eq_some_iff.1 hh).1, fun j => by simp [World.frozen?, hh], hcl, fun j hj => ?_, hR, fun q hq => by simp [hq], nk, nbk, ?_, ?_⟩
    · have h2 : xs[k * t.n + j]? = some c[j] := by
        rw [he, List.getElem?_append_right (by omega), List.getElem?_append_left (by omega), hl, Nat.add_sub_cancel_left, List.getElem?_eq_getElem hj]
      have h3 : cur[k * t.n + j]? = some c[j] := by
        rw [← hx, List.getElem?_take] at h2
        split at h2
        · simpa using h2
        · cases h2
      simp [World.cell?, hh, h3]
    · intro w' x' hw' hx'
      have hsub : ∀ q, q ∈ b1 ∨ q ∈ b2 → w'.heap[q]? = w.heap[q]? := fun q hq => by
        refine hw' q (fun hqb => ?_) ?_
        · rcases hq with hq | hq
          · exact d1 q hq q (.inl hqb) rfl
          · exact d2 q hqb q hq rfl
        · refine hlt q ?_
          rcases hq with hq | hq <;> simp [hq]
      refine ⟨_, xs1 ++ (c ++ xs2), b1 ++ (bk ++ b2), rfl, ⟨by rw [List.length_set, ← h1, he], .inr ⟨g, cap, cur, by simp, Nat.zero_le _, (hw' g nbk (hlt g (by simp [Value.ownBlock]))).trans hh, by simpa using hc, hm, hcs, by rw [List.length_set, hx, he]⟩⟩, ?_, rfl⟩
      refine RepL.join hk hcl (hr1.mono (fun c y bb hq hy => rep_keep _ _ _ _ (fun q hqb => hsub q (.inl (hq q hqb))) hy)) hx' (hr2.mono (fun c y bb hq hy => rep_keep _ _ _ _ (fun q hqb => hsub q (.inr (hq q hqb))) hy))
    · intro j u x' hj hx'
      have hsub : ∀ q, q ∈ b1 ∨ q ∈ bk ∨ q ∈ b2 → (w.setCell ⟨g, k * t.n + j, none⟩ u).heap[q]? = w.heap[q]? := fun q hq => by
        refine Below.heap_setCell _ _ _ _ (fun e => ?_)
        obtain rfl : q = g := e
        rcases hq with hq | hq | hq
        · exact nb1 hq
        · exact nbk hq
        · exact nb2 hq
      have hle : k * t.n + t.n ≤ l.length * t.n := by
        have : (k + 1) * t.n ≤ l.length * t.n := Nat.mul_le_mul_right _ (by omega)
        rw [Nat.add_mul] at this; omega
      refine ⟨_, xs1 ++ (c.set j u ++ xs2), b1 ++ (bk ++ b2), rfl, ⟨?_, .inr ⟨g, cap, cur.setIfInBounds (k * t.n + j) u, by simp, Nat.zero_le _, setCell_block u hh, by simpa using hc, hm, by simpa using hcs, ?_⟩⟩, ?_, rfl⟩
      · have := congrArg List.length he
        simp only [List.length_append, h1] at this
        simp only [List.length_append, List.length_set]; omega
      · rw [List.length_set, Array.toList_setIfInBounds, List.take_set, hx, he]
        rw [List.set_append_right _ _ (by omega), List.set_append_left _ _ (by omega)]
        congr 3
        omega
      · refine RepL.join hk (by simpa using hcl) (hr1.mono (fun c y bb hq hy => rep_keep _ _ _ _ (fun q hqb => hsub q (.inl (hq q hqb))) hy)) (rep_keep _ _ _ _ (fun q hqb => hsub q (.inr (.inl hqb))) hx') (hr2.mono (fun c y bb hq hy => rep_keep _ _ _ _ (fun q hqb => hsub q (.inr (.inr (hq q hqb)))) hy))
end

/-- w' is w but for the blocks bl (and new blocks). -/
structure Only (bl : List Nat) (w w' : World) : Prop where
  os : w'.os = w.os
  tape : w'.tape = w.tape
  output : w'.output = w.output
  size : w.heap.size ≤ w'.heap.size
  block : ∀ q, q ∉ bl → q < w.heap.size → w'.heap[q]? = w.heap[q]?

section
variable {bl bl' : List Nat} {w w' w'' : World}
theorem Only.refl (bl : List Nat) (w : World) : Only bl w w := ⟨rfl, rfl, rfl, Nat.le_refl _, fun _ _ _ => rfl⟩
theorem Only.trans (h : Only bl w w') (k : Only bl w' w'') : Only bl w w'' :=
  ⟨k.os.trans h.os, k.tape.trans h.tape, k.output.trans h.output, Nat.le_trans h.size k.size, fun q hq hz => (k.block q hq (Nat.lt_of_lt_of_le hz h.size)).trans (h.block q hq hz)⟩
theorem Only.mono (h : Only bl w w') (hb : ∀ q ∈ bl, q ∈ bl') : Only bl' w w' := ⟨h.os, h.tape, h.output, h.size, fun q hq hz => h.block q (fun hm => hq (hb q hm)) hz⟩
theorem Only.setCell (h : Only bl w w') {p : Addr} (hp : p.block ∈ bl) (u : Value) : Only bl w (w'.setCell p u) :=
  h.trans ⟨rfl, rfl, rfl, by simp [World.setCell], fun q hq _ => Below.heap_setCell _ _ _ _ (fun e => hq (e ▸ hp))⟩
theorem Only.alloc (h : Only bl w w') (o : Obj) : Only bl w (w'.alloc o) :=
  h.trans ⟨rfl, rfl, rfl, by simp, fun q hq hz => Below.heap_alloc _ _ _ hz⟩
theorem Only.drew (h : Only bl w w') : Only bl w w'.drew := ⟨h.os, h.tape, h.output, h.size, h.block⟩
theorem Only.of_below {B : Nat} (h : Below B w w') (hB : B = w.heap.size) : Only bl w w' := ⟨h.os, h.tape, h.output, h.size, fun q _ hz => h.block q (by omega)⟩
theorem Only.below {B : Nat} (h : Only bl w w') (hb : ∀ q ∈ bl, B ≤ q) (hB : B ≤ w.heap.size) : Below B w w' :=
  ⟨h.os, h.tape, h.output, h.size, fun k hk => h.block k (fun hm => by have := hb k hm; omega) (by omega)⟩
theorem Only.setCell_new (h : Only bl w w') {p : Addr} (hp : w.heap.size ≤ p.block) (u : Value) : Only bl w (w'.setCell p u) :=
  ⟨h.os, h.tape, h.output, by simpa [World.setCell] using h.size, fun q hq hz => (Below.heap_setCell _ _ _ _ (by omega)).trans (h.block q hq hz)⟩
end

theorem set_mix {α : Type} (A l : List α) (k : Nat) (hk : k < l.length) (hA : A.length = l.length) (x : α) (hx : A[k]'(by omega) = x) : (A.take k ++ l.drop k).set k x = A.take (k + 1) ++ l.drop (k + 1) := by
  have h1 : (A.take k).length = k := by simp; omega
  rw [List.set_append_right _ _ (by omega), h1, Nat.sub_self, List.drop_eq_getElem_cons hk, List.set_cons_zero, List.take_succ_eq_append_getElem (by omega), hx]
  simp

theorem set_zero {α : Type} (l : List α) (z : α) (k : Nat) (hk : k < l.length) : (l.take k ++ List.replicate (l.length - k) z).set k l[k] = l.take (k + 1) ++ List.replicate (l.length - (k + 1)) z := by
  have h1 : (l.take k).length = k := by simp; omega
  rw [List.set_append_right _ _ (by omega), h1, Nat.sub_self, show l.length - k = l.length - (k + 1) + 1 by omega, List.replicate_succ, List.set_cons_zero, List.take_succ_eq_append_getElem hk, List.append_assoc, List.singleton_append]

theorem get_mix {α : Type} (A l : List α) (k : Nat) (hk : k < l.length) (hA : A.length = l.length) : (A.take k ++ l.drop k)[k]'(by simp; omega) = l[k] := by
  have h1 : (A.take k).length = k := by simp; omega
  rw [List.getElem_append_right (by omega)]
  simp [h1]

theorem rep_len {t : Ty} {e : TypeId} {w : World} {p : Option Addr} {len cap : Nat} {l : List t.D} {bl : List Nat} (h : rep (.slice e t) w [.slice p len cap] l bl) : len = l.length ∧ len ≤ maxLen := by
  obtain ⟨v0, xs, bl', hv, ho, hr, rfl⟩ := h
  obtain rfl : Value.slice p len cap = v0 := by simpa using hv
  obtain ⟨h1, ⟨h0, hn⟩ | ⟨g, cap', cur, hv', hg, hh, hc, hm, hcs, hx⟩⟩ := ho
  · simp only [Value.slice.injEq] at h0
    exact ⟨by omega, by omega⟩
  · simp only [Value.slice.injEq] at hv'
    exact ⟨by omega, by omega⟩

/-! ### sizes -/

/-- The sum of all slices' lengths. -/
def szT : (t : Ty) → t.D → Nat
  | .int _, _ => 0
  | .bool, _ => 0
  | .str, _ => 0
  | .slice _ t, l => List.length l + (l.map (szT t)).sum
  | .pair a b, x => szT a x.1 + szT b x.2

theorem szT_slice (e : TypeId) (t : Ty) (l : List t.D) : szT (.slice e t) l = l.length + (l.map (szT t)).sum := rfl

def szR (left : Int) (n : Nat) : Int := if (n : Int) ≤ left then left - n else -1

theorem szR_pos {left : Int} {n : Nat} (h : (n : Int) ≤ left) : szR left n = left - n := if_pos h
theorem szR_neg {left : Int} {n : Nat} (h : ¬ (n : Int) ≤ left) : szR left n = -1 := if_neg h
theorem sum_zero {α : Type} (f : α → Nat) (l : List α) (h : ∀ x, f x = 0) : (l.map f).sum = 0 := by
  induction l with
  | nil => rfl
  | cons a m ih => rw [List.map_cons, List.sum_cons, ih, h]

theorem sum_take_succ {α : Type} (f : α → Nat) (l : List α) (k : Nat) (h : k < l.length) : ((l.take (k + 1)).map f).sum = ((l.take k).map f).sum + f l[k] := by
  rw [List.take_succ_eq_append_getElem h, List.map_append, List.sum_append]; simp only [List.map_cons, List.map_nil, List.sum_cons, List.sum_nil, Nat.add_zero]

theorem sum_take_le {α : Type} (f : α → Nat) (l : List α) (k : Nat) : ((l.take k).map f).sum ≤ (l.map f).sum := by
  conv => rhs; rw [← List.take_append_drop k l, List.map_append, List.sum_append]
  omega

theorem sum_get_le {α : Type} (f : α → Nat) (l : List α) (k : Nat) (h : k < l.length) : f l[k] ≤ (l.map f).sum := by
  have h1 := sum_take_succ f l k h
  have h2 := sum_take_le f l (k + 1)
  omega

/-! ### marks: what the laws write into what was handed back -/

/-- How many numbers and flags an element in a row has. -/
def cnt : (t : Ty) → t.D → Nat
  | .int _, _ => 1
  | .bool, _ => 1
  | .str, _ => 1
  | .slice _ t, l => (l.map (cnt t)).sum
  | .pair a b, x => cnt a x.1 + cnt b x.2

def mkList {α : Type} (f : α → Int → α) (c : α → Nat) : List α → Int → List α
  | [], _ => []
  | x :: l, k => f x k :: mkList f c l (k + (c x : Int))

/-- What stands there behind the marks. -/
def mk : (t : Ty) → t.D → Int → t.D
  | .int _, _, k => k
  | .bool, _, k => decide (k % 3 = 0)
  | .str, s, _ => s
  | .slice _ t, l, k => mkList (mk t) (cnt t) l k
  | .pair a b, x, k => (mk a x.1 k, mk b x.2 (k + (cnt a x.1 : Int)))

theorem mkList_length {α : Type} (f : α → Int → α) (c : α → Nat) : (l : List α) → (k : Int) → (mkList f c l k).length = l.length
  | [], k => rfl
  | x :: l, k => by simp [mkList, mkList_length f c l]

theorem mkList_get {α : Type} (f : α → Int → α) (c : α → Nat) : (l : List α) → (k : Int) → (i : Nat) → (h : i < l.length) → (h' : i < (mkList f c l k).length) → (mkList f c l k)[i] = f l[i] (k + (((l.take i).map c).sum : Int))
  | [], k, i, h, _ => by simp at h
  | x :: l, k, 0, h, _ => by simp [mkList]
  | x :: l, k, i + 1, h, h' => by
    simp only [mkList, List.getElem_cons_succ, List.take_succ_cons, List.map_cons, List.sum_cons]
    rw [mkList_get f c l _ i (by simpa using h)]
    congr 1
    omega
end Go.Proofs.YtllphmcjocidaaaGreatDoor

/- The laws' own helpers over rows of numbers: copy, compare, count, mark, look at the marks. -/
namespace Go.Proofs.YtllphmcjocidaaaGreatDoor
open Go.ChangeShapes Go.WideShapes Go.ChangeAt Go.RowKit
set_option linter.unusedVariables false

theorem i64_of {a0 : Int} (w0 : (Lit.int .i64 a0).wf = true) : -9223372036854775808 ≤ a0 ∧ a0 ≤ 9223372036854775807 := by
  simpa [Lit.wf, IntKind.min, IntKind.max, IntKind.signed, IntKind.bits] using w0

theorem wf_i64 {a0 : Int} (h : -9223372036854775808 ≤ a0 ∧ a0 ≤ 9223372036854775807) : (Lit.int .i64 a0).wf = true := by
  simpa [Lit.wf, IntKind.min, IntKind.max, IntKind.signed, IntKind.bits] using h

theorem wrap64_id {x : Int} (h1 : -9223372036854775808 ≤ x) (h2 : x ≤ 9223372036854775807) : wrap64 x = x := by unfold wrap64; omega

def RetV (v : Value) (w : World) (r : Ending) (w' : World) : Prop := r = .returned v ∧ Below w.heap.size w w'
def RetSl (e : TypeId) (t : Ty) (w : World) (l : List t.D) (r : Ending) (w' : World) : Prop :=
  ∃ p cap, r = .returned (.slice p l.length cap) ∧ FrIn (.slice e t) w.heap.size w'.heap.size w' [.slice p l.length cap] l ∧ Below w.heap.size w w'
def RetAg (t : Ty) (w : World) (d : t.D) (r : Ending) (w' : World) : Prop :=
  ∃ cs : Array Value, r = .returned (.agg cs) ∧ FrIn t w.heap.size w'.heap.size w' cs.toList d ∧ Below w.heap.size w w'
/-- Marks: the number behind, what then stands there, and nothing else written. -/
def RetMk (t : Ty) (w : World) (cs : List Value) (d : t.D) (bl : List Nat) (n : Int) (r : Ending) (w' : World) : Prop :=
  r = .returned (.int .i64 n) ∧ rep t w' cs d bl ∧ Only bl w w'

theorem ret_int {k : IntKind} {a b : Int} (h : a = b) : Ending.returned (.int k a) = .returned (.int k b) := by rw [h]
theorem ret_bool {a b : Bool} (h : a = b) : Ending.returned (.bool a) = .returned (.bool b) := by rw [h]

theorem bcell {W w1 : World} (hb : Below W.heap.size W w1) : (∀ b o, b < W.heap.size → w1.cell? ⟨b, o, none⟩ = W.cell? ⟨b, o, none⟩) ∧ (∀ b o, b < W.heap.size → w1.frozen? ⟨b, o, none⟩ = W.frozen? ⟨b, o, none⟩) :=
  ⟨fun b o h => hb.cell (p := ⟨b, o, none⟩) h, fun b o h => hb.frozen (p := ⟨b, o, none⟩) h⟩

theorem arr_of {cs : Array Value} {l : List Value} (h : cs.toList = l) : cs = l.toArray := by rw [← h]

theorem SlRd.below {t : Ty} {w w' : World} {p : Option Addr} {len cap : Nat} {l : List t.D} (h : SlRd t.n (rd t w) w p len cap l) (hb : Below w.heap.size w w') : SlRd t.n (rd t w') w' p len cap l :=
  h.mono (Below.keeps hb) (fun cs x hx => rd_mono (Below.keeps hb) t cs x hx)

theorem rd_below {t : Ty} {w w' : World} {cs : List Value} {d : t.D} (h : rd t w cs d) (hb : Below w.heap.size w w') : rd t w' cs d := rd_mono (Below.keeps hb) t cs d h

/-- What a result of the call's own reads as. -/
theorem fr_sl {e : TypeId} {t : Ty} {lo hi : Nat} {w : World} {p : Option Addr} {len cap : Nat} {l : List t.D} (h : FrIn (.slice e t) lo hi w [.slice p len cap] l) : SlRd t.n (rd t w) w p len cap l := by
  obtain ⟨p', len', cap', hv, hs⟩ := h.rd
  simp only [List.cons.injEq, Value.slice.injEq, and_true] at hv
  obtain ⟨rfl, rfl, rfl⟩ := hv
  exact hs

theorem FrIn.set1 {t : Ty} {lo hi : Nat} {w : World} {cs : List Value} {d : t.D} (h : FrIn t lo hi w cs d) {a : Addr} (ha : a.block < lo ∨ hi ≤ a.block) (v : Value) : FrIn t lo hi (w.setCell a v) cs d :=
  h.keep (fun b h1 h2 => Below.heap_setCell _ _ _ _ (by omega)) (by simp [World.setCell])
theorem FrIn.alloc {t : Ty} {lo hi : Nat} {w : World} {cs : List Value} {d : t.D} (h : FrIn t lo hi w cs d) (o : Obj) : FrIn t lo hi (w.alloc o) cs d :=
  h.keep (fun b h1 h2 => Below.heap_alloc _ _ _ (by have := h.hi_le; omega)) (by simp)


theorem SlRd.lens {α : Type} {n : Nat} {R : List Value → α → Prop} {w : World} {p : Option Addr} {len cap : Nat} {l : List α} (h : SlRd n R w p len cap l) : len = l.length := h.1

/-- One number of a row. -/
theorem int_at {w : World} {p : Option Addr} {len cap : Nat} {l : List Int} (h : SlRd 1 (rd tInt w) w p len cap l) (k : Nat) (hk : k < l.length) :
    ∃ b off, p = some ⟨b, off, none⟩ ∧ b < w.heap.size ∧ w.cell? ⟨b, off + k, none⟩ = some (.int .i64 l[k]) ∧ -9223372036854775808 ≤ l[k] ∧ l[k] ≤ 9223372036854775807 := by
  obtain ⟨b, off, hp, hb, cs, hl, hc, rfl, hw⟩ := h.2.2.2.2 k hk
  exact ⟨b, off, hp, hb, by simpa using hc 0 (by simp), (i64_of hw).1, (i64_of hw).2⟩


theorem eqIntS_any (p q : Option Addr) (len cap len' cap' : Nat) (l : List Int) (w : World) (h : SlRd 1 (rd tInt w) w p len cap l) (h' : SlRd 1 (rd tInt w) w q len' cap' l) :
    Calls Tryz.prog 81 #[.slice p len cap, .slice q len' cap'] w (RetV (.bool true) w) := by
  obtain rfl := h.lens
  obtain rfl := h'.lens
  have hmx : l.length ≤ maxLen := by have := h.2.1; have := h.2.2.1; omega
  unfold maxLen at hmx
  go_enter Tryz.func81, Tryz.ntmps81
  go_wp2
  go_loopw [5] (fun i wr => ∃ k : Nat, k ≤ l.length ∧ i = .int .i64 k ∧ Below w.heap.size w wr) (fun i _ => l.length - (intOf i).toNat)
  case atStart => exact ⟨0, by omega, rfl, Below.refl _ _⟩
  case round =>
    obtain ⟨k, hk, rfl, hb⟩ := hrel
    by_cases hlt : k < l.length
    · obtain ⟨b, off, rfl, hlb, hc, hw1, hw2⟩ := int_at h k hlt
      obtain ⟨b2, off2, rfl, hlb2, hc2, -, -⟩ := int_at h' k hlt
      have c1 : wr.cell? ⟨b, off + k, none⟩ = some (.int .i64 l[k]) := (hb.cell hlb).trans hc
      have c2 : wr.cell? ⟨b2, off2 + k, none⟩ = some (.int .i64 l[k]) := (hb.cell hlb2).trans hc2
      clear h h' hc hc2
      go_wp2
      go_quiet (fail)
      go_wp2
      go_roundw
      case rel => exact ⟨k + 1, by omega, by go_num, below_drewN hb _⟩
      case measure => simp [intOf]; omega
    · clear h h'
      go_wp2
      go_ret
      exact ⟨rfl, hb⟩


theorem szT_ints (l : List Int) : szT tInts l = l.length := by
  rw [szT_slice, sum_zero (szT tInt) l (fun _ => rfl)]; rfl

theorem sum_one (l : List Int) : (l.map (cnt tInt)).sum = l.length := by
  induction l with
  | nil => rfl
  | cons a m ih =>
    rw [List.map_cons, List.sum_cons, ih, List.length_cons]
    show 1 + _ = _
    omega

theorem mk_ints (l : List Int) (k0 : Int) (k : Nat) (hk : k < l.length) : (mk tInts l k0)[k]'(by show k < (mkList _ _ _ _).length; rw [mkList_length]; exact hk) = k0 + k := by
  show (mkList (mk tInt) (cnt tInt) l k0)[k]'_ = _
  rw [mkList_get _ _ _ _ _ hk]
  show k0 + _ = _
  rw [sum_one, List.length_take, Nat.min_eq_left (by omega)]

theorem mk_ints_length (l : List Int) (k0 : Int) : (mk tInts l k0 : List Int).length = l.length := mkList_length _ _ _ _

theorem cnt_ints (l : List Int) : cnt tInts l = l.length := sum_one l

theorem markIntS_any (p : Option Addr) (len cap : Nat) (k0 : Int) (l : List Int) (bl : List Nat) (w : World) (h : rep tInts w [.slice p len cap] l bl) (hnd : bl.Nodup) (h0 : 0 ≤ k0) (h1 : k0 + l.length ≤ 1000000000000) :
    Calls Tryz.prog 58 #[.slice p len cap, .int .i64 k0] w (RetMk tInts w [.slice p len cap] (mk tInts l k0) bl (k0 + (cnt tInts l : Int))) := by
  obtain ⟨rfl, hmx⟩ := rep_len h
  have HL := Lib.hid (mk_ints_length l k0)
  unfold maxLen at hmx
  go_enter Tryz.func58, Tryz.ntmps58
  go_wp2
  go_loopw [1, 5] (fun q i wr => ∃ k : Nat, k ≤ l.length ∧ i = .int .i64 k ∧ q = .int .i64 (k0 + k) ∧ Only bl w wr ∧ rep tInts wr [.slice p l.length cap] ((mk tInts l k0 : List Int).take k ++ l.drop k) bl) (fun _ i _ => l.length - (intOf i).toNat)
  case atStart => exact ⟨0, by omega, rfl, by simp, Only.refl _ _, by simpa using h⟩
  case round =>
    obtain ⟨k, hk, rfl, rfl, hb, hf⟩ := hrel
    clear h
    by_cases hlt : k < l.length
    · have hkk : k < ((mk tInts l k0 : List Int).take k ++ l.drop k).length := by simp only [List.length_append, List.length_take, List.length_drop, HL.out]; omega
      obtain ⟨b, cap', c, bk, hv, hbm, -, hfz, hcl, hc, hR, -, -, -, -, hU⟩ := rep_lens hf hnd k hkk
      simp only [Value.slice.injEq] at hv
      obtain ⟨rfl, -, -⟩ := hv
      obtain ⟨rfl, _, rfl⟩ := hR
      have c1 : wr.cell? ⟨b, k, none⟩ = some (.int .i64 l[k]) := by
        have := hc 0 (by simp)
        simp only [Ty.n, Nat.mul_one, Nat.add_zero, List.getElem_cons_zero] at this
        rw [this, get_mix _ _ _ hlt HL.out]
      have c2 := hfz k
      have HU := Lib.hid (hU 0 (.int .i64 (k0 + k)) (k0 + k) (by simp) ⟨rfl, wf_i64 (by omega), rfl⟩)
      have HM := Lib.hid (mk_ints l k0 k hlt)
      clear hU hc hfz hf
      go_wp2
      go_roundw
      case rel =>
        refine ⟨k + 1, by omega, by go_num, by go_num, hb.setCell hbm _, ?_⟩
        have h2 := HU.out
        rw [set_mix _ _ _ hlt HL.out _ HM.out] at h2
        simpa [Ty.n] using h2
      case measure => simp [intOf]; omega
    · go_wp2
      go_ret
      obtain rfl : k = l.length := by omega
      refine ⟨ret_int (by rw [cnt_ints]), ?_, hb⟩
      have e1 : (mk tInts l k0 : List Int).take l.length ++ l.drop l.length = mk tInts l k0 := by
        rw [List.drop_length, List.append_nil, List.take_of_length_le (by rw [HL.out]; exact Nat.le_refl _)]
      rw [e1] at hf
      exact hf

theorem heldIntS_any (p : Option Addr) (len cap : Nat) (k0 : Int) (l : List Int) (w : World) (h : SlRd 1 (rd tInt w) w p len cap (mk tInts l k0)) (h0 : 0 ≤ k0) (h1 : k0 + l.length ≤ 1000000000000) :
    Calls Tryz.prog 59 #[.slice p len cap, .int .i64 k0] w (RetV (.int .i64 (k0 + (cnt tInts l : Int))) w) := by
  have HL := mk_ints_length l k0
  obtain rfl : len = l.length := by rw [h.lens]; exact HL
  go_enter Tryz.func59, Tryz.ntmps59
  go_wp2
  go_loopw [1, 5] (fun q i wr => ∃ k : Nat, k ≤ l.length ∧ i = .int .i64 k ∧ q = .int .i64 (k0 + k) ∧ Below w.heap.size w wr) (fun _ i _ => l.length - (intOf i).toNat)
  case atStart => exact ⟨0, by omega, rfl, by simp, Below.refl _ _⟩
  case round =>
    obtain ⟨k, hk, rfl, rfl, hb⟩ := hrel
    by_cases hlt : k < l.length
    · obtain ⟨b, off, rfl, hlb, hc, hw1, hw2⟩ := int_at h k (by rw [HL]; exact hlt)
      have c1 : wr.cell? ⟨b, off + k, none⟩ = some (.int .i64 (k0 + k)) := (hb.cell hlb).trans (by rw [hc, mk_ints l k0 k hlt])
      clear h hc HL hw1 hw2
      go_wp2
      go_roundw
      case rel => exact ⟨k + 1, by omega, by go_num, by go_num, hb⟩
      case measure => simp [intOf]; omega
    · clear h HL
      go_wp2
      go_ret
      obtain rfl : k = l.length := by omega
      exact ⟨ret_int (by rw [cnt_ints]), hb⟩
end Go.Proofs.YtllphmcjocidaaaGreatDoor

/- More on writing into rows of the call's own: a whole element at once. No program in sight. -/
namespace Go.Proofs.YtllphmcjocidaaaGreatDoor
open Go.ChangeShapes Go.WideShapes Go.ChangeAt Go.RowKit Go.Deep
set_option linter.unusedVariables false

section
variable {t : Ty} {e : TypeId} {w : World} {v : Value} {l : List t.D} {bl : List Nat}

/-- As rep_lens; all cells of an element are stored, in order. -/
theorem rep_lens_all (h : rep (.slice e t) w [v] l bl) (hnd : bl.Nodup) (k : Nat) (hk : k < l.length) :
    ∃ b cap c bk, v = .slice (some ⟨b, 0, none⟩) l.length cap ∧ b ∈ bl ∧ b < w.heap.size ∧ (∀ j, w.frozen? ⟨b, j, none⟩ = false) ∧ c.length = t.n ∧ (∀ j (hj : j < c.length), w.cell? ⟨b, k * t.n + j, none⟩ = some c[j]) ∧
      rep t w c l[k] bk ∧
      (∀ (c' : List Value) (x' : t.D), c'.length = t.n → rep t w c' x' bk → rep (.slice e t) (setCells w b (k * t.n) c') [v] (l.set k x') bl) := by
  obtain ⟨v0, xs, bl', hv, ho, hr, rfl⟩ := h
  obtain rfl : v = v0 := by simpa using hv
  obtain ⟨h1, ⟨rfl, hn⟩ | ⟨g, cap, cur, rfl, hg, hh, hc, hm, hcs, hx⟩⟩ := ho
  · omega
  · obtain ⟨xs1, c, xs2, b1, bk, b2, he, hl, hcl, rfl, hr1, hR, hr2⟩ := hr.split k hk
    have hnd' := hnd
    simp only [Value.ownBlock, Option.toList_some, List.singleton_append, List.nodup_cons, List.mem_append, not_or, List.nodup_append] at hnd'
    obtain ⟨⟨nb1, nbk, nb2⟩, n1, ⟨nk, n2, d2⟩, d1⟩ := hnd'
    refine ⟨g, cap, c, bk, rfl, by simp [Value.ownBlock], (Array.getElem?_eq_some_iff.1 hh).1, fun j => by simp [World.frozen?, hh], hcl, fun j hj => ?_, hR, ?_⟩
    · have h2 : xs[k * t.n + j]? = some c[j] := by
        rw [he, List.getElem?_append_right (by omega), List.getElem?_append_left (by omega), hl, Nat.add_sub_cancel_left, List.getElem?_eq_getElem hj]
      have h3 : cur[k * t.n + j]? = some c[j] := by
        rw [← hx, List.getElem?_take] at h2
        split at h2
        · simpa using h2
        · cases h2
      simp [World.cell?, hh, h3]
    · intro c' x' hc'l hx'
      have hle : k * t.n + t.n ≤ l.length * t.n := by
        have : (k + 1) * t.n ≤ l.length * t.n := Nat.mul_le_mul_right _ (by omega)
        rw [Nat.add_mul] at this; omega
      have hcc : l.length * t.n ≤ cap * t.n := Nat.mul_le_mul_right _ hc
      obtain ⟨cu, hcu, hcul⟩ := setCells_block c' w g (k * t.n) cur hh (by omega)
      have hsub : ∀ q, q ∈ b1 ∨ q ∈ bk ∨ q ∈ b2 → (setCells w g (k * t.n) c').heap[q]? = w.heap[q]? := fun q hq => by
        refine setCells_other _ _ _ _ _ (fun e => ?_)
        obtain rfl : q = g := e
        rcases hq with hq | hq | hq
        · exact nb1 hq
        · exact nbk hq
        · exact nb2 hq
      refine ⟨_, xs1 ++ (c' ++ xs2), b1 ++ (bk ++ b2), rfl, ⟨?_, .inr ⟨g, cap, cu, by simp, Nat.zero_le _, hcu, by simpa using hc, hm, ?_, ?_⟩⟩, ?_, rfl⟩
      · have := congrArg List.length he
        simp only [List.length_append, h1] at this
        simp only [List.length_append, List.length_set]; omega
      · have := congrArg List.length hcul
        simp only [Array.length_toList, List.length_append, List.length_take, List.length_drop] at this
        omega
      · rw [hcul, List.length_set]
        have e1 : xs1 = cur.toList.take (k * t.n) := by
          have := congrArg (List.take (k * t.n)) hx
          rw [he, List.take_left' hl, List.take_take, Nat.min_eq_left (by omega)] at this
          exact this.symm
        have e2 : xs2 = (cur.toList.drop (k * t.n + c'.length)).take (l.length * t.n - (k * t.n + c'.length)) := by
          have := congrArg (List.drop (k * t.n + c'.length)) hx
          rw [he, ← List.append_assoc, List.drop_left' (by simp [hl, hcl, hc'l]), List.drop_take] at this
          exact this.symm
        rw [← e1, List.take_append, hl, List.take_of_length_le (l := xs1) (by omega), List.take_append, List.take_of_length_le (l := c') (by omega), e2]
        congr 3
        omega
      · refine RepL.join hk hc'l (hr1.mono (fun c y bb hq hy => rep_keep _ _ _ _ (fun q hqb => hsub q (.inl (hq q hqb))) hy)) (rep_keep _ _ _ _ (fun q hqb => hsub q (.inr (.inl hqb))) hx') (hr2.mono (fun c y bb hq hy => rep_keep _ _ _ _ (fun q hqb => hsub q (.inr (.inr (hq q hqb)))) hy))
end

theorem rep_form {t : Ty} {e : TypeId} {w : World} {cs : List Value} {l : List t.D} {bl : List Nat} (h : rep (.slice e t) w cs l bl) : ∃ p n q, cs = [.slice p n q] := by
  obtain ⟨v, xs, bl', rfl, ho, _⟩ := h
  rcases ho.2 with ⟨rfl, _⟩ | ⟨g, cap, cur, rfl, _⟩
  · exact ⟨_, _, _, rfl⟩
  · exact ⟨_, _, _, rfl⟩

theorem Only.setCells {bl : List Nat} {w w' : World} : {vs : List Value} → {b off : Nat} → Only bl w w' → b ∈ bl → Only bl w (setCells w' b off vs)
  | [], b, off, h, hb => h
  | v :: vs, b, off, h, hb => Only.setCells (vs := vs) (h.setCell (p := ⟨b, off, none⟩) hb v) hb

theorem mk_length {t : Ty} {e : TypeId} (l : List t.D) (k0 : Int) : List.length (mk (.slice e t) l k0) = l.length := mkList_length _ _ _ _

theorem mk_get {t : Ty} {e : TypeId} (l : List t.D) (k0 : Int) (k : Nat) (hk : k < l.length) (h' : k < List.length (mk (.slice e t) l k0)) :
    (mk (.slice e t) l k0 : List t.D)[k] = mk t l[k] (k0 + (((l.take k).map (cnt t)).sum : Nat)) := mkList_get _ _ _ _ _ hk h'

theorem cnt_slice {t : Ty} {e : TypeId} (l : List t.D) : cnt (.slice e t) l = (l.map (cnt t)).sum := rfl

theorem rep_of_FrIn {t : Ty} {lo hi : Nat} {w : World} {cs : List Value} {d : t.D} (h : FrIn t lo hi w cs d) : ∃ bl, rep t w cs d bl ∧ bl.Nodup ∧ (∀ b ∈ bl, lo ≤ b ∧ b < hi) := by
  obtain ⟨bl, h1, h2, h3, _⟩ := h
  exact ⟨bl, h1, h2, h3⟩
theorem FrIn.only {t : Ty} {lo hi : Nat} {w w' : World} {cs : List Value} {d : t.D} {bl : List Nat} (h : FrIn t lo hi w cs d) (hw : Only bl w w') (hb : ∀ b ∈ bl, b < lo ∨ hi ≤ b) : FrIn t lo hi w' cs d :=
  h.keep (fun b h1 h2 => hw.block b (fun hm => by have := hb b hm; omega) (by have := h.hi_le; omega)) hw.size

theorem FrIn.of_rep {t : Ty} {lo hi : Nat} {w : World} {cs : List Value} {d : t.D} {bl : List Nat} (h : rep t w cs d bl) (hn : bl.Nodup) (hb : ∀ b ∈ bl, lo ≤ b ∧ b < hi) (hz : hi ≤ w.heap.size) : FrIn t lo hi w cs d :=
  ⟨bl, h, hn, hb, hz⟩
def Ty.scal : Ty → Nat
  | .slice _ _ => 0
  | .pair a b => a.scal + b.scal
  | _ => 1

def Ty.per : Ty → Nat
  | .slice _ t => max t.scal t.per
  | .pair a b => max a.per b.per
  | _ => 0

theorem cnt_le_gen : (t : Ty) → (d : t.D) → cnt t d ≤ t.scal + t.per * szT t d := by
  intro t
  induction t with
  | int k => intro d; exact Nat.le_add_right _ _
  | bool => intro d; exact Nat.le_add_right _ _
  | str => intro d; exact Nat.le_add_right _ _
  | slice e t ih =>
    intro l
    rw [cnt_slice, szT_slice]
    simp only [Ty.scal, Ty.per, Nat.zero_add]
    have h : ∀ m : List t.D, (m.map (cnt t)).sum ≤ max t.scal t.per * (m.length + (m.map (szT t)).sum) := by
      intro m
      induction m with
      | nil => simp
      | cons a m ihm =>
        rw [List.map_cons, List.sum_cons, List.map_cons, List.sum_cons, List.length_cons]
        have h1 := ih a
        have h2 : t.scal ≤ max t.scal t.per := Nat.le_max_left _ _
        have h3 : t.per * szT t a ≤ max t.scal t.per * szT t a := Nat.mul_le_mul_right _ (Nat.le_max_right _ _)
        have e1 : max t.scal t.per * (m.length + 1 + (szT t a + (m.map (szT t)).sum)) = max t.scal t.per + max t.scal t.per * szT t a + max t.scal t.per * (m.length + (m.map (szT t)).sum) := by
          rw [show m.length + 1 + (szT t a + (m.map (szT t)).sum) = 1 + szT t a + (m.length + (m.map (szT t)).sum) by omega, Nat.mul_add, Nat.mul_add, Nat.mul_one]
        omega
    exact h l
  | pair a b iha ihb =>
    intro x
    have h1 := iha x.1
    have h2 := ihb x.2
    have h3 : a.per * szT a x.1 ≤ max a.per b.per * szT a x.1 := Nat.mul_le_mul_right _ (Nat.le_max_left _ _)
    have h4 : b.per * szT b x.2 ≤ max a.per b.per * szT b x.2 := Nat.mul_le_mul_right _ (Nat.le_max_right _ _)
    show cnt a x.1 + cnt b x.2 ≤ a.scal + b.scal + max a.per b.per * (szT a x.1 + szT b x.2)
    rw [Nat.mul_add]
    omega

theorem cnt_le (e : TypeId) (t : Ty) (l : List t.D) (h : (Ty.slice e t).per ≤ 20) : cnt (.slice e t) l ≤ 20 * szT (.slice e t) l := by
  have h1 := cnt_le_gen (.slice e t) l
  have h2 : (Ty.slice e t).per * szT (.slice e t) l ≤ 20 * szT (.slice e t) l := Nat.mul_le_mul_right _ h
  have h3 : (Ty.slice e t).scal = 0 := rfl
  omega
theorem alloc_cell {w : World} {o : Obj} {a : Addr} (h : a.block < w.heap.size) : (w.alloc o).cell? a = w.cell? a :=
  World.cell?_of_block (Below.heap_alloc _ _ _ h)
/-- Of a struct by value only what its slices lead to is marked. -/
def cntt : (t : Ty) → t.D → Nat
  | .slice e t, l => cnt (.slice e t) l
  | .pair a b, x => cntt a x.1 + cntt b x.2
  | .int _, _ => 0
  | .bool, _ => 0
  | .str, _ => 0

def mkt : (t : Ty) → t.D → Int → t.D
  | .slice e t, l, k => mk (.slice e t) l k
  | .pair a b, x, k => (mkt a x.1 k, mkt b x.2 (k + (cntt a x.1 : Int)))
  | .int _, x, _ => x
  | .bool, x, _ => x
  | .str, x, _ => x

theorem cntt_le_gen : (t : Ty) → (d : t.D) → cntt t d ≤ t.per * szT t d := by
  intro t
  induction t with
  | int k => intro d; exact Nat.zero_le _
  | bool => intro d; exact Nat.zero_le _
  | str => intro d; exact Nat.zero_le _
  | slice e t ih =>
    intro l
    have h1 := cnt_le_gen (.slice e t) l
    have h3 : (Ty.slice e t).scal = 0 := rfl
    show cnt (.slice e t) l ≤ _
    omega
  | pair a b iha ihb =>
    intro x
    have h1 := iha x.1
    have h2 := ihb x.2
    have h3 : a.per * szT a x.1 ≤ max a.per b.per * szT a x.1 := Nat.mul_le_mul_right _ (Nat.le_max_left _ _)
    have h4 : b.per * szT b x.2 ≤ max a.per b.per * szT b x.2 := Nat.mul_le_mul_right _ (Nat.le_max_right _ _)
    show cntt a x.1 + cntt b x.2 ≤ max a.per b.per * (szT a x.1 + szT b x.2)
    rw [Nat.mul_add]
    omega

theorem cntt_le (t : Ty) (d : t.D) (h : t.per ≤ 20) : cntt t d ≤ 20 * szT t d :=
  Nat.le_trans (cntt_le_gen t d) (Nat.mul_le_mul_right _ h)

/-- Marks of a struct by value. -/
def RetMt (t : Ty) (w : World) (cs : List Value) (d : t.D) (bl : List Nat) (n : Int) (r : Ending) (w' : World) : Prop :=
  r = .returned (.int .i64 n) ∧ rep t w' cs d bl ∧ Only bl w w'

theorem nd_r {a b : List Nat} (h : (a ++ b).Nodup) : b.Nodup := (List.nodup_append.1 h).2.1
theorem nd_l {a b : List Nat} (h : (a ++ b).Nodup) : a.Nodup := (List.nodup_append.1 h).1
theorem nd_x {a b : List Nat} (h : (a ++ b).Nodup) {q : Nat} (h1 : q ∈ a) (h2 : q ∈ b) : False := (List.nodup_append.1 h).2.2 q h1 q h2 rfl

theorem Only.cell {bl : List Nat} {w w' : World} (h : Only bl w w') {a : Addr} (ha : a.block ∉ bl) (hz : a.block < w.heap.size) : w'.cell? a = w.cell? a :=
  World.cell?_of_block (h.block a.block ha hz)
theorem Only.frozen {bl : List Nat} {w w' : World} (h : Only bl w w') {a : Addr} (ha : a.block ∉ bl) (hz : a.block < w.heap.size) : w'.frozen? a = w.frozen? a :=
  World.frozen?_of_block (h.block a.block ha hz)
end Go.Proofs.YtllphmcjocidaaaGreatDoor

/- Writing into rows that are met once. No program in sight. -/
namespace Go.Proofs.YtllphmcjocidaaaGreatDoor
open Go.ChangeShapes Go.WideShapes Go.ChangeAt Go.RowKit Go.Deep
set_option linter.unusedVariables false
set_option linter.unusedSimpArgs false

theorem un_lt : (t : Ty) → (w : World) → (cs : List Value) → (d : t.D) → (bl : List Nat) → Un t w cs d bl → ∀ b ∈ bl, b < w.heap.size := by
  intro t
  induction t with
  | int k => intro w cs d bl h; simp [h.2.2]
  | bool => intro w cs d bl h; simp [h.2]
  | str => intro w cs d bl h; simp [h.2.2]
  | slice e t ih =>
    intro w cs d bl h
    rcases h with ⟨p, _, _, rfl⟩ | ⟨b, off, cap, cur, xs, bl', _, hv, hh, h1, _, h3, h4, hr, rfl⟩
    · simp
      
    · intro q hq
      rw [List.mem_cons] at hq
      rcases hq with rfl | hq
      · exact (Array.getElem?_eq_some_iff.1 hh).1
      · clear hh h1 h3 h4 hv
        induction d generalizing xs bl' with
        | nil => have h2 := hr.2; rw [h2] at hq; simp at hq
        | cons x l ihl =>
          obtain ⟨c, xs', b1, b2, hc, rfl, rfl, h1, hr⟩ := hr
          rw [List.mem_append] at hq
          rcases hq with hq | hq
          · exact ih w _ _ _ h1 q hq
          · exact ihl _ _ hr hq
  | pair a b iha ihb =>
    intro w cs d bl h
    obtain ⟨c1, c2, b1, b2, _, rfl, h1, h2⟩ := h
    intro q hq
    rw [List.mem_append] at hq
    rcases hq with hq | hq
    · exact iha w c1 d.1 b1 h1 q hq
    · exact ihb w c2 d.2 b2 h2 q hq

section
variable {t : Ty} {e : TypeId} {w : World} {v : Value} {l : List t.D} {bl : List Nat}

theorem un_lens (h : Un (.slice e t) w [v] l bl) (hnd : bl.Nodup) (k : Nat) (hk : k < l.length) :
    ∃ b cap c bk, v = .slice (some ⟨b, 0, none⟩) l.length cap ∧ b ∈ bl ∧ b < w.heap.size ∧ (∀ j, w.frozen? ⟨b, j, none⟩ = false) ∧ c.length = t.n ∧ (∀ j (hj : j < c.length), w.cell? ⟨b, k * t.n + j, none⟩ = some c[j]) ∧
      Un t w c l[k] bk ∧ (∀ q ∈ bk, q ∈ bl) ∧ bk.Nodup ∧ b ∉ bk ∧
      (∀ (w' : World) (x' : t.D), (∀ q, q ∉ bk → q < w.heap.size → w'.heap[q]? = w.heap[q]?) → Un t w' c x' bk → Un (.slice e t) w' [v] (l.set k x') bl) ∧
      (∀ (j : Nat) (u : Value) (x' : t.D), j < c.length → Un t w (c.set j u) x' bk → Un (.slice e t) (w.setCell ⟨b, k * t.n + j, none⟩ u) [v] (l.set k x') bl) := by
  have hlt := un_lt (.slice e t) w [v] l _ h
  rcases h with ⟨p, hv, hn, _⟩ | ⟨g, off, cap, cur, xs, bl', rfl, hv, hh, hc, hm, hcs, hx, hr, rfl⟩
  · rw [hn] at hk; simp at hk
  · simp only [List.cons.injEq, and_true] at hv
    subst hv
    rw [List.drop_zero] at hx
    obtain ⟨xs1, c, xs2, b1, bk, b2, he, hl, hcl, rfl, hr1, hR, hr2⟩ := hr.split k hk
    have hnd' := hnd
    simp only [List.nodup_cons, List.mem_append, not_or, List.nodup_append] at hnd'
    obtain ⟨⟨nb1, nbk, nb2⟩, n1, ⟨nk, n2, d2⟩, d1⟩ := hnd'
    refine ⟨g, cap, c, bk, rfl, by simp, (Array.getElem?_eq_some_iff.1 hh).1, fun j => by simp [World.frozen?, hh], hcl, fun j hj => ?_, hR, fun q hq => by simp [hq], nk, nbk, ?_, ?_⟩
    · have h2 : xs[k * t.n + j]? = some c[j] := by
        rw [he, List.getElem?_append_right (by omega), List.getElem?_append_left (by omega), hl, Nat.add_sub_cancel_left, List.getElem?_eq_getElem hj]
      have h3 : cur[k * t.n + j]? = some c[j] := by
        rw [hx, List.getElem?_take] at h2
        split at h2
        · simpa using h2
        · cases h2
      simp [World.cell?, hh, h3]
    · intro w' x' hw' hx'
      have hsub : ∀ q, q ∈ b1 ∨ q ∈ b2 → w'.heap[q]? = w.heap[q]? := fun q hq => by
        refine hw' q (fun hqb => ?_) ?_
        · rcases hq with hq | hq
          · exact d1 q hq q (.inl hqb) rfl
          · exact d2 q hqb q hq rfl
        · refine hlt q ?_
          rcases hq with hq | hq <;> simp [hq]
      refine .inr ⟨g, 0, cap, cur, xs1 ++ (c ++ xs2), b1 ++ (bk ++ b2), rfl, by rw [List.length_set], (hw' g nbk (hlt g (by simp))).trans hh, by simpa using hc, hm, by simpa using hcs, by rw [List.length_set, List.drop_zero, ← hx, he], ?_, rfl⟩
      refine RepL.join hk hcl (hr1.mono (fun c y bb hq hy => Un.keep _ _ _ _ (fun q hqb => hsub q (.inl (hq q hqb))) hy)) hx' (hr2.mono (fun c y bb hq hy => Un.keep _ _ _ _ (fun q hqb => hsub q (.inr (hq q hqb))) hy))
    · intro j u x' hj hx'
      have hsub : ∀ q, q ∈ b1 ∨ q ∈ bk ∨ q ∈ b2 → (w.setCell ⟨g, k * t.n + j, none⟩ u).heap[q]? = w.heap[q]? := fun q hq => by
        refine Below.heap_setCell _ _ _ _ (fun e => ?_)
        obtain rfl : q = g := e
        rcases hq with hq | hq | hq
        · exact nb1 hq
        · exact nbk hq
        · exact nb2 hq
      have hle : k * t.n + t.n ≤ l.length * t.n := by
        have : (k + 1) * t.n ≤ l.length * t.n := Nat.mul_le_mul_right _ (by omega)
        rw [Nat.add_mul] at this; omega
      refine .inr ⟨g, 0, cap, cur.setIfInBounds (k * t.n + j) u, xs1 ++ (c.set j u ++ xs2), b1 ++ (bk ++ b2), rfl, by rw [List.length_set], setCell_block u hh, by simpa using hc, hm, by simpa using hcs, ?_, ?_, rfl⟩
      · rw [List.length_set, List.drop_zero, Array.toList_setIfInBounds, List.take_set, ← hx, he]
        rw [List.set_append_right _ _ (by omega), List.set_append_left _ _ (by omega)]
        congr 3
        omega
      · refine RepL.join hk (by simpa using hcl) (hr1.mono (fun c y bb hq hy => Un.keep _ _ _ _ (fun q hqb => hsub q (.inl (hq q hqb))) hy)) (Un.keep _ _ _ _ (fun q hqb => hsub q (.inr (.inl hqb))) hx') (hr2.mono (fun c y bb hq hy => Un.keep _ _ _ _ (fun q hqb => hsub q (.inr (.inr (hq q hqb)))) hy))
end

theorem un_form {t : Ty} {e : TypeId} {w : World} {cs : List Value} {l : List t.D} {bl : List Nat} (h : Un (.slice e t) w cs l bl) : ∃ p n q, cs = [.slice p n q] := by
  rcases h with ⟨p, rfl, _⟩ | ⟨b, off, cap, cur, xs, bl', _, rfl, _⟩
  · exact ⟨_, _, _, rfl⟩
  · exact ⟨_, _, _, rfl⟩

theorem un_len {t : Ty} {e : TypeId} {w : World} {p : Option Addr} {len cap : Nat} {l : List t.D} {bl : List Nat} (h : Un (.slice e t) w [.slice p len cap] l bl) : len = l.length ∧ len ≤ maxLen := by
  rcases h with ⟨p, hv, rfl, _⟩ | ⟨b, off, cap, cur, xs, bl', _, hv, _, hc, hm, _⟩
  · simp only [List.cons.injEq, Value.slice.injEq, and_true] at hv
    exact ⟨hv.2.1, by rw [hv.2.1]; exact Nat.zero_le _⟩
  · simp only [List.cons.injEq, Value.slice.injEq, and_true] at hv
    exact ⟨hv.2.1, by rw [hv.2.1]; exact Nat.le_trans hc hm⟩
def RetUk (t : Ty) (w : World) (cs : List Value) (d : t.D) (bl : List Nat) (n : Int) (r : Ending) (w' : World) : Prop :=
  r = .returned (.int .i64 n) ∧ Un t w' cs d bl ∧ Only bl w w'
def RetUt (t : Ty) (w : World) (cs : List Value) (d : t.D) (bl : List Nat) (n : Int) (r : Ending) (w' : World) : Prop :=
  r = .returned (.int .i64 n) ∧ Un t w' cs d bl ∧ Only bl w w'
end Go.Proofs.YtllphmcjocidaaaGreatDoor

/- Marks over rows that are met once: Ints. -/
namespace Go.Proofs.YtllphmcjocidaaaGreatDoor
open Go.ChangeShapes Go.WideShapes Go.ChangeAt Go.RowKit
set_option linter.unusedVariables false
set_option linter.unusedSimpArgs false

theorem markIntS_un (p : Option Addr) (len cap : Nat) (k0 : Int) (l : List Int) (bl : List Nat) (w : World) (h : Un tInts w [.slice p len cap] l bl) (hnd : bl.Nodup) (h0 : 0 ≤ k0) (h1 : k0 + l.length ≤ 1000000000000) :
    Calls Tryz.prog 58 #[.slice p len cap, .int .i64 k0] w (RetUk tInts w [.slice p len cap] (mk tInts l k0) bl (k0 + (cnt tInts l : Int))) := by
  obtain ⟨rfl, hmx⟩ := un_len h
  have HL := Lib.hid (mk_ints_length l k0)
  unfold maxLen at hmx
  go_enter Tryz.func58, Tryz.ntmps58
  go_wp2
  go_loopw [1, 5] (fun q i wr => ∃ k : Nat, k ≤ l.length ∧ i = .int .i64 k ∧ q = .int .i64 (k0 + k) ∧ Only bl w wr ∧ Un tInts wr [.slice p l.length cap] ((mk tInts l k0 : List Int).take k ++ l.drop k) bl) (fun _ i _ => l.length - (intOf i).toNat)
  case atStart => exact ⟨0, by omega, rfl, by simp, Only.refl _ _, by simpa using h⟩
  case round =>
    obtain ⟨k, hk, rfl, rfl, hb, hf⟩ := hrel
    clear h
    by_cases hlt : k < l.length
    · have hkk : k < ((mk tInts l k0 : List Int).take k ++ l.drop k).length := by simp only [List.length_append, List.length_take, List.length_drop, HL.out]; omega
      obtain ⟨b, cap', c, bk, hv, hbm, -, hfz, hcl, hc, hR, -, -, -, -, hU⟩ := un_lens hf hnd k hkk
      simp only [Value.slice.injEq] at hv
      obtain ⟨rfl, -, -⟩ := hv
      obtain ⟨rfl, _, rfl⟩ := hR
      have c1 : wr.cell? ⟨b, k, none⟩ = some (.int .i64 l[k]) := by
        have := hc 0 (by simp)
        simp only [Ty.n, Nat.mul_one, Nat.add_zero, List.getElem_cons_zero] at this
        rw [this, get_mix _ _ _ hlt HL.out]
      have c2 := hfz k
      have HU := Lib.hid (hU 0 (.int .i64 (k0 + k)) (k0 + k) (by simp) ⟨rfl, wf_i64 (by omega), rfl⟩)
      have HM := Lib.hid (mk_ints l k0 k hlt)
      clear hU hc hfz hf
      go_wp2
      go_roundw
      case rel =>
        refine ⟨k + 1, by omega, by go_num, by go_num, hb.setCell hbm _, ?_⟩
        have h2 := HU.out
        rw [set_mix _ _ _ hlt HL.out _ HM.out] at h2
        simpa [Ty.n] using h2
      case measure => simp [intOf]; omega
    · go_wp2
      go_ret
      obtain rfl : k = l.length := by omega
      refine ⟨ret_int (by rw [cnt_ints]), ?_, hb⟩
      have e1 : (mk tInts l k0 : List Int).take l.length ++ l.drop l.length = mk tInts l k0 := by
        rw [List.drop_length, List.append_nil, List.take_of_length_le (by rw [HL.out]; exact Nat.le_refl _)]
      rw [e1] at hf
      exact hf
end Go.Proofs.YtllphmcjocidaaaGreatDoor

/- Appending to a slice of the call's own, as a law for the walk. No program in sight. -/
namespace Go.Proofs.YtllphmcjocidaaaGreatDoor
open Go.ChangeShapes Go.WideShapes Go.ChangeAt Go.RowKit Go.Deep
set_option linter.unusedVariables false

theorem rep_one (t : Ty) (w : World) (cs : List Value) (d : t.D) (bl : List Nat) (h : rep t w cs d bl) : ∀ u ∈ cs, u.oneCell' = true := by
  induction t generalizing cs bl with
  | int k => obtain ⟨rfl, _⟩ := h; intro u hu; simp at hu; subst hu; rfl
  | bool => obtain ⟨rfl, _⟩ := h; intro u hu; simp at hu; subst hu; rfl
  | str => obtain ⟨rfl, _⟩ := h; intro u hu; simp at hu; subst hu; rfl
  | slice e t ih =>
    obtain ⟨v, xs, bl', rfl, ho, _⟩ := h
    intro u hu
    simp at hu
    subst hu
    rcases ho.2 with ⟨rfl, _⟩ | ⟨g, cap, cur, rfl, _⟩ <;> rfl
  | pair a b iha ihb =>
    obtain ⟨c1, c2, b1, b2, rfl, rfl, h1, h2⟩ := h
    intro u hu
    rw [List.mem_append] at hu
    rcases hu with hu | hu
    · exact iha _ _ _ h1 u hu
    · exact ihb _ _ _ h2 u hu

theorem FrIn.own {e : TypeId} {t : Ty} {lo mid : Nat} {w : World} {v : Value} {l : List t.D} (h : FrIn (.slice e t) lo mid w [v] l) : ∀ g, v.ownBlock = some g → lo ≤ g ∧ g < mid := by
  obtain ⟨bl, ⟨v0, xs, bl', hv, _, _, rfl⟩, _, hin, _⟩ := h
  obtain rfl : v = v0 := by simpa using hv
  exact fun g hg => hin g (by simp [hg])

theorem FrIn.slen {e : TypeId} {t : Ty} {lo mid : Nat} {w : World} {p : Option Addr} {len cap : Nat} {l : List t.D} (h : FrIn (.slice e t) lo mid w [.slice p len cap] l) : len = l.length := (fr_sl h).lens

theorem FrIn.empty {w : World} {t : Ty} {e : TypeId} {b : Nat} (hb : b = w.heap.size) : FrIn (.slice e t) w.heap.size (w.alloc (.cells #[] e)).heap.size (w.alloc (.cells #[] e)) [.slice (some ⟨b, 0, none⟩) 0 0] ([] : List t.D) := by
  subst hb
  refine ⟨[w.heap.size], ⟨_, [], [], rfl, ⟨by simp, .inr ⟨w.heap.size, 0, #[], by simp, Nat.zero_le _, Go.heap_alloc_new w _, Nat.le_refl _, Nat.zero_le _, by simp, by simp⟩⟩, ⟨rfl, rfl⟩, rfl⟩, by simp, (fun b hb => by simp at hb; simp; omega), Nat.le_refl _⟩

theorem new_cells {w0 : World} {c : Array Value} {e' : TypeId} {b : Nat} (hb : b = w0.heap.size) (j : Nat) (u : Value) (h : c.toList[j]? = some u) :
    (w0.alloc (.cells c e')).cell? ((⟨b, 0, none⟩ : Addr).add j) = some u := by
  subst hb
  have hadd : ((⟨w0.heap.size, 0, none⟩ : Addr).add j) = ⟨w0.heap.size, j, none⟩ := by
    simp only [Addr.add]; split <;> simp_all
  rw [hadd]
  simp only [World.cell?, Go.heap_alloc_new w0]
  simpa using h

section
variable {P : Program}
theorem wpList_app {ops : Array Oper} {rest : List Oper} {o : Oper} {a : Act} {Q : Exit → Act → World → Prop} {w0 : World} (hgd : o.guard = none) (s y : Operand) (T : TypeId)
    (hop : o.op = .call { callee := .builtin .append, args := #[s, y], argTypes := #[T, T] })
    (e : TypeId) (z : Value) (t : Ty) (bytes : Nat) (ht : P.underlying T = some (.slice e)) (hinfo : (P.info? e).map (fun i => (i.zero, i.size, i.bytes)) = some (some z, t.n, bytes)) (hzs : z.cells.size = t.n)
    (v : Value) (hv : a.eval s = v) (l : List t.D) (lo mid hi' : Nat) (c : Array Value) (e' : TypeId) (b cp : Nat) (hy : a.eval y = .slice (some ⟨b, 0, none⟩) 1 cp) (x : t.D)
    (hs : FrIn (.slice e t) lo mid w0 [v] l) (hlm : lo ≤ mid) (hb : b = w0.heap.size) (hx : FrIn t mid hi' w0 c.toList x)
    (hbytes : (l.length + 1) * bytes ≤ 140737488355328) (h63 : l.length + 1 ≤ maxLen)
    (h : ∀ p cap w', FrIn (.slice e t) lo w'.heap.size w' [.slice p (l.length + 1) cap] (l ++ [x]) → Below lo w0 w' → (∀ q, mid ≤ q → q < w0.heap.size → w'.heap[q]? = w0.heap[q]?) → w0.heap.size < w'.heap.size →
      wpList P ops Q rest (a.put o.dst (.slice p (l.length + 1) cap)) w') : wpList P ops Q (o :: rest) a (w0.alloc (.cells c e')) := by
  obtain ⟨i, hi, hzz⟩ := Option.map_eq_some_iff.1 hinfo
  simp only [Prod.mk.injEq] at hzz
  obtain ⟨h0, hsz, hby⟩ := hzz
  have hone : ∀ u ∈ c.toList, u.oneCell' = true := by
    obtain ⟨bl, hr, _⟩ := hx
    exact rep_one _ _ _ _ _ hr
  have hmz : mid ≤ w0.heap.size := hs.hi_le
  refine wpList_append_fr _ hgd s y T hop e i z t bytes ht hi h0 hsz hby hzs v hv l lo mid hi' (hs.alloc _) hlm ⟨b, 0, none⟩ cp c.toList hy x (hx.alloc _) (fun j u hj => new_cells hb j u hj) hone hbytes h63 ?_
  intro p cap w' hf hg
  have hown := hs.own
  refine h p cap w' hf ?_ ?_ ?_
  · exact ((Below.refl lo w0).alloc (by omega) _).grown hg (by simp; omega) (fun k hk => (hown k hk).1)
  · intro q h1 h2
    rw [hg.block q (by simp; omega) (fun he => by have := hown q he.symm; omega)]
    exact Below.heap_alloc _ _ _ h2
  · have := hg.size
    simp at this; omega
end
end Go.Proofs.YtllphmcjocidaaaGreatDoor

/- Appending all of a slice of plain elements to a slice of the call's own. No program in sight. -/
namespace Go.Proofs.YtllphmcjocidaaaGreatDoor
open Go.ChangeShapes Go.WideShapes Go.ChangeAt Go.RowKit Go.Deep
set_option linter.unusedVariables false
set_option linter.unusedSimpArgs false

theorem RepL.one_cells {t : Ty} {w : World} : {l : List t.D} → {xs : List Value} → {bl : List Nat} → RepL t.n (rep t w) xs l bl → ∀ u ∈ xs, u.oneCell' = true
  | [], xs, bl, h => by simp [h.1]
  | x :: l, xs, bl, h => by
    obtain ⟨c, xs', b1, b2, _, rfl, rfl, h1, h2⟩ := h
    intro u hu
    rw [List.mem_append] at hu
    rcases hu with hu | hu
    · exact rep_one _ _ _ _ _ h1 u hu
    · exact h2.one_cells u hu

section
variable {P : Program} (w : World)

theorem run_append_frN (T ty e : TypeId) (i : TypeInfo) (z : Value) (t : Ty) (bytes : Nat) (ht : P.underlying T = some (.slice e)) (hi : P.info? e = some i) (hz : i.zero = some z)
    (hsize : i.size = t.n) (hby : i.bytes = bytes) (hzs : z.cells.size = t.n)
    (v : Value) (l : List t.D) (lo mid : Nat) (hs : FrIn (.slice e t) lo mid w [v] l) (hlm : lo ≤ mid)
    (p : Option Addr) (m c : Nat) (news : List Value) (l2 : List t.D) (hm : l2.length = m) (hsrc : (p = none ∧ m = 0 ∧ c = 0) ∨ ∃ a, p = some a ∧ ∀ j u, news[j]? = some u → w.cell? (a.add j) = some u)
    (hrep : RepL t.n (rep t w) news l2 [])
    (hbytes : (l.length + m) * bytes ≤ 140737488355328) (h63 : l.length + m ≤ maxLen) :
    ∃ v' w', (Builtin.append_ #[T, T] ty #[v, .slice p m c]).run P w = .ok v' w' ∧ FrIn (.slice e t) lo w'.heap.size w' [v'] (l ++ l2) ∧ w.grownBy w' v.ownBlock ∧
      (∃ p' cap, v' = .slice p' (l.length + m) cap) := by
  subst hby
  have hone := hrep.one_cells
  have hnl : news.length = m * t.n := by rw [hrep.len, hm]
  have hmz := hs.hi_le
  by_cases hm0 : m = 0
  · subst hm0
    obtain rfl : l2 = [] := List.eq_nil_of_length_eq_zero hm
    obtain rfl : news = [] := List.eq_nil_of_length_eq_zero (by simpa using hnl)
    have hkeep : FrIn (.slice e t) lo w.heap.size w [v] l := hs.mono (Nat.le_refl _) hmz (Nat.le_refl _)
    have hself : w.grownBy w v.ownBlock := ⟨rfl, rfl, rfl, Nat.le_refl _, fun _ _ _ => rfl⟩
    obtain ⟨bl, ⟨v0, xs, bl', hv0, ho, hr, rfl⟩, hnd, hin, _⟩ := hs
    obtain rfl : v0 = v := by simpa using hv0.symm
    rcases ho.2 with ⟨rfl, hn0⟩ | ⟨g, cap, cur, rfl, hbg, hg, hnc, hcm, hcs, htake⟩
    · refine ⟨.slice none 0 0, w, ?_, by simpa using hkeep, hself, ⟨none, 0, by rw [hn0]⟩⟩
      rcases hsrc with ⟨rfl, -, rfl⟩ | ⟨a, rfl, -⟩
      · simp [Builtin.append_, run_underlying ht, sizeOf, typeInfo, hi, Builtin.lenOf, Builtin.firstCells, loadCells, loadCellsFrom]
      · simp [Builtin.append_, run_underlying ht, sizeOf, typeInfo, hi, Builtin.lenOf, Builtin.firstCells, loadCells, loadCellsFrom]
    · refine ⟨.slice (some ⟨g, 0, none⟩) l.length cap, w, ?_, by simpa using hkeep, hself, ⟨_, _, rfl⟩⟩
      rcases hsrc with ⟨rfl, -, rfl⟩ | ⟨a, rfl, -⟩
      · simp [Builtin.append_, run_underlying ht, sizeOf, typeInfo, hi, Builtin.lenOf, Builtin.firstCells, loadCells, loadCellsFrom, hnc]
        try rfl
      · simp [Builtin.append_, run_underlying ht, sizeOf, typeInfo, hi, Builtin.lenOf, Builtin.firstCells, loadCells, loadCellsFrom, hnc]
        try rfl
  · obtain ⟨a, rfl, hnews⟩ : ∃ a, p = some a ∧ ∀ j u, news[j]? = some u → w.cell? (a.add j) = some u := by
      rcases hsrc with ⟨_, h, _⟩ | h
      · exact absurd h hm0
      · exact h
    obtain ⟨bl, ⟨v0, xs, bl', hv0, ho, hr, rfl⟩, hnd, hin, _⟩ := hs
    obtain rfl : v0 = v := by simpa using hv0.symm
    have hxl : xs.length = l.length * t.n := ho.1
    have build : ∀ (w' : World) (g cap : Nat) (cur : Array Value), w'.heap[g]? = some (.cells cur e (0, 0)) → l.length + m ≤ cap → cap ≤ maxLen → cur.size = cap * t.n →
        cur.toList.take ((l.length + m) * t.n) = xs ++ news → (∀ b, b < w.heap.size → some b ≠ v0.ownBlock → w'.heap[b]? = w.heap[b]?) → w.heap.size ≤ w'.heap.size → g < w'.heap.size →
        (v0.ownBlock = some g ∨ w.heap.size ≤ g) → FrIn (.slice e t) lo w'.heap.size w' [.slice (some ⟨g, 0, none⟩) (l.length + m) cap] (l ++ l2) := by
      intro w' g cap cur hg hcap hcm hcs htake hother hsz hgl hgb
      have hlt' : ∀ b ∈ bl', b < w.heap.size := fun b hb => by have := hin b (by simp [hb]); omega
      have hne' : ∀ b ∈ bl', some b ≠ v0.ownBlock := fun b hb he => by
        rw [List.nodup_append] at hnd
        exact hnd.2.2 b (by simp [← he]) b hb rfl
      refine ⟨g :: bl', ⟨_, xs ++ news, bl', rfl, ⟨by simp [hxl, hnl, hm, Nat.add_mul], .inr ⟨g, cap, cur, by simp [hm], Nat.zero_le _, hg, by simpa [hm] using hcap, hcm, hcs, by simpa [hm] using htake⟩⟩, ?_, rfl⟩, ?_, ?_, Nat.le_refl _⟩
      · have h1 := (hr.mono (fun c y b hb hy => rep_keep _ _ _ _ (fun k hk => hother k (hlt' k (hb k hk)) (hne' k (hb k hk))) hy)).append (hrep.mono (R' := rep t w') (fun c y b hb hy => rep_keep _ _ _ _ (fun k hk => by have := hb k hk; simp at this) hy))
        simpa using h1
      · rw [List.nodup_cons]
        rw [List.nodup_append] at hnd
        refine ⟨fun hmem => ?_, hnd.2.1⟩
        rcases hgb with hgb | hgb
        · exact hne' g hmem hgb.symm
        · have := hlt' g hmem; omega
      · intro b hb
        rw [List.mem_cons] at hb
        rcases hb with rfl | hb
        · rcases hgb with hgb | hgb
          · have := hin b (by simp [hgb]); omega
          · omega
        · have := hin b (by simp [hb]); have := hlt' b hb; omega
    have hsmall : l.length + m ≤ 9223372036854775807 := by simp only [maxLen] at h63; omega
    have hnl' : news.length = m * i.size := by rw [hnl, hsize]
    have hpos := Ty.n_pos t
    rcases ho.2 with ⟨rfl, hn0⟩ | ⟨g, cap, cur, rfl, hbg, hg, hnc, hcm, hcs, htake⟩
    · obtain rfl : l = [] := List.eq_nil_of_length_eq_zero hn0
      have hx0 : xs = [] := List.eq_nil_of_length_eq_zero (by simpa using hxl)
      simp only [List.length_nil, Nat.zero_add] at hbytes h63 hsmall build
      have hr := run_append_nil (P := P) w T ty e i z ht hi hz a m c news hnl' hnews (by omega) (by omega) (by omega)
      refine ⟨_, _, hr, ?_, ⟨rfl, rfl, rfl, by simp, fun k hk _ => heap_alloc_old w.drew _ hk⟩, ⟨_, _, by simp only [List.length_nil, Nat.zero_add]; rfl⟩⟩
      refine build _ w.heap.size _ _ (heap_alloc_new w.drew _) (grownCap_ge w m 0 e) (grownCap_le_maxLen w m 0 e h63) ?_ ?_ (fun b hb _ => heap_alloc_old w.drew _ hb) (by simp) (by simp) (.inr (Nat.le_refl _))
      · have := grownCap_ge w m 0 e
        simp only [Array.size_append, List.size_toArray, size_zeroCells, hzs, hnl', hsize, ← Nat.add_mul]
        congr 1
        omega
      · simp only [hx0, Array.toList_append, List.nil_append]
        exact List.take_left' (by simp [hnl])
    · by_cases hroom : l.length + m ≤ cap
      · have hfit : l.length * i.size + news.length ≤ cur.size := by rw [hnl', hcs, ← Nat.add_mul, hsize]; exact Nat.mul_le_mul_right _ hroom
        have hr := run_append_room (P := P) w T ty e i ht hi g l.length cap cur hg a m c news hnl' hnews hone hroom hfit
        refine ⟨_, _, hr, ?_, ⟨rfl, rfl, rfl, by simp, fun k _ hk => setRow_other w g k _ (fun e => hk (by simp [Value.ownBlock, e]))⟩, ⟨_, _, rfl⟩⟩
        refine build _ g cap _ (setRow_heap w g cur _ e _ hg) hroom hcm ?_ ?_ (fun b hb hk => setRow_other w g b _ (fun e => hk (by simp [Value.ownBlock, e]))) (by simp) (by have := (Array.getElem?_eq_some_iff.1 hg).1; simpa using this) (.inl rfl)
        · simp only [List.size_toArray, List.length_append, List.length_take, List.length_drop, Array.length_toList]
          omega
        · rw [hsize, htake]
          exact List.take_left' (by simp [hxl, hnl, Nat.add_mul])
      · have holds : ∀ j u, xs[j]? = some u → w.cell? ((⟨g, 0, none⟩ : Addr).add j) = some u := ho.cells (g := g) rfl
        have hr := run_append_grow (P := P) w T ty e i z ht hi hz ⟨g, 0, none⟩ l.length cap xs (by rw [hxl, hsize]) holds a m c news hnl' hnews (by omega) (by omega) (growslice_fits (by omega) hbytes)
        refine ⟨_, _, hr, ?_, ⟨rfl, rfl, rfl, by simp, fun k hk _ => heap_alloc_old w.drew _ hk⟩, ⟨_, _, rfl⟩⟩
        refine build _ w.heap.size _ _ (heap_alloc_new w.drew _) (grownCap_ge w _ cap e) (grownCap_le_maxLen w _ cap e h63) ?_ ?_ (fun b hb _ => heap_alloc_old w.drew _ hb) (by simp) (by simp) (.inr (Nat.le_refl _))
        · have := grownCap_ge w (l.length + m) cap e
          simp only [Array.size_append, List.size_toArray, size_zeroCells, hzs, hxl, hnl]
          rw [show l.length * t.n + m * t.n = (l.length + m) * t.n by rw [Nat.add_mul], ← Nat.add_mul]
          congr 1
          omega
        · simp only [Array.toList_append]
          exact List.take_left' (by simp [hxl, hnl, Nat.add_mul])
end

/-- A row of numbers that came in, as what an append reads. -/
theorem RepL_ints (w : World) : (l : List Int) → (∀ x ∈ l, (Lit.int .i64 x).wf = true) → RepL tInt.n (rep tInt w) (l.map (fun x => Value.int .i64 x)) l []
  | [], _ => ⟨rfl, rfl⟩
  | x :: l, h => ⟨[.int .i64 x], l.map (fun x => Value.int .i64 x), [], [], rfl, rfl, rfl, ⟨rfl, h x (by simp), rfl⟩, RepL_ints w l (fun y hy => h y (by simp [hy]))⟩

theorem ints_src {w : World} {p : Option Addr} {n c : Nat} {l : List Int} (h : SlRd 1 (rd tInt w) w p n c l) :
    ((p = none ∧ n = 0 ∧ c = 0) ∨ ∃ a, p = some a ∧ ∀ j u, (l.map (fun x => Value.int .i64 x))[j]? = some u → w.cell? (a.add j) = some u) ∧ (∀ x ∈ l, (Lit.int .i64 x).wf = true) := by
  refine ⟨?_, fun x hx => ?_⟩
  · cases p with
    | none =>
      have h0 := h.2.2.2.1 rfl
      have := h.2.1
      exact .inl ⟨rfl, by omega, h0⟩
    | some a =>
      refine .inr ⟨a, rfl, fun j u hj => ?_⟩
      have hjl : j < l.length := by have := (List.getElem?_eq_some_iff.1 hj).1; simpa using this
      obtain ⟨b, off, hp, _, hc, _, _⟩ := int_at h j hjl
      obtain rfl : a = ⟨b, off, none⟩ := by simpa using hp
      have hadd : ((⟨b, off, none⟩ : Addr).add j) = ⟨b, off + j, none⟩ := by
        simp only [Addr.add]; split <;> simp_all
      rw [hadd, hc]
      simpa [hjl] using hj
  · obtain ⟨k, hk, rfl⟩ := List.getElem_of_mem hx
    obtain ⟨b, off, hp, _, hc, h1, h2⟩ := int_at h k hk
    exact wf_i64 ⟨h1, h2⟩

section
variable {P : Program}

/-- 'append([]int{}, l...)': a row of numbers once more. The world is given with the empty row just made. -/
theorem run_copyInts (w0 : World) (T ty e : TypeId) (z : Value) (ht : P.underlying T = some (.slice e)) (hinfo : (P.info? e).map (fun i => (i.zero, i.size, i.bytes)) = some (some z, 1, 8)) (hzs : z.cells.size = 1)
    (b : Nat) (hb : b = w0.heap.size) (p : Option Addr) (n c : Nat) (l : List Int) (w1 : World) (hw1 : w1 = w0.alloc (.cells #[] e)) (h : SlRd 1 (rd tInt w1) w1 p n c l) (hl : l.length ≤ 17592186044416) :
    ∃ p' cap w', (Builtin.append_ #[T, T] ty #[.slice (some ⟨b, 0, none⟩) 0 0, .slice p n c]).run P w1 = .ok (.slice p' l.length cap) w' ∧
      FrIn (.slice e tInt) w0.heap.size w'.heap.size w' [.slice p' l.length cap] l ∧ Below w0.heap.size w0 w' := by
  subst hw1
  obtain ⟨i, hi, hzz⟩ := Option.map_eq_some_iff.1 hinfo
  simp only [Prod.mk.injEq] at hzz
  obtain ⟨h0, hsz, hby⟩ := hzz
  have hn := h.lens
  obtain ⟨hsrc, hwf⟩ := ints_src h
  obtain ⟨v', w', hr, hf, hg, p', cap, rfl⟩ := run_append_frN (P := P) (w0.alloc (.cells #[] e)) T ty e i z tInt 8 ht hi h0 hsz hby hzs (.slice (some ⟨b, 0, none⟩) 0 0) [] w0.heap.size _ (FrIn.empty (t := tInt) (e := e) hb) (by simp) p n c _ l hn.symm hsrc (RepL_ints _ l hwf) (by simp; omega) (by simp [maxLen]; omega)
  simp only [List.length_nil, Nat.zero_add, hn] at hr hf
  refine ⟨p', cap, w', by rw [hn]; exact hr, by simpa using hf, ?_⟩
  refine ((Below.refl _ _).alloc (Nat.le_refl _) _).grown hg (by simp) (fun k hk => ?_)
  simp [Value.ownBlock] at hk
  omega
end
end Go.Proofs.YtllphmcjocidaaaGreatDoor

/- Small words for walks: what a call handed back stays as it was. No program in sight. -/
namespace Go.Proofs.YtllphmcjocidaaaGreatDoor
open Go.ChangeShapes Go.WideShapes Go.ChangeAt Go.RowKit Go.Deep
set_option linter.unusedVariables false

/-- The blocks from lo to hi are in w' as they were in w. -/
def Kp (lo hi : Nat) (w w' : World) : Prop := (∀ b, lo ≤ b → b < hi → w'.heap[b]? = w.heap[b]?) ∧ w.heap.size ≤ w'.heap.size
theorem Kp.refl (lo hi : Nat) (w : World) : Kp lo hi w w := ⟨fun _ _ _ => rfl, Nat.le_refl _⟩
theorem Kp.trans {lo hi : Nat} {a b c : World} (h : Kp lo hi a b) (k : Kp lo hi b c) : Kp lo hi a c := ⟨fun q h1 h2 => (k.1 q h1 h2).trans (h.1 q h1 h2), Nat.le_trans h.2 k.2⟩
theorem Kp.drew {lo hi : Nat} {a w : World} (h : Kp lo hi a w) : Kp lo hi a w.drew := h
theorem Kp.alloc {lo hi : Nat} {a w : World} (h : Kp lo hi a w) (hs : hi ≤ w.heap.size) (o : Obj) : Kp lo hi a (w.alloc o) :=
  h.trans ⟨fun b h1 h2 => Below.heap_alloc _ _ _ (by omega), by simp⟩
theorem Kp.setCell {lo hi : Nat} {a w : World} (h : Kp lo hi a w) {p : Addr} (hp : p.block < lo ∨ hi ≤ p.block) (v : Value) : Kp lo hi a (w.setCell p v) :=
  h.trans ⟨fun b h1 h2 => Below.heap_setCell _ _ _ _ (by omega), by simp [World.setCell]⟩
theorem Kp.below {lo hi B : Nat} {a w w' : World} (h : Kp lo hi a w) (hb : Below B w w') (hB : hi ≤ B) : Kp lo hi a w' :=
  h.trans ⟨fun b h1 h2 => hb.block b (by omega), hb.size⟩
theorem Kp.ofb {lo hi B : Nat} {w w' : World} (hb : Below B w w') (hB : hi ≤ B) : Kp lo hi w w' := (Kp.refl lo hi w).below hb hB
theorem Kp.only {lo hi : Nat} {bl : List Nat} {a w w' : World} (h : Kp lo hi a w) (hb : Only bl w w') (hB : ∀ b ∈ bl, b < lo ∨ hi ≤ b) (hs : hi ≤ w.heap.size) : Kp lo hi a w' :=
  h.trans ⟨fun b h1 h2 => hb.block b (fun hm => by have := hB b hm; omega) (by omega), hb.size⟩
theorem FrIn.kp {t : Ty} {lo hi : Nat} {w w' : World} {cs : List Value} {d : t.D} (h : FrIn t lo hi w cs d) (k : Kp lo hi w w') : FrIn t lo hi w' cs d := h.keep k.1 k.2

theorem ocell {bl : List Nat} {w w' : World} (h : Only bl w w') : (∀ b o, b ∉ bl → b < w.heap.size → w'.cell? ⟨b, o, none⟩ = w.cell? ⟨b, o, none⟩) ∧ (∀ b o, b ∉ bl → b < w.heap.size → w'.frozen? ⟨b, o, none⟩ = w.frozen? ⟨b, o, none⟩) :=
  ⟨fun b o hb hz => h.cell (a := ⟨b, o, none⟩) hb hz, fun b o hb hz => h.frozen (a := ⟨b, o, none⟩) hb hz⟩
theorem Only.bel {bl : List Nat} {B : Nat} {w w' w'' : World} (h : Only bl w w') (k : Below B w' w'') (hB : w.heap.size ≤ B) : Only bl w w'' :=
  ⟨k.os.trans h.os, k.tape.trans h.tape, k.output.trans h.output, Nat.le_trans h.size k.size, fun q hq hz => (k.block q (by omega)).trans (h.block q hq hz)⟩
theorem frozen_alloc {w : World} {o : Obj} {a : Addr} (h : a.block < w.heap.size) : (w.alloc o).frozen? a = w.frozen? a := World.frozen?_of_block (Below.heap_alloc _ _ _ h)
theorem below_yy {B : Nat} {w w' : World} (h : Below B w w') (k : Nat) (hk : k ≤ w.heap.size) : k ≤ w'.heap.size := Nat.le_trans hk h.size
theorem szT_sublist {e : TypeId} {t : Ty} {l1 l2 : List t.D} (h : l1.Sublist l2) : szT (.slice e t) l1 ≤ szT (.slice e t) l2 := by
  rw [szT_slice, szT_slice]
  induction h with
  | slnil => simp
  | cons a _ ih => simp only [List.map_cons, List.sum_cons, List.length_cons]; omega
  | cons_cons a _ ih => simp only [List.map_cons, List.sum_cons, List.length_cons]; omega

theorem sum_map_le {α : Type} (f : α → Nat) (S : Nat) : (l : List α) → (∀ x ∈ l, f x ≤ S) → (l.map f).sum ≤ l.length * S
  | [], _ => by simp
  | a :: l, h => by
    have h1 := h a (by simp)
    have h2 := sum_map_le f S l (fun x hx => h x (by simp [hx]))
    simp only [List.map_cons, List.sum_cons, List.length_cons, Nat.add_mul]; omega

theorem szT_get {e : TypeId} {t : Ty} (l : List t.D) (k : Nat) (h : k < l.length) : szT t l[k] ≤ szT (.slice e t) l := by
  have := sum_get_le (szT t) l k h
  rw [szT_slice]; omega

theorem kpx {p : Prop} (h : p := by (repeat' first | (with_reducible exact Kp.refl _ _ _) | (with_reducible refine Kp.drew ?_) | (with_reducible refine Kp.setCell ?_ ?_ _) | (with_reducible refine Kp.alloc ?_ ?_ _) | (with_reducible refine Kp.ofb (by assumption) ?_) | (with_reducible refine Kp.below ?_ (by assumption) ?_)) <;> (first | (with_reducible assumption) | ((try simp only [World.size_alloc, World.size_setCell, World.size_drew]) <;> omega) | (simp [World.setCell]; done) | (simp [World.setCell]; omega))) : p := h
end Go.Proofs.YtllphmcjocidaaaGreatDoor

/- What a call has handed back, for those who look at it from without. No program in sight. -/
namespace Go.Proofs.YtllphmcjocidaaaGreatDoor
open Go.ChangeShapes Go.WideShapes Go.ChangeAt Go.RowKit Go.Deep
set_option linter.unusedVariables false
set_option linter.unusedSimpArgs false

/-- Met once, in blocks from lo to hi. -/
def FrA (t : Ty) (lo hi : Nat) (w : World) (cs : List Value) (d : t.D) : Prop :=
  ∃ bl, Un t w cs d bl ∧ bl.Nodup ∧ (∀ b ∈ bl, lo ≤ b ∧ b < hi) ∧ hi ≤ w.heap.size
/-- Read, in blocks from lo to hi. -/
def FrR (t : Ty) (lo hi : Nat) (w : World) (cs : List Value) (d : t.D) : Prop :=
  RdG (fun b => lo ≤ b ∧ b < hi) t w cs d ∧ hi ≤ w.heap.size

theorem rd_sl {e : TypeId} {t : Ty} {w : World} {p : Option Addr} {len cap : Nat} {l : List t.D} (h : rd (.slice e t) w [.slice p len cap] l) : SlRd t.n (rd t w) w p len cap l := by
  obtain ⟨p', len', cap', hv, hs⟩ := h
  simp only [List.cons.injEq, Value.slice.injEq, and_true] at hv
  obtain ⟨rfl, rfl, rfl⟩ := hv
  exact hs

section
variable {t : Ty} {lo hi lo' hi' : Nat} {w w' : World} {cs : List Value} {d : t.D} {bl : List Nat}

theorem FrA.rd (h : FrA t lo hi w cs d) : rd t w cs d := by
  obtain ⟨bl, h, _⟩ := h
  exact RdG.rd (fun b hb => un_lt _ _ _ _ _ h b hb) (Un.rdg _ _ _ _ h)
theorem FrA.mono (h : FrA t lo hi w cs d) (h1 : lo' ≤ lo) (h2 : hi ≤ hi') (h3 : hi' ≤ w.heap.size) : FrA t lo' hi' w cs d := by
  obtain ⟨bl, h, hn, hb, hs⟩ := h
  exact ⟨bl, h, hn, fun b hb' => by have := hb b hb'; omega, h3⟩
theorem FrA.keep (h : FrA t lo hi w cs d) (hw : ∀ b, lo ≤ b → b < hi → w'.heap[b]? = w.heap[b]?) (hs : w.heap.size ≤ w'.heap.size) : FrA t lo hi w' cs d := by
  obtain ⟨bl, h, hn, hb, hz⟩ := h
  exact ⟨bl, Un.keep _ _ _ _ (fun b hb' => hw b (hb b hb').1 (hb b hb').2) h, hn, hb, by omega⟩
theorem FrA.hi_le (h : FrA t lo hi w cs d) : hi ≤ w.heap.size := h.choose_spec.2.2.2
theorem FrA.below {B : Nat} (h : FrA t lo hi w cs d) (hw : Below B w w') (hB : hi ≤ B) : FrA t lo hi w' cs d := h.keep (fun b _ h2 => hw.block b (by omega)) hw.size
theorem FrA.set1 (h : FrA t lo hi w cs d) {a : Addr} (ha : a.block < lo ∨ hi ≤ a.block) (v : Value) : FrA t lo hi (w.setCell a v) cs d := h.keep (fun b h1 h2 => Below.heap_setCell _ _ _ _ (by omega)) (by simp [World.setCell])
theorem FrA.alloc (h : FrA t lo hi w cs d) (o : Obj) : FrA t lo hi (w.alloc o) cs d := h.keep (fun b h1 h2 => Below.heap_alloc _ _ _ (by have := h.hi_le; omega)) (by simp)
theorem FrA.only (h : FrA t lo hi w cs d) (hw : Only bl w w') (hb : ∀ b ∈ bl, b < lo ∨ hi ≤ b) : FrA t lo hi w' cs d :=
  h.keep (fun b h1 h2 => hw.block b (fun hm => by have := hb b hm; omega) (by have := h.hi_le; omega)) hw.size
theorem FrA.kp (h : FrA t lo hi w cs d) (k : Kp lo hi w w') : FrA t lo hi w' cs d := h.keep k.1 k.2
theorem FrA.un (h : FrA t lo hi w cs d) : ∃ bl, Un t w cs d bl ∧ bl.Nodup ∧ (∀ b ∈ bl, lo ≤ b ∧ b < hi) := by
  obtain ⟨bl, h1, h2, h3, _⟩ := h
  exact ⟨bl, h1, h2, h3⟩
theorem FrA.of_un (h : Un t w cs d bl) (hn : bl.Nodup) (hb : ∀ b ∈ bl, lo ≤ b ∧ b < hi) (hz : hi ≤ w.heap.size) : FrA t lo hi w cs d := ⟨bl, h, hn, hb, hz⟩
theorem FrIn.toA (h : FrIn t lo hi w cs d) : FrA t lo hi w cs d := by
  obtain ⟨bl, h, hn, hb, hs⟩ := h
  exact ⟨bl, Un.of_rep _ _ _ _ h, hn, hb, hs⟩
theorem FrIn.un (h : FrIn t lo hi w cs d) : ∃ bl, Un t w cs d bl ∧ bl.Nodup ∧ (∀ b ∈ bl, lo ≤ b ∧ b < hi) := h.toA.un

theorem FrR.rd (h : FrR t lo hi w cs d) : rd t w cs d := RdG.rd (fun b hb => by have := h.2; omega) h.1
theorem FrR.mono (h : FrR t lo hi w cs d) (h1 : lo' ≤ lo) (h2 : hi ≤ hi') (h3 : hi' ≤ w.heap.size) : FrR t lo' hi' w cs d := ⟨h.1.mono (fun b hb => by omega) (fun _ _ => rfl), h3⟩
theorem FrR.keep (h : FrR t lo hi w cs d) (hw : ∀ b, lo ≤ b → b < hi → w'.heap[b]? = w.heap[b]?) (hs : w.heap.size ≤ w'.heap.size) : FrR t lo hi w' cs d :=
  ⟨h.1.mono (fun b hb => hb) (fun b hb => hw b hb.1 hb.2), Nat.le_trans h.2 hs⟩
theorem FrR.hi_le (h : FrR t lo hi w cs d) : hi ≤ w.heap.size := h.2
theorem FrR.below {B : Nat} (h : FrR t lo hi w cs d) (hw : Below B w w') (hB : hi ≤ B) : FrR t lo hi w' cs d := h.keep (fun b _ h2 => hw.block b (by omega)) hw.size
theorem FrR.set1 (h : FrR t lo hi w cs d) {a : Addr} (ha : a.block < lo ∨ hi ≤ a.block) (v : Value) : FrR t lo hi (w.setCell a v) cs d := h.keep (fun b h1 h2 => Below.heap_setCell _ _ _ _ (by omega)) (by simp [World.setCell])
theorem FrR.alloc (h : FrR t lo hi w cs d) (o : Obj) : FrR t lo hi (w.alloc o) cs d := h.keep (fun b h1 h2 => Below.heap_alloc _ _ _ (by have := h.hi_le; omega)) (by simp)
theorem FrR.only (h : FrR t lo hi w cs d) (hw : Only bl w w') (hb : ∀ b ∈ bl, b < lo ∨ hi ≤ b) : FrR t lo hi w' cs d :=
  h.keep (fun b h1 h2 => hw.block b (fun hm => by have := hb b hm; omega) (by have := h.hi_le; omega)) hw.size
theorem FrR.kp (h : FrR t lo hi w cs d) (k : Kp lo hi w w') : FrR t lo hi w' cs d := h.keep k.1 k.2
end
section
variable {e : TypeId} {t : Ty} {lo hi : Nat} {w : World} {p : Option Addr} {len cap : Nat} {l : List t.D}
theorem FrIn.sl (h : FrIn (.slice e t) lo hi w [.slice p len cap] l) : SlRd t.n (Go.Proofs.YtllphmcjocidaaaGreatDoor.rd t w) w p len cap l := rd_sl h.rd
theorem FrA.sl (h : FrA (.slice e t) lo hi w [.slice p len cap] l) : SlRd t.n (Go.Proofs.YtllphmcjocidaaaGreatDoor.rd t w) w p len cap l := rd_sl h.rd
theorem FrR.sl (h : FrR (.slice e t) lo hi w [.slice p len cap] l) : SlRd t.n (Go.Proofs.YtllphmcjocidaaaGreatDoor.rd t w) w p len cap l := rd_sl h.rd
end

/-! ### from a contract -/

/-- Are all rows of a result its own or met once? -/
def allFl : Ty → List Nat → Bool
  | .slice _ _, 2 :: _ => true
  | .slice _ _, 1 :: _ => true
  | .slice _ _, _ => false
  | .pair a b, fl => allFl a fl && allFl b (flRest a fl)
  | _, _ => true

section
variable {G G' : Nat → Prop} {w w' : World}

theorem mvR.rdg (hG : ∀ b, G b → G' b) : {t : Ty} → {fl : List Nat} → {cs : List Value} → {d : t.D} → {ob ub : List Nat} → mvR G w t fl cs d ob ub → (∀ b ∈ ob, G' b) → RdG G' t w cs d := by
  intro t
  induction t with
  | pair x y ihx ihy =>
    intro fl cs d ob ub h hb
    obtain ⟨c1, c2, o1, o2, u1, u2, rfl, rfl, rfl, h1, h2⟩ := h
    exact ⟨c1, c2, rfl, ihx h1 fun b h => hb b (by simp [h]), ihy h2 fun b h => hb b (by simp [h])⟩
  | slice e t ih =>
    intro fl cs d ob ub h hb
    rcases fl with _ | ⟨_ | _ | _ | f, fl⟩
    · exact h.2.2.mono hG (fun _ _ => rfl)
    · exact h.2.2.mono hG (fun _ _ => rfl)
    · exact h.2.2.mono hG (fun _ _ => rfl)
    · obtain ⟨v, rfl, _, h1, h2, rfl⟩ := h
      refine h1.rd hG fun b n c h0 hv => hb b ?_
      subst hv
      simp only [blkV]
      rw [if_neg (by omega)]
      simp
    · exact h.2.2.mono hG (fun _ _ => rfl)
  | int k => intro fl cs d ob ub h hb; cases fl <;> exact h.2.2.mono hG (fun _ _ => rfl)
  | bool => intro fl cs d ob ub h hb; cases fl <;> exact h.2.2.mono hG (fun _ _ => rfl)
  | str => intro fl cs d ob ub h hb; cases fl <;> exact h.2.2.mono hG (fun _ _ => rfl)

theorem mvR.un : {t : Ty} → {fl : List Nat} → {cs : List Value} → {d : t.D} → {ob ub : List Nat} → allFl t fl = true → mvR G w t fl cs d ob ub → ∃ bl, Un t w cs d bl ∧ bl.Perm (ob ++ ub) := by
  intro t
  induction t with
  | pair x y ihx ihy =>
    intro fl cs d ob ub hf h
    simp only [allFl, Bool.and_eq_true] at hf
    obtain ⟨c1, c2, o1, o2, u1, u2, rfl, rfl, rfl, h1, h2⟩ := h
    obtain ⟨b1, p1, q1⟩ := ihx hf.1 h1
    obtain ⟨b2, p2, q2⟩ := ihy hf.2 h2
    refine ⟨b1 ++ b2, ⟨c1, c2, b1, b2, rfl, rfl, p1, p2⟩, (q1.append q2).trans ?_⟩
    rw [List.append_assoc, List.append_assoc]
    refine List.Perm.append_left o1 ?_
    rw [← List.append_assoc, ← List.append_assoc]
    exact List.perm_append_comm.append_right u2
  | slice e t ih =>
    intro fl cs d ob ub hf h
    rcases fl with _ | ⟨_ | _ | _ | f, fl⟩
    · cases hf
    · cases hf
    · obtain ⟨rfl, h1, _⟩ := h
      exact ⟨ub, h1, by simp⟩
    · obtain ⟨v, rfl, _, h1, h2, rfl⟩ := h
      rcases h1 with ⟨p, rfl, rfl⟩ | ⟨b, cap, cur, rfl, h0, hh, k1, k2, k3, k4⟩
      · rcases h2 with ⟨p', _, rfl⟩ | ⟨b, n, cap, cur, hv, h0, _⟩
        · exact ⟨[], .inl ⟨p, rfl, rfl, rfl⟩, by cases p <;> simp [blkV]⟩
        · simp only [Value.slice.injEq] at hv; omega
      · rcases h2 with ⟨p', hv, rfl⟩ | ⟨b', n, cap', cur', hv, _, hh', hr⟩
        · simp only [Value.slice.injEq] at hv; omega
        · simp only [Value.slice.injEq, Option.some.injEq, Addr.mk.injEq, and_true] at hv
          obtain ⟨rfl, rfl, rfl⟩ := hv
          rw [hh] at hh'
          simp only [Option.some.injEq, Obj.cells.injEq, true_and, and_true] at hh'
          subst hh'
          refine ⟨b :: ub, .inr ⟨b, 0, cap, cur, _, ub, rfl, rfl, hh, k1, k2, ?_, by rw [List.drop_zero], hr, rfl⟩, ?_⟩
          · rw [Nat.zero_add, k3]; exact Nat.mul_le_mul_right _ k1
          · simp only [blkV]
            rw [if_neg (by omega)]
            exact .refl _
    · cases hf
  | int k => intro fl cs d ob ub hf h; obtain ⟨rfl, rfl, h'⟩ : ob = [] ∧ ub = [] ∧ RdG G (.int k) w cs d := by cases fl <;> exact h
             exact ⟨[], ⟨h'.1, h'.2, rfl⟩, .refl _⟩
  | bool => intro fl cs d ob ub hf h; obtain ⟨rfl, rfl, h'⟩ : ob = [] ∧ ub = [] ∧ RdG G .bool w cs d := by cases fl <;> exact h
            exact ⟨[], ⟨h', rfl⟩, .refl _⟩
  | str => intro fl cs d ob ub hf h; obtain ⟨rfl, rfl, h'⟩ : ob = [] ∧ ub = [] ∧ RdG G .str w cs d := by cases fl <;> exact h
           exact ⟨[], ⟨h'.1, h'.2, rfl⟩, .refl _⟩
end

/-- Arguments, one after the other, as they read. -/
def argsRd (w : World) : List AM → List Value → List SV → Prop
  | [], vs, ds => vs = [] ∧ ds = []
  | .val m :: ms, vs, ds => ∃ v vs' d ds', vs = v :: vs' ∧ ds = d :: ds' ∧ (m.fl.any (· != 0)) = false ∧ v = mkV m.ag v.cells.toList ∧ rd m.t w v.cells.toList (d.as m.t) ∧ argsRd w ms vs' ds'
  | .box _ _ :: _, _, _ => False

theorem argsRd.ams {w : World} {G : Nat → Prop} (hG : ∀ b, b < w.heap.size → G b) : {ms : List AM} → {vs : List Value} → {ds : List SV} → argsRd w ms vs ds → amsR G w ms vs ds [] [] ∧ boxesIn ms vs = [] ∧ boxMs ms = []
  | [], _, _, ⟨h1, h2⟩ => ⟨⟨h1, rfl, rfl⟩, rfl, rfl⟩
  | .val m :: ms, _, _, ⟨v, vs', d, ds', rfl, rfl, hf, hv, hr, h⟩ => by
    obtain ⟨i1, i2, i3⟩ := argsRd.ams hG h
    exact ⟨⟨v, vs', d, ds', [], [], [], [], rfl, rfl, rfl, rfl, hv, mvR_ro hf ((RdG.of_rd hr).mono hG (fun _ _ => rfl)), i1⟩, i2, i3⟩
  | .box _ _ :: _, _, _, h => h.elim

/-- A call whose result is one value. -/
def Gives (m : MV) (w : World) (R : m.t.D) (e : Ending) (w' : World) : Prop :=
  ∃ r : Value, e = .returned r ∧ r = mkV m.ag r.cells.toList ∧ FrR m.t w.heap.size w'.heap.size w' r.cells.toList R ∧ (allFl m.t m.fl = true → FrA m.t w.heap.size w'.heap.size w' r.cells.toList R) ∧ Below w.heap.size w w'

theorem Con.Holds.gives {P : Program} {C : Con} (h : Con.Holds P C) {m : MV} (hrm : C.rms = [m]) (hal : C.alias = false) {x : C.argTy.D} (hp : C.pre x) (hx : okD C.argTy x) {w : World} {vs : List Value} (ha : argsRd w C.ams vs (parts (C.ams.map (·.mv.t)) (SV.as _ ⟨C.argTy, x⟩))) (hbx : C.bx = none := by rfl) (ht : tabP.p w := by exact tab_triv _) :
    Calls P C.f vs.toArray w (Gives m w (SV.as m.t ⟨C.resTy, C.fn x⟩)) := by
  let X : Cx := ⟨fun _ => False, [], [], w, fun _ h => h.elim, ⟨ht, by simp⟩⟩
  obtain ⟨a1, a2, a3⟩ := ha.ams (G := Gd X [] w false) fun b hb => ⟨hb, by simp, fun h => h, fun h => by cases h⟩
  refine Calls.mono' (h.run X vs x [] [] hp hx rfl rfl (by simp) (fun b hb => by simp at hb) a1) fun e w' ⟨v, he, hg⟩ => ?_
  obtain ⟨rs, o1, u1, o2, u2, hv, hf, g1, g2, g3, g4, g5⟩ := hg
  rw [a2] at g2
  rw [Con.ras_none hbx] at g1
  obtain ⟨rfl, rfl⟩ := g2
  rw [hrm] at g1
  simp only [a3, hrm, List.map_cons, List.map_nil, List.append_nil, List.length_cons, List.length_nil, parts, List.take_succ_cons, List.take_zero, Nat.zero_add] at g1
  obtain ⟨r, vs', d, ds', p1, p2, q1, q2, rfl, hd, rfl, rfl, k1, k2, k3⟩ := g1
  obtain ⟨rfl, rfl, rfl⟩ := k3
  have hq : ∀ bs : List MV, bs = [] → List.take 1 (parts (List.map (fun x => x.t) ([m] ++ bs)) (SV.as (packTy (List.map (fun x => x.t) ([m] ++ bs))) ⟨C.resTy, C.fn x⟩)) = [⟨m.t, SV.as m.t ⟨C.resTy, C.fn x⟩⟩] := fun bs h => by subst h; rfl
  rw [hq _ a3] at hd
  simp only [List.cons.injEq] at hd
  obtain ⟨rfl, rfl⟩ := hd
  (try simp only [List.append_nil] at k2); (try simp only [List.append_nil] at g3); (try simp only [List.append_nil] at g4); (try simp only [List.append_nil] at g5)
  rw [hal] at k2
  have hB : ∀ b, Gd X p1 w' (!false) b → w.heap.size ≤ b ∧ b < w'.heap.size := fun b hb => by
    have := hb.2.2.2 rfl
    simp only [Cx.F0, X, List.append_nil, List.not_mem_nil, or_false] at this
    exact ⟨this, hb.1⟩
  have hO : ∀ b ∈ p1, w.heap.size ≤ b ∧ b < w'.heap.size := fun b hb => by
    obtain ⟨h1, h2, h3⟩ := g4 b hb
    simp only [X, List.not_mem_nil, or_false] at h2
    exact ⟨h2, h1⟩
  rw [SV.as_self] at k2
  refine ⟨r, by rw [he, hv]; rfl, k1, ⟨k2.rdg hB hO, Nat.le_refl _⟩, fun hfl => ?_, ⟨hf.os, hf.tape, hf.output, hf.size, fun k hk => hf.block k hk (by simp [X])⟩⟩
  obtain ⟨bl, b1, b2⟩ := k2.un hfl
  refine ⟨bl, b1, b2.nodup_iff.2 g3, fun b hb => ?_, Nat.le_refl _⟩
  have := b2.mem_iff.1 hb
  rw [List.mem_append] at this
  rcases this with h1 | h1
  · exact hO b h1
  · have hg := g5 b h1
    have h2 := hg.2.2.2 rfl
    simp only [Cx.F0, X, List.append_nil, List.not_mem_nil, or_false] at h2
    exact ⟨h2, hg.1⟩

def RetAgA (t : Ty) (w : World) (d : t.D) (r : Ending) (w' : World) : Prop := ∃ cs : Array Value, r = .returned (.agg cs) ∧ FrA t w.heap.size w'.heap.size w' cs.toList d ∧ Below w.heap.size w w'
def RetAgR (t : Ty) (w : World) (d : t.D) (r : Ending) (w' : World) : Prop := ∃ cs : Array Value, r = .returned (.agg cs) ∧ FrR t w.heap.size w'.heap.size w' cs.toList d ∧ Below w.heap.size w w'
def RetSlA (e : TypeId) (t : Ty) (w : World) (l : List t.D) (r : Ending) (w' : World) : Prop :=
  ∃ p cap, r = .returned (.slice p l.length cap) ∧ FrA (.slice e t) w.heap.size w'.heap.size w' [.slice p l.length cap] l ∧ Below w.heap.size w w'
def RetSlR (e : TypeId) (t : Ty) (w : World) (l : List t.D) (r : Ending) (w' : World) : Prop :=
  ∃ p cap, r = .returned (.slice p l.length cap) ∧ FrR (.slice e t) w.heap.size w'.heap.size w' [.slice p l.length cap] l ∧ Below w.heap.size w w'

theorem Gives.agA {m : MV} (hm : m.ag = true) (hf : allFl m.t m.fl = true) {w w' : World} {R : m.t.D} {e : Ending} (h : Gives m w R e w') : RetAgA m.t w R e w' := by
  obtain ⟨r, h1, h2, h3, h4, h5⟩ := h
  rw [hm] at h2
  exact ⟨r.cells, by rw [h1]; exact congrArg _ (h2.trans (by simp [mkV])), h4 hf, h5⟩
theorem Gives.agR {m : MV} (hm : m.ag = true) {w w' : World} {R : m.t.D} {e : Ending} (h : Gives m w R e w') : RetAgR m.t w R e w' := by
  obtain ⟨r, h1, h2, h3, h4, h5⟩ := h
  rw [hm] at h2
  exact ⟨r.cells, by rw [h1]; exact congrArg _ (h2.trans (by simp [mkV])), h3, h5⟩
end Go.Proofs.YtllphmcjocidaaaGreatDoor

/- What a call of several results has handed back. No program in sight. -/
namespace Go.Proofs.YtllphmcjocidaaaGreatDoor
open Go.ChangeShapes Go.WideShapes Go.ChangeAt Go.RowKit Go.Deep
set_option linter.unusedVariables false
set_option linter.unusedSimpArgs false

/-- One of the values a call hands back. -/
def OutV (w w' : World) (m : MV) (r : Value) (R : m.t.D) (bl : List Nat) : Prop :=
  r = mkV m.ag r.cells.toList ∧ FrR m.t w.heap.size w'.heap.size w' r.cells.toList R ∧ (allFl m.t m.fl = true → Un m.t w' r.cells.toList R bl)
def OutsV (w w' : World) : List MV → List Value → List SV → List Nat → Prop
  | [], rs, _, bl => rs = [] ∧ bl = []
  | m :: ms, rs, d :: ds, bl => ∃ r rs' b1 b2, rs = r :: rs' ∧ bl = b1 ++ b2 ∧ OutV w w' m r (d.as m.t) b1 ∧ OutsV w w' ms rs' ds b2
  | _ :: _, _, [], _ => False
def GivesL (ms : List MV) (w : World) (ds : List SV) (e : Ending) (w' : World) : Prop :=
  ∃ rs bl, e = .returned (retV rs) ∧ OutsV w w' ms rs ds bl ∧ bl.Nodup ∧ (∀ b ∈ bl, w.heap.size ≤ b ∧ b < w'.heap.size) ∧ Below w.heap.size w w'

theorem parts_len : (ts : List Ty) → (d : (packTy ts).D) → (parts ts d).length = ts.length
  | [], _ => rfl
  | [_], _ => rfl
  | _ :: u :: ts, d => congrArg (· + 1) (parts_len (u :: ts) d.2)

theorem amsR.outs {G : Nat → Prop} {w w' : World} (hG : ∀ b, G b → w.heap.size ≤ b ∧ b < w'.heap.size) : {ms : List MV} → {rs : List Value} → {ds : List SV} → {ob ub : List Nat} → amsR G w' (ms.map .val) rs ds ob ub →
    (∀ b ∈ ob, w.heap.size ≤ b ∧ b < w'.heap.size) → ∃ bl, OutsV w w' ms rs ds bl ∧ bl.Perm (ob ++ ub)
  | [], rs, ds, ob, ub, h, hb => by
    obtain ⟨rfl, rfl, rfl⟩ := h
    exact ⟨[], ⟨rfl, rfl⟩, .refl _⟩
  | m :: ms, rs, ds, ob, ub, h, hb => by
    obtain ⟨v, vs', d, ds', o1, o2, u1, u2, rfl, rfl, rfl, rfl, h1, h2, h3⟩ := h
    obtain ⟨b2, q1, q2⟩ := amsR.outs hG h3 (fun b hb' => hb b (List.mem_append.2 (.inr hb')))
    have hr : FrR m.t w.heap.size w'.heap.size w' v.cells.toList (d.as m.t) := ⟨h2.rdg hG (fun b hb' => hb b (List.mem_append.2 (.inl hb'))), Nat.le_refl _⟩
    have hp : ∀ {b1 : List Nat}, b1.Perm (o1 ++ u1) → (b1 ++ b2).Perm (o1 ++ o2 ++ (u1 ++ u2)) := fun h => by
      refine (h.append q2).trans ?_
      rw [List.append_assoc, List.append_assoc]
      refine List.Perm.append_left o1 ?_
      rw [← List.append_assoc, ← List.append_assoc]
      exact List.perm_append_comm.append_right u2
    cases hf : allFl m.t m.fl with
    | false => exact ⟨_, ⟨v, vs', o1 ++ u1, b2, rfl, rfl, ⟨h1, hr, fun h => by rw [hf] at h; cases h⟩, q1⟩, hp (.refl _)⟩
    | true =>
      obtain ⟨b1, p1, p2⟩ := h2.un hf
      exact ⟨_, ⟨v, vs', b1, b2, rfl, rfl, ⟨h1, hr, fun _ => p1⟩, q1⟩, hp p2⟩

theorem Con.Holds.givesL {P : Program} {C : Con} (h : Con.Holds P C) (hal : C.alias = false) {x : C.argTy.D} (hp : C.pre x) (hx : okD C.argTy x) {w : World} {vs : List Value} (ha : argsRd w C.ams vs (parts (C.ams.map (·.mv.t)) (SV.as _ ⟨C.argTy, x⟩))) (hbx : C.bx = none := by rfl) (ht : tabP.p w := by exact tab_triv _) :
    Calls P C.f vs.toArray w (GivesL C.rms w (parts (C.rms.map (·.t)) (SV.as _ ⟨C.resTy, C.fn x⟩))) := by
  let X : Cx := ⟨fun _ => False, [], [], w, fun _ h => h.elim, ⟨ht, by simp⟩⟩
  obtain ⟨a1, a2, a3⟩ := ha.ams (G := Gd X [] w false) fun b hb => ⟨hb, by simp, fun h => h, fun h => by cases h⟩
  refine Calls.mono' (h.run X vs x [] [] hp hx rfl rfl (by simp) (fun b hb => by simp at hb) a1) fun e w' ⟨v, he, hg⟩ => ?_
  obtain ⟨rs, o1, u1, o2, u2, hv, hf, g1, g2, g3, g4, g5⟩ := hg
  rw [a2] at g2
  rw [Con.ras_none hbx] at g1
  obtain ⟨rfl, rfl⟩ := g2
  have hq : ∀ bs : List MV, bs = [] → List.take C.rms.length (parts (List.map (fun x => x.t) (C.rms ++ bs)) (SV.as (packTy (List.map (fun x => x.t) (C.rms ++ bs))) ⟨C.resTy, C.fn x⟩)) = parts (C.rms.map (·.t)) (SV.as _ ⟨C.resTy, C.fn x⟩) := fun bs h => by
    subst h
    rw [List.append_nil]
    exact List.take_of_length_le (by rw [parts_len]; simp)
  rw [hq _ a3] at g1
  simp only [List.append_nil] at g1 g3 g4 g5
  rw [hal] at g1
  have hB : ∀ b, Gd X o1 w' (!false) b → w.heap.size ≤ b ∧ b < w'.heap.size := fun b hb => by
    have := hb.2.2.2 rfl
    simp only [Cx.F0, X, List.append_nil, List.not_mem_nil, or_false] at this
    exact ⟨this, hb.1⟩
  have hO : ∀ b ∈ o1, w.heap.size ≤ b ∧ b < w'.heap.size := fun b hb => by
    obtain ⟨h1, h2, h3⟩ := g4 b hb
    simp only [X, List.not_mem_nil, or_false] at h2
    exact ⟨h2, h1⟩
  obtain ⟨bl, q1, q2⟩ := g1.outs hB hO
  refine ⟨rs, bl, by rw [he, hv], q1, q2.nodup_iff.2 g3, fun b hb => ?_, ⟨hf.os, hf.tape, hf.output, hf.size, fun k hk => hf.block k hk (by simp [X])⟩⟩
  have := q2.mem_iff.1 hb
  rw [List.mem_append] at this
  rcases this with h1 | h1
  · exact hO b h1
  · have hg := g5 b h1
    have h2 := hg.2.2.2 rfl
    simp only [Cx.F0, X, List.append_nil, List.not_mem_nil, or_false] at h2
    exact ⟨h2, hg.1⟩

section
variable {w w' : World} {r : Value} {bl : List Nat} {fl : List Nat}
theorem OutV.int {k : IntKind} {R : Int} (h : OutV w w' ⟨false, .int k, fl⟩ r R bl) : r = .int k R := by
  have h1 := h.1
  rw [h.2.1.1.1] at h1
  exact h1
theorem OutV.bool {R : Bool} (h : OutV w w' ⟨false, .bool, fl⟩ r R bl) : r = .bool R := by
  have h1 := h.1
  rw [show r.cells.toList = [.bool R] from h.2.1.1] at h1
  exact h1
theorem OutV.str {R : ByteArray} (h : OutV w w' ⟨false, .str, fl⟩ r R bl) : r = .string R := by
  have h1 := h.1
  rw [h.2.1.1.1] at h1
  exact h1
theorem OutV.agR {t : Ty} {R : t.D} (h : OutV w w' ⟨true, t, fl⟩ r R bl) : r = .agg r.cells ∧ FrR t w.heap.size w'.heap.size w' r.cells.toList R := ⟨h.1.trans (by simp [mkV]), h.2.1⟩
theorem OutV.agA {t : Ty} {R : t.D} (h : OutV w w' ⟨true, t, fl⟩ r R bl) (hf : allFl t fl = true) (hn : bl.Nodup) (hb : ∀ b ∈ bl, w.heap.size ≤ b ∧ b < w'.heap.size) : r = .agg r.cells ∧ FrA t w.heap.size w'.heap.size w' r.cells.toList R :=
  ⟨h.1.trans (by simp [mkV]), bl, h.2.2 hf, hn, hb, Nat.le_refl _⟩
theorem OutV.slR {e : TypeId} {t : Ty} {R : List t.D} (h : OutV w w' ⟨false, .slice e t, fl⟩ r R bl) : ∃ p cap, r = .slice p R.length cap ∧ FrR (.slice e t) w.heap.size w'.heap.size w' [.slice p R.length cap] R := by
  have h1 := h.1
  obtain ⟨p, len, cap, hc, hs⟩ := h.2.1.rd
  have hl : len = R.length := hs.lens
  subst hl
  rw [hc] at h1
  refine ⟨p, cap, h1, ?_⟩
  rw [← hc]
  exact h.2.1
theorem OutV.slA {e : TypeId} {t : Ty} {R : List t.D} (h : OutV w w' ⟨false, .slice e t, fl⟩ r R bl) (hf : allFl (.slice e t) fl = true) (hn : bl.Nodup) (hb : ∀ b ∈ bl, w.heap.size ≤ b ∧ b < w'.heap.size) : ∃ p cap, r = .slice p R.length cap ∧ FrA (.slice e t) w.heap.size w'.heap.size w' [.slice p R.length cap] R := by
  have h1 := h.1
  obtain ⟨p, len, cap, hc, hs⟩ := h.2.1.rd
  have hl : len = R.length := hs.lens
  subst hl
  rw [hc] at h1
  refine ⟨p, cap, h1, ?_⟩
  rw [← hc]
  exact ⟨bl, h.2.2 hf, hn, hb, Nat.le_refl _⟩
end
end Go.Proofs.YtllphmcjocidaaaGreatDoor

/- What a call of several results has handed back: words for printed texts. No program in sight. -/
namespace Go.Proofs.YtllphmcjocidaaaGreatDoor
open Go.ChangeShapes Go.WideShapes Go.ChangeAt Go.RowKit Go.Deep
set_option linter.unusedVariables false
set_option linter.unusedSimpArgs false

theorem argsRd.cons {w : World} {m : MV} {ms : List AM} {vs : List Value} {ds : List SV} {v : Value} {y : m.t.D} (hf : (m.fl.any (· != 0)) = false) (hv : v = mkV m.ag v.cells.toList) (hr : rd m.t w v.cells.toList y) (hn : argsRd w ms vs ds) :
    argsRd w (.val m :: ms) (v :: vs) (⟨m.t, y⟩ :: ds) := ⟨v, vs, ⟨m.t, y⟩, ds, rfl, rfl, hf, hv, by rw [SV.as_self]; exact hr, hn⟩
theorem argsRd.nil {w : World} : argsRd w [] [] [] := ⟨rfl, rfl⟩
theorem OutsV.inv {w w' : World} {m : MV} {ms : List MV} {rs : List Value} {y : m.t.D} {ds : List SV} {bl : List Nat} (h : OutsV w w' (m :: ms) rs (⟨m.t, y⟩ :: ds) bl) :
    ∃ r rs' b1 b2, rs = r :: rs' ∧ bl = b1 ++ b2 ∧ OutV w w' m r y b1 ∧ OutsV w w' ms rs' ds b2 := by
  obtain ⟨r, rs', b1, b2, h1, h2, h3, h4⟩ := h
  rw [SV.as_self] at h3
  exact ⟨r, rs', b1, b2, h1, h2, h3, h4⟩
/-- All rows of all layers are of a length that bears an append. -/
def LenB : (t : Ty) → t.D → Prop
  | .slice _ t, l => List.length l ≤ 1000000000 ∧ ∀ x ∈ (l : List t.D), LenB t x
  | .pair a b, x => LenB a x.1 ∧ LenB b x.2
  | .int _, _ => True
  | .bool, _ => True
  | .str, _ => True
theorem szT_mem {e : TypeId} {t : Ty} {l : List t.D} {x : t.D} (h : x ∈ l) : szT t x ≤ szT (.slice e t) l := by
  obtain ⟨k, hk, rfl⟩ := List.mem_iff_getElem.1 h
  rw [szT_slice]
  have := sum_get_le (szT t) l k hk
  omega
theorem szT_len {e : TypeId} {t : Ty} (l : List t.D) : List.length l ≤ szT (.slice e t) l := by rw [szT_slice]; omega
theorem lenB_of : {t : Ty} → {d : t.D} → szT t d ≤ 1048576 → LenB t d := by
  intro t
  induction t with
  | int k => intros; trivial
  | bool => intros; trivial
  | str => intros; trivial
  | pair a b iha ihb =>
    intro d h
    have h' : szT a d.1 + szT b d.2 ≤ 1048576 := h
    exact ⟨iha (by omega), ihb (by omega)⟩
  | slice e t ih =>
    intro l h
    exact ⟨Nat.le_trans (Nat.le_trans (szT_len (e := e) l) h) (by decide), fun x hx => ih (Nat.le_trans (szT_mem (e := e) hx) h)⟩
theorem SlRd.toRd {e : TypeId} {t : Ty} {w : World} {p : Option Addr} {len cap : Nat} {l : List t.D} (h : SlRd t.n (rd t w) w p len cap l) : rd (.slice e t) w [.slice p len cap] l := ⟨p, len, cap, rfl, h⟩
end Go.Proofs.YtllphmcjocidaaaGreatDoor

/- A contract out of a walk by hand. No program in sight. -/
namespace Go.Proofs.YtllphmcjocidaaaGreatDoor
open Go.ChangeShapes Go.WideShapes Go.ChangeAt Go.RowKit Go.Deep
set_option linter.unusedVariables false
set_option linter.unusedSimpArgs false

def roAms : List AM → Bool
  | [] => true
  | .val m :: ms => !(m.fl.any (· != 0)) && roAms ms
  | .box _ _ :: _ => false

theorem fl_rest : (t : Ty) → (fl : List Nat) → (fl.any (· != 0)) = false → ((flRest t fl).any (· != 0)) = false := by
  intro t
  induction t with
  | pair x y ihx ihy => intro fl h; exact ihy _ (ihx _ h)
  | _ => intro fl h; cases fl with
    | nil => rfl
    | cons f fl => simp only [List.any_cons, Bool.or_eq_false_iff] at h; exact h.2

section
variable {G : Nat → Prop} {w : World}
theorem mvR_ro_inv : {t : Ty} → {fl : List Nat} → {cs : List Value} → {d : t.D} → {ob ub : List Nat} → (fl.any (· != 0)) = false → mvR G w t fl cs d ob ub → ob = [] ∧ ub = [] ∧ RdG G t w cs d := by
  intro t
  induction t with
  | pair x y ihx ihy =>
    intro fl cs d ob ub hf h
    obtain ⟨c1, c2, o1, o2, u1, u2, rfl, rfl, rfl, h1, h2⟩ := h
    obtain ⟨rfl, rfl, r1⟩ := ihx hf h1
    obtain ⟨rfl, rfl, r2⟩ := ihy (fl_rest x fl hf) h2
    exact ⟨rfl, rfl, c1, c2, rfl, r1, r2⟩
  | slice e t ih =>
    intro fl cs d ob ub hf h
    rcases fl with _ | ⟨_ | _ | _ | f, fl⟩
    · exact h
    · exact h
    · simp at hf
    · simp at hf
    · exact h
  | int k => intro fl cs d ob ub hf h; cases fl <;> exact h
  | bool => intro fl cs d ob ub hf h; cases fl <;> exact h
  | str => intro fl cs d ob ub hf h; cases fl <;> exact h

theorem argsRd_of (hG : ∀ b, G b → b < w.heap.size) : {ms : List AM} → {vs : List Value} → {ds : List SV} → {ob ub : List Nat} → roAms ms = true → ds.length = ms.length → amsR G w ms vs ds ob ub → argsRd w ms vs ds ∧ ob = [] ∧ ub = [] ∧ boxesIn ms vs = [] ∧ boxMs ms = []
  | [], vs, ds, ob, ub, _, hl, h => by
    obtain ⟨rfl, rfl, rfl⟩ := h
    exact ⟨⟨rfl, List.eq_nil_of_length_eq_zero hl⟩, rfl, rfl, rfl, rfl⟩
  | .val m :: ms, vs, ds, ob, ub, hr, hl, h => by
    simp only [roAms, Bool.and_eq_true, Bool.not_eq_true'] at hr
    obtain ⟨v, vs', d, ds', o1, o2, u1, u2, rfl, rfl, rfl, rfl, h1, h2, h3⟩ := h
    obtain ⟨rfl, rfl, r⟩ := mvR_ro_inv hr.1 h2
    obtain ⟨i1, rfl, rfl, i4, i5⟩ := argsRd_of hG hr.2 (by simpa using hl) h3
    exact ⟨⟨v, vs', d, ds', rfl, rfl, hr.1, h1, RdG.rd hG r, i1⟩, rfl, rfl, i4, i5⟩
  | .box _ _ :: _, _, _, _, _, hr, _, _ => by cases hr

/-- Are all rows of a result met once? -/
def allOne : Ty → List Nat → Bool
  | .slice _ _, 1 :: _ => true
  | .slice _ _, _ => false
  | .pair a b, fl => allOne a fl && allOne b (flRest a fl)
  | _, _ => true
theorem allOne_fl : (t : Ty) → (fl : List Nat) → allOne t fl = true → allFl t fl = true := by
  intro t
  induction t with
  | pair x y ihx ihy => intro fl h; simp only [allOne, allFl, Bool.and_eq_true] at h ⊢; exact ⟨ihx _ h.1, ihy _ h.2⟩
  | slice e t ih => intro fl h; rcases fl with _ | ⟨_ | _ | _ | f, fl⟩ <;> simp_all [allOne, allFl]
  | _ => intro fl h; rfl

theorem mvR_one (hG : ∀ b, b < w.heap.size → True) : {t : Ty} → {fl : List Nat} → {cs : List Value} → {d : t.D} → {bl : List Nat} → allOne t fl = true → (∀ b ∈ bl, G b) → Un t w cs d bl → mvR G w t fl cs d [] bl := by
  intro t
  induction t with
  | pair x y ihx ihy =>
    intro fl cs d bl hf hb h
    simp only [allOne, Bool.and_eq_true] at hf
    obtain ⟨c1, c2, b1, b2, rfl, rfl, h1, h2⟩ := h
    exact ⟨c1, c2, [], [], b1, b2, rfl, rfl, rfl, ihx hf.1 (fun b h => hb b (by simp [h])) h1, ihy hf.2 (fun b h => hb b (by simp [h])) h2⟩
  | slice e t ih =>
    intro fl cs d bl hf hb h
    rcases fl with _ | ⟨_ | _ | _ | f, fl⟩
    · cases hf
    · cases hf
    · exact ⟨rfl, h, (Un.rdg _ _ _ _ h).mono hb (fun _ _ => rfl)⟩
    · cases hf
    · cases hf
  | int k => intro fl cs d bl hf hb h; obtain ⟨h1, h2, rfl⟩ := h; cases fl <;> exact ⟨rfl, rfl, h1, h2⟩
  | bool => intro fl cs d bl hf hb h; obtain ⟨h1, rfl⟩ := h; cases fl <;> exact ⟨rfl, rfl, h1⟩
  | str => intro fl cs d bl hf hb h; obtain ⟨h1, h2, rfl⟩ := h; cases fl <;> exact ⟨rfl, rfl, h1, h2⟩

def oneOrRo (m : MV) : Bool := !(m.fl.any (· != 0)) || allOne m.t m.fl

theorem ro_nofl {t : Ty} {fl : List Nat} (h : (fl.any (· != 0)) = false) : allFl t fl = true → t.flat = true := by
  induction t generalizing fl with
  | pair x y ihx ihy => intro hf; simp only [allFl, Ty.flat, Bool.and_eq_true] at hf ⊢; exact ⟨ihx h hf.1, ihy (fl_rest x fl h) hf.2⟩
  | slice e t ih => intro hf; rcases fl with _ | ⟨_ | _ | _ | f, fl⟩ <;> simp_all [allFl]
  | _ => intro _; rfl

theorem outs_ams {w' : World} (hG : ∀ b, w.heap.size ≤ b → b < w'.heap.size → G b) : {ms : List MV} → {rs : List Value} → {ds : List SV} → {bl : List Nat} → ms.all oneOrRo = true → OutsV w w' ms rs ds bl → (∀ b ∈ bl, w.heap.size ≤ b ∧ b < w'.heap.size) → bl.Nodup →
    ∃ ub, amsR G w' (ms.map .val) rs (ds.take ms.length) [] ub ∧ ub.Nodup ∧ (∀ b ∈ ub, b ∈ bl)
  | [], rs, ds, bl, _, h, hb, hn => by
    obtain ⟨rfl, rfl⟩ := h
    exact ⟨[], ⟨rfl, rfl, rfl⟩, by simp, by simp⟩
  | m :: ms, rs, [], bl, _, h, hb, hn => h.elim
  | m :: ms, rs, d :: ds, bl, hm, h, hb, hn => by
    simp only [List.all_cons, Bool.and_eq_true] at hm
    obtain ⟨r, rs', b1, b2, rfl, rfl, h1, h2⟩ := h
    rw [List.nodup_append] at hn
    obtain ⟨n1, n2, n3⟩ := hn
    obtain ⟨ub, i1, i2, i3⟩ := outs_ams hG hm.2 h2 (fun b h => hb b (by simp [h])) n2
    obtain ⟨o1, o2, o3⟩ := h1
    rcases Bool.or_eq_true_iff.1 hm.1 with ho | ho
    · refine ⟨ub, ⟨r, rs', d, _, [], [], [], ub, rfl, rfl, rfl, rfl, o1, ?_, i1⟩, i2, fun b h => by simp [i3 b h]⟩
      exact mvR_ro (by simpa using ho) (o2.1.mono (fun b h => hG b h.1 h.2) (fun _ _ => rfl))
    · refine ⟨b1 ++ ub, ⟨r, rs', d, _, [], [], b1, ub, rfl, rfl, rfl, rfl, o1, ?_, i1⟩, ?_, fun b h => ?_⟩
      · exact mvR_one (fun _ _ => trivial) ho (fun b h => hG b (hb b (by simp [h])).1 (hb b (by simp [h])).2) (o3 (allOne_fl _ _ ho))
      · rw [List.nodup_append]
        exact ⟨n1, i2, fun a ha b hb e => n3 a ha b (i3 b hb) e⟩
      · rw [List.mem_append] at h ⊢
        exact h.imp id (i3 b)
end

/-- A CONTRACT OUT OF A WALK. -/
theorem Con.holds_walk {P : Program} {C : Con} (hal : C.alias = false) (hbx : C.bx = none) (hro : roAms C.ams = true) (hr1 : C.rms.all oneOrRo = true)
    (ok : ∀ x : C.argTy.D, C.pre x → okD C.argTy x → okD C.resTy (C.fn x))
    (fn : ∃ f, P.funcs[C.f]? = some f ∧ (f.name == "runtime.NumGoroutine") = false ∧ f.body.isNone = false)
    (run : ∀ (w : World) (vs : List Value) (x : C.argTy.D), tabP.p w → C.pre x → okD C.argTy x → argsRd w C.ams vs (parts (C.ams.map (·.mv.t)) (SV.as _ ⟨C.argTy, x⟩)) →
      Calls P C.f vs.toArray w (GivesL C.rms w (parts (C.rms.map (·.t)) (SV.as _ ⟨C.resTy, C.fn x⟩)))) : Con.Holds P C := by
  refine ⟨ok, fn, fun X vs x ob ub hp hx ho hu hn hb ha => ?_⟩
  obtain ⟨a1, rfl, rfl, a4, a5⟩ := argsRd_of (fun b hb => hb.1) hro (by rw [parts_len]; simp) ha
  refine Calls.mono' (run X.w0 vs x X.tb.1 hp hx a1) fun e w' hg => ?_
  obtain ⟨rs, bl, he, hO, hnd, hbl, hB⟩ := hg
  refine ⟨retV rs, he, ?_⟩
  have hG : ∀ b, X.w0.heap.size ≤ b → b < w'.heap.size → Gd X [] w' (!C.alias) b := fun b h1 h2 =>
    ⟨h2, by simp, fun hA => by have := X.hA b hA; omega, fun _ => .inl h1⟩
  obtain ⟨ub, q1, q2, q3⟩ := outs_ams hG hr1 hO hbl hnd
  have hq : ∀ bs : List MV, bs = [] → parts (List.map (fun x => x.t) (C.rms ++ bs)) (SV.as (packTy (List.map (fun x => x.t) (C.rms ++ bs))) ⟨C.resTy, C.fn x⟩) = parts (C.rms.map (·.t)) (SV.as _ ⟨C.resTy, C.fn x⟩) := fun bs h => by
    subst h
    rw [List.append_nil]
  refine ⟨rs, [], ub, [], [], rfl, ⟨hB.os, hB.tape, hB.output, hB.size, fun b h1 _ => hB.block b h1⟩, ?_, ?_, ?_, by simp, fun b hb => ?_⟩
  · rw [hq _ a5, Con.ras_none hbx]
    simp only [List.append_nil]
    exact q1
  · rw [a4]
    exact ⟨rfl, rfl⟩
  · simpa using q2
  · have := q3 b (by simpa using hb)
    have h3 := hbl b this
    exact ⟨h3.2, by simp, fun hA => by have := X.hA b hA; omega, fun _ => .inl h3.1⟩
end Go.Proofs.YtllphmcjocidaaaGreatDoor

/- What a tree tells is one thing: contracts whose answer is only known by what holds of it. No program in sight. -/
namespace Go.Proofs.YtllphmcjocidaaaGreatDoor
open Go.ChangeShapes Go.WideShapes Go.ChangeAt Go.RowKit Go.Deep
set_option linter.unusedVariables false
set_option linter.unusedSimpArgs false

inductive Out where
  | ret (v : SV)
  | ag (d : Nat) (v : SV)
def Out.pop : Out → Option Out
  | .ret v => some (.ret v)
  | .ag (d + 1) v => some (.ag d v)
  | .ag 0 _ => none
def chain {α : Type} (as' : SV → α) (R : α → Out → Prop) : Nat → α → Out → Prop
  | 0, x, o => ∃ o', R x o' ∧ o'.pop = some o
  | n + 1, x, o => ∃ v, R x (.ag 0 v) ∧ chain as' R n (as' v) o
def T.out (Cs : List Con) : T → List SV → Out → Prop
  | .prim p a k, env, o => k.out Cs (env ++ [⟨p.oty, p.fn ((a.val env).as p.ity)⟩]) o
  | .call c a k, env, o => match Cs[c]? with
    | some C => k.out Cs (env ++ [⟨C.resTy, C.fn ((a.val env).as C.argTy)⟩]) o
    | none => False
  | .ite a x y, env, o => ((a.val env).as .bool = true ∧ x.out Cs env o) ∨ ((a.val env).as .bool = false ∧ y.out Cs env o)
  | .loop t a b, env, o => ∃ n, chain (fun v : SV => v.as t) (fun x o => b.out Cs (env ++ [⟨t, x⟩]) o) n ((a.val env).as t) o
  | .again d a, env, o => o = .ag d (a.val env)
  | .ret a, env, o => o = .ret (a.val env)

theorem chain_det {α : Type} {as' : SV → α} {R : α → Out → Prop} (hR : ∀ x o1 o2, R x o1 → R x o2 → o1 = o2) : (n m : Nat) → {x : α} → {o1 o2 : Out} → chain as' R n x o1 → chain as' R m x o2 → o1 = o2
  | 0, 0, x, o1, o2, ⟨p, h1, h2⟩, ⟨q, k1, k2⟩ => by
    have := hR _ _ _ h1 k1
    subst this
    rw [h2] at k2
    exact Option.some.inj k2
  | 0, m + 1, x, o1, o2, ⟨p, h1, h2⟩, ⟨v, k1, k2⟩ => by
    have := hR _ _ _ h1 k1
    subst this
    cases h2
  | n + 1, 0, x, o1, o2, ⟨v, k1, k2⟩, ⟨p, h1, h2⟩ => by
    have := hR _ _ _ h1 k1
    subst this
    cases h2
  | n + 1, m + 1, x, o1, o2, ⟨v, h1, h2⟩, ⟨u, k1, k2⟩ => by
    have := hR _ _ _ h1 k1
    simp only [Out.ag.injEq, true_and] at this
    subst this
    exact chain_det hR n m h2 k2

theorem T.out_det (Cs : List Con) : (t : T) → {env : List SV} → {o1 o2 : Out} → t.out Cs env o1 → t.out Cs env o2 → o1 = o2
  | .prim p a k, env, o1, o2, h1, h2 => T.out_det Cs k h1 h2
  | .call c a k, env, o1, o2, h1, h2 => by
    simp only [T.out] at h1 h2
    split at h1
    · exact T.out_det Cs k h1 (by rename_i C hc; rw [hc] at h2; exact h2)
    · exact h1.elim
  | .ite a x y, env, o1, o2, h1, h2 => by
    rcases h1 with ⟨a1, h1⟩ | ⟨a1, h1⟩ <;> rcases h2 with ⟨a2, h2⟩ | ⟨a2, h2⟩
    · exact T.out_det Cs x h1 h2
    · rw [a1] at a2; cases a2
    · rw [a1] at a2; cases a2
    · exact T.out_det Cs y h1 h2
  | .loop t a b, env, o1, o2, ⟨n, h1⟩, ⟨m, h2⟩ => chain_det (as' := fun v : SV => v.as t) (R := fun x o => b.out Cs (env ++ [⟨t, x⟩]) o) (fun x o1 o2 k1 k2 => T.out_det Cs b k1 k2) n m h1 h2
  | .again d a, env, o1, o2, h1, h2 => h1.trans h2.symm
  | .ret a, env, o1, o2, h1, h2 => h1.trans h2.symm

/-- An outcome is as it should be. -/
def Out.sat (L : List (SV → Prop)) (Q : SV → Prop) : Out → Prop
  | .ret v => Q v
  | .ag d v => ∃ I, L[d]? = some I ∧ I v

theorem T.out_of (Cs : List Con) (hC : ∀ (c : Nat) (C : Con), Cs[c]? = some C → ∀ x : C.argTy.D, C.pre x → okD C.argTy x → okD C.resTy (C.fn x)) : (t : T) → t.okB = true → ∀ {env : List SV} {L : List (SV → Prop)} {Q : SV → Prop}, (∀ v ∈ env, v.okv) → t.wp Cs env L Q →
    ∃ o, t.out Cs env o ∧ o.sat L Q ∧ (∀ v, o = .ret v → v.okv) ∧ (∀ d v, o = .ag d v → v.okv)
  | .prim p a k, hb, env, L, Q, he, h => by
    simp only [T.okB, Bool.and_eq_true] at hb
    have ho := prim_okD p hb.1.2 _ (okD_as (Ar.okv he a hb.1.1)) h.1
    refine T.out_of Cs hC k hb.2 (fun v hv => ?_) (h.2 ho)
    rw [List.mem_append, List.mem_singleton] at hv
    rcases hv with hv | rfl
    · exact he v hv
    · exact ho
  | .call c a k, hb, env, L, Q, he, h => by
    simp only [T.okB, Bool.and_eq_true] at hb
    simp only [T.wp] at h
    simp only [T.out]
    split at h
    · rename_i C hc
      have ho := hC c C hc _ h.1 (okD_as (Ar.okv he a hb.1))
      obtain ⟨o, h1, h2⟩ := T.out_of Cs hC k hb.2 (fun v hv => by
        rw [List.mem_append, List.mem_singleton] at hv
        rcases hv with hv | rfl
        · exact he v hv
        · exact ho) (h.2 ho)
      exact ⟨o, by rw [hc]; exact h1, h2⟩
    · exact h.elim
  | .ite a x y, hb, env, L, Q, he, h => by
    simp only [T.okB, Bool.and_eq_true] at hb
    cases hv : (a.val env).as .bool with
    | true =>
      obtain ⟨o, h1, h2⟩ := T.out_of Cs hC x hb.1 he (h.1 hv)
      exact ⟨o, .inl ⟨hv, h1⟩, h2⟩
    | false =>
      obtain ⟨o, h1, h2⟩ := T.out_of Cs hC y hb.2 he (h.2 hv)
      exact ⟨o, .inr ⟨hv, h1⟩, h2⟩
  | .loop t a b, hb, env, L, Q, he, h => by
    simp only [T.okB, Bool.and_eq_true] at hb
    obtain ⟨I, μ, hI, hbody⟩ := h
    have key : ∀ (m : Nat) (x : t.D), μ x = m → okD t x → I x → ∃ o, (∃ n, chain (fun v : SV => v.as t) (fun x o => b.out Cs (env ++ [⟨t, x⟩]) o) n x o) ∧ o.sat L Q ∧ (∀ v, o = .ret v → v.okv) ∧ (∀ d v, o = .ag d v → v.okv) := by
      intro m
      induction m using Nat.strongRecOn with
      | _ m ih =>
        intro x hm hx hIx
        obtain ⟨o, h1, h2, h3, h4⟩ := T.out_of Cs hC b hb.2 (env := env ++ [⟨t, x⟩]) (fun v hv => by
          rw [List.mem_append, List.mem_singleton] at hv
          rcases hv with hv | rfl
          · exact he v hv
          · exact hx) (hbody x hx hIx)
        cases o with
        | ret v => exact ⟨.ret v, ⟨0, _, h1, rfl⟩, h2, h3, fun d u hu => (by cases hu)⟩
        | ag d v =>
          cases d with
          | zero =>
            obtain ⟨J, e, hJ⟩ := h2
            simp only [List.getElem?_cons_zero, Option.some.injEq] at e
            subst e
            obtain ⟨o, ⟨n, k1⟩, k2⟩ := ih _ (by rw [← hm]; exact hJ.2) _ rfl (okD_as (h4 _ _ rfl)) hJ.1
            exact ⟨o, ⟨n + 1, v, h1, k1⟩, k2⟩
          | succ d =>
            obtain ⟨J, e, hJ⟩ := h2
            refine ⟨.ag d v, ⟨0, _, h1, rfl⟩, ⟨J, by simpa using e, hJ⟩, fun u hu => (by cases hu), fun d' u hu => ?_⟩
            cases hu
            exact h4 _ _ rfl
    exact key _ _ rfl (okD_as (Ar.okv he a hb.1)) hI
  | .again d a, hb, env, L, Q, he, h => by
    simp only [T.wp] at h
    split at h
    · rename_i I hI
      refine ⟨.ag d (a.val env), rfl, ⟨I, hI, h⟩, fun v hv => (by cases hv), fun d' v hv => ?_⟩
      cases hv
      exact Ar.okv he a hb
    · exact h.elim
  | .ret a, hb, env, L, Q, he, h => ⟨.ret (a.val env), rfl, h, fun v hv => (by cases hv; exact Ar.okv he a hb), fun d v hv => (by cases hv)⟩

/-- What is told is told: the condition holds of the outcome itself. -/
theorem T.wp_out (Cs : List Con) (hC : ∀ (c : Nat) (C : Con), Cs[c]? = some C → ∀ x : C.argTy.D, C.pre x → okD C.argTy x → okD C.resTy (C.fn x)) : (t : T) → t.okB = true → ∀ {env : List SV} {L L' : List (SV → Prop)} {Q Q' : SV → Prop} {o : Out}, (∀ v ∈ env, v.okv) → t.wp Cs env L Q → t.out Cs env o → o.sat L' Q' → t.wp Cs env L' Q'
  | .prim p a k, hb, env, L, L', Q, Q', o, he, h, ho, hs => by
    simp only [T.okB, Bool.and_eq_true] at hb
    refine ⟨h.1, fun hk => T.wp_out Cs hC k hb.2 (fun v hv => ?_) (h.2 hk) ho hs⟩
    rw [List.mem_append, List.mem_singleton] at hv
    rcases hv with hv | rfl
    · exact he v hv
    · exact hk
  | .call c a k, hb, env, L, L', Q, Q', o, he, h, ho, hs => by
    simp only [T.okB, Bool.and_eq_true] at hb
    simp only [T.wp, T.out] at h ho ⊢
    split at h
    · rename_i C hc
      try rw [hc] at ho
      try rw [hc]
      refine ⟨h.1, fun hk => T.wp_out Cs hC k hb.2 (fun v hv => ?_) (h.2 hk) ho hs⟩
      rw [List.mem_append, List.mem_singleton] at hv
      rcases hv with hv | rfl
      · exact he v hv
      · exact hk
    · exact h.elim
  | .ite a x y, hb, env, L, L', Q, Q', o, he, h, ho, hs => by
    simp only [T.okB, Bool.and_eq_true] at hb
    rcases ho with ⟨a1, ho⟩ | ⟨a1, ho⟩
    · exact ⟨fun hv => T.wp_out Cs hC x hb.1 he (h.1 hv) ho hs, fun hv => (by rw [a1] at hv; cases hv)⟩
    · exact ⟨fun hv => (by rw [a1] at hv; cases hv), fun hv => T.wp_out Cs hC y hb.2 he (h.2 hv) ho hs⟩
  | .loop t a b, hb, env, L, L', Q, Q', o, he, h, ⟨n, ho⟩, hs => by
    simp only [T.okB, Bool.and_eq_true] at hb
    obtain ⟨I, μ, hI, hbody⟩ := h
    refine ⟨fun x => I x ∧ ∃ n, chain (fun v : SV => v.as t) (fun x o => b.out Cs (env ++ [⟨t, x⟩]) o) n x o, μ, ⟨hI, n, ho⟩, fun x hx ⟨hIx, n, hch⟩ => ?_⟩
    have hex : ∀ v ∈ env ++ [⟨t, x⟩], v.okv := fun v hv => by
      rw [List.mem_append, List.mem_singleton] at hv
      rcases hv with hv | rfl
      · exact he v hv
      · exact hx
    cases n with
    | zero =>
      obtain ⟨o', h1, h2⟩ := hch
      refine T.wp_out Cs hC b hb.2 hex (hbody x hx hIx) h1 ?_
      cases o' with
      | ret v => simp only [Out.pop, Option.some.injEq] at h2; subst h2; exact hs
      | ag d v =>
        cases d with
        | zero => cases h2
        | succ d =>
          simp only [Out.pop, Option.some.injEq] at h2
          subst h2
          obtain ⟨J, e, hJ⟩ := hs
          exact ⟨J, by simpa using e, hJ⟩
    | succ n =>
      obtain ⟨v, h1, h2⟩ := hch
      refine T.wp_out Cs hC b hb.2 hex (hbody x hx hIx) h1 ?_
      obtain ⟨o', k1, k2, _⟩ := T.out_of Cs hC b hb.2 hex (hbody x hx hIx)
      have := T.out_det Cs b h1 k1
      subst this
      obtain ⟨J, e, hJ⟩ := k2
      simp only [List.getElem?_cons_zero, Option.some.injEq] at e
      subst e
      exact ⟨_, rfl, ⟨hJ.1, n, h2⟩, hJ.2⟩
  | .again d a, hb, env, L, L', Q, Q', o, he, h, ho, hs => by
    subst ho
    obtain ⟨J, e, hJ⟩ := hs
    simp only [T.wp, e]
    exact hJ
  | .ret a, hb, env, L, L', Q, Q', o, he, h, ho, hs => by
    subst ho
    exact hs

section
variable {P : Program} {Cs : List Con} {wr : Bool}
theorem exFn_okB {C : Con} {fuel : Nat} {orc : Orc} {T' : T} (h : exFn P Cs C wr fuel orc = .ok T') : T'.okB = true := by
  unfold exFn at h
  simp only at h
  split at h
  · split at h
    · split at h
      · split at h
        · split at h
          · rename_i hok
            simp only [Except.ok.injEq] at h
            subst h
            exact hok
          · cases h
        · cases h
      · cases h
    · cases h
  · cases h

/-- A CONTRACT BY WHAT HOLDS OF THE ANSWER: there is a function that tells it. -/
theorem rel_ok (hm : P.follows .mixedOrders = true) {C : Con} {fuel : Nat} {orc : Orc} {T' : T} (hC : ∀ (c : Nat) (C : Con), Cs[c]? = some C → Con.Holds P C) (h : ∀ f : C.argTy.D → C.resTy.D, exFn P Cs { C with fn := f } wr fuel orc = .ok T') (post : C.argTy.D → C.resTy.D → Prop)
    (hw : ∀ x : C.argTy.D, okD C.argTy x → C.pre x → T'.wp Cs [⟨C.argTy, x⟩] [] fun v => post x (v.as C.resTy)) :
    ∃ f : C.argTy.D → C.resTy.D, (∀ x, okD C.argTy x → C.pre x → post x (f x)) ∧ Con.Holds P { C with fn := f } := by
  have hok := exFn_okB (h C.fn)
  have hC2 : ∀ (c : Nat) (C : Con), Cs[c]? = some C → ∀ x : C.argTy.D, C.pre x → okD C.argTy x → okD C.resTy (C.fn x) := fun c C hc => (hC c C hc).ok
  have hex : ∀ x : C.argTy.D, ∃ y : C.resTy.D, okD C.argTy x → C.pre x → post x y ∧ T'.wp Cs [⟨C.argTy, x⟩] [] fun v => v.as C.resTy = y := fun x => by
    by_cases hx : okD C.argTy x ∧ C.pre x
    · have hev : ∀ v ∈ ([⟨C.argTy, x⟩] : List SV), v.okv := fun v hv => by
        rw [List.mem_singleton] at hv
        subst hv; exact hx.1
      obtain ⟨o, h1, h2, _⟩ := T.out_of Cs hC2 T' hok hev (hw x hx.1 hx.2)
      cases o with
      | ret v => exact ⟨v.as C.resTy, fun _ _ => ⟨h2, T.wp_out Cs hC2 T' hok hev (hw x hx.1 hx.2) h1 rfl⟩⟩
      | ag d v => obtain ⟨J, e, _⟩ := h2; simp at e
    · exact ⟨zeroD _, fun h1 h2 => absurd ⟨h1, h2⟩ hx⟩
  refine ⟨fun x => (hex x).choose, fun x h1 h2 => ((hex x).choose_spec h1 h2).1, ?_⟩
  refine tree_ok (C := { C with fn := fun x => (hex x).choose }) hm hC (h _) fun x h1 h2 => ((hex x).choose_spec h1 h2).2
end
end Go.Proofs.YtllphmcjocidaaaGreatDoor

