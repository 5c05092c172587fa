/- Gr2: trees, and what they say. -/
import Derived.Test.YtllphmcjocidaaaGreatDoorFix2
namespace Go.Proofs.YtllphmcjocidaaaGreatDoor
open Go.ChangeShapes Go.WideShapes Go.ChangeAt Go.RowKit Go.Deep
set_option linter.unusedVariables false
set_option linter.unusedSimpArgs false
def zipV (a b : List Int) : List Int := List.zipWith (fun x y => (fixAdd x y).1) a b
def zipF (a b : List Int) : Bool := (a.zip b).any fun p => (fixAdd p.1 p.2).2
def addRows (a b : List (List Int)) : List (List Int) := List.zipWith zipV a b
def addRowsF (a b : List (List Int)) : Bool := (a.zip b).any fun p => zipF p.1 p.2

def addGrads (a b : GradsD) : GradsD := (addRows a.1 b.1, ((fixAdd a.2.1 b.2.1).1, a.2.2 || b.2.2 || addRowsF a.1 b.1 || (fixAdd a.2.1 b.2.1).2))
theorem zw_len {α β γ : Type} (f : α → β → γ) (a : List α) (b : List β) : (List.zipWith f a b).length = min a.length b.length := List.length_zipWith
theorem zw_next {α β γ : Type} (f : α → β → γ) (a : List α) (b : List β) {k : Nat} (h1 : k < a.length) (h2 : k < b.length) : (List.zipWith f a b).take k ++ [f a[k] b[k]] = (List.zipWith f a b).take (k + 1) := by
  have h : k < (List.zipWith f a b).length := by rw [zw_len]; omega
  rw [List.take_succ_eq_append_getElem h, List.getElem_zipWith]
theorem zw_all {α β γ : Type} (f : α → β → γ) (a : List α) (b : List β) {k : Nat} (h : min a.length b.length ≤ k) : (List.zipWith f a b).take k = List.zipWith f a b := List.take_of_length_le (by rw [zw_len]; exact h)
theorem za_next {α β : Type} (F : α × β → Bool) (a : List α) (b : List β) {k : Nat} (h1 : k < a.length) (h2 : k < b.length) : ((a.zip b).take (k + 1)).any F = (((a.zip b).take k).any F || F (a[k], b[k])) := by
  have h : k < (a.zip b).length := by rw [List.length_zip]; omega
  rw [List.take_succ_eq_append_getElem h, List.any_append]
  simp
theorem za_all {α β : Type} (a : List α) (b : List β) {k : Nat} (h : min a.length b.length ≤ k) : (a.zip b).take k = a.zip b := List.take_of_length_le (by rw [List.length_zip]; exact h)
def GradsB (g : GradsD) : Prop := g.1.length ≤ 1000000000 ∧ ∀ r ∈ g.1, r.length ≤ 1000000000
theorem take_ge {α : Type} {l : List α} {k : Nat} (h : l.length ≤ k) : l.take k = l := List.take_of_length_le h
theorem addRows_len (a b : List (List Int)) : (addRows a b).length = min a.length b.length := List.length_zipWith
theorem zipV_len (a b : List Int) : (zipV a b).length = min a.length b.length := List.length_zipWith
theorem zipV_next (a b : List Int) {k : Nat} (h1 : k < a.length) (h2 : k < b.length) : (zipV a b).take k ++ [(fixAdd a[k] b[k]).1] = (zipV a b).take (k + 1) := zw_next _ a b h1 h2
theorem addRows_next (a b : List (List Int)) {k : Nat} (h1 : k < a.length) (h2 : k < b.length) : (addRows a b).take k ++ [zipV a[k] b[k]] = (addRows a b).take (k + 1) := zw_next _ a b h1 h2
def zipFk (a b : List Int) (k : Nat) : Bool := ((a.zip b).take k).any fun p => (fixAdd p.1 p.2).2
def addFk (a b : List (List Int)) (k : Nat) : Bool := ((a.zip b).take k).any fun p => zipF p.1 p.2
theorem zipFk_next (a b : List Int) {k : Nat} (h1 : k < a.length) (h2 : k < b.length) : zipFk a b (k + 1) = (zipFk a b k || (fixAdd a[k] b[k]).2) := za_next _ a b h1 h2
theorem addFk_next (a b : List (List Int)) {k : Nat} (h1 : k < a.length) (h2 : k < b.length) : addFk a b (k + 1) = (addFk a b k || zipF a[k] b[k]) := za_next _ a b h1 h2
theorem zipFk_all (a b : List Int) {k : Nat} (h : min a.length b.length ≤ k) : zipFk a b k = zipF a b := by unfold zipFk zipF; rw [za_all a b h]
theorem addFk_all (a b : List (List Int)) {k : Nat} (h : min a.length b.length ≤ k) : addFk a b k = addRowsF a b := by unfold addFk addRowsF; rw [za_all a b h]

/-! spec.l1In -/

noncomputable def c_s_l1In : Con := ⟨48, (.pair tI tIns), .bool, [.val ⟨false, tI, []⟩, .val ⟨false, tI, []⟩, .val ⟨false, tI, []⟩], [⟨false, .bool, [0]⟩], false, none,
  ((fun _ => True) : (Int × InsD) → Prop),
  ((fun x => decide (x.2.1 ≤ x.1) && decide (x.1 ≤ x.2.2)) : (Int × InsD) → (Bool))⟩
def t_s_l1In : T :=
  .prim (.cmp .geq .i64) (.mk2 tI tI (.p1 tI tIns (.vr 0)) (pjA (.pair tI tIns) 1 (.vr 0))) <|
  .ite (.vr 1) (
   .prim (.cmp .leq .i64) (.mk2 tI tI (.p1 tI tIns (.vr 0)) (prA (.pair tI tIns) 2 (.vr 0))) <|
   .ret (.vr 2)) (
   .ret (.cb false))
set_option maxRecDepth 100000 in
theorem e_s_l1In : exFn Tryz.prog [] c_s_l1In false 3000 ⟨[], []⟩ = .ok t_s_l1In := by kernel_rfl
theorem v_s_l1In (x : Int × InsD) (hx : okD (.pair tI tIns) x) (hp : (fun _ => True) x) : t_s_l1In.wp [] [⟨(.pair tI tIns), x⟩] [] (fun v => v.as .bool = (fun x => decide (x.2.1 ≤ x.1) && decide (x.1 ≤ x.2.2)) x) := by
  delta t_s_l1In; refine vcx ?_; try with_reducible exact True.intro
  (refine dcx ?_; try with_reducible exact True.intro)
  constructor
  · intro h; simp [h]
  · intro h
    have : ¬ x.2.1 ≤ x.1 := by omega
    simp [this]
theorem h_s_l1In : Con.Holds Tryz.prog c_s_l1In := tree_ok mixedP consNil e_s_l1In fun x hx hp => v_s_l1In x hx hp
end Go.Proofs.YtllphmcjocidaaaGreatDoor
