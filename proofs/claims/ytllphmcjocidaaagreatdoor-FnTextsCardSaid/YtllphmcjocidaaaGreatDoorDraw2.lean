/- Draw2: trees, and what they say. -/
import Derived.Test.YtllphmcjocidaaaGreatDoorDraw1
namespace Go.Proofs.YtllphmcjocidaaaGreatDoor
open Go.ChangeShapes Go.WideShapes Go.ChangeAt Go.RowKit Go.Deep
set_option linter.unusedVariables false
set_option linter.unusedSimpArgs false
theorem nd_t (L N : Nat) : Int.tdiv (L : Int) (N : Int) = ((L / N : Nat) : Int) := by
  rw [Int.tdiv_eq_ediv_of_nonneg (by omega)]; rfl
theorem nd_m (L N : Nat) : Int.tmod (L : Int) (N : Int) = ((L % N : Nat) : Int) := by
  rw [Int.tmod_eq_emod_of_nonneg (by omega)]; rfl
theorem pk2 {α β : Type} {k : Nat} {a a' : α} {b b' : β} (h : a = a') (h' : b = b') : ((k : Int) + 1, a, b) = (((k + 1 : Nat) : Int), a', b') := by subst h; subst h'; exact pk rfl
/-- Where a share begins. -/
def offS (q r : Nat) : Nat → Nat
  | 0 => 0
  | i + 1 => offS q r i + q + (if i < r then 1 else 0)
theorem offS_lin (q r : Nat) : (i : Nat) → offS q r i = i * q + min i r
  | 0 => by simp [offS]
  | i + 1 => by
    rw [offS, offS_lin q r i, Nat.succ_mul]
    split <;> omega
theorem offS_mono (q r : Nat) {i j : Nat} (h : i ≤ j) : offS q r i ≤ offS q r j := by
  induction j with
  | zero => have : i = 0 := by omega
            subst this; exact Nat.le_refl _
  | succ j ih =>
    rcases Nat.lt_or_eq_of_le h with h | rfl
    · have := ih (by omega)
      rw [offS]; omega
    · exact Nat.le_refl _
theorem offS_end {L N : Nat} (h : 1 ≤ N) : offS (L / N) (L % N) N = L := by
  rw [offS_lin]
  have h1 := Nat.div_add_mod L N
  have h2 := Nat.mod_lt L (show 0 < N by omega)
  omega
theorem offS_le {L N i : Nat} (h : 1 ≤ N) (hi : i ≤ N) : offS (L / N) (L % N) i ≤ L := by
  have := offS_mono (L / N) (L % N) hi
  rw [offS_end h] at this
  exact this
/-- A share. -/
def segS (l : List PairD) (N i : Nat) : List PairD := (l.take (offS (l.length / N) (l.length % N) (i + 1))).drop (offS (l.length / N) (l.length % N) i)
theorem segS_len {l : List PairD} {N i : Nat} (h : 1 ≤ N) (hi : i < N) : (segS l N i).length = l.length / N + (if i < l.length % N then 1 else 0) := by
  have h1 := offS_le (L := l.length) (N := N) (i := i + 1) h hi
  unfold segS
  rw [List.length_drop, List.length_take, Nat.min_eq_left h1, offS]
  generalize l.length / N = q
  omega
theorem segS_at {l : List PairD} {N i j : Nat} (h : 1 ≤ N) (hi : i < N) (hj : j < (segS l N i).length) : ∃ hk : offS (l.length / N) (l.length % N) i + j < l.length, (segS l N i)[j] = l[offS (l.length / N) (l.length % N) i + j] := by
  have h1 := offS_le (L := l.length) (N := N) (i := i + 1) h hi
  have h2 := segS_len (l := l) h hi
  rw [offS] at h1
  have hk : offS (l.length / N) (l.length % N) i + j < l.length := by omega
  refine ⟨hk, ?_⟩
  have e : (segS l N i)[j]? = l[offS (l.length / N) (l.length % N) i + j]? := by
    unfold segS
    rw [List.getElem?_drop, List.getElem?_take, if_pos (by rw [offS]; omega)]
  rw [List.getElem?_eq_getElem hj, List.getElem?_eq_getElem hk] at e
  exact Option.some.inj e
theorem segS_mem {l : List PairD} {N i : Nat} : ∀ p ∈ segS l N i, p ∈ l := fun p hp => List.mem_of_mem_take (List.mem_of_mem_drop hp)

/-! laws.big -/

noncomputable def c_w_big : Con := ⟨10, (.slice 5 (.int .u8)), .bool, [.val ⟨false, (.slice 5 (.int .u8)), []⟩], [⟨false, .bool, [0]⟩], false, none,
  ((fun _ => True) : (List Int) → Prop),
  ((fun x => decide (1048576 < x.length)) : (List Int) → (Bool))⟩
def t_w_big : T :=
  .prim (.llen 5 (.int .u8)) (.vr 0) <|
  .prim (.cmp .gtr .i64) (.mk2 tI tI (.vr 1) (.ci .i64 1048576)) <|
  .ret (.vr 2)
set_option maxRecDepth 100000 in
theorem e_w_big : exFn Tryz.prog [] c_w_big false 3000 ⟨[], []⟩ = .ok t_w_big := by kernel_rfl
theorem v_w_big (x : List Int) (hx : okD (.slice 5 (.int .u8)) x) (hp : (fun _ => True) x) : t_w_big.wp [] [⟨(.slice 5 (.int .u8)), x⟩] [] (fun v => v.as .bool = (fun x => decide (1048576 < x.length)) x) := by
  delta t_w_big; refine vcx ?_; try with_reducible exact True.intro
  (refine dcx ?_; try with_reducible exact True.intro)
  intro _
  rw [decide_eq_decide]; omega
theorem h_w_big : Con.Holds Tryz.prog c_w_big := tree_ok mixedP consNil e_w_big fun x hx hp => v_w_big x hx hp
end Go.Proofs.YtllphmcjocidaaaGreatDoor
