/- Law4: trees, and what they say. -/
import Derived.Test.YtllphmcjocidaaaGreatDoorDec4
namespace Go.Proofs.YtllphmcjocidaaaGreatDoor
open Go.ChangeShapes Go.WideShapes Go.ChangeAt Go.RowKit Go.Deep
set_option linter.unusedVariables false
set_option linter.unusedSimpArgs false
/-- How many values of a list of operations there are. -/
def szOps (l : List OpD) : Nat := l.length + (l.map fun o => o.2.2.2.length).sum
theorem sum_mem : (l : List Nat) → ∀ x ∈ l, x ≤ l.sum
  | [], x, h => by simp at h
  | y :: l, x, h => by
    rw [List.sum_cons]
    rcases List.mem_cons.1 h with rfl | h
    · omega
    · have := sum_mem l x h; omega
theorem szOps_le {l : List OpD} {n : Nat} (h : szOps l ≤ n) : l.length ≤ n ∧ ∀ o ∈ l, o.2.2.2.length ≤ n := by
  unfold szOps at h
  refine ⟨by omega, fun o ho => ?_⟩
  have := sum_mem (l.map fun o => o.2.2.2.length) o.2.2.2.length (List.mem_map.2 ⟨o, ho, rfl⟩)
  omega
/-- What is left behind the first k operations. -/
def lfOps (l : List OpD) (k : Nat) : Nat := l.length + ((l.take k).map fun o => o.2.2.2.length).sum
theorem lfOps_0 (l : List OpD) : lfOps l 0 = l.length := rfl
theorem lfOps_next {l : List OpD} {k : Nat} (h : k < l.length) : lfOps l (k + 1) = lfOps l k + l[k].2.2.2.length := by
  unfold lfOps
  rw [takeN h, List.map_append, List.sum_append]
  simp; omega
theorem lfOps_all (l : List OpD) : lfOps l l.length = szOps l := by unfold lfOps szOps; rw [List.take_length]
theorem sum_takeN (l : List Nat) (k : Nat) : (l.take k).sum ≤ l.sum := by
  have : l.sum = (l.take k).sum + (l.drop k).sum := by rw [← List.sum_append, List.take_append_drop]
  omega
theorem lfOps_le (l : List OpD) (k : Nat) : lfOps l k ≤ szOps l := by
  unfold lfOps szOps
  have := sum_takeN (l.map fun o => o.2.2.2.length) k
  rw [← List.map_take] at this
  omega

/-! laws.eqIntS -/

noncomputable def c_w_eqIntS : Con := ⟨81, tPair, .bool, [.val ⟨false, tInts, []⟩, .val ⟨false, tInts, []⟩], [⟨false, .bool, [0]⟩], false, none,
  ((fun x => x.1 = x.2) : (PairD) → Prop),
  ((fun _ => true) : (PairD) → (Bool))⟩
def t_w_eqIntS : T :=
  .prim (.llen 3 tI) (.p1 tInts tInts (.vr 0)) <|
  .prim (.llen 3 tI) (prA tPair 1 (.vr 0)) <|
  .prim (.cmp .neq .i64) (.mk2 tI tI (.vr 1) (.vr 2)) <|
  .ite (.vr 3) (
   .ret (.cb false)) (
   .loop tI (.ci .i64 0) <|
    .prim (.llen 3 tI) (.p1 tInts tInts (.vr 0)) <|
    .prim (.cmp .lss .i64) (.mk2 tI tI (.vr 4) (.vr 5)) <|
    .ite (.vr 6) (
     .prim (.lidx 3 tI) (.mk2 tInts tI (.p1 tInts tInts (.vr 0)) (.vr 4)) <|
     .prim (.lidx 3 tI) (.mk2 tInts tI (prA tPair 1 (.vr 0)) (.vr 4)) <|
     .prim (.cmp .neq .i64) (.mk2 tI tI (.vr 7) (.vr 8)) <|
     .ite (.vr 9) (
      .ret (.cb false)) (
      .prim (.ar .add .i64) (.mk2 tI tI (.vr 4) (.ci .i64 1)) <|
      .again 0 (.vr 10))) (
     .ret (.cb true)))
set_option maxRecDepth 100000 in
theorem e_w_eqIntS : exFn Tryz.prog [] c_w_eqIntS false 3000 ⟨[(2988, 2004, drd 10 6 ++ [.tm 5 0])], []⟩ = .ok t_w_eqIntS := by kernel_rfl
/- loops: Int -/
theorem v_w_eqIntS (x : PairD) (hx : okD tPair x) (hp : (fun x => x.1 = x.2) x) : t_w_eqIntS.wp [] [⟨tPair, x⟩] [] (fun v => v.as .bool = (fun _ => true) x) := by
  obtain ⟨a, b⟩ := x
  obtain rfl : a = b := hp
  have hl := len_max (show List.length a ≤ maxLen from hx.1.1)
  delta t_w_eqIntS; refine vcx ?_; try with_reducible exact True.intro
  (refine dcx ?_; try with_reducible exact True.intro)
  refine fun _ _ => ⟨fun h => absurd trivial h, fun _ => loopF (fun k => (k : Int)) a.length rfl fun I μ k hk _ go => ?_⟩
  try dsimp only
  (refine dcx ?_; try with_reducible exact True.intro)
  refine fun _ => ⟨fun hlt => ?_, fun hge => trivial⟩
  have hk' : k < a.length := by omega
  (repeat' first | intro _ | (refine go2 _ ?_ ?_ ?_) | (refine go2 _ ?_ ?_) | (refine go _ ?_ ?_ ?_) | (refine go _ ?_ ?_) | (with_reducible apply And.intro))
  all_goals first | omega | rfl | trivial | (exfalso; simp_all; done) | skip
theorem h_w_eqIntS : Con.Holds Tryz.prog c_w_eqIntS := tree_ok mixedP consNil e_w_eqIntS fun x hx hp => v_w_eqIntS x hx hp

/-! laws.eqOp -/

noncomputable def c_w_eqOp : Con := ⟨57, (.pair tOp tOp), .bool, [.val ⟨true, tOp, []⟩, .val ⟨true, tOp, []⟩], [⟨false, .bool, [0]⟩], false, none,
  ((fun x => x.1 = x.2) : (OpD × OpD) → Prop),
  ((fun _ => true) : (OpD × OpD) → (Bool))⟩
def t_w_eqOp : T :=
  .prim (.cmp .neq .i64) (.mk2 tI tI (.p1 tI (.pair tI tItem) (.p1 tOp tOp (.vr 0))) (pjA (.pair tOp tOp) 1 (.vr 0))) <|
  .ite (.vr 1) (
   .ret (.cb false)) (
   .prim (.cmp .neq .i64) (.mk2 tI tI (pjA tOp 1 (.p1 tOp tOp (.vr 0))) (pjA (.pair tOp tOp) 2 (.vr 0))) <|
   .ite (.vr 2) (
    .ret (.cb false)) (
    .prim (.cmp .neq .i64) (.mk2 tI tI (pjA tOp 2 (.p1 tOp tOp (.vr 0))) (pjA (.pair tOp tOp) 3 (.vr 0))) <|
    .ite (.vr 3) (
     .ret (.cb false)) (
     .call 0 (.mk2 tInts tInts (prA tOp 3 (.p1 tOp tOp (.vr 0))) (prA (.pair tOp tOp) 4 (.vr 0))) <|
     .prim .not (.vr 4) <|
     .ite (.vr 5) (
      .ret (.cb false)) (
      .ret (.cb true)))))
set_option maxRecDepth 100000 in
theorem e_w_eqOp : exFn Tryz.prog [c_w_eqIntS] c_w_eqOp false 3000 ⟨[], []⟩ = .ok t_w_eqOp := by kernel_rfl
theorem v_w_eqOp (x : OpD × OpD) (hx : okD (.pair tOp tOp) x) (hp : (fun x => x.1 = x.2) x) : t_w_eqOp.wp [c_w_eqIntS] [⟨(.pair tOp tOp), x⟩] [] (fun v => v.as .bool = (fun _ => true) x) := by
  obtain ⟨a, b⟩ := x
  obtain rfl : a = b := hp
  delta t_w_eqOp c_w_eqIntS; refine vcx ?_; try with_reducible exact True.intro
  simp
theorem h_w_eqOp : Con.Holds Tryz.prog c_w_eqOp := tree_ok mixedP (consAt h_w_eqIntS consNil) e_w_eqOp fun x hx hp => v_w_eqOp x hx hp
end Go.Proofs.YtllphmcjocidaaaGreatDoor
