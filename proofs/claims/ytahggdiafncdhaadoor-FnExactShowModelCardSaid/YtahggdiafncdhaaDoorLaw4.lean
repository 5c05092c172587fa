/- Law4: trees, and what they say. -/
import Derived.Test.YtahggdiafncdhaaDoorDec4
namespace Go.Proofs.YtahggdiafncdhaaDoor
open Go.ChangeShapes Go.WideShapes Go.ChangeAt Go.RowKit Go.Deep
set_option linter.unusedVariables false
set_option linter.unusedSimpArgs false
/-- How many values of a list of operations there are. -/
def szOps (l : List OpD) : Nat := l.length + (l.map fun o => o.2.2.2.length).sum
theorem sum_mem : (l : List Nat) → ∀ x ∈ l, x ≤ l.sum
  | [], x, h => by simp at h
  | y :: l, x, h => by
    rw [List.sum_cons]
    rcases List.mem_cons.1 h with rfl | h
    · omega
    · have := sum_mem l x h; omega
theorem szOps_le {l : List OpD} {n : Nat} (h : szOps l ≤ n) : l.length ≤ n ∧ ∀ o ∈ l, o.2.2.2.length ≤ n := by
  unfold szOps at h
  refine ⟨by omega, fun o ho => ?_⟩
  have := sum_mem (l.map fun o => o.2.2.2.length) o.2.2.2.length (List.mem_map.2 ⟨o, ho, rfl⟩)
  omega
/-- What is left behind the first k operations. -/
def lfOps (l : List OpD) (k : Nat) : Nat := l.length + ((l.take k).map fun o => o.2.2.2.length).sum
theorem lfOps_0 (l : List OpD) : lfOps l 0 = l.length := rfl
theorem lfOps_next {l : List OpD} {k : Nat} (h : k < l.length) : lfOps l (k + 1) = lfOps l k + l[k].2.2.2.length := by
  unfold lfOps
  rw [takeN h, List.map_append, List.sum_append]
  simp; omega
theorem lfOps_all (l : List OpD) : lfOps l l.length = szOps l := by unfold lfOps szOps; rw [List.take_length]
theorem sum_takeN (l : List Nat) (k : Nat) : (l.take k).sum ≤ l.sum := by
  have : l.sum = (l.take k).sum + (l.drop k).sum := by rw [← List.sum_append, List.take_append_drop]
  omega
theorem lfOps_le (l : List OpD) (k : Nat) : lfOps l k ≤ szOps l := by
  unfold lfOps szOps
  have := sum_takeN (l.map fun o => o.2.2.2.length) k
  rw [← List.map_take] at this
  omega

/-! laws.szIntS -/

noncomputable def c_w_szIntS : Con := ⟨33, (.pair tInts tI), tI, [.val ⟨false, tInts, []⟩, .val ⟨false, tI, []⟩], [⟨false, tI, [0]⟩], false, none,
  ((fun x => 0 ≤ x.2 ∧ x.2 ≤ 1048576) : (IntsD × Int) → Prop),
  ((fun x => if (x.1.length : Int) ≤ x.2 then x.2 - (x.1.length : Int) else -1) : (IntsD × Int) → (Int))⟩
def t_w_szIntS : T :=
  .prim (.llen 3 tI) (.p1 tInts tI (.vr 0)) <|
  .prim (.ar .sub .i64) (.mk2 tI tI (prA (.pair tInts tI) 1 (.vr 0)) (.vr 1)) <|
  .prim (.cmp .lss .i64) (.mk2 tI tI (.vr 2) (.ci .i64 0)) <|
  .ite (.vr 3) (
   .ret (.ci .i64 (-1))) (
   .ret (.vr 2))
set_option maxRecDepth 100000 in
theorem e_w_szIntS : exFn Tryd.prog [] c_w_szIntS false 3000 ⟨[], []⟩ = .ok t_w_szIntS := by kernel_rfl
theorem v_w_szIntS (x : IntsD × Int) (hx : okD (.pair tInts tI) x) (hp : (fun x => 0 ≤ x.2 ∧ x.2 ≤ 1048576) x) : t_w_szIntS.wp [] [⟨(.pair tInts tI), x⟩] [] (fun v => v.as tI = (fun x => if (x.1.length : Int) ≤ x.2 then x.2 - (x.1.length : Int) else -1) x) := by
  obtain ⟨l, n⟩ := x
  obtain ⟨h1, h2⟩ : 0 ≤ n ∧ n ≤ 1048576 := hp
  have hl := len_max (show List.length l ≤ maxLen from hx.1.1)
  delta t_w_szIntS; refine vcx ?_; try with_reducible exact True.intro
  (refine dcx ?_; try with_reducible exact True.intro)
  (repeat' first | intro _ | (with_reducible apply And.intro))
  all_goals first | omega | (rw [if_neg (by omega)]) | (rw [if_pos (by omega)])
theorem h_w_szIntS : Con.Holds Tryd.prog c_w_szIntS := tree_ok mixedP consNil e_w_szIntS fun x hx hp => v_w_szIntS x hx hp

/-! laws.toIntS -/

noncomputable def c_w_toIntS : Con := ⟨37, tInts, tInts, [.val ⟨false, tInts, []⟩], [⟨false, tInts, [2]⟩], false, none,
  ((fun x => x.length ≤ 1048576) : (List Int) → Prop),
  ((fun x => x) : (List Int) → (List Int))⟩
def t_w_toIntS : T :=
  .prim (.llen 3 tI) (.vr 0) <|
  .prim (.rep 3 tI 8) (.vr 1) <|
  .loop tItem (.mk2 tI tInts (.ci .i64 0) (.vr 2)) <|
   .prim (.llen 3 tI) (.vr 0) <|
   .prim (.cmp .lss .i64) (.mk2 tI tI (.p1 tI tInts (.vr 3)) (.vr 4)) <|
   .ite (.vr 5) (
    .prim (.lidx 3 tI) (.mk2 tInts tI (.vr 0) (.p1 tI tInts (.vr 3))) <|
    .prim (.lidx 3 tI) (.mk2 tInts tI (prA tItem 1 (.vr 3)) (.p1 tI tInts (.vr 3))) <|
    .prim (.lset 3 tI) (mkA (.pair tInts tIns) [(prA tItem 1 (.vr 3)), (.p1 tI tInts (.vr 3)), (.vr 6)]) <|
    .prim (.ar .add .i64) (.mk2 tI tI (.p1 tI tInts (.vr 3)) (.ci .i64 1)) <|
    .again 0 (.mk2 tI tInts (.vr 9) (.vr 8))) (
    .ret (prA tItem 1 (.vr 3)))
set_option maxRecDepth 100000 in
theorem e_w_toIntS : exFn Tryd.prog [] c_w_toIntS false 3000 ⟨[(2991, 1003, drd 7 5 ++ [.tm 4 0, .sl 1])], []⟩ = .ok t_w_toIntS := by kernel_rfl
/- loops: (Int) × (List (Int)) -/
theorem v_w_toIntS (x : List Int) (hx : okD tInts x) (hp : (fun x => x.length ≤ 1048576) x) : t_w_toIntS.wp [] [⟨tInts, x⟩] [] (fun v => v.as tInts = (fun x => x) x) := by
  have hpl : x.length ≤ 1048576 := hp
  delta t_w_toIntS; refine vcx ?_; try with_reducible exact True.intro
  (refine dcx ?_; try with_reducible exact True.intro)
  refine fun _ => ⟨by unfold repC; exact ⟨by omega, by omega, by omega⟩, fun _ => loopF (fun k => ((k : Int), x.take k ++ List.replicate (x.length - k) (0 : Int))) x.length rfl fun I μ k hk _ go => ?_⟩
  try dsimp only
  (refine dcx ?_; try with_reducible exact True.intro)
  have hl : (x.take k).length + (List.replicate (x.length - k) (0 : Int)).length = x.length := by rw [List.length_take, List.length_replicate]; omega
  refine fun _ => ⟨fun hlt => ?_, fun hge => ?_⟩
  · have hk' : k < x.length := by omega
    rw [getD_at hk']
    (repeat' first | intro _ | (refine go2 _ ?_ ?_ ?_) | (refine go2 _ ?_ ?_) | (refine go _ ?_ ?_ ?_) | (refine go _ ?_ ?_) | (with_reducible apply And.intro))
    all_goals first | omega | exact pk (set_next hk')
  · have : k = x.length := by omega
    subst this
    rw [Nat.sub_self, List.replicate_zero, List.append_nil, List.take_length]
theorem h_w_toIntS : Con.Holds Tryd.prog c_w_toIntS := tree_ok mixedP consNil e_w_toIntS fun x hx hp => v_w_toIntS x hx hp

/-! laws.eqIntS -/

noncomputable def c_w_eqIntS : Con := ⟨41, tPair, .bool, [.val ⟨false, tInts, []⟩, .val ⟨false, tInts, []⟩], [⟨false, .bool, [0]⟩], false, none,
  ((fun x => x.1 = x.2) : (PairD) → Prop),
  ((fun _ => true) : (PairD) → (Bool))⟩
def t_w_eqIntS : T :=
  .prim (.llen 3 tI) (.p1 tInts tInts (.vr 0)) <|
  .prim (.llen 3 tI) (prA tPair 1 (.vr 0)) <|
  .prim (.cmp .neq .i64) (.mk2 tI tI (.vr 1) (.vr 2)) <|
  .ite (.vr 3) (
   .ret (.cb false)) (
   .loop tI (.ci .i64 0) <|
    .prim (.llen 3 tI) (.p1 tInts tInts (.vr 0)) <|
    .prim (.cmp .lss .i64) (.mk2 tI tI (.vr 4) (.vr 5)) <|
    .ite (.vr 6) (
     .prim (.lidx 3 tI) (.mk2 tInts tI (.p1 tInts tInts (.vr 0)) (.vr 4)) <|
     .prim (.lidx 3 tI) (.mk2 tInts tI (prA tPair 1 (.vr 0)) (.vr 4)) <|
     .prim (.cmp .neq .i64) (.mk2 tI tI (.vr 7) (.vr 8)) <|
     .ite (.vr 9) (
      .ret (.cb false)) (
      .prim (.ar .add .i64) (.mk2 tI tI (.vr 4) (.ci .i64 1)) <|
      .again 0 (.vr 10))) (
     .ret (.cb true)))
set_option maxRecDepth 100000 in
theorem e_w_eqIntS : exFn Tryd.prog [] c_w_eqIntS false 3000 ⟨[(2988, 2004, drd 10 6 ++ [.tm 5 0])], []⟩ = .ok t_w_eqIntS := by kernel_rfl
/- loops: Int -/
theorem v_w_eqIntS (x : PairD) (hx : okD tPair x) (hp : (fun x => x.1 = x.2) x) : t_w_eqIntS.wp [] [⟨tPair, x⟩] [] (fun v => v.as .bool = (fun _ => true) x) := by
  obtain ⟨a, b⟩ := x
  obtain rfl : a = b := hp
  have hl := len_max (show List.length a ≤ maxLen from hx.1.1)
  delta t_w_eqIntS; refine vcx ?_; try with_reducible exact True.intro
  (refine dcx ?_; try with_reducible exact True.intro)
  refine fun _ _ => ⟨fun h => absurd trivial h, fun _ => loopF (fun k => (k : Int)) a.length rfl fun I μ k hk _ go => ?_⟩
  try dsimp only
  (refine dcx ?_; try with_reducible exact True.intro)
  refine fun _ => ⟨fun hlt => ?_, fun hge => trivial⟩
  have hk' : k < a.length := by omega
  (repeat' first | intro _ | (refine go2 _ ?_ ?_ ?_) | (refine go2 _ ?_ ?_) | (refine go _ ?_ ?_ ?_) | (refine go _ ?_ ?_) | (with_reducible apply And.intro))
  all_goals first | omega | rfl | trivial | (exfalso; simp_all; done) | skip
theorem h_w_eqIntS : Con.Holds Tryd.prog c_w_eqIntS := tree_ok mixedP consNil e_w_eqIntS fun x hx hp => v_w_eqIntS x hx hp

/-! laws.szOp -/

noncomputable def c_w_szOp : Con := ⟨12, (.pair tOp tI), tI, [.val ⟨true, tOp, []⟩, .val ⟨false, tI, []⟩], [⟨false, tI, [0]⟩], false, none,
  ((fun x => 0 ≤ x.2 ∧ x.2 ≤ 1048576) : (OpD × Int) → Prop),
  ((fun x => if (x.1.2.2.2.length : Int) ≤ x.2 then x.2 - (x.1.2.2.2.length : Int) else -1) : (OpD × Int) → (Int))⟩
def t_w_szOp : T :=
  .call 0 (.mk2 tInts tI (prA tOp 3 (.p1 tOp tI (.vr 0))) (prA (.pair tOp tI) 1 (.vr 0))) <|
  .prim (.cmp .lss .i64) (.mk2 tI tI (.vr 1) (.ci .i64 0)) <|
  .ite (.vr 2) (
   .ret (.ci .i64 (-1))) (
   .ret (.vr 1))
set_option maxRecDepth 100000 in
theorem e_w_szOp : exFn Tryd.prog [c_w_szIntS] c_w_szOp false 3000 ⟨[], []⟩ = .ok t_w_szOp := by kernel_rfl
theorem v_w_szOp (x : OpD × Int) (hx : okD (.pair tOp tI) x) (hp : (fun x => 0 ≤ x.2 ∧ x.2 ≤ 1048576) x) : t_w_szOp.wp [c_w_szIntS] [⟨(.pair tOp tI), x⟩] [] (fun v => v.as tI = (fun x => if (x.1.2.2.2.length : Int) ≤ x.2 then x.2 - (x.1.2.2.2.length : Int) else -1) x) := by
  obtain ⟨o, n⟩ := x
  obtain ⟨h1, h2⟩ : 0 ≤ n ∧ n ≤ 1048576 := hp
  delta t_w_szOp c_w_szIntS; refine vcx ?_; try with_reducible exact True.intro
  (refine dcx ?_; try with_reducible exact True.intro)
  by_cases h : (o.2.2.2.length : Int) ≤ n
  · rw [if_pos h]
    (repeat' first | intro _ | (with_reducible apply And.intro))
    all_goals first | omega | trivial | rfl
  · rw [if_neg h]
    (repeat' first | intro _ | (with_reducible apply And.intro))
    all_goals first | omega | trivial | rfl
theorem h_w_szOp : Con.Holds Tryd.prog c_w_szOp := tree_ok mixedP (consAt h_w_szIntS consNil) e_w_szOp fun x hx hp => v_w_szOp x hx hp

/-! laws.toOp -/

noncomputable def c_w_toOp : Con := ⟨14, tOp, tOp, [.val ⟨true, tOp, []⟩], [⟨true, tOp, [0, 0, 0, 2]⟩], false, none,
  ((fun x => x.2.2.2.length ≤ 1048576) : (OpD) → Prop),
  ((fun x => x) : (OpD) → (OpD))⟩
def t_w_toOp : T :=
  .call 0 (prA tOp 3 (.vr 0)) <|
  .ret (mkA tOp [(.p1 tI (.pair tI tItem) (.vr 0)), (pjA tOp 1 (.vr 0)), (pjA tOp 2 (.vr 0)), (.vr 1)])
set_option maxRecDepth 100000 in
theorem e_w_toOp : exFn Tryd.prog [c_w_toIntS] c_w_toOp false 3000 ⟨[], []⟩ = .ok t_w_toOp := by kernel_rfl
theorem v_w_toOp (x : OpD) (hx : okD tOp x) (hp : (fun x => x.2.2.2.length ≤ 1048576) x) : t_w_toOp.wp [c_w_toIntS] [⟨tOp, x⟩] [] (fun v => v.as tOp = (fun x => x) x) := by
  have hpl : x.2.2.2.length ≤ 1048576 := hp
  delta t_w_toOp c_w_toIntS; refine vcx ?_; try with_reducible exact True.intro
  exact ⟨hpl, fun _ => trivial⟩
theorem h_w_toOp : Con.Holds Tryd.prog c_w_toOp := tree_ok mixedP (consAt h_w_toIntS consNil) e_w_toOp fun x hx hp => v_w_toOp x hx hp

/-! laws.eqOp -/

noncomputable def c_w_eqOp : Con := ⟨16, (.pair tOp tOp), .bool, [.val ⟨true, tOp, []⟩, .val ⟨true, tOp, []⟩], [⟨false, .bool, [0]⟩], false, none,
  ((fun x => x.1 = x.2) : (OpD × OpD) → Prop),
  ((fun _ => true) : (OpD × OpD) → (Bool))⟩
def t_w_eqOp : T :=
  .prim (.cmp .neq .i64) (.mk2 tI tI (.p1 tI (.pair tI tItem) (.p1 tOp tOp (.vr 0))) (pjA (.pair tOp tOp) 1 (.vr 0))) <|
  .ite (.vr 1) (
   .ret (.cb false)) (
   .prim (.cmp .neq .i64) (.mk2 tI tI (pjA tOp 1 (.p1 tOp tOp (.vr 0))) (pjA (.pair tOp tOp) 2 (.vr 0))) <|
   .ite (.vr 2) (
    .ret (.cb false)) (
    .prim (.cmp .neq .i64) (.mk2 tI tI (pjA tOp 2 (.p1 tOp tOp (.vr 0))) (pjA (.pair tOp tOp) 3 (.vr 0))) <|
    .ite (.vr 3) (
     .ret (.cb false)) (
     .call 0 (.mk2 tInts tInts (prA tOp 3 (.p1 tOp tOp (.vr 0))) (prA (.pair tOp tOp) 4 (.vr 0))) <|
     .prim .not (.vr 4) <|
     .ite (.vr 5) (
      .ret (.cb false)) (
      .ret (.cb true)))))
set_option maxRecDepth 100000 in
theorem e_w_eqOp : exFn Tryd.prog [c_w_eqIntS] c_w_eqOp false 3000 ⟨[], []⟩ = .ok t_w_eqOp := by kernel_rfl
theorem v_w_eqOp (x : OpD × OpD) (hx : okD (.pair tOp tOp) x) (hp : (fun x => x.1 = x.2) x) : t_w_eqOp.wp [c_w_eqIntS] [⟨(.pair tOp tOp), x⟩] [] (fun v => v.as .bool = (fun _ => true) x) := by
  obtain ⟨a, b⟩ := x
  obtain rfl : a = b := hp
  delta t_w_eqOp c_w_eqIntS; refine vcx ?_; try with_reducible exact True.intro
  simp
theorem h_w_eqOp : Con.Holds Tryd.prog c_w_eqOp := tree_ok mixedP (consAt h_w_eqIntS consNil) e_w_eqOp fun x hx hp => v_w_eqOp x hx hp

/-! laws.FnExactShowOp -/

noncomputable def c_w_FnExactShowOp : Con := ⟨4, tOp, .bool, [.val ⟨true, tOp, []⟩], [⟨false, .bool, [0]⟩], false, none,
  ((fun _ => True) : (OpD) → Prop),
  ((fun _ => true) : (OpD) → (Bool))⟩
def t_w_FnExactShowOp : T :=
  .call 0 (.mk2 tOp tI (.vr 0) (.ci .i64 1048576)) <|
  .prim (.cmp .lss .i64) (.mk2 tI tI (.vr 1) (.ci .i64 0)) <|
  .ite (.vr 2) (
   .ret (.cb true)) (
   .call 1 (.vr 0) <|
   .call 2 (.vr 3) <|
   .call 1 (.vr 0) <|
   .call 3 (.vr 5) <|
   .prim (.seq true) (.mk2 .str .str (.vr 6) (.vr 4)) <|
   .ite (.vr 7) (
    .ret (.cb false)) (
    .call 1 (.vr 0) <|
    .call 4 (.mk2 tOp tOp (.vr 5) (.vr 8)) <|
    .prim .not (.vr 9) <|
    .ite (.vr 10) (
     .ret (.cb false)) (
     .ret (.cb true))))
set_option maxRecDepth 100000 in
theorem e_w_FnExactShowOp : exFn Tryd.prog [c_w_szOp, c_w_toOp, c_s_ShowOp, c_i_ShowOp, c_w_eqOp] c_w_FnExactShowOp false 3000 ⟨[], []⟩ = .ok t_w_FnExactShowOp := by kernel_rfl
theorem v_w_FnExactShowOp (x : OpD) (hx : okD tOp x) (hp : (fun _ => True) x) : t_w_FnExactShowOp.wp [c_w_szOp, c_w_toOp, c_s_ShowOp, c_i_ShowOp, c_w_eqOp] [⟨tOp, x⟩] [] (fun v => v.as .bool = (fun _ => true) x) := by
  delta t_w_FnExactShowOp c_w_szOp c_w_toOp c_s_ShowOp c_i_ShowOp c_w_eqOp; refine vcx ?_; try with_reducible exact True.intro
  (refine dcx ?_; try with_reducible exact True.intro)
  refine ⟨by omega, fun _ => ⟨fun _ => trivial, fun h => ?_⟩⟩
  have hl : x.2.2.2.length ≤ 1048576 := by
    by_cases h2 : (x.2.2.2.length : Int) ≤ 1048576
    · omega
    · rw [if_neg h2] at h; omega
  (repeat' first | intro _ | (with_reducible apply And.intro))
  all_goals first | exact hl | rfl | trivial | (exfalso; simp_all; done) | skip
theorem h_w_FnExactShowOp : Con.Holds Tryd.prog c_w_FnExactShowOp := tree_ok mixedP (consAt h_w_szOp (consAt h_w_toOp (consAt h_s_ShowOp (consAt h_i_ShowOp (consAt h_w_eqOp consNil))))) e_w_FnExactShowOp fun x hx hp => v_w_FnExactShowOp x hx hp
end Go.Proofs.YtahggdiafncdhaaDoor
