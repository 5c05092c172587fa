/- Gr2: trees, and what they say. -/
import Derived.Test.YtepjkojfjdcegaaFix2
namespace Go.Proofs.Ytepjkojfjdcegaa
open Go.ChangeShapes Go.WideShapes Go.ChangeAt Go.RowKit Go.Deep
set_option linter.unusedVariables false
set_option linter.unusedSimpArgs false
def zipV (a b : List Int) : List Int := List.zipWith (fun x y => (fixAdd x y).1) a b
def zipF (a b : List Int) : Bool := (a.zip b).any fun p => (fixAdd p.1 p.2).2
def addRows (a b : List (List Int)) : List (List Int) := List.zipWith zipV a b
def addRowsF (a b : List (List Int)) : Bool := (a.zip b).any fun p => zipF p.1 p.2
def addGrads (a b : GradsD) : GradsD := (addRows a.1 b.1, ((fixAdd a.2.1 b.2.1).1, a.2.2 || b.2.2 || addRowsF a.1 b.1 || (fixAdd a.2.1 b.2.1).2))
def GradsB (g : GradsD) : Prop := g.1.length ≤ 1000000000 ∧ ∀ r ∈ g.1, r.length ≤ 1000000000
def zipFk (a b : List Int) (k : Nat) : Bool := ((a.zip b).take k).any fun p => (fixAdd p.1 p.2).2
def addFk (a b : List (List Int)) (k : Nat) : Bool := ((a.zip b).take k).any fun p => zipF p.1 p.2
noncomputable def c_s_l2Sat : Con := ⟨88, tI, (.pair tI .bool), [.val ⟨false, tI, []⟩], [⟨false, tI, [0]⟩, ⟨false, .bool, [0]⟩], false, none,
  ((fun _ => True) : (Int) → Prop),
  ((fun x => satI x) : (Int) → (Int × Bool))⟩
def t_s_l2Sat : T :=
  .prim (.cmp .gtr .i64) (.mk2 tI tI (.vr 0) (.ci .i64 2147483647)) <|
  .ite (.vr 1) (
   .ret (.mk2 tI .bool (.ci .i64 2147483647) (.cb true))) (
   .prim (.cmp .lss .i64) (.mk2 tI tI (.vr 0) (.ci .i64 (-2147483647))) <|
   .ite (.vr 2) (
    .ret (.mk2 tI .bool (.ci .i64 (-2147483647)) (.cb true))) (
    .ret (.mk2 tI .bool (.vr 0) (.cb false))))
noncomputable def c_s_l2In : Con := ⟨90, tI, tI, [.val ⟨false, tI, []⟩], [⟨false, tI, [0]⟩], false, none,
  ((fun _ => True) : (Int) → Prop),
  ((fun x => clampI x) : (Int) → (Int))⟩
def t_s_l2In : T :=
  .call 0 (.vr 0) <|
  .ret (.p1 tI .bool (.vr 1))
noncomputable def c_s_FixAdd : Con := ⟨61, tIns, (.pair tI .bool), [.val ⟨false, tI, []⟩, .val ⟨false, tI, []⟩], [⟨false, tI, [0]⟩, ⟨false, .bool, [0]⟩], false, none,
  ((fun _ => True) : (Int × Int) → Prop),
  ((fun x => fixAdd x.1 x.2) : (Int × Int) → (Int × Bool))⟩
def t_s_FixAdd : T :=
  .call 0 (.p1 tI tI (.vr 0)) <|
  .call 0 (prA tIns 1 (.vr 0)) <|
  .prim (.ar .add .i64) (.mk2 tI tI (.vr 1) (.vr 2)) <|
  .call 1 (.vr 3) <|
  .ret (.vr 4)
noncomputable def c_s_l11Rows : Con := ⟨59, tRows, tRows, [.val ⟨false, tRows, []⟩], [⟨false, tRows, [2]⟩], false, none,
  ((fun x => List.length x ≤ 1000000000 ∧ ∀ y ∈ x, List.length y ≤ 1000000000) : (RowsD) → Prop),
  ((fun x => x) : (RowsD) → (RowsD))⟩
def t_s_l11Rows : T :=
  .loop tSaved (.mk2 tI tRows (.ci .i64 0) (.nl 90 tInts)) <|
   .prim (.llen 90 tInts) (.vr 0) <|
   .prim (.cmp .lss .i64) (.mk2 tI tI (.p1 tI tRows (.vr 1)) (.vr 2)) <|
   .ite (.vr 3) (
    .prim (.lidx 90 tInts) (.mk2 tRows tI (.vr 0) (.p1 tI tRows (.vr 1))) <|
    .prim (.lapp 3 tI 8) (.mk2 tInts tInts (.nl 3 tI) (.vr 4)) <|
    .prim (.lit 90 tInts 1) (.vr 5) <|
    .prim (.lapp 90 tInts 24) (.mk2 tRows tRows (prA tSaved 1 (.vr 1)) (.vr 6)) <|
    .prim (.ar .add .i64) (.mk2 tI tI (.p1 tI tRows (.vr 1)) (.ci .i64 1)) <|
    .again 0 (.mk2 tI tRows (.vr 8) (.vr 7))) (
    .ret (prA tSaved 1 (.vr 1)))
noncomputable def c_s_l1In : Con := ⟨87, (.pair tI tIns), .bool, [.val ⟨false, tI, []⟩, .val ⟨false, tI, []⟩, .val ⟨false, tI, []⟩], [⟨false, .bool, [0]⟩], false, none,
  ((fun _ => True) : (Int × InsD) → Prop),
  ((fun x => decide (x.2.1 ≤ x.1) && decide (x.1 ≤ x.2.2)) : (Int × InsD) → (Bool))⟩
def t_s_l1In : T :=
  .prim (.cmp .geq .i64) (.mk2 tI tI (.p1 tI tIns (.vr 0)) (pjA (.pair tI tIns) 1 (.vr 0))) <|
  .ite (.vr 1) (
   .prim (.cmp .leq .i64) (.mk2 tI tI (.p1 tI tIns (.vr 0)) (prA (.pair tI tIns) 2 (.vr 0))) <|
   .ret (.vr 2)) (
   .ret (.cb false))
set_option maxRecDepth 100000 in
theorem e_s_l1In : exFn Try.prog [] c_s_l1In false 3000 ⟨[], []⟩ = .ok t_s_l1In := by kernel_rfl
theorem v_s_l1In (x : Int × InsD) (hx : okD (.pair tI tIns) x) (hp : (fun _ => True) x) : t_s_l1In.wp [] [⟨(.pair tI tIns), x⟩] [] (fun v => v.as .bool = (fun x => decide (x.2.1 ≤ x.1) && decide (x.1 ≤ x.2.2)) x) := by
  delta t_s_l1In; refine vcx ?_; try with_reducible exact True.intro
  (refine dcx ?_; try with_reducible exact True.intro)
  constructor
  · intro h; simp [h]
  · intro h
    have : ¬ x.2.1 ≤ x.1 := by omega
    simp [this]
theorem h_s_l1In : Con.Holds Try.prog c_s_l1In := tree_ok mixedP consNil e_s_l1In fun x hx hp => v_s_l1In x hx hp
end Go.Proofs.Ytepjkojfjdcegaa
