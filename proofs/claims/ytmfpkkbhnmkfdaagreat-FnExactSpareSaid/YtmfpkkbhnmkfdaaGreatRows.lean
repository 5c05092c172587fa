/-
  No cell of these rows narrows 'for every input' (looked for: loops, veiled, ifaces, maps, wideKeys, modest, calm, conditions, laid).
  DERIVED. THE GIVEN ROWS OF THIS SEAT. 8 by the template 'for every input the law returns true; each argument reads behind the call as it read before'; 0 by the template 'total and deterministic' (their statements: YtmfpkkbhnmkfdaaGreatTotals.lean).
  GIVEN WITH THE SEED: the statements are not yours to turn. If you find one false, say at which input.
  Laid BY PROGRAM, IN A SANDBOX (cutbox-rows.mjs): the forced cells as the released guide's own fill.sh prints them over the translation 772a7bd695cc121f… (all of the seat's roots in one cut). By AI agents, Wed Nov 11 2026. No macro, syntax, notation, axiom, sorry.
-/
import Derived.Test.YtmfpkkbhnmkfdaaGreatChecked
import GoSem.Claim
import GoSem.ClaimJoined
import GoSem.ClaimMapViews
import Derived.JoinedTies
import Derived.KernelRfl
namespace Go.Proofs.YtmfpkkbhnmkfdaaGreat
/- THE CELL 'sum', in the pinned program and in every row, IS THE sha256 OF THE DUMP (.gsa) THAT YtmfpkkbhnmkfdaaGreatProg.lean LOADS. Nothing in Lean hashes anything: it is a label: what it is worth is what the hold of that sum in a sandbox is worth. -/
noncomputable def Tryz.pinned : Pinned := { name := "ytmfpkkbhnmkfdaagreat", sum := "772a7bd695cc121f215d72d1dbafcb27ff82624dd3a5cb5144e78d29a6becbeb", checked := Tryz.checked }
namespace Rows
def none {H : Type} : Left H := { results := [], args := [] }

/-- 'laws.FnExactTraceOf': WHATEVER THE INPUT: true; the input reads as it did. -/
def fnExactTraceOfSpec : ChangeSpec := { name := "fnExactTraceOf", fn := fun _ => fun
  | [d1, d2] => { results := [.lit (.bool true)], args := [d1, d2] }
  | _ => none }
def fnExactTraceOfRow : OpenClaim := { program := "ytmfpkkbhnmkfdaagreat", sum := "772a7bd695cc121f215d72d1dbafcb27ff82624dd3a5cb5144e78d29a6becbeb", func := "loop.example/g01407/laws.FnExactTraceOf", spec := "fnExactTraceOf", apart := false }
def FnExactTraceOfSaid : Prop := fnExactTraceOfRow.holds Tryz.pinned (OpenSpec.ofChange fnExactTraceOfSpec)

/-- ITS FALSE NEIGHBOUR: 'it returns false'. Refute it at one input. -/
def fnExactTraceOfWrong : ChangeSpec := { name := "fnExactTraceOf", fn := fun _ => fun
  | [d1, d2] => { results := [.lit (.bool false)], args := [d1, d2] }
  | _ => none }
def FnExactTraceOfWrongFalsely : Prop := fnExactTraceOfRow.holds Tryz.pinned (OpenSpec.ofChange fnExactTraceOfWrong)

/-- 'laws.FnExactOver': WHATEVER THE INPUT: true; the input reads as it did. -/
def fnExactOverSpec : ChangeSpec := { name := "fnExactOver", fn := fun _ => fun
  | [d1, d2, d3] => { results := [.lit (.bool true)], args := [d1, d2, d3] }
  | _ => none }
def fnExactOverRow : OpenClaim := { program := "ytmfpkkbhnmkfdaagreat", sum := "772a7bd695cc121f215d72d1dbafcb27ff82624dd3a5cb5144e78d29a6becbeb", func := "loop.example/g01407/laws.FnExactOver", spec := "fnExactOver", apart := false }
def FnExactOverSaid : Prop := fnExactOverRow.holds Tryz.pinned (OpenSpec.ofChange fnExactOverSpec)

/-- ITS FALSE NEIGHBOUR: 'it returns false'. Refute it at one input. -/
def fnExactOverWrong : ChangeSpec := { name := "fnExactOver", fn := fun _ => fun
  | [d1, d2, d3] => { results := [.lit (.bool false)], args := [d1, d2, d3] }
  | _ => none }
def FnExactOverWrongFalsely : Prop := fnExactOverRow.holds Tryz.pinned (OpenSpec.ofChange fnExactOverWrong)

/-- 'laws.FnExactSimulate': WHATEVER THE INPUT: true; the input reads as it did. -/
def fnExactSimulateSpec : ChangeSpec := { name := "fnExactSimulate", fn := fun _ => fun
  | [d1, d2] => { results := [.lit (.bool true)], args := [d1, d2] }
  | _ => none }
def fnExactSimulateRow : OpenClaim := { program := "ytmfpkkbhnmkfdaagreat", sum := "772a7bd695cc121f215d72d1dbafcb27ff82624dd3a5cb5144e78d29a6becbeb", func := "loop.example/g01407/laws.FnExactSimulate", spec := "fnExactSimulate", apart := false }
def FnExactSimulateSaid : Prop := fnExactSimulateRow.holds Tryz.pinned (OpenSpec.ofChange fnExactSimulateSpec)

/-- ITS FALSE NEIGHBOUR: 'it returns false'. Refute it at one input. -/
def fnExactSimulateWrong : ChangeSpec := { name := "fnExactSimulate", fn := fun _ => fun
  | [d1, d2] => { results := [.lit (.bool false)], args := [d1, d2] }
  | _ => none }
def FnExactSimulateWrongFalsely : Prop := fnExactSimulateRow.holds Tryz.pinned (OpenSpec.ofChange fnExactSimulateWrong)

/-- 'laws.FnExactSpare': WHATEVER THE INPUT: true; the input reads as it did. -/
def fnExactSpareSpec : ChangeSpec := { name := "fnExactSpare", fn := fun _ => fun
  | [d1, d2] => { results := [.lit (.bool true)], args := [d1, d2] }
  | _ => none }
def fnExactSpareRow : OpenClaim := { program := "ytmfpkkbhnmkfdaagreat", sum := "772a7bd695cc121f215d72d1dbafcb27ff82624dd3a5cb5144e78d29a6becbeb", func := "loop.example/g01407/laws.FnExactSpare", spec := "fnExactSpare", apart := false }
def FnExactSpareSaid : Prop := fnExactSpareRow.holds Tryz.pinned (OpenSpec.ofChange fnExactSpareSpec)

/-- ITS FALSE NEIGHBOUR: 'it returns false'. Refute it at one input. -/
def fnExactSpareWrong : ChangeSpec := { name := "fnExactSpare", fn := fun _ => fun
  | [d1, d2] => { results := [.lit (.bool false)], args := [d1, d2] }
  | _ => none }
def FnExactSpareWrongFalsely : Prop := fnExactSpareRow.holds Tryz.pinned (OpenSpec.ofChange fnExactSpareWrong)

/-- 'laws.FnExactLeastPlan': WHATEVER THE INPUT: true; the input reads as it did. -/
def fnExactLeastPlanSpec : ChangeSpec := { name := "fnExactLeastPlan", fn := fun _ => fun
  | [d1, d2] => { results := [.lit (.bool true)], args := [d1, d2] }
  | _ => none }
def fnExactLeastPlanRow : OpenClaim := { program := "ytmfpkkbhnmkfdaagreat", sum := "772a7bd695cc121f215d72d1dbafcb27ff82624dd3a5cb5144e78d29a6becbeb", func := "loop.example/g01407/laws.FnExactLeastPlan", spec := "fnExactLeastPlan", apart := false }
def FnExactLeastPlanSaid : Prop := fnExactLeastPlanRow.holds Tryz.pinned (OpenSpec.ofChange fnExactLeastPlanSpec)

/-- ITS FALSE NEIGHBOUR: 'it returns false'. Refute it at one input. -/
def fnExactLeastPlanWrong : ChangeSpec := { name := "fnExactLeastPlan", fn := fun _ => fun
  | [d1, d2] => { results := [.lit (.bool false)], args := [d1, d2] }
  | _ => none }
def FnExactLeastPlanWrongFalsely : Prop := fnExactLeastPlanRow.holds Tryz.pinned (OpenSpec.ofChange fnExactLeastPlanWrong)

/-- 'laws.FnExactKeepAt': WHATEVER THE INPUT: true; the input reads as it did. -/
def fnExactKeepAtSpec : ChangeSpec := { name := "fnExactKeepAt", fn := fun _ => fun
  | [d1, d2, d3] => { results := [.lit (.bool true)], args := [d1, d2, d3] }
  | _ => none }
def fnExactKeepAtRow : OpenClaim := { program := "ytmfpkkbhnmkfdaagreat", sum := "772a7bd695cc121f215d72d1dbafcb27ff82624dd3a5cb5144e78d29a6becbeb", func := "loop.example/g01407/laws.FnExactKeepAt", spec := "fnExactKeepAt", apart := false }
def FnExactKeepAtSaid : Prop := fnExactKeepAtRow.holds Tryz.pinned (OpenSpec.ofChange fnExactKeepAtSpec)

/-- ITS FALSE NEIGHBOUR: 'it returns false'. Refute it at one input. -/
def fnExactKeepAtWrong : ChangeSpec := { name := "fnExactKeepAt", fn := fun _ => fun
  | [d1, d2, d3] => { results := [.lit (.bool false)], args := [d1, d2, d3] }
  | _ => none }
def FnExactKeepAtWrongFalsely : Prop := fnExactKeepAtRow.holds Tryz.pinned (OpenSpec.ofChange fnExactKeepAtWrong)

/-- 'laws.FnTicks': WHATEVER THE INPUT: true; the input reads as it did. -/
def fnTicksSpec : ChangeSpec := { name := "fnTicks", fn := fun _ => fun
  | [d] => { results := [.lit (.bool true)], args := [d] }
  | _ => none }
def fnTicksRow : OpenClaim := { program := "ytmfpkkbhnmkfdaagreat", sum := "772a7bd695cc121f215d72d1dbafcb27ff82624dd3a5cb5144e78d29a6becbeb", func := "loop.example/g01407/laws.FnTicks", spec := "fnTicks", apart := false }
def FnTicksSaid : Prop := fnTicksRow.holds Tryz.pinned (OpenSpec.ofChange fnTicksSpec)

/-- ITS FALSE NEIGHBOUR: 'it returns false'. Refute it at one input. -/
def fnTicksWrong : ChangeSpec := { name := "fnTicks", fn := fun _ => fun
  | [d] => { results := [.lit (.bool false)], args := [d] }
  | _ => none }
def FnTicksWrongFalsely : Prop := fnTicksRow.holds Tryz.pinned (OpenSpec.ofChange fnTicksWrong)

/-- 'laws.FnQuicker': WHATEVER THE INPUT: true; the input reads as it did. -/
def fnQuickerSpec : ChangeSpec := { name := "fnQuicker", fn := fun _ => fun
  | [d] => { results := [.lit (.bool true)], args := [d] }
  | _ => none }
def fnQuickerRow : OpenClaim := { program := "ytmfpkkbhnmkfdaagreat", sum := "772a7bd695cc121f215d72d1dbafcb27ff82624dd3a5cb5144e78d29a6becbeb", func := "loop.example/g01407/laws.FnQuicker", spec := "fnQuicker", apart := false }
def FnQuickerSaid : Prop := fnQuickerRow.holds Tryz.pinned (OpenSpec.ofChange fnQuickerSpec)

/-- ITS FALSE NEIGHBOUR: 'it returns false'. Refute it at one input. -/
def fnQuickerWrong : ChangeSpec := { name := "fnQuicker", fn := fun _ => fun
  | [d] => { results := [.lit (.bool false)], args := [d] }
  | _ => none }
def FnQuickerWrongFalsely : Prop := fnQuickerRow.holds Tryz.pinned (OpenSpec.ofChange fnQuickerWrong)

/- THE SECOND FORM. 'bulk': how many values and letters a reading holds, each counted each time it is reached (what is shared counts as often as it is met; a slice's spare places count too). A statement '..UptoSaid' is the law's where the arguments, and the package variables that the reading takes, are together of bulk at most 1048576: NARROWER than '..Said'. Prove '..Said' where nothing that the law and all that it calls make is longer than what came in: it says more and counts as full. Else prove '..UptoSaid'. A law counts once. -/
mutual
def uptoBulk {H : Type} : DataW H → Nat
  | .lit (.string bytes) => bytes.length + 1
  | .lit _ => 1
  | .nil => 1
  | .ptr d => uptoBulk d + 1
  | .slice elems spare => uptoBulkAll elems + uptoBulkAll spare + 1
  | .agg parts => uptoBulkAll parts + 1
  | .iface _ d => uptoBulk d + 1
  | .map entries => uptoBulkEntries entries + 1
  | .held _ => 1
def uptoBulkAll {H : Type} : List (DataW H) → Nat
  | [] => 0
  | d :: r => uptoBulk d + uptoBulkAll r
def uptoBulkEntries {H : Type} : List (Lit × DataW H) → Nat
  | [] => 0
  | x :: r => uptoBulkEntry x + uptoBulkEntries r
def uptoBulkEntry {H : Type} : Lit × DataW H → Nat
  | (.string bytes, d) => bytes.length + uptoBulk d + 1
  | (_, d) => uptoBulk d + 1
 end
def uptoSmall : (H : Type) → List (DataW H) → Bool := fun _ ds => decide (uptoBulkAll ds ≤ 1048576)
def OpenSpec.upto (s : _root_.Go.ChangeSpec) : _root_.Go.OpenSpec := { _root_.Go.OpenSpec.ofChange s with cond := some uptoSmall }

/-- 'laws.FnExactTraceOf', WHERE WHAT IT READS IS OF BULK AT MOST 1048576: true; the input reads as it did. -/
def fnExactTraceOfUptoRow : OpenClaim := { program := "ytmfpkkbhnmkfdaagreat", sum := "772a7bd695cc121f215d72d1dbafcb27ff82624dd3a5cb5144e78d29a6becbeb", func := "loop.example/g01407/laws.FnExactTraceOf", spec := "fnExactTraceOf", apart := false, narrowed := true }
def FnExactTraceOfUptoSaid : Prop := fnExactTraceOfUptoRow.holds Tryz.pinned (OpenSpec.upto fnExactTraceOfSpec)

/-- 'laws.FnExactOver', WHERE WHAT IT READS IS OF BULK AT MOST 1048576: true; the input reads as it did. -/
def fnExactOverUptoRow : OpenClaim := { program := "ytmfpkkbhnmkfdaagreat", sum := "772a7bd695cc121f215d72d1dbafcb27ff82624dd3a5cb5144e78d29a6becbeb", func := "loop.example/g01407/laws.FnExactOver", spec := "fnExactOver", apart := false, narrowed := true }
def FnExactOverUptoSaid : Prop := fnExactOverUptoRow.holds Tryz.pinned (OpenSpec.upto fnExactOverSpec)

/-- 'laws.FnExactSimulate', WHERE WHAT IT READS IS OF BULK AT MOST 1048576: true; the input reads as it did. -/
def fnExactSimulateUptoRow : OpenClaim := { program := "ytmfpkkbhnmkfdaagreat", sum := "772a7bd695cc121f215d72d1dbafcb27ff82624dd3a5cb5144e78d29a6becbeb", func := "loop.example/g01407/laws.FnExactSimulate", spec := "fnExactSimulate", apart := false, narrowed := true }
def FnExactSimulateUptoSaid : Prop := fnExactSimulateUptoRow.holds Tryz.pinned (OpenSpec.upto fnExactSimulateSpec)

/-- 'laws.FnExactSpare', WHERE WHAT IT READS IS OF BULK AT MOST 1048576: true; the input reads as it did. -/
def fnExactSpareUptoRow : OpenClaim := { program := "ytmfpkkbhnmkfdaagreat", sum := "772a7bd695cc121f215d72d1dbafcb27ff82624dd3a5cb5144e78d29a6becbeb", func := "loop.example/g01407/laws.FnExactSpare", spec := "fnExactSpare", apart := false, narrowed := true }
def FnExactSpareUptoSaid : Prop := fnExactSpareUptoRow.holds Tryz.pinned (OpenSpec.upto fnExactSpareSpec)

/-- 'laws.FnExactLeastPlan', WHERE WHAT IT READS IS OF BULK AT MOST 1048576: true; the input reads as it did. -/
def fnExactLeastPlanUptoRow : OpenClaim := { program := "ytmfpkkbhnmkfdaagreat", sum := "772a7bd695cc121f215d72d1dbafcb27ff82624dd3a5cb5144e78d29a6becbeb", func := "loop.example/g01407/laws.FnExactLeastPlan", spec := "fnExactLeastPlan", apart := false, narrowed := true }
def FnExactLeastPlanUptoSaid : Prop := fnExactLeastPlanUptoRow.holds Tryz.pinned (OpenSpec.upto fnExactLeastPlanSpec)

/-- 'laws.FnExactKeepAt', WHERE WHAT IT READS IS OF BULK AT MOST 1048576: true; the input reads as it did. -/
def fnExactKeepAtUptoRow : OpenClaim := { program := "ytmfpkkbhnmkfdaagreat", sum := "772a7bd695cc121f215d72d1dbafcb27ff82624dd3a5cb5144e78d29a6becbeb", func := "loop.example/g01407/laws.FnExactKeepAt", spec := "fnExactKeepAt", apart := false, narrowed := true }
def FnExactKeepAtUptoSaid : Prop := fnExactKeepAtUptoRow.holds Tryz.pinned (OpenSpec.upto fnExactKeepAtSpec)

/-- 'laws.FnTicks', WHERE WHAT IT READS IS OF BULK AT MOST 1048576: true; the input reads as it did. -/
def fnTicksUptoRow : OpenClaim := { program := "ytmfpkkbhnmkfdaagreat", sum := "772a7bd695cc121f215d72d1dbafcb27ff82624dd3a5cb5144e78d29a6becbeb", func := "loop.example/g01407/laws.FnTicks", spec := "fnTicks", apart := false, narrowed := true }
def FnTicksUptoSaid : Prop := fnTicksUptoRow.holds Tryz.pinned (OpenSpec.upto fnTicksSpec)

/-- 'laws.FnQuicker', WHERE WHAT IT READS IS OF BULK AT MOST 1048576: true; the input reads as it did. -/
def fnQuickerUptoRow : OpenClaim := { program := "ytmfpkkbhnmkfdaagreat", sum := "772a7bd695cc121f215d72d1dbafcb27ff82624dd3a5cb5144e78d29a6becbeb", func := "loop.example/g01407/laws.FnQuicker", spec := "fnQuicker", apart := false, narrowed := true }
def FnQuickerUptoSaid : Prop := fnQuickerUptoRow.holds Tryz.pinned (OpenSpec.upto fnQuickerSpec)

end Rows
end Go.Proofs.YtmfpkkbhnmkfdaaGreat
