/-
  No cell of these rows narrows 'for every input' (looked for: loops, veiled, ifaces, maps, wideKeys, modest, calm, conditions, laid).
  DERIVED. THE GIVEN ROWS OF THIS SEAT. 7 by the template 'for every input the law returns true; each argument reads behind the call as it read before'; 0 by the template 'total and deterministic' (their statements: YtahggdiafncdhaaTotals.lean).
  GIVEN WITH THE SEED: the statements are not yours to turn. If you find one false, say at which input.
  Laid BY PROGRAM, IN A SANDBOX (cutbox-rows.mjs): the forced cells as the released guide's own fill.sh prints them over the translation e278c52001af1138… (all of the seat's roots in one cut). By AI agents, Wed Nov 11 2026. No macro, syntax, notation, axiom, sorry.
-/
import Derived.Test.YtahggdiafncdhaaChecked
import GoSem.Claim
import GoSem.ClaimJoined
import GoSem.ClaimMapViews
import Derived.JoinedTies
import Derived.KernelRfl
namespace Go.Proofs.Ytahggdiafncdhaa
/- THE CELL 'sum', in the pinned program and in every row, IS THE sha256 OF THE DUMP (.gsa) THAT YtahggdiafncdhaaProg.lean LOADS. Nothing in Lean hashes anything: it is a label: what it is worth is what the hold of that sum in a sandbox is worth. -/
noncomputable def Try.pinned : Pinned := { name := "ytahggdiafncdhaa", sum := "e278c52001af1138766c0ae36cca795391ebfe2c517c2acbcb98d7b56c9f0be7", checked := Try.checked }
namespace Rows
def none {H : Type} : Left H := { results := [], args := [] }

/-- 'laws.FnShares': WHATEVER THE INPUT: true; the input reads as it did. -/
def fnSharesSpec : ChangeSpec := { name := "fnShares", fn := fun _ => fun
  | [d] => { results := [.lit (.bool true)], args := [d] }
  | _ => none }
def fnSharesRow : OpenClaim := { program := "ytahggdiafncdhaa", sum := "e278c52001af1138766c0ae36cca795391ebfe2c517c2acbcb98d7b56c9f0be7", func := "loop.example/g01407/laws.FnShares", spec := "fnShares", apart := false }
def FnSharesSaid : Prop := fnSharesRow.holds Try.pinned (OpenSpec.ofChange fnSharesSpec)

/-- ITS FALSE NEIGHBOUR: 'it returns false'. Refute it at one input. -/
def fnSharesWrong : ChangeSpec := { name := "fnShares", fn := fun _ => fun
  | [d] => { results := [.lit (.bool false)], args := [d] }
  | _ => none }
def FnSharesWrongFalsely : Prop := fnSharesRow.holds Try.pinned (OpenSpec.ofChange fnSharesWrong)

/-- 'laws.FnClips': WHATEVER THE INPUT: true; the input reads as it did. -/
def fnClipsSpec : ChangeSpec := { name := "fnClips", fn := fun _ => fun
  | [d] => { results := [.lit (.bool true)], args := [d] }
  | _ => none }
def fnClipsRow : OpenClaim := { program := "ytahggdiafncdhaa", sum := "e278c52001af1138766c0ae36cca795391ebfe2c517c2acbcb98d7b56c9f0be7", func := "loop.example/g01407/laws.FnClips", spec := "fnClips", apart := false }
def FnClipsSaid : Prop := fnClipsRow.holds Try.pinned (OpenSpec.ofChange fnClipsSpec)

/-- ITS FALSE NEIGHBOUR: 'it returns false'. Refute it at one input. -/
def fnClipsWrong : ChangeSpec := { name := "fnClips", fn := fun _ => fun
  | [d] => { results := [.lit (.bool false)], args := [d] }
  | _ => none }
def FnClipsWrongFalsely : Prop := fnClipsRow.holds Try.pinned (OpenSpec.ofChange fnClipsWrong)

/-- 'laws.FnAround': WHATEVER THE INPUT: true; the input reads as it did. -/
def fnAroundSpec : ChangeSpec := { name := "fnAround", fn := fun _ => fun
  | [d] => { results := [.lit (.bool true)], args := [d] }
  | _ => none }
def fnAroundRow : OpenClaim := { program := "ytahggdiafncdhaa", sum := "e278c52001af1138766c0ae36cca795391ebfe2c517c2acbcb98d7b56c9f0be7", func := "loop.example/g01407/laws.FnAround", spec := "fnAround", apart := false }
def FnAroundSaid : Prop := fnAroundRow.holds Try.pinned (OpenSpec.ofChange fnAroundSpec)

/-- ITS FALSE NEIGHBOUR: 'it returns false'. Refute it at one input. -/
def fnAroundWrong : ChangeSpec := { name := "fnAround", fn := fun _ => fun
  | [d] => { results := [.lit (.bool false)], args := [d] }
  | _ => none }
def FnAroundWrongFalsely : Prop := fnAroundRow.holds Try.pinned (OpenSpec.ofChange fnAroundWrong)

/-- 'laws.FnRates': WHATEVER THE INPUT: true; the input reads as it did. -/
def fnRatesSpec : ChangeSpec := { name := "fnRates", fn := fun _ => fun
  | [d] => { results := [.lit (.bool true)], args := [d] }
  | _ => none }
def fnRatesRow : OpenClaim := { program := "ytahggdiafncdhaa", sum := "e278c52001af1138766c0ae36cca795391ebfe2c517c2acbcb98d7b56c9f0be7", func := "loop.example/g01407/laws.FnRates", spec := "fnRates", apart := false }
def FnRatesSaid : Prop := fnRatesRow.holds Try.pinned (OpenSpec.ofChange fnRatesSpec)

/-- ITS FALSE NEIGHBOUR: 'it returns false'. Refute it at one input. -/
def fnRatesWrong : ChangeSpec := { name := "fnRates", fn := fun _ => fun
  | [d] => { results := [.lit (.bool false)], args := [d] }
  | _ => none }
def FnRatesWrongFalsely : Prop := fnRatesRow.holds Try.pinned (OpenSpec.ofChange fnRatesWrong)

/-- 'laws.FnExactSwingStep': WHATEVER THE INPUT: true; the input reads as it did. -/
def fnExactSwingStepSpec : ChangeSpec := { name := "fnExactSwingStep", fn := fun _ => fun
  | [d1, d2, d3, d4, d5] => { results := [.lit (.bool true)], args := [d1, d2, d3, d4, d5] }
  | _ => none }
def fnExactSwingStepRow : OpenClaim := { program := "ytahggdiafncdhaa", sum := "e278c52001af1138766c0ae36cca795391ebfe2c517c2acbcb98d7b56c9f0be7", func := "loop.example/g01407/laws.FnExactSwingStep", spec := "fnExactSwingStep", apart := false }
def FnExactSwingStepSaid : Prop := fnExactSwingStepRow.holds Try.pinned (OpenSpec.ofChange fnExactSwingStepSpec)

/-- ITS FALSE NEIGHBOUR: 'it returns false'. Refute it at one input. -/
def fnExactSwingStepWrong : ChangeSpec := { name := "fnExactSwingStep", fn := fun _ => fun
  | [d1, d2, d3, d4, d5] => { results := [.lit (.bool false)], args := [d1, d2, d3, d4, d5] }
  | _ => none }
def FnExactSwingStepWrongFalsely : Prop := fnExactSwingStepRow.holds Try.pinned (OpenSpec.ofChange fnExactSwingStepWrong)

/-- 'laws.FnRight': WHATEVER THE INPUT: true; the input reads as it did. -/
def fnRightSpec : ChangeSpec := { name := "fnRight", fn := fun _ => fun
  | [d] => { results := [.lit (.bool true)], args := [d] }
  | _ => none }
def fnRightRow : OpenClaim := { program := "ytahggdiafncdhaa", sum := "e278c52001af1138766c0ae36cca795391ebfe2c517c2acbcb98d7b56c9f0be7", func := "loop.example/g01407/laws.FnRight", spec := "fnRight", apart := false }
def FnRightSaid : Prop := fnRightRow.holds Try.pinned (OpenSpec.ofChange fnRightSpec)

/-- ITS FALSE NEIGHBOUR: 'it returns false'. Refute it at one input. -/
def fnRightWrong : ChangeSpec := { name := "fnRight", fn := fun _ => fun
  | [d] => { results := [.lit (.bool false)], args := [d] }
  | _ => none }
def FnRightWrongFalsely : Prop := fnRightRow.holds Try.pinned (OpenSpec.ofChange fnRightWrong)

/-- 'laws.FnSwings': WHATEVER THE INPUT: true; the input reads as it did. -/
def fnSwingsSpec : ChangeSpec := { name := "fnSwings", fn := fun _ => fun
  | [d] => { results := [.lit (.bool true)], args := [d] }
  | _ => none }
def fnSwingsRow : OpenClaim := { program := "ytahggdiafncdhaa", sum := "e278c52001af1138766c0ae36cca795391ebfe2c517c2acbcb98d7b56c9f0be7", func := "loop.example/g01407/laws.FnSwings", spec := "fnSwings", apart := false }
def FnSwingsSaid : Prop := fnSwingsRow.holds Try.pinned (OpenSpec.ofChange fnSwingsSpec)

/-- ITS FALSE NEIGHBOUR: 'it returns false'. Refute it at one input. -/
def fnSwingsWrong : ChangeSpec := { name := "fnSwings", fn := fun _ => fun
  | [d] => { results := [.lit (.bool false)], args := [d] }
  | _ => none }
def FnSwingsWrongFalsely : Prop := fnSwingsRow.holds Try.pinned (OpenSpec.ofChange fnSwingsWrong)

/- THE SECOND FORM. 'bulk': how many values and letters a reading holds, each counted each time it is reached (what is shared counts as often as it is met; a slice's spare places count too). A statement '..UptoSaid' is the law's where the arguments, and the package variables that the reading takes, are together of bulk at most 1048576: NARROWER than '..Said'. Prove '..Said' where nothing that the law and all that it calls make is longer than what came in: it says more and counts as full. Else prove '..UptoSaid'. A law counts once. -/
mutual
def uptoBulk {H : Type} : DataW H → Nat
  | .lit (.string bytes) => bytes.length + 1
  | .lit _ => 1
  | .nil => 1
  | .ptr d => uptoBulk d + 1
  | .slice elems spare => uptoBulkAll elems + uptoBulkAll spare + 1
  | .agg parts => uptoBulkAll parts + 1
  | .iface _ d => uptoBulk d + 1
  | .map entries => uptoBulkEntries entries + 1
  | .held _ => 1
def uptoBulkAll {H : Type} : List (DataW H) → Nat
  | [] => 0
  | d :: r => uptoBulk d + uptoBulkAll r
def uptoBulkEntries {H : Type} : List (Lit × DataW H) → Nat
  | [] => 0
  | x :: r => uptoBulkEntry x + uptoBulkEntries r
def uptoBulkEntry {H : Type} : Lit × DataW H → Nat
  | (.string bytes, d) => bytes.length + uptoBulk d + 1
  | (_, d) => uptoBulk d + 1
 end
def uptoSmall : (H : Type) → List (DataW H) → Bool := fun _ ds => decide (uptoBulkAll ds ≤ 1048576)
def OpenSpec.upto (s : _root_.Go.ChangeSpec) : _root_.Go.OpenSpec := { _root_.Go.OpenSpec.ofChange s with cond := some uptoSmall }

/-- 'laws.FnShares', WHERE WHAT IT READS IS OF BULK AT MOST 1048576: true; the input reads as it did. -/
def fnSharesUptoRow : OpenClaim := { program := "ytahggdiafncdhaa", sum := "e278c52001af1138766c0ae36cca795391ebfe2c517c2acbcb98d7b56c9f0be7", func := "loop.example/g01407/laws.FnShares", spec := "fnShares", apart := false, narrowed := true }
def FnSharesUptoSaid : Prop := fnSharesUptoRow.holds Try.pinned (OpenSpec.upto fnSharesSpec)

/-- 'laws.FnClips', WHERE WHAT IT READS IS OF BULK AT MOST 1048576: true; the input reads as it did. -/
def fnClipsUptoRow : OpenClaim := { program := "ytahggdiafncdhaa", sum := "e278c52001af1138766c0ae36cca795391ebfe2c517c2acbcb98d7b56c9f0be7", func := "loop.example/g01407/laws.FnClips", spec := "fnClips", apart := false, narrowed := true }
def FnClipsUptoSaid : Prop := fnClipsUptoRow.holds Try.pinned (OpenSpec.upto fnClipsSpec)

/-- 'laws.FnAround', WHERE WHAT IT READS IS OF BULK AT MOST 1048576: true; the input reads as it did. -/
def fnAroundUptoRow : OpenClaim := { program := "ytahggdiafncdhaa", sum := "e278c52001af1138766c0ae36cca795391ebfe2c517c2acbcb98d7b56c9f0be7", func := "loop.example/g01407/laws.FnAround", spec := "fnAround", apart := false, narrowed := true }
def FnAroundUptoSaid : Prop := fnAroundUptoRow.holds Try.pinned (OpenSpec.upto fnAroundSpec)

/-- 'laws.FnRates', WHERE WHAT IT READS IS OF BULK AT MOST 1048576: true; the input reads as it did. -/
def fnRatesUptoRow : OpenClaim := { program := "ytahggdiafncdhaa", sum := "e278c52001af1138766c0ae36cca795391ebfe2c517c2acbcb98d7b56c9f0be7", func := "loop.example/g01407/laws.FnRates", spec := "fnRates", apart := false, narrowed := true }
def FnRatesUptoSaid : Prop := fnRatesUptoRow.holds Try.pinned (OpenSpec.upto fnRatesSpec)

/-- 'laws.FnExactSwingStep', WHERE WHAT IT READS IS OF BULK AT MOST 1048576: true; the input reads as it did. -/
def fnExactSwingStepUptoRow : OpenClaim := { program := "ytahggdiafncdhaa", sum := "e278c52001af1138766c0ae36cca795391ebfe2c517c2acbcb98d7b56c9f0be7", func := "loop.example/g01407/laws.FnExactSwingStep", spec := "fnExactSwingStep", apart := false, narrowed := true }
def FnExactSwingStepUptoSaid : Prop := fnExactSwingStepUptoRow.holds Try.pinned (OpenSpec.upto fnExactSwingStepSpec)

/-- 'laws.FnRight', WHERE WHAT IT READS IS OF BULK AT MOST 1048576: true; the input reads as it did. -/
def fnRightUptoRow : OpenClaim := { program := "ytahggdiafncdhaa", sum := "e278c52001af1138766c0ae36cca795391ebfe2c517c2acbcb98d7b56c9f0be7", func := "loop.example/g01407/laws.FnRight", spec := "fnRight", apart := false, narrowed := true }
def FnRightUptoSaid : Prop := fnRightUptoRow.holds Try.pinned (OpenSpec.upto fnRightSpec)

/-- 'laws.FnSwings', WHERE WHAT IT READS IS OF BULK AT MOST 1048576: true; the input reads as it did. -/
def fnSwingsUptoRow : OpenClaim := { program := "ytahggdiafncdhaa", sum := "e278c52001af1138766c0ae36cca795391ebfe2c517c2acbcb98d7b56c9f0be7", func := "loop.example/g01407/laws.FnSwings", spec := "fnSwings", apart := false, narrowed := true }
def FnSwingsUptoSaid : Prop := fnSwingsUptoRow.holds Try.pinned (OpenSpec.upto fnSwingsSpec)

end Rows
end Go.Proofs.Ytahggdiafncdhaa
