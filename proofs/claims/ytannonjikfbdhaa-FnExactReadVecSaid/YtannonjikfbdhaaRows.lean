/-
  No cell of these rows narrows 'for every input' (looked for: loops, veiled, ifaces, maps, wideKeys, modest, calm, conditions, laid).
  DERIVED. THE GIVEN ROWS OF THIS SEAT. 8 by the template 'for every input the law returns true; each argument reads behind the call as it read before'; 0 by the template 'total and deterministic' (their statements: YtannonjikfbdhaaTotals.lean).
  GIVEN WITH THE SEED: the statements are not yours to turn. If you find one false, say at which input.
  Laid BY PROGRAM, IN A SANDBOX (cutbox-rows.mjs): the forced cells as the released guide's own fill.sh prints them over the translation 27101a0c71eaae40… (all of the seat's roots in one cut). By AI agents, Wed Nov 11 2026. No macro, syntax, notation, axiom, sorry.
-/
import Derived.Test.YtannonjikfbdhaaChecked
import GoSem.Claim
import GoSem.ClaimJoined
import GoSem.ClaimMapViews
import Derived.JoinedTies
import Derived.KernelRfl
namespace Go.Proofs.Ytannonjikfbdhaa
/- THE CELL 'sum', in the pinned program and in every row, IS THE sha256 OF THE DUMP (.gsa) THAT YtannonjikfbdhaaProg.lean LOADS. Nothing in Lean hashes anything: it is a label: what it is worth is what the hold of that sum in a sandbox is worth. -/
noncomputable def Try.pinned : Pinned := { name := "ytannonjikfbdhaa", sum := "27101a0c71eaae403a138e0ecc629b8333d44b9beb305aa24520076ce5c6de78", checked := Try.checked }
namespace Rows
def none {H : Type} : Left H := { results := [], args := [] }

/-- 'laws.FnExactShowVec': WHATEVER THE INPUT: true; the input reads as it did. -/
def fnExactShowVecSpec : ChangeSpec := { name := "fnExactShowVec", fn := fun _ => fun
  | [d] => { results := [.lit (.bool true)], args := [d] }
  | _ => none }
def fnExactShowVecRow : OpenClaim := { program := "ytannonjikfbdhaa", sum := "27101a0c71eaae403a138e0ecc629b8333d44b9beb305aa24520076ce5c6de78", func := "loop.example/g01407/laws.FnExactShowVec", spec := "fnExactShowVec", apart := false }
def FnExactShowVecSaid : Prop := fnExactShowVecRow.holds Try.pinned (OpenSpec.ofChange fnExactShowVecSpec)

/-- ITS FALSE NEIGHBOUR: 'it returns false'. Refute it at one input. -/
def fnExactShowVecWrong : ChangeSpec := { name := "fnExactShowVec", fn := fun _ => fun
  | [d] => { results := [.lit (.bool false)], args := [d] }
  | _ => none }
def FnExactShowVecWrongFalsely : Prop := fnExactShowVecRow.holds Try.pinned (OpenSpec.ofChange fnExactShowVecWrong)

/-- 'laws.FnExactReadVec': WHATEVER THE INPUT: true; the input reads as it did. -/
def fnExactReadVecSpec : ChangeSpec := { name := "fnExactReadVec", fn := fun _ => fun
  | [d] => { results := [.lit (.bool true)], args := [d] }
  | _ => none }
def fnExactReadVecRow : OpenClaim := { program := "ytannonjikfbdhaa", sum := "27101a0c71eaae403a138e0ecc629b8333d44b9beb305aa24520076ce5c6de78", func := "loop.example/g01407/laws.FnExactReadVec", spec := "fnExactReadVec", apart := false }
def FnExactReadVecSaid : Prop := fnExactReadVecRow.holds Try.pinned (OpenSpec.ofChange fnExactReadVecSpec)

/-- ITS FALSE NEIGHBOUR: 'it returns false'. Refute it at one input. -/
def fnExactReadVecWrong : ChangeSpec := { name := "fnExactReadVec", fn := fun _ => fun
  | [d] => { results := [.lit (.bool false)], args := [d] }
  | _ => none }
def FnExactReadVecWrongFalsely : Prop := fnExactReadVecRow.holds Try.pinned (OpenSpec.ofChange fnExactReadVecWrong)

/-- 'laws.FnExactSwingStep': WHATEVER THE INPUT: true; the input reads as it did. -/
def fnExactSwingStepSpec : ChangeSpec := { name := "fnExactSwingStep", fn := fun _ => fun
  | [d1, d2, d3, d4, d5] => { results := [.lit (.bool true)], args := [d1, d2, d3, d4, d5] }
  | _ => none }
def fnExactSwingStepRow : OpenClaim := { program := "ytannonjikfbdhaa", sum := "27101a0c71eaae403a138e0ecc629b8333d44b9beb305aa24520076ce5c6de78", func := "loop.example/g01407/laws.FnExactSwingStep", spec := "fnExactSwingStep", apart := false }
def FnExactSwingStepSaid : Prop := fnExactSwingStepRow.holds Try.pinned (OpenSpec.ofChange fnExactSwingStepSpec)

/-- ITS FALSE NEIGHBOUR: 'it returns false'. Refute it at one input. -/
def fnExactSwingStepWrong : ChangeSpec := { name := "fnExactSwingStep", fn := fun _ => fun
  | [d1, d2, d3, d4, d5] => { results := [.lit (.bool false)], args := [d1, d2, d3, d4, d5] }
  | _ => none }
def FnExactSwingStepWrongFalsely : Prop := fnExactSwingStepRow.holds Try.pinned (OpenSpec.ofChange fnExactSwingStepWrong)

/-- 'laws.FnExactSamePipe': WHATEVER THE INPUT: true; the input reads as it did. -/
def fnExactSamePipeSpec : ChangeSpec := { name := "fnExactSamePipe", fn := fun _ => fun
  | [d1, d2] => { results := [.lit (.bool true)], args := [d1, d2] }
  | _ => none }
def fnExactSamePipeRow : OpenClaim := { program := "ytannonjikfbdhaa", sum := "27101a0c71eaae403a138e0ecc629b8333d44b9beb305aa24520076ce5c6de78", func := "loop.example/g01407/laws.FnExactSamePipe", spec := "fnExactSamePipe", apart := false }
def FnExactSamePipeSaid : Prop := fnExactSamePipeRow.holds Try.pinned (OpenSpec.ofChange fnExactSamePipeSpec)

/-- ITS FALSE NEIGHBOUR: 'it returns false'. Refute it at one input. -/
def fnExactSamePipeWrong : ChangeSpec := { name := "fnExactSamePipe", fn := fun _ => fun
  | [d1, d2] => { results := [.lit (.bool false)], args := [d1, d2] }
  | _ => none }
def FnExactSamePipeWrongFalsely : Prop := fnExactSamePipeRow.holds Try.pinned (OpenSpec.ofChange fnExactSamePipeWrong)

/-- 'laws.FnExactShowStage': WHATEVER THE INPUT: true; the input reads as it did. -/
def fnExactShowStageSpec : ChangeSpec := { name := "fnExactShowStage", fn := fun _ => fun
  | [d] => { results := [.lit (.bool true)], args := [d] }
  | _ => none }
def fnExactShowStageRow : OpenClaim := { program := "ytannonjikfbdhaa", sum := "27101a0c71eaae403a138e0ecc629b8333d44b9beb305aa24520076ce5c6de78", func := "loop.example/g01407/laws.FnExactShowStage", spec := "fnExactShowStage", apart := false }
def FnExactShowStageSaid : Prop := fnExactShowStageRow.holds Try.pinned (OpenSpec.ofChange fnExactShowStageSpec)

/-- ITS FALSE NEIGHBOUR: 'it returns false'. Refute it at one input. -/
def fnExactShowStageWrong : ChangeSpec := { name := "fnExactShowStage", fn := fun _ => fun
  | [d] => { results := [.lit (.bool false)], args := [d] }
  | _ => none }
def FnExactShowStageWrongFalsely : Prop := fnExactShowStageRow.holds Try.pinned (OpenSpec.ofChange fnExactShowStageWrong)

/-- 'laws.FnExactReadStage': WHATEVER THE INPUT: true; the input reads as it did. -/
def fnExactReadStageSpec : ChangeSpec := { name := "fnExactReadStage", fn := fun _ => fun
  | [d] => { results := [.lit (.bool true)], args := [d] }
  | _ => none }
def fnExactReadStageRow : OpenClaim := { program := "ytannonjikfbdhaa", sum := "27101a0c71eaae403a138e0ecc629b8333d44b9beb305aa24520076ce5c6de78", func := "loop.example/g01407/laws.FnExactReadStage", spec := "fnExactReadStage", apart := false }
def FnExactReadStageSaid : Prop := fnExactReadStageRow.holds Try.pinned (OpenSpec.ofChange fnExactReadStageSpec)

/-- ITS FALSE NEIGHBOUR: 'it returns false'. Refute it at one input. -/
def fnExactReadStageWrong : ChangeSpec := { name := "fnExactReadStage", fn := fun _ => fun
  | [d] => { results := [.lit (.bool false)], args := [d] }
  | _ => none }
def FnExactReadStageWrongFalsely : Prop := fnExactReadStageRow.holds Try.pinned (OpenSpec.ofChange fnExactReadStageWrong)

/-- 'laws.FnShares': WHATEVER THE INPUT: true; the input reads as it did. -/
def fnSharesSpec : ChangeSpec := { name := "fnShares", fn := fun _ => fun
  | [d] => { results := [.lit (.bool true)], args := [d] }
  | _ => none }
def fnSharesRow : OpenClaim := { program := "ytannonjikfbdhaa", sum := "27101a0c71eaae403a138e0ecc629b8333d44b9beb305aa24520076ce5c6de78", func := "loop.example/g01407/laws.FnShares", spec := "fnShares", apart := false }
def FnSharesSaid : Prop := fnSharesRow.holds Try.pinned (OpenSpec.ofChange fnSharesSpec)

/-- ITS FALSE NEIGHBOUR: 'it returns false'. Refute it at one input. -/
def fnSharesWrong : ChangeSpec := { name := "fnShares", fn := fun _ => fun
  | [d] => { results := [.lit (.bool false)], args := [d] }
  | _ => none }
def FnSharesWrongFalsely : Prop := fnSharesRow.holds Try.pinned (OpenSpec.ofChange fnSharesWrong)

/-- 'laws.FnRight': WHATEVER THE INPUT: true; the input reads as it did. -/
def fnRightSpec : ChangeSpec := { name := "fnRight", fn := fun _ => fun
  | [d] => { results := [.lit (.bool true)], args := [d] }
  | _ => none }
def fnRightRow : OpenClaim := { program := "ytannonjikfbdhaa", sum := "27101a0c71eaae403a138e0ecc629b8333d44b9beb305aa24520076ce5c6de78", func := "loop.example/g01407/laws.FnRight", spec := "fnRight", apart := false }
def FnRightSaid : Prop := fnRightRow.holds Try.pinned (OpenSpec.ofChange fnRightSpec)

/-- ITS FALSE NEIGHBOUR: 'it returns false'. Refute it at one input. -/
def fnRightWrong : ChangeSpec := { name := "fnRight", fn := fun _ => fun
  | [d] => { results := [.lit (.bool false)], args := [d] }
  | _ => none }
def FnRightWrongFalsely : Prop := fnRightRow.holds Try.pinned (OpenSpec.ofChange fnRightWrong)

/- THE SECOND FORM. 'bulk': how many values and letters a reading holds, each counted each time it is reached (what is shared counts as often as it is met; a slice's spare places count too). A statement '..UptoSaid' is the law's where the arguments, and the package variables that the reading takes, are together of bulk at most 1048576: NARROWER than '..Said'. Prove '..Said' where nothing that the law and all that it calls make is longer than what came in: it says more and counts as full. Else prove '..UptoSaid'. A law counts once. -/
mutual
def uptoBulk {H : Type} : DataW H → Nat
  | .lit (.string bytes) => bytes.length + 1
  | .lit _ => 1
  | .nil => 1
  | .ptr d => uptoBulk d + 1
  | .slice elems spare => uptoBulkAll elems + uptoBulkAll spare + 1
  | .agg parts => uptoBulkAll parts + 1
  | .iface _ d => uptoBulk d + 1
  | .map entries => uptoBulkEntries entries + 1
  | .held _ => 1
def uptoBulkAll {H : Type} : List (DataW H) → Nat
  | [] => 0
  | d :: r => uptoBulk d + uptoBulkAll r
def uptoBulkEntries {H : Type} : List (Lit × DataW H) → Nat
  | [] => 0
  | x :: r => uptoBulkEntry x + uptoBulkEntries r
def uptoBulkEntry {H : Type} : Lit × DataW H → Nat
  | (.string bytes, d) => bytes.length + uptoBulk d + 1
  | (_, d) => uptoBulk d + 1
 end
def uptoSmall : (H : Type) → List (DataW H) → Bool := fun _ ds => decide (uptoBulkAll ds ≤ 1048576)
def OpenSpec.upto (s : _root_.Go.ChangeSpec) : _root_.Go.OpenSpec := { _root_.Go.OpenSpec.ofChange s with cond := some uptoSmall }

/-- 'laws.FnExactShowVec', WHERE WHAT IT READS IS OF BULK AT MOST 1048576: true; the input reads as it did. -/
def fnExactShowVecUptoRow : OpenClaim := { program := "ytannonjikfbdhaa", sum := "27101a0c71eaae403a138e0ecc629b8333d44b9beb305aa24520076ce5c6de78", func := "loop.example/g01407/laws.FnExactShowVec", spec := "fnExactShowVec", apart := false, narrowed := true }
def FnExactShowVecUptoSaid : Prop := fnExactShowVecUptoRow.holds Try.pinned (OpenSpec.upto fnExactShowVecSpec)

/-- 'laws.FnExactReadVec', WHERE WHAT IT READS IS OF BULK AT MOST 1048576: true; the input reads as it did. -/
def fnExactReadVecUptoRow : OpenClaim := { program := "ytannonjikfbdhaa", sum := "27101a0c71eaae403a138e0ecc629b8333d44b9beb305aa24520076ce5c6de78", func := "loop.example/g01407/laws.FnExactReadVec", spec := "fnExactReadVec", apart := false, narrowed := true }
def FnExactReadVecUptoSaid : Prop := fnExactReadVecUptoRow.holds Try.pinned (OpenSpec.upto fnExactReadVecSpec)

/-- 'laws.FnExactSwingStep', WHERE WHAT IT READS IS OF BULK AT MOST 1048576: true; the input reads as it did. -/
def fnExactSwingStepUptoRow : OpenClaim := { program := "ytannonjikfbdhaa", sum := "27101a0c71eaae403a138e0ecc629b8333d44b9beb305aa24520076ce5c6de78", func := "loop.example/g01407/laws.FnExactSwingStep", spec := "fnExactSwingStep", apart := false, narrowed := true }
def FnExactSwingStepUptoSaid : Prop := fnExactSwingStepUptoRow.holds Try.pinned (OpenSpec.upto fnExactSwingStepSpec)

/-- 'laws.FnExactSamePipe', WHERE WHAT IT READS IS OF BULK AT MOST 1048576: true; the input reads as it did. -/
def fnExactSamePipeUptoRow : OpenClaim := { program := "ytannonjikfbdhaa", sum := "27101a0c71eaae403a138e0ecc629b8333d44b9beb305aa24520076ce5c6de78", func := "loop.example/g01407/laws.FnExactSamePipe", spec := "fnExactSamePipe", apart := false, narrowed := true }
def FnExactSamePipeUptoSaid : Prop := fnExactSamePipeUptoRow.holds Try.pinned (OpenSpec.upto fnExactSamePipeSpec)

/-- 'laws.FnExactShowStage', WHERE WHAT IT READS IS OF BULK AT MOST 1048576: true; the input reads as it did. -/
def fnExactShowStageUptoRow : OpenClaim := { program := "ytannonjikfbdhaa", sum := "27101a0c71eaae403a138e0ecc629b8333d44b9beb305aa24520076ce5c6de78", func := "loop.example/g01407/laws.FnExactShowStage", spec := "fnExactShowStage", apart := false, narrowed := true }
def FnExactShowStageUptoSaid : Prop := fnExactShowStageUptoRow.holds Try.pinned (OpenSpec.upto fnExactShowStageSpec)

/-- 'laws.FnExactReadStage', WHERE WHAT IT READS IS OF BULK AT MOST 1048576: true; the input reads as it did. -/
def fnExactReadStageUptoRow : OpenClaim := { program := "ytannonjikfbdhaa", sum := "27101a0c71eaae403a138e0ecc629b8333d44b9beb305aa24520076ce5c6de78", func := "loop.example/g01407/laws.FnExactReadStage", spec := "fnExactReadStage", apart := false, narrowed := true }
def FnExactReadStageUptoSaid : Prop := fnExactReadStageUptoRow.holds Try.pinned (OpenSpec.upto fnExactReadStageSpec)

/-- 'laws.FnShares', WHERE WHAT IT READS IS OF BULK AT MOST 1048576: true; the input reads as it did. -/
def fnSharesUptoRow : OpenClaim := { program := "ytannonjikfbdhaa", sum := "27101a0c71eaae403a138e0ecc629b8333d44b9beb305aa24520076ce5c6de78", func := "loop.example/g01407/laws.FnShares", spec := "fnShares", apart := false, narrowed := true }
def FnSharesUptoSaid : Prop := fnSharesUptoRow.holds Try.pinned (OpenSpec.upto fnSharesSpec)

/-- 'laws.FnRight', WHERE WHAT IT READS IS OF BULK AT MOST 1048576: true; the input reads as it did. -/
def fnRightUptoRow : OpenClaim := { program := "ytannonjikfbdhaa", sum := "27101a0c71eaae403a138e0ecc629b8333d44b9beb305aa24520076ce5c6de78", func := "loop.example/g01407/laws.FnRight", spec := "fnRight", apart := false, narrowed := true }
def FnRightUptoSaid : Prop := fnRightUptoRow.holds Try.pinned (OpenSpec.upto fnRightSpec)

end Rows
end Go.Proofs.Ytannonjikfbdhaa
