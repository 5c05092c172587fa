/-
  No cell of these rows narrows 'for every input' (looked for: loops, veiled, ifaces, maps, wideKeys, modest, calm, conditions, laid).
  DERIVED. THE GIVEN ROWS OF THIS SEAT. 10 by the template 'for every input the law returns true; each argument reads behind the call as it read before'; 0 by the template 'total and deterministic' (their statements: YtnijnjclmlfahaaTotals.lean).
  GIVEN WITH THE SEED: the statements are not yours to turn. If you find one false, say at which input.
  Laid BY PROGRAM, IN A SANDBOX (cutbox-rows.mjs): the forced cells as the released guide's own fill.sh prints them over the translation 4b1822710dde38c5… (all of the seat's roots in one cut). By AI agents, Wed Nov 11 2026. No macro, syntax, notation, axiom, sorry.
-/
import Derived.Test.YtnijnjclmlfahaaChecked
import GoSem.Claim
import GoSem.ClaimJoined
import GoSem.ClaimMapViews
import Derived.JoinedTies
import Derived.KernelRfl
namespace Go.Proofs.Ytnijnjclmlfahaa
/- THE CELL 'sum', in the pinned program and in every row, IS THE sha256 OF THE DUMP (.gsa) THAT YtnijnjclmlfahaaProg.lean LOADS. Nothing in Lean hashes anything: it is a label: what it is worth is what the hold of that sum in a sandbox is worth. -/
noncomputable def Try.pinned : Pinned := { name := "ytnijnjclmlfahaa", sum := "4b1822710dde38c51db3122c05fb3173007f3bd8bbd1386cb790684a3f4a1ae4", checked := Try.checked }
namespace Rows
def none {H : Type} : Left H := { results := [], args := [] }

/-- 'laws.FnExactRingNew': WHATEVER THE INPUT: true; the input reads as it did. -/
def fnExactRingNewSpec : ChangeSpec := { name := "fnExactRingNew", fn := fun _ => fun
  | [d] => { results := [.lit (.bool true)], args := [d] }
  | _ => none }
def fnExactRingNewRow : OpenClaim := { program := "ytnijnjclmlfahaa", sum := "4b1822710dde38c51db3122c05fb3173007f3bd8bbd1386cb790684a3f4a1ae4", func := "loop.example/g01407/laws.FnExactRingNew", spec := "fnExactRingNew", apart := false }
def FnExactRingNewSaid : Prop := fnExactRingNewRow.holds Try.pinned (OpenSpec.ofChange fnExactRingNewSpec)

/-- ITS FALSE NEIGHBOUR: 'it returns false'. Refute it at one input. -/
def fnExactRingNewWrong : ChangeSpec := { name := "fnExactRingNew", fn := fun _ => fun
  | [d] => { results := [.lit (.bool false)], args := [d] }
  | _ => none }
def FnExactRingNewWrongFalsely : Prop := fnExactRingNewRow.holds Try.pinned (OpenSpec.ofChange fnExactRingNewWrong)

/-- 'laws.FnExactAllTogether': WHATEVER THE INPUT: true; the input reads as it did. -/
def fnExactAllTogetherSpec : ChangeSpec := { name := "fnExactAllTogether", fn := fun _ => fun
  | [d] => { results := [.lit (.bool true)], args := [d] }
  | _ => none }
def fnExactAllTogetherRow : OpenClaim := { program := "ytnijnjclmlfahaa", sum := "4b1822710dde38c51db3122c05fb3173007f3bd8bbd1386cb790684a3f4a1ae4", func := "loop.example/g01407/laws.FnExactAllTogether", spec := "fnExactAllTogether", apart := false }
def FnExactAllTogetherSaid : Prop := fnExactAllTogetherRow.holds Try.pinned (OpenSpec.ofChange fnExactAllTogetherSpec)

/-- ITS FALSE NEIGHBOUR: 'it returns false'. Refute it at one input. -/
def fnExactAllTogetherWrong : ChangeSpec := { name := "fnExactAllTogether", fn := fun _ => fun
  | [d] => { results := [.lit (.bool false)], args := [d] }
  | _ => none }
def FnExactAllTogetherWrongFalsely : Prop := fnExactAllTogetherRow.holds Try.pinned (OpenSpec.ofChange fnExactAllTogetherWrong)

/-- 'laws.FnExactSwingNew': WHATEVER THE INPUT: true; the input reads as it did. -/
def fnExactSwingNewSpec : ChangeSpec := { name := "fnExactSwingNew", fn := fun _ => fun
  | [d] => { results := [.lit (.bool true)], args := [d] }
  | _ => none }
def fnExactSwingNewRow : OpenClaim := { program := "ytnijnjclmlfahaa", sum := "4b1822710dde38c51db3122c05fb3173007f3bd8bbd1386cb790684a3f4a1ae4", func := "loop.example/g01407/laws.FnExactSwingNew", spec := "fnExactSwingNew", apart := false }
def FnExactSwingNewSaid : Prop := fnExactSwingNewRow.holds Try.pinned (OpenSpec.ofChange fnExactSwingNewSpec)

/-- ITS FALSE NEIGHBOUR: 'it returns false'. Refute it at one input. -/
def fnExactSwingNewWrong : ChangeSpec := { name := "fnExactSwingNew", fn := fun _ => fun
  | [d] => { results := [.lit (.bool false)], args := [d] }
  | _ => none }
def FnExactSwingNewWrongFalsely : Prop := fnExactSwingNewRow.holds Try.pinned (OpenSpec.ofChange fnExactSwingNewWrong)

/-- 'laws.FnExactSwingOk': WHATEVER THE INPUT: true; the input reads as it did. -/
def fnExactSwingOkSpec : ChangeSpec := { name := "fnExactSwingOk", fn := fun _ => fun
  | [d1, d2] => { results := [.lit (.bool true)], args := [d1, d2] }
  | _ => none }
def fnExactSwingOkRow : OpenClaim := { program := "ytnijnjclmlfahaa", sum := "4b1822710dde38c51db3122c05fb3173007f3bd8bbd1386cb790684a3f4a1ae4", func := "loop.example/g01407/laws.FnExactSwingOk", spec := "fnExactSwingOk", apart := false }
def FnExactSwingOkSaid : Prop := fnExactSwingOkRow.holds Try.pinned (OpenSpec.ofChange fnExactSwingOkSpec)

/-- ITS FALSE NEIGHBOUR: 'it returns false'. Refute it at one input. -/
def fnExactSwingOkWrong : ChangeSpec := { name := "fnExactSwingOk", fn := fun _ => fun
  | [d1, d2] => { results := [.lit (.bool false)], args := [d1, d2] }
  | _ => none }
def FnExactSwingOkWrongFalsely : Prop := fnExactSwingOkRow.holds Try.pinned (OpenSpec.ofChange fnExactSwingOkWrong)

/-- 'laws.FnExactRingStep': WHATEVER THE INPUT: true; the input reads as it did. -/
def fnExactRingStepSpec : ChangeSpec := { name := "fnExactRingStep", fn := fun _ => fun
  | [d] => { results := [.lit (.bool true)], args := [d] }
  | _ => none }
def fnExactRingStepRow : OpenClaim := { program := "ytnijnjclmlfahaa", sum := "4b1822710dde38c51db3122c05fb3173007f3bd8bbd1386cb790684a3f4a1ae4", func := "loop.example/g01407/laws.FnExactRingStep", spec := "fnExactRingStep", apart := false }
def FnExactRingStepSaid : Prop := fnExactRingStepRow.holds Try.pinned (OpenSpec.ofChange fnExactRingStepSpec)

/-- ITS FALSE NEIGHBOUR: 'it returns false'. Refute it at one input. -/
def fnExactRingStepWrong : ChangeSpec := { name := "fnExactRingStep", fn := fun _ => fun
  | [d] => { results := [.lit (.bool false)], args := [d] }
  | _ => none }
def FnExactRingStepWrongFalsely : Prop := fnExactRingStepRow.holds Try.pinned (OpenSpec.ofChange fnExactRingStepWrong)

/-- 'laws.FnExactLeastTicks': WHATEVER THE INPUT: true; the input reads as it did. -/
def fnExactLeastTicksSpec : ChangeSpec := { name := "fnExactLeastTicks", fn := fun _ => fun
  | [d1, d2] => { results := [.lit (.bool true)], args := [d1, d2] }
  | _ => none }
def fnExactLeastTicksRow : OpenClaim := { program := "ytnijnjclmlfahaa", sum := "4b1822710dde38c51db3122c05fb3173007f3bd8bbd1386cb790684a3f4a1ae4", func := "loop.example/g01407/laws.FnExactLeastTicks", spec := "fnExactLeastTicks", apart := false }
def FnExactLeastTicksSaid : Prop := fnExactLeastTicksRow.holds Try.pinned (OpenSpec.ofChange fnExactLeastTicksSpec)

/-- ITS FALSE NEIGHBOUR: 'it returns false'. Refute it at one input. -/
def fnExactLeastTicksWrong : ChangeSpec := { name := "fnExactLeastTicks", fn := fun _ => fun
  | [d1, d2] => { results := [.lit (.bool false)], args := [d1, d2] }
  | _ => none }
def FnExactLeastTicksWrongFalsely : Prop := fnExactLeastTicksRow.holds Try.pinned (OpenSpec.ofChange fnExactLeastTicksWrong)

/-- 'laws.FnExactLearn': WHATEVER THE INPUT: true; the input reads as it did. -/
def fnExactLearnSpec : ChangeSpec := { name := "fnExactLearn", fn := fun _ => fun
  | [d1, d2, d3] => { results := [.lit (.bool true)], args := [d1, d2, d3] }
  | _ => none }
def fnExactLearnRow : OpenClaim := { program := "ytnijnjclmlfahaa", sum := "4b1822710dde38c51db3122c05fb3173007f3bd8bbd1386cb790684a3f4a1ae4", func := "loop.example/g01407/laws.FnExactLearn", spec := "fnExactLearn", apart := false }
def FnExactLearnSaid : Prop := fnExactLearnRow.holds Try.pinned (OpenSpec.ofChange fnExactLearnSpec)

/-- ITS FALSE NEIGHBOUR: 'it returns false'. Refute it at one input. -/
def fnExactLearnWrong : ChangeSpec := { name := "fnExactLearn", fn := fun _ => fun
  | [d1, d2, d3] => { results := [.lit (.bool false)], args := [d1, d2, d3] }
  | _ => none }
def FnExactLearnWrongFalsely : Prop := fnExactLearnRow.holds Try.pinned (OpenSpec.ofChange fnExactLearnWrong)

/-- 'laws.FnClips': WHATEVER THE INPUT: true; the input reads as it did. -/
def fnClipsSpec : ChangeSpec := { name := "fnClips", fn := fun _ => fun
  | [d] => { results := [.lit (.bool true)], args := [d] }
  | _ => none }
def fnClipsRow : OpenClaim := { program := "ytnijnjclmlfahaa", sum := "4b1822710dde38c51db3122c05fb3173007f3bd8bbd1386cb790684a3f4a1ae4", func := "loop.example/g01407/laws.FnClips", spec := "fnClips", apart := false }
def FnClipsSaid : Prop := fnClipsRow.holds Try.pinned (OpenSpec.ofChange fnClipsSpec)

/-- ITS FALSE NEIGHBOUR: 'it returns false'. Refute it at one input. -/
def fnClipsWrong : ChangeSpec := { name := "fnClips", fn := fun _ => fun
  | [d] => { results := [.lit (.bool false)], args := [d] }
  | _ => none }
def FnClipsWrongFalsely : Prop := fnClipsRow.holds Try.pinned (OpenSpec.ofChange fnClipsWrong)

/-- 'laws.FnAround': WHATEVER THE INPUT: true; the input reads as it did. -/
def fnAroundSpec : ChangeSpec := { name := "fnAround", fn := fun _ => fun
  | [d] => { results := [.lit (.bool true)], args := [d] }
  | _ => none }
def fnAroundRow : OpenClaim := { program := "ytnijnjclmlfahaa", sum := "4b1822710dde38c51db3122c05fb3173007f3bd8bbd1386cb790684a3f4a1ae4", func := "loop.example/g01407/laws.FnAround", spec := "fnAround", apart := false }
def FnAroundSaid : Prop := fnAroundRow.holds Try.pinned (OpenSpec.ofChange fnAroundSpec)

/-- ITS FALSE NEIGHBOUR: 'it returns false'. Refute it at one input. -/
def fnAroundWrong : ChangeSpec := { name := "fnAround", fn := fun _ => fun
  | [d] => { results := [.lit (.bool false)], args := [d] }
  | _ => none }
def FnAroundWrongFalsely : Prop := fnAroundRow.holds Try.pinned (OpenSpec.ofChange fnAroundWrong)

/-- 'laws.FnRates': WHATEVER THE INPUT: true; the input reads as it did. -/
def fnRatesSpec : ChangeSpec := { name := "fnRates", fn := fun _ => fun
  | [d] => { results := [.lit (.bool true)], args := [d] }
  | _ => none }
def fnRatesRow : OpenClaim := { program := "ytnijnjclmlfahaa", sum := "4b1822710dde38c51db3122c05fb3173007f3bd8bbd1386cb790684a3f4a1ae4", func := "loop.example/g01407/laws.FnRates", spec := "fnRates", apart := false }
def FnRatesSaid : Prop := fnRatesRow.holds Try.pinned (OpenSpec.ofChange fnRatesSpec)

/-- ITS FALSE NEIGHBOUR: 'it returns false'. Refute it at one input. -/
def fnRatesWrong : ChangeSpec := { name := "fnRates", fn := fun _ => fun
  | [d] => { results := [.lit (.bool false)], args := [d] }
  | _ => none }
def FnRatesWrongFalsely : Prop := fnRatesRow.holds Try.pinned (OpenSpec.ofChange fnRatesWrong)

/- THE SECOND FORM. 'bulk': how many values and letters a reading holds, each counted each time it is reached (what is shared counts as often as it is met; a slice's spare places count too). A statement '..UptoSaid' is the law's where the arguments, and the package variables that the reading takes, are together of bulk at most 1048576: NARROWER than '..Said'. Prove '..Said' where nothing that the law and all that it calls make is longer than what came in: it says more and counts as full. Else prove '..UptoSaid'. A law counts once. -/
mutual
def uptoBulk {H : Type} : DataW H → Nat
  | .lit (.string bytes) => bytes.length + 1
  | .lit _ => 1
  | .nil => 1
  | .ptr d => uptoBulk d + 1
  | .slice elems spare => uptoBulkAll elems + uptoBulkAll spare + 1
  | .agg parts => uptoBulkAll parts + 1
  | .iface _ d => uptoBulk d + 1
  | .map entries => uptoBulkEntries entries + 1
  | .held _ => 1
def uptoBulkAll {H : Type} : List (DataW H) → Nat
  | [] => 0
  | d :: r => uptoBulk d + uptoBulkAll r
def uptoBulkEntries {H : Type} : List (Lit × DataW H) → Nat
  | [] => 0
  | x :: r => uptoBulkEntry x + uptoBulkEntries r
def uptoBulkEntry {H : Type} : Lit × DataW H → Nat
  | (.string bytes, d) => bytes.length + uptoBulk d + 1
  | (_, d) => uptoBulk d + 1
 end
def uptoSmall : (H : Type) → List (DataW H) → Bool := fun _ ds => decide (uptoBulkAll ds ≤ 1048576)
def OpenSpec.upto (s : _root_.Go.ChangeSpec) : _root_.Go.OpenSpec := { _root_.Go.OpenSpec.ofChange s with cond := some uptoSmall }

/-- 'laws.FnExactRingNew', WHERE WHAT IT READS IS OF BULK AT MOST 1048576: true; the input reads as it did. -/
def fnExactRingNewUptoRow : OpenClaim := { program := "ytnijnjclmlfahaa", sum := "4b1822710dde38c51db3122c05fb3173007f3bd8bbd1386cb790684a3f4a1ae4", func := "loop.example/g01407/laws.FnExactRingNew", spec := "fnExactRingNew", apart := false, narrowed := true }
def FnExactRingNewUptoSaid : Prop := fnExactRingNewUptoRow.holds Try.pinned (OpenSpec.upto fnExactRingNewSpec)

/-- 'laws.FnExactAllTogether', WHERE WHAT IT READS IS OF BULK AT MOST 1048576: true; the input reads as it did. -/
def fnExactAllTogetherUptoRow : OpenClaim := { program := "ytnijnjclmlfahaa", sum := "4b1822710dde38c51db3122c05fb3173007f3bd8bbd1386cb790684a3f4a1ae4", func := "loop.example/g01407/laws.FnExactAllTogether", spec := "fnExactAllTogether", apart := false, narrowed := true }
def FnExactAllTogetherUptoSaid : Prop := fnExactAllTogetherUptoRow.holds Try.pinned (OpenSpec.upto fnExactAllTogetherSpec)

/-- 'laws.FnExactSwingNew', WHERE WHAT IT READS IS OF BULK AT MOST 1048576: true; the input reads as it did. -/
def fnExactSwingNewUptoRow : OpenClaim := { program := "ytnijnjclmlfahaa", sum := "4b1822710dde38c51db3122c05fb3173007f3bd8bbd1386cb790684a3f4a1ae4", func := "loop.example/g01407/laws.FnExactSwingNew", spec := "fnExactSwingNew", apart := false, narrowed := true }
def FnExactSwingNewUptoSaid : Prop := fnExactSwingNewUptoRow.holds Try.pinned (OpenSpec.upto fnExactSwingNewSpec)

/-- 'laws.FnExactSwingOk', WHERE WHAT IT READS IS OF BULK AT MOST 1048576: true; the input reads as it did. -/
def fnExactSwingOkUptoRow : OpenClaim := { program := "ytnijnjclmlfahaa", sum := "4b1822710dde38c51db3122c05fb3173007f3bd8bbd1386cb790684a3f4a1ae4", func := "loop.example/g01407/laws.FnExactSwingOk", spec := "fnExactSwingOk", apart := false, narrowed := true }
def FnExactSwingOkUptoSaid : Prop := fnExactSwingOkUptoRow.holds Try.pinned (OpenSpec.upto fnExactSwingOkSpec)

/-- 'laws.FnExactRingStep', WHERE WHAT IT READS IS OF BULK AT MOST 1048576: true; the input reads as it did. -/
def fnExactRingStepUptoRow : OpenClaim := { program := "ytnijnjclmlfahaa", sum := "4b1822710dde38c51db3122c05fb3173007f3bd8bbd1386cb790684a3f4a1ae4", func := "loop.example/g01407/laws.FnExactRingStep", spec := "fnExactRingStep", apart := false, narrowed := true }
def FnExactRingStepUptoSaid : Prop := fnExactRingStepUptoRow.holds Try.pinned (OpenSpec.upto fnExactRingStepSpec)

/-- 'laws.FnExactLeastTicks', WHERE WHAT IT READS IS OF BULK AT MOST 1048576: true; the input reads as it did. -/
def fnExactLeastTicksUptoRow : OpenClaim := { program := "ytnijnjclmlfahaa", sum := "4b1822710dde38c51db3122c05fb3173007f3bd8bbd1386cb790684a3f4a1ae4", func := "loop.example/g01407/laws.FnExactLeastTicks", spec := "fnExactLeastTicks", apart := false, narrowed := true }
def FnExactLeastTicksUptoSaid : Prop := fnExactLeastTicksUptoRow.holds Try.pinned (OpenSpec.upto fnExactLeastTicksSpec)

/-- 'laws.FnExactLearn', WHERE WHAT IT READS IS OF BULK AT MOST 1048576: true; the input reads as it did. -/
def fnExactLearnUptoRow : OpenClaim := { program := "ytnijnjclmlfahaa", sum := "4b1822710dde38c51db3122c05fb3173007f3bd8bbd1386cb790684a3f4a1ae4", func := "loop.example/g01407/laws.FnExactLearn", spec := "fnExactLearn", apart := false, narrowed := true }
def FnExactLearnUptoSaid : Prop := fnExactLearnUptoRow.holds Try.pinned (OpenSpec.upto fnExactLearnSpec)

/-- 'laws.FnClips', WHERE WHAT IT READS IS OF BULK AT MOST 1048576: true; the input reads as it did. -/
def fnClipsUptoRow : OpenClaim := { program := "ytnijnjclmlfahaa", sum := "4b1822710dde38c51db3122c05fb3173007f3bd8bbd1386cb790684a3f4a1ae4", func := "loop.example/g01407/laws.FnClips", spec := "fnClips", apart := false, narrowed := true }
def FnClipsUptoSaid : Prop := fnClipsUptoRow.holds Try.pinned (OpenSpec.upto fnClipsSpec)

/-- 'laws.FnAround', WHERE WHAT IT READS IS OF BULK AT MOST 1048576: true; the input reads as it did. -/
def fnAroundUptoRow : OpenClaim := { program := "ytnijnjclmlfahaa", sum := "4b1822710dde38c51db3122c05fb3173007f3bd8bbd1386cb790684a3f4a1ae4", func := "loop.example/g01407/laws.FnAround", spec := "fnAround", apart := false, narrowed := true }
def FnAroundUptoSaid : Prop := fnAroundUptoRow.holds Try.pinned (OpenSpec.upto fnAroundSpec)

/-- 'laws.FnRates', WHERE WHAT IT READS IS OF BULK AT MOST 1048576: true; the input reads as it did. -/
def fnRatesUptoRow : OpenClaim := { program := "ytnijnjclmlfahaa", sum := "4b1822710dde38c51db3122c05fb3173007f3bd8bbd1386cb790684a3f4a1ae4", func := "loop.example/g01407/laws.FnRates", spec := "fnRates", apart := false, narrowed := true }
def FnRatesUptoSaid : Prop := fnRatesUptoRow.holds Try.pinned (OpenSpec.upto fnRatesSpec)

end Rows
end Go.Proofs.Ytnijnjclmlfahaa
