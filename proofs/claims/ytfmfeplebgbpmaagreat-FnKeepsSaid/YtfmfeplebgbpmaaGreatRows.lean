/-
  No cell of these rows narrows 'for every input' (looked for: loops, veiled, ifaces, maps, wideKeys, modest, calm, conditions, laid).
  DERIVED. THE GIVEN ROWS OF THIS SEAT. 6 by the template 'for every input the law returns true; each argument reads behind the call as it read before'; 0 by the template 'total and deterministic' (their statements: YtfmfeplebgbpmaaGreatTotals.lean).
  GIVEN WITH THE SEED: the statements are not yours to turn. If you find one false, say at which input.
  Laid BY PROGRAM, IN A SANDBOX (cutbox-rows.mjs): the forced cells as the released guide's own fill.sh prints them over the translation e4b93abb55e01c6e… (all of the seat's roots in one cut). By AI agents, Wed Nov 11 2026. No macro, syntax, notation, axiom, sorry.
-/
import Derived.Test.YtfmfeplebgbpmaaGreatChecked
import GoSem.Claim
import GoSem.ClaimJoined
import GoSem.ClaimMapViews
import Derived.JoinedTies
import Derived.KernelRfl
namespace Go.Proofs.YtfmfeplebgbpmaaGreat
/- THE CELL 'sum', in the pinned program and in every row, IS THE sha256 OF THE DUMP (.gsa) THAT YtfmfeplebgbpmaaGreatProg.lean LOADS. Nothing in Lean hashes anything: it is a label: what it is worth is what the hold of that sum in a sandbox is worth. -/
noncomputable def Tryz.pinned : Pinned := { name := "ytfmfeplebgbpmaagreat", sum := "e4b93abb55e01c6ea4cb2f1b4c8a860f07abfb093500e18b3f1d237e59944640", checked := Tryz.checked }
namespace Rows
def none {H : Type} : Left H := { results := [], args := [] }

/-- 'laws.FnExactFailRun': WHATEVER THE INPUT: true; the input reads as it did. -/
def fnExactFailRunSpec : ChangeSpec := { name := "fnExactFailRun", fn := fun _ => fun
  | [d1, d2, d3] => { results := [.lit (.bool true)], args := [d1, d2, d3] }
  | _ => none }
def fnExactFailRunRow : OpenClaim := { program := "ytfmfeplebgbpmaagreat", sum := "e4b93abb55e01c6ea4cb2f1b4c8a860f07abfb093500e18b3f1d237e59944640", func := "loop.example/g01407/laws.FnExactFailRun", spec := "fnExactFailRun", apart := false }
def FnExactFailRunSaid : Prop := fnExactFailRunRow.holds Tryz.pinned (OpenSpec.ofChange fnExactFailRunSpec)

/-- ITS FALSE NEIGHBOUR: 'it returns false'. Refute it at one input. -/
def fnExactFailRunWrong : ChangeSpec := { name := "fnExactFailRun", fn := fun _ => fun
  | [d1, d2, d3] => { results := [.lit (.bool false)], args := [d1, d2, d3] }
  | _ => none }
def FnExactFailRunWrongFalsely : Prop := fnExactFailRunRow.holds Tryz.pinned (OpenSpec.ofChange fnExactFailRunWrong)

/-- 'laws.FnKeeps': WHATEVER THE INPUT: true; the input reads as it did. -/
def fnKeepsSpec : ChangeSpec := { name := "fnKeeps", fn := fun _ => fun
  | [d] => { results := [.lit (.bool true)], args := [d] }
  | _ => none }
def fnKeepsRow : OpenClaim := { program := "ytfmfeplebgbpmaagreat", sum := "e4b93abb55e01c6ea4cb2f1b4c8a860f07abfb093500e18b3f1d237e59944640", func := "loop.example/g01407/laws.FnKeeps", spec := "fnKeeps", apart := false }
def FnKeepsSaid : Prop := fnKeepsRow.holds Tryz.pinned (OpenSpec.ofChange fnKeepsSpec)

/-- ITS FALSE NEIGHBOUR: 'it returns false'. Refute it at one input. -/
def fnKeepsWrong : ChangeSpec := { name := "fnKeeps", fn := fun _ => fun
  | [d] => { results := [.lit (.bool false)], args := [d] }
  | _ => none }
def FnKeepsWrongFalsely : Prop := fnKeepsRow.holds Tryz.pinned (OpenSpec.ofChange fnKeepsWrong)

/-- 'laws.FnFails': WHATEVER THE INPUT: true; the input reads as it did. -/
def fnFailsSpec : ChangeSpec := { name := "fnFails", fn := fun _ => fun
  | [d] => { results := [.lit (.bool true)], args := [d] }
  | _ => none }
def fnFailsRow : OpenClaim := { program := "ytfmfeplebgbpmaagreat", sum := "e4b93abb55e01c6ea4cb2f1b4c8a860f07abfb093500e18b3f1d237e59944640", func := "loop.example/g01407/laws.FnFails", spec := "fnFails", apart := false }
def FnFailsSaid : Prop := fnFailsRow.holds Tryz.pinned (OpenSpec.ofChange fnFailsSpec)

/-- ITS FALSE NEIGHBOUR: 'it returns false'. Refute it at one input. -/
def fnFailsWrong : ChangeSpec := { name := "fnFails", fn := fun _ => fun
  | [d] => { results := [.lit (.bool false)], args := [d] }
  | _ => none }
def FnFailsWrongFalsely : Prop := fnFailsRow.holds Tryz.pinned (OpenSpec.ofChange fnFailsWrong)

/-- 'laws.FnExactTrain': WHATEVER THE INPUT: true; the input reads as it did. -/
def fnExactTrainSpec : ChangeSpec := { name := "fnExactTrain", fn := fun _ => fun
  | [d1, d2, d3] => { results := [.lit (.bool true)], args := [d1, d2, d3] }
  | _ => none }
def fnExactTrainRow : OpenClaim := { program := "ytfmfeplebgbpmaagreat", sum := "e4b93abb55e01c6ea4cb2f1b4c8a860f07abfb093500e18b3f1d237e59944640", func := "loop.example/g01407/laws.FnExactTrain", spec := "fnExactTrain", apart := false }
def FnExactTrainSaid : Prop := fnExactTrainRow.holds Tryz.pinned (OpenSpec.ofChange fnExactTrainSpec)

/-- ITS FALSE NEIGHBOUR: 'it returns false'. Refute it at one input. -/
def fnExactTrainWrong : ChangeSpec := { name := "fnExactTrain", fn := fun _ => fun
  | [d1, d2, d3] => { results := [.lit (.bool false)], args := [d1, d2, d3] }
  | _ => none }
def FnExactTrainWrongFalsely : Prop := fnExactTrainRow.holds Tryz.pinned (OpenSpec.ofChange fnExactTrainWrong)

/-- 'laws.FnExactKeepAt': WHATEVER THE INPUT: true; the input reads as it did. -/
def fnExactKeepAtSpec : ChangeSpec := { name := "fnExactKeepAt", fn := fun _ => fun
  | [d1, d2, d3] => { results := [.lit (.bool true)], args := [d1, d2, d3] }
  | _ => none }
def fnExactKeepAtRow : OpenClaim := { program := "ytfmfeplebgbpmaagreat", sum := "e4b93abb55e01c6ea4cb2f1b4c8a860f07abfb093500e18b3f1d237e59944640", func := "loop.example/g01407/laws.FnExactKeepAt", spec := "fnExactKeepAt", apart := false }
def FnExactKeepAtSaid : Prop := fnExactKeepAtRow.holds Tryz.pinned (OpenSpec.ofChange fnExactKeepAtSpec)

/-- ITS FALSE NEIGHBOUR: 'it returns false'. Refute it at one input. -/
def fnExactKeepAtWrong : ChangeSpec := { name := "fnExactKeepAt", fn := fun _ => fun
  | [d1, d2, d3] => { results := [.lit (.bool false)], args := [d1, d2, d3] }
  | _ => none }
def FnExactKeepAtWrongFalsely : Prop := fnExactKeepAtRow.holds Tryz.pinned (OpenSpec.ofChange fnExactKeepAtWrong)

/-- 'laws.FnExactManyGradients': WHATEVER THE INPUT: true; the input reads as it did. -/
def fnExactManyGradientsSpec : ChangeSpec := { name := "fnExactManyGradients", fn := fun _ => fun
  | [d1, d2, d3] => { results := [.lit (.bool true)], args := [d1, d2, d3] }
  | _ => none }
def fnExactManyGradientsRow : OpenClaim := { program := "ytfmfeplebgbpmaagreat", sum := "e4b93abb55e01c6ea4cb2f1b4c8a860f07abfb093500e18b3f1d237e59944640", func := "loop.example/g01407/laws.FnExactManyGradients", spec := "fnExactManyGradients", apart := false }
def FnExactManyGradientsSaid : Prop := fnExactManyGradientsRow.holds Tryz.pinned (OpenSpec.ofChange fnExactManyGradientsSpec)

/-- ITS FALSE NEIGHBOUR: 'it returns false'. Refute it at one input. -/
def fnExactManyGradientsWrong : ChangeSpec := { name := "fnExactManyGradients", fn := fun _ => fun
  | [d1, d2, d3] => { results := [.lit (.bool false)], args := [d1, d2, d3] }
  | _ => none }
def FnExactManyGradientsWrongFalsely : Prop := fnExactManyGradientsRow.holds Tryz.pinned (OpenSpec.ofChange fnExactManyGradientsWrong)

/- THE SECOND FORM. 'bulk': how many values and letters a reading holds, each counted each time it is reached (what is shared counts as often as it is met; a slice's spare places count too). A statement '..UptoSaid' is the law's where the arguments, and the package variables that the reading takes, are together of bulk at most 1048576: NARROWER than '..Said'. Prove '..Said' where nothing that the law and all that it calls make is longer than what came in: it says more and counts as full. Else prove '..UptoSaid'. A law counts once. -/
mutual
def uptoBulk {H : Type} : DataW H → Nat
  | .lit (.string bytes) => bytes.length + 1
  | .lit _ => 1
  | .nil => 1
  | .ptr d => uptoBulk d + 1
  | .slice elems spare => uptoBulkAll elems + uptoBulkAll spare + 1
  | .agg parts => uptoBulkAll parts + 1
  | .iface _ d => uptoBulk d + 1
  | .map entries => uptoBulkEntries entries + 1
  | .held _ => 1
def uptoBulkAll {H : Type} : List (DataW H) → Nat
  | [] => 0
  | d :: r => uptoBulk d + uptoBulkAll r
def uptoBulkEntries {H : Type} : List (Lit × DataW H) → Nat
  | [] => 0
  | x :: r => uptoBulkEntry x + uptoBulkEntries r
def uptoBulkEntry {H : Type} : Lit × DataW H → Nat
  | (.string bytes, d) => bytes.length + uptoBulk d + 1
  | (_, d) => uptoBulk d + 1
 end
def uptoSmall : (H : Type) → List (DataW H) → Bool := fun _ ds => decide (uptoBulkAll ds ≤ 1048576)
def OpenSpec.upto (s : _root_.Go.ChangeSpec) : _root_.Go.OpenSpec := { _root_.Go.OpenSpec.ofChange s with cond := some uptoSmall }

/-- 'laws.FnExactFailRun', WHERE WHAT IT READS IS OF BULK AT MOST 1048576: true; the input reads as it did. -/
def fnExactFailRunUptoRow : OpenClaim := { program := "ytfmfeplebgbpmaagreat", sum := "e4b93abb55e01c6ea4cb2f1b4c8a860f07abfb093500e18b3f1d237e59944640", func := "loop.example/g01407/laws.FnExactFailRun", spec := "fnExactFailRun", apart := false, narrowed := true }
def FnExactFailRunUptoSaid : Prop := fnExactFailRunUptoRow.holds Tryz.pinned (OpenSpec.upto fnExactFailRunSpec)

/-- 'laws.FnKeeps', WHERE WHAT IT READS IS OF BULK AT MOST 1048576: true; the input reads as it did. -/
def fnKeepsUptoRow : OpenClaim := { program := "ytfmfeplebgbpmaagreat", sum := "e4b93abb55e01c6ea4cb2f1b4c8a860f07abfb093500e18b3f1d237e59944640", func := "loop.example/g01407/laws.FnKeeps", spec := "fnKeeps", apart := false, narrowed := true }
def FnKeepsUptoSaid : Prop := fnKeepsUptoRow.holds Tryz.pinned (OpenSpec.upto fnKeepsSpec)

/-- 'laws.FnFails', WHERE WHAT IT READS IS OF BULK AT MOST 1048576: true; the input reads as it did. -/
def fnFailsUptoRow : OpenClaim := { program := "ytfmfeplebgbpmaagreat", sum := "e4b93abb55e01c6ea4cb2f1b4c8a860f07abfb093500e18b3f1d237e59944640", func := "loop.example/g01407/laws.FnFails", spec := "fnFails", apart := false, narrowed := true }
def FnFailsUptoSaid : Prop := fnFailsUptoRow.holds Tryz.pinned (OpenSpec.upto fnFailsSpec)

/-- 'laws.FnExactTrain', WHERE WHAT IT READS IS OF BULK AT MOST 1048576: true; the input reads as it did. -/
def fnExactTrainUptoRow : OpenClaim := { program := "ytfmfeplebgbpmaagreat", sum := "e4b93abb55e01c6ea4cb2f1b4c8a860f07abfb093500e18b3f1d237e59944640", func := "loop.example/g01407/laws.FnExactTrain", spec := "fnExactTrain", apart := false, narrowed := true }
def FnExactTrainUptoSaid : Prop := fnExactTrainUptoRow.holds Tryz.pinned (OpenSpec.upto fnExactTrainSpec)

/-- 'laws.FnExactKeepAt', WHERE WHAT IT READS IS OF BULK AT MOST 1048576: true; the input reads as it did. -/
def fnExactKeepAtUptoRow : OpenClaim := { program := "ytfmfeplebgbpmaagreat", sum := "e4b93abb55e01c6ea4cb2f1b4c8a860f07abfb093500e18b3f1d237e59944640", func := "loop.example/g01407/laws.FnExactKeepAt", spec := "fnExactKeepAt", apart := false, narrowed := true }
def FnExactKeepAtUptoSaid : Prop := fnExactKeepAtUptoRow.holds Tryz.pinned (OpenSpec.upto fnExactKeepAtSpec)

/-- 'laws.FnExactManyGradients', WHERE WHAT IT READS IS OF BULK AT MOST 1048576: true; the input reads as it did. -/
def fnExactManyGradientsUptoRow : OpenClaim := { program := "ytfmfeplebgbpmaagreat", sum := "e4b93abb55e01c6ea4cb2f1b4c8a860f07abfb093500e18b3f1d237e59944640", func := "loop.example/g01407/laws.FnExactManyGradients", spec := "fnExactManyGradients", apart := false, narrowed := true }
def FnExactManyGradientsUptoSaid : Prop := fnExactManyGradientsUptoRow.holds Tryz.pinned (OpenSpec.upto fnExactManyGradientsSpec)

end Rows
end Go.Proofs.YtfmfeplebgbpmaaGreat
