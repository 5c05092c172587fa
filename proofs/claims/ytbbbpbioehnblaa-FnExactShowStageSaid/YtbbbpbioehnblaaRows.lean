/-
  No cell of these rows narrows 'for every input' (looked for: loops, veiled, ifaces, maps, wideKeys, modest, calm, conditions, laid).
  DERIVED. THE GIVEN ROWS OF THIS SEAT. 3 by the template 'for every input the law returns true; each argument reads behind the call as it read before'; 0 by the template 'total and deterministic' (their statements: YtbbbpbioehnblaaTotals.lean).
  GIVEN WITH THE SEED: the statements are not yours to turn. If you find one false, say at which input.
  Laid BY PROGRAM, IN A SANDBOX (cutbox-rows.mjs): the forced cells as the released guide's own fill.sh prints them over the translation ed0f0ca179f9f92e… (all of the seat's roots in one cut). By AI agents, Wed Nov 11 2026. No macro, syntax, notation, axiom, sorry.
-/
import Derived.Test.YtbbbpbioehnblaaChecked
import GoSem.Claim
import GoSem.ClaimJoined
import GoSem.ClaimMapViews
import Derived.JoinedTies
import Derived.KernelRfl
namespace Go.Proofs.Ytbbbpbioehnblaa
/- THE CELL 'sum', in the pinned program and in every row, IS THE sha256 OF THE DUMP (.gsa) THAT YtbbbpbioehnblaaProg.lean LOADS. Nothing in Lean hashes anything: it is a label: what it is worth is what the hold of that sum in a sandbox is worth. -/
noncomputable def Try.pinned : Pinned := { name := "ytbbbpbioehnblaa", sum := "ed0f0ca179f9f92e9c507aa4c7c25a034e5f3d6a1e0d123248d2ab23681e710a", checked := Try.checked }
namespace Rows
def none {H : Type} : Left H := { results := [], args := [] }

/-- 'laws.FnExactSamePipe': WHATEVER THE INPUT: true; the input reads as it did. -/
def fnExactSamePipeSpec : ChangeSpec := { name := "fnExactSamePipe", fn := fun _ => fun
  | [d1, d2] => { results := [.lit (.bool true)], args := [d1, d2] }
  | _ => none }
def fnExactSamePipeRow : OpenClaim := { program := "ytbbbpbioehnblaa", sum := "ed0f0ca179f9f92e9c507aa4c7c25a034e5f3d6a1e0d123248d2ab23681e710a", func := "loop.example/g01407/laws.FnExactSamePipe", spec := "fnExactSamePipe", apart := false }
def FnExactSamePipeSaid : Prop := fnExactSamePipeRow.holds Try.pinned (OpenSpec.ofChange fnExactSamePipeSpec)

/-- ITS FALSE NEIGHBOUR: 'it returns false'. Refute it at one input. -/
def fnExactSamePipeWrong : ChangeSpec := { name := "fnExactSamePipe", fn := fun _ => fun
  | [d1, d2] => { results := [.lit (.bool false)], args := [d1, d2] }
  | _ => none }
def FnExactSamePipeWrongFalsely : Prop := fnExactSamePipeRow.holds Try.pinned (OpenSpec.ofChange fnExactSamePipeWrong)

/-- 'laws.FnExactShowStage': WHATEVER THE INPUT: true; the input reads as it did. -/
def fnExactShowStageSpec : ChangeSpec := { name := "fnExactShowStage", fn := fun _ => fun
  | [d] => { results := [.lit (.bool true)], args := [d] }
  | _ => none }
def fnExactShowStageRow : OpenClaim := { program := "ytbbbpbioehnblaa", sum := "ed0f0ca179f9f92e9c507aa4c7c25a034e5f3d6a1e0d123248d2ab23681e710a", func := "loop.example/g01407/laws.FnExactShowStage", spec := "fnExactShowStage", apart := false }
def FnExactShowStageSaid : Prop := fnExactShowStageRow.holds Try.pinned (OpenSpec.ofChange fnExactShowStageSpec)

/-- ITS FALSE NEIGHBOUR: 'it returns false'. Refute it at one input. -/
def fnExactShowStageWrong : ChangeSpec := { name := "fnExactShowStage", fn := fun _ => fun
  | [d] => { results := [.lit (.bool false)], args := [d] }
  | _ => none }
def FnExactShowStageWrongFalsely : Prop := fnExactShowStageRow.holds Try.pinned (OpenSpec.ofChange fnExactShowStageWrong)

/-- 'laws.FnExactReadStage': WHATEVER THE INPUT: true; the input reads as it did. -/
def fnExactReadStageSpec : ChangeSpec := { name := "fnExactReadStage", fn := fun _ => fun
  | [d] => { results := [.lit (.bool true)], args := [d] }
  | _ => none }
def fnExactReadStageRow : OpenClaim := { program := "ytbbbpbioehnblaa", sum := "ed0f0ca179f9f92e9c507aa4c7c25a034e5f3d6a1e0d123248d2ab23681e710a", func := "loop.example/g01407/laws.FnExactReadStage", spec := "fnExactReadStage", apart := false }
def FnExactReadStageSaid : Prop := fnExactReadStageRow.holds Try.pinned (OpenSpec.ofChange fnExactReadStageSpec)

/-- ITS FALSE NEIGHBOUR: 'it returns false'. Refute it at one input. -/
def fnExactReadStageWrong : ChangeSpec := { name := "fnExactReadStage", fn := fun _ => fun
  | [d] => { results := [.lit (.bool false)], args := [d] }
  | _ => none }
def FnExactReadStageWrongFalsely : Prop := fnExactReadStageRow.holds Try.pinned (OpenSpec.ofChange fnExactReadStageWrong)

/- THE SECOND FORM. 'bulk': how many values and letters a reading holds, each counted each time it is reached (what is shared counts as often as it is met; a slice's spare places count too). A statement '..UptoSaid' is the law's where the arguments, and the package variables that the reading takes, are together of bulk at most 1048576: NARROWER than '..Said'. Prove '..Said' where nothing that the law and all that it calls make is longer than what came in: it says more and counts as full. Else prove '..UptoSaid'. A law counts once. -/
mutual
def uptoBulk {H : Type} : DataW H → Nat
  | .lit (.string bytes) => bytes.length + 1
  | .lit _ => 1
  | .nil => 1
  | .ptr d => uptoBulk d + 1
  | .slice elems spare => uptoBulkAll elems + uptoBulkAll spare + 1
  | .agg parts => uptoBulkAll parts + 1
  | .iface _ d => uptoBulk d + 1
  | .map entries => uptoBulkEntries entries + 1
  | .held _ => 1
def uptoBulkAll {H : Type} : List (DataW H) → Nat
  | [] => 0
  | d :: r => uptoBulk d + uptoBulkAll r
def uptoBulkEntries {H : Type} : List (Lit × DataW H) → Nat
  | [] => 0
  | x :: r => uptoBulkEntry x + uptoBulkEntries r
def uptoBulkEntry {H : Type} : Lit × DataW H → Nat
  | (.string bytes, d) => bytes.length + uptoBulk d + 1
  | (_, d) => uptoBulk d + 1
 end
def uptoSmall : (H : Type) → List (DataW H) → Bool := fun _ ds => decide (uptoBulkAll ds ≤ 1048576)
def OpenSpec.upto (s : _root_.Go.ChangeSpec) : _root_.Go.OpenSpec := { _root_.Go.OpenSpec.ofChange s with cond := some uptoSmall }

/-- 'laws.FnExactSamePipe', WHERE WHAT IT READS IS OF BULK AT MOST 1048576: true; the input reads as it did. -/
def fnExactSamePipeUptoRow : OpenClaim := { program := "ytbbbpbioehnblaa", sum := "ed0f0ca179f9f92e9c507aa4c7c25a034e5f3d6a1e0d123248d2ab23681e710a", func := "loop.example/g01407/laws.FnExactSamePipe", spec := "fnExactSamePipe", apart := false, narrowed := true }
def FnExactSamePipeUptoSaid : Prop := fnExactSamePipeUptoRow.holds Try.pinned (OpenSpec.upto fnExactSamePipeSpec)

/-- 'laws.FnExactShowStage', WHERE WHAT IT READS IS OF BULK AT MOST 1048576: true; the input reads as it did. -/
def fnExactShowStageUptoRow : OpenClaim := { program := "ytbbbpbioehnblaa", sum := "ed0f0ca179f9f92e9c507aa4c7c25a034e5f3d6a1e0d123248d2ab23681e710a", func := "loop.example/g01407/laws.FnExactShowStage", spec := "fnExactShowStage", apart := false, narrowed := true }
def FnExactShowStageUptoSaid : Prop := fnExactShowStageUptoRow.holds Try.pinned (OpenSpec.upto fnExactShowStageSpec)

/-- 'laws.FnExactReadStage', WHERE WHAT IT READS IS OF BULK AT MOST 1048576: true; the input reads as it did. -/
def fnExactReadStageUptoRow : OpenClaim := { program := "ytbbbpbioehnblaa", sum := "ed0f0ca179f9f92e9c507aa4c7c25a034e5f3d6a1e0d123248d2ab23681e710a", func := "loop.example/g01407/laws.FnExactReadStage", spec := "fnExactReadStage", apart := false, narrowed := true }
def FnExactReadStageUptoSaid : Prop := fnExactReadStageUptoRow.holds Try.pinned (OpenSpec.upto fnExactReadStageSpec)

end Rows
end Go.Proofs.Ytbbbpbioehnblaa
