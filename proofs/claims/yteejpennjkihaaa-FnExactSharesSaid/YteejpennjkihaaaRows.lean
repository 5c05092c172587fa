/-
  No cell of these rows narrows 'for every input' (looked for: loops, veiled, ifaces, maps, wideKeys, modest, calm, conditions, laid).
  DERIVED. THE GIVEN ROWS OF THIS SEAT. 12 by the template 'for every input the law returns true; each argument reads behind the call as it read before'; 0 by the template 'total and deterministic' (their statements: YteejpennjkihaaaTotals.lean).
  GIVEN WITH THE SEED: the statements are not yours to turn. If you find one false, say at which input.
  Laid BY PROGRAM, IN A SANDBOX (cutbox-rows.mjs): the forced cells as the released guide's own fill.sh prints them over the translation e783530a51ed5f76… (all of the seat's roots in one cut). By AI agents, Wed Nov 11 2026. No macro, syntax, notation, axiom, sorry.
-/
import Derived.Test.YteejpennjkihaaaChecked
import GoSem.Claim
import GoSem.ClaimJoined
import GoSem.ClaimMapViews
import Derived.JoinedTies
import Derived.KernelRfl
namespace Go.Proofs.Yteejpennjkihaaa
/- THE CELL 'sum', in the pinned program and in every row, IS THE sha256 OF THE DUMP (.gsa) THAT YteejpennjkihaaaProg.lean LOADS. Nothing in Lean hashes anything: it is a label: what it is worth is what the hold of that sum in a sandbox is worth. -/
noncomputable def Try.pinned : Pinned := { name := "yteejpennjkihaaa", sum := "e783530a51ed5f76be094ebe6ef43c20469647d579ce358a0eb7af77b0984a42", checked := Try.checked }
namespace Rows
def none {H : Type} : Left H := { results := [], args := [] }

/-- 'laws.FnExactOpWord': WHATEVER THE INPUT: true; the input reads as it did. -/
def fnExactOpWordSpec : ChangeSpec := { name := "fnExactOpWord", fn := fun _ => fun
  | [d] => { results := [.lit (.bool true)], args := [d] }
  | _ => none }
def fnExactOpWordRow : OpenClaim := { program := "yteejpennjkihaaa", sum := "e783530a51ed5f76be094ebe6ef43c20469647d579ce358a0eb7af77b0984a42", func := "loop.example/g01407/laws.FnExactOpWord", spec := "fnExactOpWord", apart := false }
def FnExactOpWordSaid : Prop := fnExactOpWordRow.holds Try.pinned (OpenSpec.ofChange fnExactOpWordSpec)

/-- ITS FALSE NEIGHBOUR: 'it returns false'. Refute it at one input. -/
def fnExactOpWordWrong : ChangeSpec := { name := "fnExactOpWord", fn := fun _ => fun
  | [d] => { results := [.lit (.bool false)], args := [d] }
  | _ => none }
def FnExactOpWordWrongFalsely : Prop := fnExactOpWordRow.holds Try.pinned (OpenSpec.ofChange fnExactOpWordWrong)

/-- 'laws.FnExactMostOf': WHATEVER THE INPUT: true; the input reads as it did. -/
def fnExactMostOfSpec : ChangeSpec := { name := "fnExactMostOf", fn := fun _ => fun
  | [d1, d2] => { results := [.lit (.bool true)], args := [d1, d2] }
  | _ => none }
def fnExactMostOfRow : OpenClaim := { program := "yteejpennjkihaaa", sum := "e783530a51ed5f76be094ebe6ef43c20469647d579ce358a0eb7af77b0984a42", func := "loop.example/g01407/laws.FnExactMostOf", spec := "fnExactMostOf", apart := false }
def FnExactMostOfSaid : Prop := fnExactMostOfRow.holds Try.pinned (OpenSpec.ofChange fnExactMostOfSpec)

/-- ITS FALSE NEIGHBOUR: 'it returns false'. Refute it at one input. -/
def fnExactMostOfWrong : ChangeSpec := { name := "fnExactMostOf", fn := fun _ => fun
  | [d1, d2] => { results := [.lit (.bool false)], args := [d1, d2] }
  | _ => none }
def FnExactMostOfWrongFalsely : Prop := fnExactMostOfRow.holds Try.pinned (OpenSpec.ofChange fnExactMostOfWrong)

/-- 'laws.FnExactShowVec': WHATEVER THE INPUT: true; the input reads as it did. -/
def fnExactShowVecSpec : ChangeSpec := { name := "fnExactShowVec", fn := fun _ => fun
  | [d] => { results := [.lit (.bool true)], args := [d] }
  | _ => none }
def fnExactShowVecRow : OpenClaim := { program := "yteejpennjkihaaa", sum := "e783530a51ed5f76be094ebe6ef43c20469647d579ce358a0eb7af77b0984a42", func := "loop.example/g01407/laws.FnExactShowVec", spec := "fnExactShowVec", apart := false }
def FnExactShowVecSaid : Prop := fnExactShowVecRow.holds Try.pinned (OpenSpec.ofChange fnExactShowVecSpec)

/-- ITS FALSE NEIGHBOUR: 'it returns false'. Refute it at one input. -/
def fnExactShowVecWrong : ChangeSpec := { name := "fnExactShowVec", fn := fun _ => fun
  | [d] => { results := [.lit (.bool false)], args := [d] }
  | _ => none }
def FnExactShowVecWrongFalsely : Prop := fnExactShowVecRow.holds Try.pinned (OpenSpec.ofChange fnExactShowVecWrong)

/-- 'laws.FnExactLostWork': WHATEVER THE INPUT: true; the input reads as it did. -/
def fnExactLostWorkSpec : ChangeSpec := { name := "fnExactLostWork", fn := fun _ => fun
  | [d1, d2] => { results := [.lit (.bool true)], args := [d1, d2] }
  | _ => none }
def fnExactLostWorkRow : OpenClaim := { program := "yteejpennjkihaaa", sum := "e783530a51ed5f76be094ebe6ef43c20469647d579ce358a0eb7af77b0984a42", func := "loop.example/g01407/laws.FnExactLostWork", spec := "fnExactLostWork", apart := false }
def FnExactLostWorkSaid : Prop := fnExactLostWorkRow.holds Try.pinned (OpenSpec.ofChange fnExactLostWorkSpec)

/-- ITS FALSE NEIGHBOUR: 'it returns false'. Refute it at one input. -/
def fnExactLostWorkWrong : ChangeSpec := { name := "fnExactLostWork", fn := fun _ => fun
  | [d1, d2] => { results := [.lit (.bool false)], args := [d1, d2] }
  | _ => none }
def FnExactLostWorkWrongFalsely : Prop := fnExactLostWorkRow.holds Try.pinned (OpenSpec.ofChange fnExactLostWorkWrong)

/-- 'laws.FnExactMatched': WHATEVER THE INPUT: true; the input reads as it did. -/
def fnExactMatchedSpec : ChangeSpec := { name := "fnExactMatched", fn := fun _ => fun
  | [d] => { results := [.lit (.bool true)], args := [d] }
  | _ => none }
def fnExactMatchedRow : OpenClaim := { program := "yteejpennjkihaaa", sum := "e783530a51ed5f76be094ebe6ef43c20469647d579ce358a0eb7af77b0984a42", func := "loop.example/g01407/laws.FnExactMatched", spec := "fnExactMatched", apart := false }
def FnExactMatchedSaid : Prop := fnExactMatchedRow.holds Try.pinned (OpenSpec.ofChange fnExactMatchedSpec)

/-- ITS FALSE NEIGHBOUR: 'it returns false'. Refute it at one input. -/
def fnExactMatchedWrong : ChangeSpec := { name := "fnExactMatched", fn := fun _ => fun
  | [d] => { results := [.lit (.bool false)], args := [d] }
  | _ => none }
def FnExactMatchedWrongFalsely : Prop := fnExactMatchedRow.holds Try.pinned (OpenSpec.ofChange fnExactMatchedWrong)

/-- 'laws.FnExactReadVec': WHATEVER THE INPUT: true; the input reads as it did. -/
def fnExactReadVecSpec : ChangeSpec := { name := "fnExactReadVec", fn := fun _ => fun
  | [d] => { results := [.lit (.bool true)], args := [d] }
  | _ => none }
def fnExactReadVecRow : OpenClaim := { program := "yteejpennjkihaaa", sum := "e783530a51ed5f76be094ebe6ef43c20469647d579ce358a0eb7af77b0984a42", func := "loop.example/g01407/laws.FnExactReadVec", spec := "fnExactReadVec", apart := false }
def FnExactReadVecSaid : Prop := fnExactReadVecRow.holds Try.pinned (OpenSpec.ofChange fnExactReadVecSpec)

/-- ITS FALSE NEIGHBOUR: 'it returns false'. Refute it at one input. -/
def fnExactReadVecWrong : ChangeSpec := { name := "fnExactReadVec", fn := fun _ => fun
  | [d] => { results := [.lit (.bool false)], args := [d] }
  | _ => none }
def FnExactReadVecWrongFalsely : Prop := fnExactReadVecRow.holds Try.pinned (OpenSpec.ofChange fnExactReadVecWrong)

/-- 'laws.FnExactDidOf': WHATEVER THE INPUT: true; the input reads as it did. -/
def fnExactDidOfSpec : ChangeSpec := { name := "fnExactDidOf", fn := fun _ => fun
  | [d1, d2] => { results := [.lit (.bool true)], args := [d1, d2] }
  | _ => none }
def fnExactDidOfRow : OpenClaim := { program := "yteejpennjkihaaa", sum := "e783530a51ed5f76be094ebe6ef43c20469647d579ce358a0eb7af77b0984a42", func := "loop.example/g01407/laws.FnExactDidOf", spec := "fnExactDidOf", apart := false }
def FnExactDidOfSaid : Prop := fnExactDidOfRow.holds Try.pinned (OpenSpec.ofChange fnExactDidOfSpec)

/-- ITS FALSE NEIGHBOUR: 'it returns false'. Refute it at one input. -/
def fnExactDidOfWrong : ChangeSpec := { name := "fnExactDidOf", fn := fun _ => fun
  | [d1, d2] => { results := [.lit (.bool false)], args := [d1, d2] }
  | _ => none }
def FnExactDidOfWrongFalsely : Prop := fnExactDidOfRow.holds Try.pinned (OpenSpec.ofChange fnExactDidOfWrong)

/-- 'laws.FnExactGreatest': WHATEVER THE INPUT: true; the input reads as it did. -/
def fnExactGreatestSpec : ChangeSpec := { name := "fnExactGreatest", fn := fun _ => fun
  | [d] => { results := [.lit (.bool true)], args := [d] }
  | _ => none }
def fnExactGreatestRow : OpenClaim := { program := "yteejpennjkihaaa", sum := "e783530a51ed5f76be094ebe6ef43c20469647d579ce358a0eb7af77b0984a42", func := "loop.example/g01407/laws.FnExactGreatest", spec := "fnExactGreatest", apart := false }
def FnExactGreatestSaid : Prop := fnExactGreatestRow.holds Try.pinned (OpenSpec.ofChange fnExactGreatestSpec)

/-- ITS FALSE NEIGHBOUR: 'it returns false'. Refute it at one input. -/
def fnExactGreatestWrong : ChangeSpec := { name := "fnExactGreatest", fn := fun _ => fun
  | [d] => { results := [.lit (.bool false)], args := [d] }
  | _ => none }
def FnExactGreatestWrongFalsely : Prop := fnExactGreatestRow.holds Try.pinned (OpenSpec.ofChange fnExactGreatestWrong)

/-- 'laws.FnExactSameModel': WHATEVER THE INPUT: true; the input reads as it did. -/
def fnExactSameModelSpec : ChangeSpec := { name := "fnExactSameModel", fn := fun _ => fun
  | [d1, d2] => { results := [.lit (.bool true)], args := [d1, d2] }
  | _ => none }
def fnExactSameModelRow : OpenClaim := { program := "yteejpennjkihaaa", sum := "e783530a51ed5f76be094ebe6ef43c20469647d579ce358a0eb7af77b0984a42", func := "loop.example/g01407/laws.FnExactSameModel", spec := "fnExactSameModel", apart := false }
def FnExactSameModelSaid : Prop := fnExactSameModelRow.holds Try.pinned (OpenSpec.ofChange fnExactSameModelSpec)

/-- ITS FALSE NEIGHBOUR: 'it returns false'. Refute it at one input. -/
def fnExactSameModelWrong : ChangeSpec := { name := "fnExactSameModel", fn := fun _ => fun
  | [d1, d2] => { results := [.lit (.bool false)], args := [d1, d2] }
  | _ => none }
def FnExactSameModelWrongFalsely : Prop := fnExactSameModelRow.holds Try.pinned (OpenSpec.ofChange fnExactSameModelWrong)

/-- 'laws.FnShares': WHATEVER THE INPUT: true; the input reads as it did. -/
def fnSharesSpec : ChangeSpec := { name := "fnShares", fn := fun _ => fun
  | [d] => { results := [.lit (.bool true)], args := [d] }
  | _ => none }
def fnSharesRow : OpenClaim := { program := "yteejpennjkihaaa", sum := "e783530a51ed5f76be094ebe6ef43c20469647d579ce358a0eb7af77b0984a42", func := "loop.example/g01407/laws.FnShares", spec := "fnShares", apart := false }
def FnSharesSaid : Prop := fnSharesRow.holds Try.pinned (OpenSpec.ofChange fnSharesSpec)

/-- ITS FALSE NEIGHBOUR: 'it returns false'. Refute it at one input. -/
def fnSharesWrong : ChangeSpec := { name := "fnShares", fn := fun _ => fun
  | [d] => { results := [.lit (.bool false)], args := [d] }
  | _ => none }
def FnSharesWrongFalsely : Prop := fnSharesRow.holds Try.pinned (OpenSpec.ofChange fnSharesWrong)

/-- 'laws.FnExactShares': WHATEVER THE INPUT: true; the input reads as it did. -/
def fnExactSharesSpec : ChangeSpec := { name := "fnExactShares", fn := fun _ => fun
  | [d1, d2] => { results := [.lit (.bool true)], args := [d1, d2] }
  | _ => none }
def fnExactSharesRow : OpenClaim := { program := "yteejpennjkihaaa", sum := "e783530a51ed5f76be094ebe6ef43c20469647d579ce358a0eb7af77b0984a42", func := "loop.example/g01407/laws.FnExactShares", spec := "fnExactShares", apart := false }
def FnExactSharesSaid : Prop := fnExactSharesRow.holds Try.pinned (OpenSpec.ofChange fnExactSharesSpec)

/-- ITS FALSE NEIGHBOUR: 'it returns false'. Refute it at one input. -/
def fnExactSharesWrong : ChangeSpec := { name := "fnExactShares", fn := fun _ => fun
  | [d1, d2] => { results := [.lit (.bool false)], args := [d1, d2] }
  | _ => none }
def FnExactSharesWrongFalsely : Prop := fnExactSharesRow.holds Try.pinned (OpenSpec.ofChange fnExactSharesWrong)

/-- 'laws.FnExactClip': WHATEVER THE INPUT: true; the input reads as it did. -/
def fnExactClipSpec : ChangeSpec := { name := "fnExactClip", fn := fun _ => fun
  | [d1, d2] => { results := [.lit (.bool true)], args := [d1, d2] }
  | _ => none }
def fnExactClipRow : OpenClaim := { program := "yteejpennjkihaaa", sum := "e783530a51ed5f76be094ebe6ef43c20469647d579ce358a0eb7af77b0984a42", func := "loop.example/g01407/laws.FnExactClip", spec := "fnExactClip", apart := false }
def FnExactClipSaid : Prop := fnExactClipRow.holds Try.pinned (OpenSpec.ofChange fnExactClipSpec)

/-- ITS FALSE NEIGHBOUR: 'it returns false'. Refute it at one input. -/
def fnExactClipWrong : ChangeSpec := { name := "fnExactClip", fn := fun _ => fun
  | [d1, d2] => { results := [.lit (.bool false)], args := [d1, d2] }
  | _ => none }
def FnExactClipWrongFalsely : Prop := fnExactClipRow.holds Try.pinned (OpenSpec.ofChange fnExactClipWrong)

/- THE SECOND FORM. 'bulk': how many values and letters a reading holds, each counted each time it is reached (what is shared counts as often as it is met; a slice's spare places count too). A statement '..UptoSaid' is the law's where the arguments, and the package variables that the reading takes, are together of bulk at most 1048576: NARROWER than '..Said'. Prove '..Said' where nothing that the law and all that it calls make is longer than what came in: it says more and counts as full. Else prove '..UptoSaid'. A law counts once. -/
mutual
def uptoBulk {H : Type} : DataW H → Nat
  | .lit (.string bytes) => bytes.length + 1
  | .lit _ => 1
  | .nil => 1
  | .ptr d => uptoBulk d + 1
  | .slice elems spare => uptoBulkAll elems + uptoBulkAll spare + 1
  | .agg parts => uptoBulkAll parts + 1
  | .iface _ d => uptoBulk d + 1
  | .map entries => uptoBulkEntries entries + 1
  | .held _ => 1
def uptoBulkAll {H : Type} : List (DataW H) → Nat
  | [] => 0
  | d :: r => uptoBulk d + uptoBulkAll r
def uptoBulkEntries {H : Type} : List (Lit × DataW H) → Nat
  | [] => 0
  | x :: r => uptoBulkEntry x + uptoBulkEntries r
def uptoBulkEntry {H : Type} : Lit × DataW H → Nat
  | (.string bytes, d) => bytes.length + uptoBulk d + 1
  | (_, d) => uptoBulk d + 1
 end
def uptoSmall : (H : Type) → List (DataW H) → Bool := fun _ ds => decide (uptoBulkAll ds ≤ 1048576)
def OpenSpec.upto (s : _root_.Go.ChangeSpec) : _root_.Go.OpenSpec := { _root_.Go.OpenSpec.ofChange s with cond := some uptoSmall }

/-- 'laws.FnExactOpWord', WHERE WHAT IT READS IS OF BULK AT MOST 1048576: true; the input reads as it did. -/
def fnExactOpWordUptoRow : OpenClaim := { program := "yteejpennjkihaaa", sum := "e783530a51ed5f76be094ebe6ef43c20469647d579ce358a0eb7af77b0984a42", func := "loop.example/g01407/laws.FnExactOpWord", spec := "fnExactOpWord", apart := false, narrowed := true }
def FnExactOpWordUptoSaid : Prop := fnExactOpWordUptoRow.holds Try.pinned (OpenSpec.upto fnExactOpWordSpec)

/-- 'laws.FnExactMostOf', WHERE WHAT IT READS IS OF BULK AT MOST 1048576: true; the input reads as it did. -/
def fnExactMostOfUptoRow : OpenClaim := { program := "yteejpennjkihaaa", sum := "e783530a51ed5f76be094ebe6ef43c20469647d579ce358a0eb7af77b0984a42", func := "loop.example/g01407/laws.FnExactMostOf", spec := "fnExactMostOf", apart := false, narrowed := true }
def FnExactMostOfUptoSaid : Prop := fnExactMostOfUptoRow.holds Try.pinned (OpenSpec.upto fnExactMostOfSpec)

/-- 'laws.FnExactShowVec', WHERE WHAT IT READS IS OF BULK AT MOST 1048576: true; the input reads as it did. -/
def fnExactShowVecUptoRow : OpenClaim := { program := "yteejpennjkihaaa", sum := "e783530a51ed5f76be094ebe6ef43c20469647d579ce358a0eb7af77b0984a42", func := "loop.example/g01407/laws.FnExactShowVec", spec := "fnExactShowVec", apart := false, narrowed := true }
def FnExactShowVecUptoSaid : Prop := fnExactShowVecUptoRow.holds Try.pinned (OpenSpec.upto fnExactShowVecSpec)

/-- 'laws.FnExactLostWork', WHERE WHAT IT READS IS OF BULK AT MOST 1048576: true; the input reads as it did. -/
def fnExactLostWorkUptoRow : OpenClaim := { program := "yteejpennjkihaaa", sum := "e783530a51ed5f76be094ebe6ef43c20469647d579ce358a0eb7af77b0984a42", func := "loop.example/g01407/laws.FnExactLostWork", spec := "fnExactLostWork", apart := false, narrowed := true }
def FnExactLostWorkUptoSaid : Prop := fnExactLostWorkUptoRow.holds Try.pinned (OpenSpec.upto fnExactLostWorkSpec)

/-- 'laws.FnExactMatched', WHERE WHAT IT READS IS OF BULK AT MOST 1048576: true; the input reads as it did. -/
def fnExactMatchedUptoRow : OpenClaim := { program := "yteejpennjkihaaa", sum := "e783530a51ed5f76be094ebe6ef43c20469647d579ce358a0eb7af77b0984a42", func := "loop.example/g01407/laws.FnExactMatched", spec := "fnExactMatched", apart := false, narrowed := true }
def FnExactMatchedUptoSaid : Prop := fnExactMatchedUptoRow.holds Try.pinned (OpenSpec.upto fnExactMatchedSpec)

/-- 'laws.FnExactReadVec', WHERE WHAT IT READS IS OF BULK AT MOST 1048576: true; the input reads as it did. -/
def fnExactReadVecUptoRow : OpenClaim := { program := "yteejpennjkihaaa", sum := "e783530a51ed5f76be094ebe6ef43c20469647d579ce358a0eb7af77b0984a42", func := "loop.example/g01407/laws.FnExactReadVec", spec := "fnExactReadVec", apart := false, narrowed := true }
def FnExactReadVecUptoSaid : Prop := fnExactReadVecUptoRow.holds Try.pinned (OpenSpec.upto fnExactReadVecSpec)

/-- 'laws.FnExactDidOf', WHERE WHAT IT READS IS OF BULK AT MOST 1048576: true; the input reads as it did. -/
def fnExactDidOfUptoRow : OpenClaim := { program := "yteejpennjkihaaa", sum := "e783530a51ed5f76be094ebe6ef43c20469647d579ce358a0eb7af77b0984a42", func := "loop.example/g01407/laws.FnExactDidOf", spec := "fnExactDidOf", apart := false, narrowed := true }
def FnExactDidOfUptoSaid : Prop := fnExactDidOfUptoRow.holds Try.pinned (OpenSpec.upto fnExactDidOfSpec)

/-- 'laws.FnExactGreatest', WHERE WHAT IT READS IS OF BULK AT MOST 1048576: true; the input reads as it did. -/
def fnExactGreatestUptoRow : OpenClaim := { program := "yteejpennjkihaaa", sum := "e783530a51ed5f76be094ebe6ef43c20469647d579ce358a0eb7af77b0984a42", func := "loop.example/g01407/laws.FnExactGreatest", spec := "fnExactGreatest", apart := false, narrowed := true }
def FnExactGreatestUptoSaid : Prop := fnExactGreatestUptoRow.holds Try.pinned (OpenSpec.upto fnExactGreatestSpec)

/-- 'laws.FnExactSameModel', WHERE WHAT IT READS IS OF BULK AT MOST 1048576: true; the input reads as it did. -/
def fnExactSameModelUptoRow : OpenClaim := { program := "yteejpennjkihaaa", sum := "e783530a51ed5f76be094ebe6ef43c20469647d579ce358a0eb7af77b0984a42", func := "loop.example/g01407/laws.FnExactSameModel", spec := "fnExactSameModel", apart := false, narrowed := true }
def FnExactSameModelUptoSaid : Prop := fnExactSameModelUptoRow.holds Try.pinned (OpenSpec.upto fnExactSameModelSpec)

/-- 'laws.FnShares', WHERE WHAT IT READS IS OF BULK AT MOST 1048576: true; the input reads as it did. -/
def fnSharesUptoRow : OpenClaim := { program := "yteejpennjkihaaa", sum := "e783530a51ed5f76be094ebe6ef43c20469647d579ce358a0eb7af77b0984a42", func := "loop.example/g01407/laws.FnShares", spec := "fnShares", apart := false, narrowed := true }
def FnSharesUptoSaid : Prop := fnSharesUptoRow.holds Try.pinned (OpenSpec.upto fnSharesSpec)

/-- 'laws.FnExactShares', WHERE WHAT IT READS IS OF BULK AT MOST 1048576: true; the input reads as it did. -/
def fnExactSharesUptoRow : OpenClaim := { program := "yteejpennjkihaaa", sum := "e783530a51ed5f76be094ebe6ef43c20469647d579ce358a0eb7af77b0984a42", func := "loop.example/g01407/laws.FnExactShares", spec := "fnExactShares", apart := false, narrowed := true }
def FnExactSharesUptoSaid : Prop := fnExactSharesUptoRow.holds Try.pinned (OpenSpec.upto fnExactSharesSpec)

/-- 'laws.FnExactClip', WHERE WHAT IT READS IS OF BULK AT MOST 1048576: true; the input reads as it did. -/
def fnExactClipUptoRow : OpenClaim := { program := "yteejpennjkihaaa", sum := "e783530a51ed5f76be094ebe6ef43c20469647d579ce358a0eb7af77b0984a42", func := "loop.example/g01407/laws.FnExactClip", spec := "fnExactClip", apart := false, narrowed := true }
def FnExactClipUptoSaid : Prop := fnExactClipUptoRow.holds Try.pinned (OpenSpec.upto fnExactClipSpec)

end Rows
end Go.Proofs.Yteejpennjkihaaa
