/-
  DERIVED. GIVEN WITH THE SEED: THE CARDS: each row of YtahggdiafncdhaaDoorRows.lean that lists a variable, with what it lists TIED to the program's text (the seventh form; the later family's looks); each row that meets fmt, with fmt's text TOLD by the authors' own Lean function (tested against real Go, not proved from fmt's source: count such statements apart). THE CARD IS WHAT COUNTS. Prove the row's statement (the work); the ties are given (YtahggdiafncdhaaDoorTie.lean); close each card by the builder's one call (the guide's Derived/Test/ToyasCard.lean, 'card_holds'). Laid BY PROGRAM, IN A SANDBOX (cutbox-door.mjs). By AI agents, Wed Nov 11 2026. No macro, syntax, notation, axiom, sorry.
-/
import Derived.Test.YtahggdiafncdhaaDoorRows
import GoSem.ClaimSeven
namespace Go.Proofs.YtahggdiafncdhaaDoor
namespace Rows

/-- THE TIED CARD OF 'laws.FnExactShowPlan'. -/
def fnExactShowPlanCard : Claim7 := { stood := { row := fnExactShowPlanRow, standIns := [], harness := (true, "d2ae3a51f446f567b227b6b83a09628a4af0893d763e31bd6b412a4ad89ff319"), looks := true }, kinds := [], alts := [], laidByText := true, laidKinds := [.data, .data, .data], laidTests := true, laidLooks := .later }
def FnExactShowPlanCardSaid : Prop := Claim7.holds Tryd.pinned (.plain (OpenSpec.ofChange fnExactShowPlanSpec)) fnExactShowPlanCard

/-- THE TIED CARD OF 'laws.FnExactShowOp'. -/
def fnExactShowOpCard : Claim7 := { stood := { row := fnExactShowOpRow, standIns := [], harness := (true, "d2ae3a51f446f567b227b6b83a09628a4af0893d763e31bd6b412a4ad89ff319"), looks := true }, kinds := [], alts := [], laidByText := true, laidKinds := [.data, .data, .data], laidTests := true, laidLooks := .later }
def FnExactShowOpCardSaid : Prop := Claim7.holds Tryd.pinned (.plain (OpenSpec.ofChange fnExactShowOpSpec)) fnExactShowOpCard

/-- THE TIED CARD OF 'laws.FnExactShowModel'. -/
def fnExactShowModelCard : Claim7 := { stood := { row := fnExactShowModelRow, standIns := [], harness := (true, "d2ae3a51f446f567b227b6b83a09628a4af0893d763e31bd6b412a4ad89ff319"), looks := true }, kinds := [], alts := [], laidByText := true, laidKinds := [.data, .data, .data], laidTests := true, laidLooks := .later }
def FnExactShowModelCardSaid : Prop := Claim7.holds Tryd.pinned (.plain (OpenSpec.ofChange fnExactShowModelSpec)) fnExactShowModelCard

/-- THE TIED CARD OF 'laws.FnExactReadOp'. -/
def fnExactReadOpCard : Claim7 := { stood := { row := fnExactReadOpRow, standIns := [], harness := (true, "d2ae3a51f446f567b227b6b83a09628a4af0893d763e31bd6b412a4ad89ff319"), looks := true }, kinds := [], alts := [], laidByText := true, laidKinds := [.data, .data, .data, .data, .sentinel, .sentinel, .pinned], laidTests := true, laidLooks := .later }
def FnExactReadOpCardSaid : Prop := Claim7.holds Tryd.pinned (.plain (OpenSpec.ofChange fnExactReadOpSpec)) fnExactReadOpCard

/-- THE SECOND FORM's CARD OF 'laws.FnExactShowPlan'. -/
def fnExactShowPlanUptoCard : Claim7 := { stood := { row := fnExactShowPlanUptoRow, standIns := [], harness := (true, "d2ae3a51f446f567b227b6b83a09628a4af0893d763e31bd6b412a4ad89ff319"), looks := true }, kinds := [], alts := [], laidByText := true, laidKinds := [.data, .data, .data], laidTests := true, laidLooks := .later }
def FnExactShowPlanUptoCardSaid : Prop := Claim7.holds Tryd.pinned (.plain (OpenSpec.upto fnExactShowPlanSpec)) fnExactShowPlanUptoCard

/-- THE SECOND FORM's CARD OF 'laws.FnExactShowOp'. -/
def fnExactShowOpUptoCard : Claim7 := { stood := { row := fnExactShowOpUptoRow, standIns := [], harness := (true, "d2ae3a51f446f567b227b6b83a09628a4af0893d763e31bd6b412a4ad89ff319"), looks := true }, kinds := [], alts := [], laidByText := true, laidKinds := [.data, .data, .data], laidTests := true, laidLooks := .later }
def FnExactShowOpUptoCardSaid : Prop := Claim7.holds Tryd.pinned (.plain (OpenSpec.upto fnExactShowOpSpec)) fnExactShowOpUptoCard

/-- THE SECOND FORM's CARD OF 'laws.FnExactShowModel'. -/
def fnExactShowModelUptoCard : Claim7 := { stood := { row := fnExactShowModelUptoRow, standIns := [], harness := (true, "d2ae3a51f446f567b227b6b83a09628a4af0893d763e31bd6b412a4ad89ff319"), looks := true }, kinds := [], alts := [], laidByText := true, laidKinds := [.data, .data, .data], laidTests := true, laidLooks := .later }
def FnExactShowModelUptoCardSaid : Prop := Claim7.holds Tryd.pinned (.plain (OpenSpec.upto fnExactShowModelSpec)) fnExactShowModelUptoCard

/-- THE SECOND FORM's CARD OF 'laws.FnExactReadOp'. -/
def fnExactReadOpUptoCard : Claim7 := { stood := { row := fnExactReadOpUptoRow, standIns := [], harness := (true, "d2ae3a51f446f567b227b6b83a09628a4af0893d763e31bd6b412a4ad89ff319"), looks := true }, kinds := [], alts := [], laidByText := true, laidKinds := [.data, .data, .data, .data, .sentinel, .sentinel, .pinned], laidTests := true, laidLooks := .later }
def FnExactReadOpUptoCardSaid : Prop := Claim7.holds Tryd.pinned (.plain (OpenSpec.upto fnExactReadOpSpec)) fnExactReadOpUptoCard
end Rows
end Go.Proofs.YtahggdiafncdhaaDoor
