/-
  DERIVED. GIVEN WITH THE SEED: THE CARDS: each row of YtllphmcjocidaaaGreatDoorRows.lean that lists a variable, with what it lists TIED to the program's text (the seventh form; the later family's looks); each row that meets fmt, with fmt's text TOLD by the authors' own Lean function (tested against real Go, not proved from fmt's source: count such statements apart). THE CARD IS WHAT COUNTS. Prove the row's statement (the work); the ties are given (YtllphmcjocidaaaGreatDoorTie.lean); close each card by the builder's one call (the guide's Derived/Test/ToyasCard.lean, 'card_holds'). Laid BY PROGRAM, IN A SANDBOX (cutbox-door.mjs). By AI agents, Wed Nov 11 2026. No macro, syntax, notation, axiom, sorry.
-/
import Derived.Test.YtllphmcjocidaaaGreatDoorRows
import GoSem.ClaimSeven
namespace Go.Proofs.YtllphmcjocidaaaGreatDoor
namespace Rows

/-- THE TIED CARD OF 'laws.FnExactReadModel'. -/
def fnExactReadModelCard : Claim7 := { stood := { row := fnExactReadModelRow, standIns := [], harness := (true, "6bdc7aee2a862ff08efed007bc4f91edd3c9b999da05fd4b39b17723deaf2189"), looks := true }, kinds := [], alts := [], laidByText := true, laidKinds := [.data, .data, .data, .data, .sentinel, .sentinel, .pinned], laidTests := true, laidLooks := .later }
def FnExactReadModelCardSaid : Prop := Claim7.holds Tryz.pinned (.plain (OpenSpec.ofChange fnExactReadModelSpec)) fnExactReadModelCard

/-- THE TIED CARD OF 'laws.FnTexts'. -/
def fnTextsCard : Claim7 := { stood := { row := fnTextsRow, standIns := [], harness := (true, "6bdc7aee2a862ff08efed007bc4f91edd3c9b999da05fd4b39b17723deaf2189"), looks := true }, kinds := [], alts := [], laidByText := true, laidKinds := [.data, .data, .data, .data, .sentinel, .sentinel, .pinned], laidTests := true, laidLooks := .later }
def FnTextsCardSaid : Prop := Claim7.holds Tryz.pinned (.plain (OpenSpec.ofChange fnTextsSpec)) fnTextsCard

/-- THE SECOND FORM's CARD OF 'laws.FnExactReadModel'. -/
def fnExactReadModelUptoCard : Claim7 := { stood := { row := fnExactReadModelUptoRow, standIns := [], harness := (true, "6bdc7aee2a862ff08efed007bc4f91edd3c9b999da05fd4b39b17723deaf2189"), looks := true }, kinds := [], alts := [], laidByText := true, laidKinds := [.data, .data, .data, .data, .sentinel, .sentinel, .pinned], laidTests := true, laidLooks := .later }
def FnExactReadModelUptoCardSaid : Prop := Claim7.holds Tryz.pinned (.plain (OpenSpec.upto fnExactReadModelSpec)) fnExactReadModelUptoCard

/-- THE SECOND FORM's CARD OF 'laws.FnTexts'. -/
def fnTextsUptoCard : Claim7 := { stood := { row := fnTextsUptoRow, standIns := [], harness := (true, "6bdc7aee2a862ff08efed007bc4f91edd3c9b999da05fd4b39b17723deaf2189"), looks := true }, kinds := [], alts := [], laidByText := true, laidKinds := [.data, .data, .data, .data, .sentinel, .sentinel, .pinned], laidTests := true, laidLooks := .later }
def FnTextsUptoCardSaid : Prop := Claim7.holds Tryz.pinned (.plain (OpenSpec.upto fnTextsSpec)) fnTextsUptoCard
end Rows
end Go.Proofs.YtllphmcjocidaaaGreatDoor
