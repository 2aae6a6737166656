/-
  DERIVED. GIVEN WITH THE SEED: THE CARDS: each row of YtamlmddkcghhlaaGreatDoorRows.lean that lists a variable, with what it lists TIED to the program's text (the seventh form; the later family's looks); each row that meets fmt, with fmt's text TOLD by the authors' own Lean function (tested against real Go, not proved from fmt's source: count such statements apart). THE CARD IS WHAT COUNTS. Prove the row's statement (the work); the ties are given (YtamlmddkcghhlaaGreatDoorTie.lean); close each card by the builder's one call (the guide's Derived/Test/ToyasCard.lean, 'card_holds'). Laid BY PROGRAM, IN A SANDBOX (cutbox-door.mjs). By AI agents, Wed Nov 11 2026. No macro, syntax, notation, axiom, sorry.
-/
import Derived.Test.YtamlmddkcghhlaaGreatDoorRows
import GoSem.ClaimSeven
namespace Go.Proofs.YtamlmddkcghhlaaGreatDoor
namespace Rows

/-- THE TIED CARD OF 'coffretlaw18.CatalogNames'. -/
def catalogNamesCard : Claim7 := { stood := { row := catalogNamesRow, standIns := [], harness := (true, "49d74a665fa8e61b493d08c6f046c8c1a66b9d42574f65f1c7f439cc9fd76f90"), looks := true }, kinds := [], alts := [], laidByText := true, laidKinds := [.data, .data, .data, .data, .data, .pinned], laidTests := true, laidLooks := .later }
def CatalogNamesCardSaid : Prop := Claim7.holds Tryz.pinned (.plain (OpenSpec.ofChange catalogNamesSpec)) catalogNamesCard

/-- THE TIED CARD OF 'coffretlaw18.CatalogApart'. -/
def catalogApartCard : Claim7 := { stood := { row := catalogApartRow, standIns := [], harness := (true, "49d74a665fa8e61b493d08c6f046c8c1a66b9d42574f65f1c7f439cc9fd76f90"), looks := true }, kinds := [], alts := [], laidByText := true, laidKinds := [.data, .data, .data, .data, .data, .pinned], laidTests := true, laidLooks := .later }
def CatalogApartCardSaid : Prop := Claim7.holds Tryz.pinned (.plain (OpenSpec.ofChange catalogApartSpec)) catalogApartCard

/-- THE TIED CARD OF 'coffretlaw18.CatalogPlays'. -/
def catalogPlaysCard : Claim7 := { stood := { row := catalogPlaysRow, standIns := [], harness := (true, "49d74a665fa8e61b493d08c6f046c8c1a66b9d42574f65f1c7f439cc9fd76f90"), looks := true }, kinds := [], alts := [], laidByText := true, laidKinds := [.data, .data, .data, .data, .data, .pinned], laidTests := true, laidLooks := .later }
def CatalogPlaysCardSaid : Prop := Claim7.holds Tryz.pinned (.plain (OpenSpec.ofChange catalogPlaysSpec)) catalogPlaysCard

/-- THE TIED CARD OF 'coffretlaw18.CatalogNumbers'. -/
def catalogNumbersCard : Claim7 := { stood := { row := catalogNumbersRow, standIns := [], harness := (true, "49d74a665fa8e61b493d08c6f046c8c1a66b9d42574f65f1c7f439cc9fd76f90"), looks := true }, kinds := [], alts := [], laidByText := true, laidKinds := [.data, .data, .data, .data, .data, .pinned], laidTests := true, laidLooks := .later }
def CatalogNumbersCardSaid : Prop := Claim7.holds Tryz.pinned (.plain (OpenSpec.ofChange catalogNumbersSpec)) catalogNumbersCard

/-- THE TIED CARD OF 'coffretlaw18.CatalogUndo'. -/
def catalogUndoCard : Claim7 := { stood := { row := catalogUndoRow, standIns := [], harness := (true, "49d74a665fa8e61b493d08c6f046c8c1a66b9d42574f65f1c7f439cc9fd76f90"), looks := true }, kinds := [], alts := [], laidByText := true, laidKinds := [.data, .data, .data, .data, .data, .pinned], laidTests := true, laidLooks := .later }
def CatalogUndoCardSaid : Prop := Claim7.holds Tryz.pinned (.plain (OpenSpec.ofChange catalogUndoSpec)) catalogUndoCard

/-- THE SECOND FORM's CARD OF 'coffretlaw18.CatalogNames'. -/
def catalogNamesUptoCard : Claim7 := { stood := { row := catalogNamesUptoRow, standIns := [], harness := (true, "49d74a665fa8e61b493d08c6f046c8c1a66b9d42574f65f1c7f439cc9fd76f90"), looks := true }, kinds := [], alts := [], laidByText := true, laidKinds := [.data, .data, .data, .data, .data, .pinned], laidTests := true, laidLooks := .later }
def CatalogNamesUptoCardSaid : Prop := Claim7.holds Tryz.pinned (.plain (OpenSpec.upto catalogNamesSpec)) catalogNamesUptoCard

/-- THE SECOND FORM's CARD OF 'coffretlaw18.CatalogApart'. -/
def catalogApartUptoCard : Claim7 := { stood := { row := catalogApartUptoRow, standIns := [], harness := (true, "49d74a665fa8e61b493d08c6f046c8c1a66b9d42574f65f1c7f439cc9fd76f90"), looks := true }, kinds := [], alts := [], laidByText := true, laidKinds := [.data, .data, .data, .data, .data, .pinned], laidTests := true, laidLooks := .later }
def CatalogApartUptoCardSaid : Prop := Claim7.holds Tryz.pinned (.plain (OpenSpec.upto catalogApartSpec)) catalogApartUptoCard

/-- THE SECOND FORM's CARD OF 'coffretlaw18.CatalogPlays'. -/
def catalogPlaysUptoCard : Claim7 := { stood := { row := catalogPlaysUptoRow, standIns := [], harness := (true, "49d74a665fa8e61b493d08c6f046c8c1a66b9d42574f65f1c7f439cc9fd76f90"), looks := true }, kinds := [], alts := [], laidByText := true, laidKinds := [.data, .data, .data, .data, .data, .pinned], laidTests := true, laidLooks := .later }
def CatalogPlaysUptoCardSaid : Prop := Claim7.holds Tryz.pinned (.plain (OpenSpec.upto catalogPlaysSpec)) catalogPlaysUptoCard

/-- THE SECOND FORM's CARD OF 'coffretlaw18.CatalogNumbers'. -/
def catalogNumbersUptoCard : Claim7 := { stood := { row := catalogNumbersUptoRow, standIns := [], harness := (true, "49d74a665fa8e61b493d08c6f046c8c1a66b9d42574f65f1c7f439cc9fd76f90"), looks := true }, kinds := [], alts := [], laidByText := true, laidKinds := [.data, .data, .data, .data, .data, .pinned], laidTests := true, laidLooks := .later }
def CatalogNumbersUptoCardSaid : Prop := Claim7.holds Tryz.pinned (.plain (OpenSpec.upto catalogNumbersSpec)) catalogNumbersUptoCard

/-- THE SECOND FORM's CARD OF 'coffretlaw18.CatalogUndo'. -/
def catalogUndoUptoCard : Claim7 := { stood := { row := catalogUndoUptoRow, standIns := [], harness := (true, "49d74a665fa8e61b493d08c6f046c8c1a66b9d42574f65f1c7f439cc9fd76f90"), looks := true }, kinds := [], alts := [], laidByText := true, laidKinds := [.data, .data, .data, .data, .data, .pinned], laidTests := true, laidLooks := .later }
def CatalogUndoUptoCardSaid : Prop := Claim7.holds Tryz.pinned (.plain (OpenSpec.upto catalogUndoSpec)) catalogUndoUptoCard
end Rows
end Go.Proofs.YtamlmddkcghhlaaGreatDoor
