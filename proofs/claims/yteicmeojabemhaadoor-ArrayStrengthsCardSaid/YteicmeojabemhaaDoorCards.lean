/-
  DERIVED. GIVEN WITH THE SEED: THE CARDS: each row of YteicmeojabemhaaDoorRows.lean that lists a variable, with what it lists TIED to the program's text (the seventh form; the later family's looks); each row that meets fmt, with fmt's text TOLD by the authors' own Lean function (tested against real Go, not proved from fmt's source: count such statements apart). THE CARD IS WHAT COUNTS. Prove the row's statement (the work); the ties are given (YteicmeojabemhaaDoorTie.lean); close each card by the builder's one call (the guide's Derived/Test/ToyasCard.lean, 'card_holds'). Laid BY PROGRAM, IN A SANDBOX (cutbox-door.mjs). By AI agents, Wed Nov 11 2026. No macro, syntax, notation, axiom, sorry.
-/
import Derived.Test.YteicmeojabemhaaDoorRows
import GoSem.ClaimSeven
namespace Go.Proofs.YteicmeojabemhaaDoor
namespace Rows

/-- THE TIED CARD OF 'plexuslaw11.ArrayStrengths'. -/
def arrayStrengthsCard : Claim7 := { stood := { row := arrayStrengthsRow, standIns := [], harness := (true, "44a08586514af2e2e749d185041e1bb8710a6dd73b8c589394d0a538bfc0630e"), looks := false }, kinds := [], alts := [], laidByText := true, laidKinds := [.data, .data], laidTests := true, laidLooks := .later }
def ArrayStrengthsCardSaid : Prop := Claim7.holds Tryd.pinned (.plain (OpenSpec.ofChange arrayStrengthsSpec)) arrayStrengthsCard

/-- THE TIED CARD OF 'plexuslaw11.ArrayTurned'. -/
def arrayTurnedCard : Claim7 := { stood := { row := arrayTurnedRow, standIns := [], harness := (true, "44a08586514af2e2e749d185041e1bb8710a6dd73b8c589394d0a538bfc0630e"), looks := false }, kinds := [], alts := [], laidByText := true, laidKinds := [.data, .data], laidTests := true, laidLooks := .later }
def ArrayTurnedCardSaid : Prop := Claim7.holds Tryd.pinned (.plain (OpenSpec.ofChange arrayTurnedSpec)) arrayTurnedCard

/-- THE TIED CARD OF 'plexuslaw11.ArrayParts'. -/
def arrayPartsCard : Claim7 := { stood := { row := arrayPartsRow, standIns := [], harness := (true, "44a08586514af2e2e749d185041e1bb8710a6dd73b8c589394d0a538bfc0630e"), looks := false }, kinds := [], alts := [], laidByText := true, laidKinds := [.data, .data], laidTests := true, laidLooks := .later }
def ArrayPartsCardSaid : Prop := Claim7.holds Tryd.pinned (.plain (OpenSpec.ofChange arrayPartsSpec)) arrayPartsCard

/-- THE TIED CARD OF 'plexuslaw11.ArraySquares'. -/
def arraySquaresCard : Claim7 := { stood := { row := arraySquaresRow, standIns := [], harness := (true, "44a08586514af2e2e749d185041e1bb8710a6dd73b8c589394d0a538bfc0630e"), looks := false }, kinds := [], alts := [], laidByText := true, laidKinds := [.data, .data], laidTests := true, laidLooks := .later }
def ArraySquaresCardSaid : Prop := Claim7.holds Tryd.pinned (.plain (OpenSpec.ofChange arraySquaresSpec)) arraySquaresCard

/-- THE TIED CARD OF 'plexuslaw11.ArrayBounds'. -/
def arrayBoundsCard : Claim7 := { stood := { row := arrayBoundsRow, standIns := [], harness := (true, "44a08586514af2e2e749d185041e1bb8710a6dd73b8c589394d0a538bfc0630e"), looks := false }, kinds := [], alts := [], laidByText := true, laidKinds := [.data, .data], laidTests := true, laidLooks := .later }
def ArrayBoundsCardSaid : Prop := Claim7.holds Tryd.pinned (.plain (OpenSpec.ofChange arrayBoundsSpec)) arrayBoundsCard

/-- THE TIED CARD OF 'plexuslaw11.ArrayCovers'. -/
def arrayCoversCard : Claim7 := { stood := { row := arrayCoversRow, standIns := [], harness := (true, "44a08586514af2e2e749d185041e1bb8710a6dd73b8c589394d0a538bfc0630e"), looks := false }, kinds := [], alts := [], laidByText := true, laidKinds := [.data, .data], laidTests := true, laidLooks := .later }
def ArrayCoversCardSaid : Prop := Claim7.holds Tryd.pinned (.plain (OpenSpec.ofChange arrayCoversSpec)) arrayCoversCard

/-- THE SECOND FORM's CARD OF 'plexuslaw11.ArrayStrengths'. -/
def arrayStrengthsUptoCard : Claim7 := { stood := { row := arrayStrengthsUptoRow, standIns := [], harness := (true, "44a08586514af2e2e749d185041e1bb8710a6dd73b8c589394d0a538bfc0630e"), looks := false }, kinds := [], alts := [], laidByText := true, laidKinds := [.data, .data], laidTests := true, laidLooks := .later }
def ArrayStrengthsUptoCardSaid : Prop := Claim7.holds Tryd.pinned (.plain (OpenSpec.upto arrayStrengthsSpec)) arrayStrengthsUptoCard

/-- THE SECOND FORM's CARD OF 'plexuslaw11.ArrayTurned'. -/
def arrayTurnedUptoCard : Claim7 := { stood := { row := arrayTurnedUptoRow, standIns := [], harness := (true, "44a08586514af2e2e749d185041e1bb8710a6dd73b8c589394d0a538bfc0630e"), looks := false }, kinds := [], alts := [], laidByText := true, laidKinds := [.data, .data], laidTests := true, laidLooks := .later }
def ArrayTurnedUptoCardSaid : Prop := Claim7.holds Tryd.pinned (.plain (OpenSpec.upto arrayTurnedSpec)) arrayTurnedUptoCard

/-- THE SECOND FORM's CARD OF 'plexuslaw11.ArrayParts'. -/
def arrayPartsUptoCard : Claim7 := { stood := { row := arrayPartsUptoRow, standIns := [], harness := (true, "44a08586514af2e2e749d185041e1bb8710a6dd73b8c589394d0a538bfc0630e"), looks := false }, kinds := [], alts := [], laidByText := true, laidKinds := [.data, .data], laidTests := true, laidLooks := .later }
def ArrayPartsUptoCardSaid : Prop := Claim7.holds Tryd.pinned (.plain (OpenSpec.upto arrayPartsSpec)) arrayPartsUptoCard

/-- THE SECOND FORM's CARD OF 'plexuslaw11.ArraySquares'. -/
def arraySquaresUptoCard : Claim7 := { stood := { row := arraySquaresUptoRow, standIns := [], harness := (true, "44a08586514af2e2e749d185041e1bb8710a6dd73b8c589394d0a538bfc0630e"), looks := false }, kinds := [], alts := [], laidByText := true, laidKinds := [.data, .data], laidTests := true, laidLooks := .later }
def ArraySquaresUptoCardSaid : Prop := Claim7.holds Tryd.pinned (.plain (OpenSpec.upto arraySquaresSpec)) arraySquaresUptoCard

/-- THE SECOND FORM's CARD OF 'plexuslaw11.ArrayBounds'. -/
def arrayBoundsUptoCard : Claim7 := { stood := { row := arrayBoundsUptoRow, standIns := [], harness := (true, "44a08586514af2e2e749d185041e1bb8710a6dd73b8c589394d0a538bfc0630e"), looks := false }, kinds := [], alts := [], laidByText := true, laidKinds := [.data, .data], laidTests := true, laidLooks := .later }
def ArrayBoundsUptoCardSaid : Prop := Claim7.holds Tryd.pinned (.plain (OpenSpec.upto arrayBoundsSpec)) arrayBoundsUptoCard

/-- THE SECOND FORM's CARD OF 'plexuslaw11.ArrayCovers'. -/
def arrayCoversUptoCard : Claim7 := { stood := { row := arrayCoversUptoRow, standIns := [], harness := (true, "44a08586514af2e2e749d185041e1bb8710a6dd73b8c589394d0a538bfc0630e"), looks := false }, kinds := [], alts := [], laidByText := true, laidKinds := [.data, .data], laidTests := true, laidLooks := .later }
def ArrayCoversUptoCardSaid : Prop := Claim7.holds Tryd.pinned (.plain (OpenSpec.upto arrayCoversSpec)) arrayCoversUptoCard
end Rows
end Go.Proofs.YteicmeojabemhaaDoor
