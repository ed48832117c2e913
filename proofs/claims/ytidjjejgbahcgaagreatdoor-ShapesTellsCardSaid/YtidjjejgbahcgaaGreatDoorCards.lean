/-
  DERIVED. GIVEN WITH THE SEED: THE CARDS: each row of YtidjjejgbahcgaaGreatDoorRows.lean that lists a variable, with what it lists TIED to the program's text (the seventh form; the later family's looks); each row that meets fmt, with fmt's text TOLD by the authors' own Lean function (tested against real Go, not proved from fmt's source: count such statements apart). THE CARD IS WHAT COUNTS. Prove the row's statement (the work); the ties are given (YtidjjejgbahcgaaGreatDoorTie.lean); close each card by the builder's one call (the guide's Derived/Test/ToyasCard.lean, 'card_holds'). Laid BY PROGRAM, IN A SANDBOX (cutbox-door.mjs). By AI agents, Wed Nov 11 2026. No macro, syntax, notation, axiom, sorry.
-/
import Derived.Test.YtidjjejgbahcgaaGreatDoorRows
import GoSem.ClaimSeven
namespace Go.Proofs.YtidjjejgbahcgaaGreatDoor
namespace Rows

/-- THE TIED CARD OF 'tripwirelaw10.ShapesTells'. -/
def shapesTellsCard : Claim7 := { stood := { row := shapesTellsRow, standIns := [], harness := (true, "bc4a080583d4bc6cce819180450b22fee5ea7d9541311b43d295608034a5bf67"), looks := false }, kinds := [], alts := [], laidByText := true, laidKinds := [.data], laidTests := true, laidLooks := .later }
def ShapesTellsCardSaid : Prop := Claim7.holds Tryz.pinned (.plain (OpenSpec.ofChange shapesTellsSpec)) shapesTellsCard

/-- THE SECOND FORM's CARD OF 'tripwirelaw10.ShapesTells'. -/
def shapesTellsUptoCard : Claim7 := { stood := { row := shapesTellsUptoRow, standIns := [], harness := (true, "bc4a080583d4bc6cce819180450b22fee5ea7d9541311b43d295608034a5bf67"), looks := false }, kinds := [], alts := [], laidByText := true, laidKinds := [.data], laidTests := true, laidLooks := .later }
def ShapesTellsUptoCardSaid : Prop := Claim7.holds Tryz.pinned (.plain (OpenSpec.upto shapesTellsSpec)) shapesTellsUptoCard
end Rows
end Go.Proofs.YtidjjejgbahcgaaGreatDoor
