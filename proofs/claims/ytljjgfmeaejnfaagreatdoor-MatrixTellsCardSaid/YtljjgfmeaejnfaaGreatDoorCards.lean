/-
  DERIVED. GIVEN WITH THE SEED: THE CARDS: each row of YtljjgfmeaejnfaaGreatDoorRows.lean that lists a variable, with what it lists TIED to the program's text (the seventh form; the later family's looks); each row that meets fmt, with fmt's text TOLD by the authors' own Lean function (tested against real Go, not proved from fmt's source: count such statements apart). THE CARD IS WHAT COUNTS. Prove the row's statement (the work); the ties are given (YtljjgfmeaejnfaaGreatDoorTie.lean); close each card by the builder's one call (the guide's Derived/Test/ToyasCard.lean, 'card_holds'). Laid BY PROGRAM, IN A SANDBOX (cutbox-door.mjs). By AI agents, Wed Nov 11 2026. No macro, syntax, notation, axiom, sorry.
-/
import Derived.Test.YtljjgfmeaejnfaaGreatDoorRows
import GoSem.ClaimSeven
namespace Go.Proofs.YtljjgfmeaejnfaaGreatDoor
namespace Rows

/-- THE TIED CARD OF 'tripwirelaw10.ShapesTells'. -/
def shapesTellsCard : Claim7 := { stood := { row := shapesTellsRow, standIns := [], harness := (true, "da77f8adc9c78a39fb29b558ea0978a2ffa83e1d48fbb111796ae235ab248990"), looks := false }, kinds := [], alts := [], laidByText := true, laidKinds := [.data], laidTests := true, laidLooks := .later }
def ShapesTellsCardSaid : Prop := Claim7.holds Tryz.pinned (.plain (OpenSpec.ofChange shapesTellsSpec)) shapesTellsCard

/-- THE TIED CARD OF 'tripwirelaw05.SparseTells'. -/
def sparseTellsCard : Claim7 := { stood := { row := sparseTellsRow, standIns := [], harness := (true, "da77f8adc9c78a39fb29b558ea0978a2ffa83e1d48fbb111796ae235ab248990"), looks := false }, kinds := [], alts := [], laidByText := true, laidKinds := [.data], laidTests := true, laidLooks := .later }
def SparseTellsCardSaid : Prop := Claim7.holds Tryz.pinned (.plain (OpenSpec.ofChange sparseTellsSpec)) sparseTellsCard

/-- THE TIED CARD OF 'tripwirelaw06.MatrixTells'. -/
def matrixTellsCard : Claim7 := { stood := { row := matrixTellsRow, standIns := [], harness := (true, "da77f8adc9c78a39fb29b558ea0978a2ffa83e1d48fbb111796ae235ab248990"), looks := false }, kinds := [], alts := [], laidByText := true, laidKinds := [.data], laidTests := true, laidLooks := .later }
def MatrixTellsCardSaid : Prop := Claim7.holds Tryz.pinned (.plain (OpenSpec.ofChange matrixTellsSpec)) matrixTellsCard

/-- THE SECOND FORM's CARD OF 'tripwirelaw10.ShapesTells'. -/
def shapesTellsUptoCard : Claim7 := { stood := { row := shapesTellsUptoRow, standIns := [], harness := (true, "da77f8adc9c78a39fb29b558ea0978a2ffa83e1d48fbb111796ae235ab248990"), looks := false }, kinds := [], alts := [], laidByText := true, laidKinds := [.data], laidTests := true, laidLooks := .later }
def ShapesTellsUptoCardSaid : Prop := Claim7.holds Tryz.pinned (.plain (OpenSpec.upto shapesTellsSpec)) shapesTellsUptoCard

/-- THE SECOND FORM's CARD OF 'tripwirelaw05.SparseTells'. -/
def sparseTellsUptoCard : Claim7 := { stood := { row := sparseTellsUptoRow, standIns := [], harness := (true, "da77f8adc9c78a39fb29b558ea0978a2ffa83e1d48fbb111796ae235ab248990"), looks := false }, kinds := [], alts := [], laidByText := true, laidKinds := [.data], laidTests := true, laidLooks := .later }
def SparseTellsUptoCardSaid : Prop := Claim7.holds Tryz.pinned (.plain (OpenSpec.upto sparseTellsSpec)) sparseTellsUptoCard

/-- THE SECOND FORM's CARD OF 'tripwirelaw06.MatrixTells'. -/
def matrixTellsUptoCard : Claim7 := { stood := { row := matrixTellsUptoRow, standIns := [], harness := (true, "da77f8adc9c78a39fb29b558ea0978a2ffa83e1d48fbb111796ae235ab248990"), looks := false }, kinds := [], alts := [], laidByText := true, laidKinds := [.data], laidTests := true, laidLooks := .later }
def MatrixTellsUptoCardSaid : Prop := Claim7.holds Tryz.pinned (.plain (OpenSpec.upto matrixTellsSpec)) matrixTellsUptoCard
end Rows
end Go.Proofs.YtljjgfmeaejnfaaGreatDoor
