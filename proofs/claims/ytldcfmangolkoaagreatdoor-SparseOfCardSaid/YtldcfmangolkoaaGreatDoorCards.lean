/-
  DERIVED. GIVEN WITH THE SEED: THE CARDS: each row of YtldcfmangolkoaaGreatDoorRows.lean that lists a variable, with what it lists TIED to the program's text (the seventh form; the later family's looks); each row that meets fmt, with fmt's text TOLD by the authors' own Lean function (tested against real Go, not proved from fmt's source: count such statements apart). THE CARD IS WHAT COUNTS. Prove the row's statement (the work); the ties are given (YtldcfmangolkoaaGreatDoorTie.lean); close each card by the builder's one call (the guide's Derived/Test/ToyasCard.lean, 'card_holds'). Laid BY PROGRAM, IN A SANDBOX (cutbox-door.mjs). By AI agents, Wed Nov 11 2026. No macro, syntax, notation, axiom, sorry.
-/
import Derived.Test.YtldcfmangolkoaaGreatDoorRows
import GoSem.ClaimSeven
namespace Go.Proofs.YtldcfmangolkoaaGreatDoor
namespace Rows

/-- THE TIED CARD OF 'tripwirelaw10.ShapesTells'. -/
def shapesTellsCard : Claim7 := { stood := { row := shapesTellsRow, standIns := [], harness := (true, "31bf0b703a4b5ce6b4fca00db2c9cb73b846e78a6850e29a72bb2cb82462726f"), looks := false }, kinds := [], alts := [], laidByText := true, laidKinds := [.data], laidTests := true, laidLooks := .later }
def ShapesTellsCardSaid : Prop := Claim7.holds Tryz.pinned (.plain (OpenSpec.ofChange shapesTellsSpec)) shapesTellsCard

/-- THE TIED CARD OF 'tripwirelaw05.SparseOf'. -/
def sparseOfCard : Claim7 := { stood := { row := sparseOfRow, standIns := [], harness := (true, "31bf0b703a4b5ce6b4fca00db2c9cb73b846e78a6850e29a72bb2cb82462726f"), looks := false }, kinds := [], alts := [], laidByText := true, laidKinds := [.data], laidTests := true, laidLooks := .later }
def SparseOfCardSaid : Prop := Claim7.holds Tryz.pinned (.plain (OpenSpec.ofChange sparseOfSpec)) sparseOfCard

/-- THE TIED CARD OF 'tripwirelaw06.MatrixTells'. -/
def matrixTellsCard : Claim7 := { stood := { row := matrixTellsRow, standIns := [], harness := (true, "31bf0b703a4b5ce6b4fca00db2c9cb73b846e78a6850e29a72bb2cb82462726f"), looks := false }, kinds := [], alts := [], laidByText := true, laidKinds := [.data], laidTests := true, laidLooks := .later }
def MatrixTellsCardSaid : Prop := Claim7.holds Tryz.pinned (.plain (OpenSpec.ofChange matrixTellsSpec)) matrixTellsCard

/-- THE TIED CARD OF 'tripwirelaw05.SparseTells'. -/
def sparseTellsCard : Claim7 := { stood := { row := sparseTellsRow, standIns := [], harness := (true, "31bf0b703a4b5ce6b4fca00db2c9cb73b846e78a6850e29a72bb2cb82462726f"), looks := false }, kinds := [], alts := [], laidByText := true, laidKinds := [.data], laidTests := true, laidLooks := .later }
def SparseTellsCardSaid : Prop := Claim7.holds Tryz.pinned (.plain (OpenSpec.ofChange sparseTellsSpec)) sparseTellsCard

/-- THE TIED CARD OF 'tripwirelaw06.MatrixBoth'. -/
def matrixBothCard : Claim7 := { stood := { row := matrixBothRow, standIns := [], harness := (true, "31bf0b703a4b5ce6b4fca00db2c9cb73b846e78a6850e29a72bb2cb82462726f"), looks := false }, kinds := [], alts := [], laidByText := true, laidKinds := [.data], laidTests := true, laidLooks := .later }
def MatrixBothCardSaid : Prop := Claim7.holds Tryz.pinned (.plain (OpenSpec.ofChange matrixBothSpec)) matrixBothCard

/-- THE SECOND FORM's CARD OF 'tripwirelaw10.ShapesTells'. -/
def shapesTellsUptoCard : Claim7 := { stood := { row := shapesTellsUptoRow, standIns := [], harness := (true, "31bf0b703a4b5ce6b4fca00db2c9cb73b846e78a6850e29a72bb2cb82462726f"), looks := false }, kinds := [], alts := [], laidByText := true, laidKinds := [.data], laidTests := true, laidLooks := .later }
def ShapesTellsUptoCardSaid : Prop := Claim7.holds Tryz.pinned (.plain (OpenSpec.upto shapesTellsSpec)) shapesTellsUptoCard

/-- THE SECOND FORM's CARD OF 'tripwirelaw05.SparseOf'. -/
def sparseOfUptoCard : Claim7 := { stood := { row := sparseOfUptoRow, standIns := [], harness := (true, "31bf0b703a4b5ce6b4fca00db2c9cb73b846e78a6850e29a72bb2cb82462726f"), looks := false }, kinds := [], alts := [], laidByText := true, laidKinds := [.data], laidTests := true, laidLooks := .later }
def SparseOfUptoCardSaid : Prop := Claim7.holds Tryz.pinned (.plain (OpenSpec.upto sparseOfSpec)) sparseOfUptoCard

/-- THE SECOND FORM's CARD OF 'tripwirelaw06.MatrixTells'. -/
def matrixTellsUptoCard : Claim7 := { stood := { row := matrixTellsUptoRow, standIns := [], harness := (true, "31bf0b703a4b5ce6b4fca00db2c9cb73b846e78a6850e29a72bb2cb82462726f"), looks := false }, kinds := [], alts := [], laidByText := true, laidKinds := [.data], laidTests := true, laidLooks := .later }
def MatrixTellsUptoCardSaid : Prop := Claim7.holds Tryz.pinned (.plain (OpenSpec.upto matrixTellsSpec)) matrixTellsUptoCard

/-- THE SECOND FORM's CARD OF 'tripwirelaw05.SparseTells'. -/
def sparseTellsUptoCard : Claim7 := { stood := { row := sparseTellsUptoRow, standIns := [], harness := (true, "31bf0b703a4b5ce6b4fca00db2c9cb73b846e78a6850e29a72bb2cb82462726f"), looks := false }, kinds := [], alts := [], laidByText := true, laidKinds := [.data], laidTests := true, laidLooks := .later }
def SparseTellsUptoCardSaid : Prop := Claim7.holds Tryz.pinned (.plain (OpenSpec.upto sparseTellsSpec)) sparseTellsUptoCard

/-- THE SECOND FORM's CARD OF 'tripwirelaw06.MatrixBoth'. -/
def matrixBothUptoCard : Claim7 := { stood := { row := matrixBothUptoRow, standIns := [], harness := (true, "31bf0b703a4b5ce6b4fca00db2c9cb73b846e78a6850e29a72bb2cb82462726f"), looks := false }, kinds := [], alts := [], laidByText := true, laidKinds := [.data], laidTests := true, laidLooks := .later }
def MatrixBothUptoCardSaid : Prop := Claim7.holds Tryz.pinned (.plain (OpenSpec.upto matrixBothSpec)) matrixBothUptoCard
end Rows
end Go.Proofs.YtldcfmangolkoaaGreatDoor
