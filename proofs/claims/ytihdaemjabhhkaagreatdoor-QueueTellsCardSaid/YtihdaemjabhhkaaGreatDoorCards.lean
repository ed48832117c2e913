/-
  DERIVED. GIVEN WITH THE SEED: THE CARDS: each row of YtihdaemjabhhkaaGreatDoorRows.lean that lists a variable, with what it lists TIED to the program's text (the seventh form; the later family's looks); each row that meets fmt, with fmt's text TOLD by the authors' own Lean function (tested against real Go, not proved from fmt's source: count such statements apart). THE CARD IS WHAT COUNTS. Prove the row's statement (the work); the ties are given (YtihdaemjabhhkaaGreatDoorTie.lean); close each card by the builder's one call (the guide's Derived/Test/ToyasCard.lean, 'card_holds'). Laid BY PROGRAM, IN A SANDBOX (cutbox-door.mjs). By AI agents, Wed Nov 11 2026. No macro, syntax, notation, axiom, sorry.
-/
import Derived.Test.YtihdaemjabhhkaaGreatDoorRows
import GoSem.ClaimSeven
namespace Go.Proofs.YtihdaemjabhhkaaGreatDoor
namespace Rows

/-- THE TIED CARD OF 'tripwirelaw24.QueueTells'. -/
def queueTellsCard : Claim7 := { stood := { row := queueTellsRow, standIns := [], harness := (true, "b4d1559c3fd54321b61c20bdf2fe5907c99dafc5b00ab446c0332e59059d2c81"), looks := true }, kinds := [], alts := [], laidByText := true, laidKinds := [.data], laidTests := true, laidLooks := .later }
def QueueTellsCardSaid : Prop := Claim7.holds Tryz.pinned (.plain (OpenSpec.ofChange queueTellsSpec)) queueTellsCard

/-- THE TIED CARD OF 'tripwirelaw10.ShapesTells'. -/
def shapesTellsCard : Claim7 := { stood := { row := shapesTellsRow, standIns := [], harness := (true, "b4d1559c3fd54321b61c20bdf2fe5907c99dafc5b00ab446c0332e59059d2c81"), looks := true }, kinds := [], alts := [], laidByText := true, laidKinds := [.data], laidTests := true, laidLooks := .later }
def ShapesTellsCardSaid : Prop := Claim7.holds Tryz.pinned (.plain (OpenSpec.ofChange shapesTellsSpec)) shapesTellsCard

/-- THE TIED CARD OF 'tripwirelaw05.SparseOf'. -/
def sparseOfCard : Claim7 := { stood := { row := sparseOfRow, standIns := [], harness := (true, "b4d1559c3fd54321b61c20bdf2fe5907c99dafc5b00ab446c0332e59059d2c81"), looks := true }, kinds := [], alts := [], laidByText := true, laidKinds := [.data], laidTests := true, laidLooks := .later }
def SparseOfCardSaid : Prop := Claim7.holds Tryz.pinned (.plain (OpenSpec.ofChange sparseOfSpec)) sparseOfCard

/-- THE TIED CARD OF 'tripwirelaw05.SparseTells'. -/
def sparseTellsCard : Claim7 := { stood := { row := sparseTellsRow, standIns := [], harness := (true, "b4d1559c3fd54321b61c20bdf2fe5907c99dafc5b00ab446c0332e59059d2c81"), looks := true }, kinds := [], alts := [], laidByText := true, laidKinds := [.data], laidTests := true, laidLooks := .later }
def SparseTellsCardSaid : Prop := Claim7.holds Tryz.pinned (.plain (OpenSpec.ofChange sparseTellsSpec)) sparseTellsCard

/-- THE SECOND FORM's CARD OF 'tripwirelaw24.QueueTells'. -/
def queueTellsUptoCard : Claim7 := { stood := { row := queueTellsUptoRow, standIns := [], harness := (true, "b4d1559c3fd54321b61c20bdf2fe5907c99dafc5b00ab446c0332e59059d2c81"), looks := true }, kinds := [], alts := [], laidByText := true, laidKinds := [.data], laidTests := true, laidLooks := .later }
def QueueTellsUptoCardSaid : Prop := Claim7.holds Tryz.pinned (.plain (OpenSpec.upto queueTellsSpec)) queueTellsUptoCard

/-- THE SECOND FORM's CARD OF 'tripwirelaw10.ShapesTells'. -/
def shapesTellsUptoCard : Claim7 := { stood := { row := shapesTellsUptoRow, standIns := [], harness := (true, "b4d1559c3fd54321b61c20bdf2fe5907c99dafc5b00ab446c0332e59059d2c81"), looks := true }, kinds := [], alts := [], laidByText := true, laidKinds := [.data], laidTests := true, laidLooks := .later }
def ShapesTellsUptoCardSaid : Prop := Claim7.holds Tryz.pinned (.plain (OpenSpec.upto shapesTellsSpec)) shapesTellsUptoCard

/-- THE SECOND FORM's CARD OF 'tripwirelaw05.SparseOf'. -/
def sparseOfUptoCard : Claim7 := { stood := { row := sparseOfUptoRow, standIns := [], harness := (true, "b4d1559c3fd54321b61c20bdf2fe5907c99dafc5b00ab446c0332e59059d2c81"), looks := true }, kinds := [], alts := [], laidByText := true, laidKinds := [.data], laidTests := true, laidLooks := .later }
def SparseOfUptoCardSaid : Prop := Claim7.holds Tryz.pinned (.plain (OpenSpec.upto sparseOfSpec)) sparseOfUptoCard

/-- THE SECOND FORM's CARD OF 'tripwirelaw05.SparseTells'. -/
def sparseTellsUptoCard : Claim7 := { stood := { row := sparseTellsUptoRow, standIns := [], harness := (true, "b4d1559c3fd54321b61c20bdf2fe5907c99dafc5b00ab446c0332e59059d2c81"), looks := true }, kinds := [], alts := [], laidByText := true, laidKinds := [.data], laidTests := true, laidLooks := .later }
def SparseTellsUptoCardSaid : Prop := Claim7.holds Tryz.pinned (.plain (OpenSpec.upto sparseTellsSpec)) sparseTellsUptoCard
end Rows
end Go.Proofs.YtihdaemjabhhkaaGreatDoor
