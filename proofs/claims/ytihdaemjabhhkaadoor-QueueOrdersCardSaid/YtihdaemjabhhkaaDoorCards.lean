/-
  DERIVED. GIVEN WITH THE SEED: THE CARDS: each row of YtihdaemjabhhkaaDoorRows.lean that lists a variable, with what it lists TIED to the program's text (the seventh form; the later family's looks); each row that meets fmt, with fmt's text TOLD by the authors' own Lean function (tested against real Go, not proved from fmt's source: count such statements apart). THE CARD IS WHAT COUNTS. Prove the row's statement (the work); the ties are given (YtihdaemjabhhkaaDoorTie.lean); close each card by the builder's one call (the guide's Derived/Test/ToyasCard.lean, 'card_holds'). Laid BY PROGRAM, IN A SANDBOX (cutbox-door.mjs). By AI agents, Wed Nov 11 2026. No macro, syntax, notation, axiom, sorry.
-/
import Derived.Test.YtihdaemjabhhkaaDoorRows
import GoSem.ClaimSeven
namespace Go.Proofs.YtihdaemjabhhkaaDoor
namespace Rows

/-- THE TIED CARD OF 'tripwirelaw02.WholeTells'. -/
def wholeTellsCard : Claim7 := { stood := { row := wholeTellsRow, standIns := [], harness := (true, "9c00427b798a8f36204b8091ff49e38dd4df475edcc941fd1bf650b99466a85d"), looks := true }, kinds := [], alts := [], laidByText := true, laidKinds := [.data], laidTests := true, laidLooks := .later }
def WholeTellsCardSaid : Prop := Claim7.holds Tryd.pinned (.plain (OpenSpec.ofChange wholeTellsSpec)) wholeTellsCard

/-- THE TIED CARD OF 'tripwirelaw24.QueueNone'. -/
def queueNoneCard : Claim7 := { stood := { row := queueNoneRow, standIns := [], harness := (true, "9c00427b798a8f36204b8091ff49e38dd4df475edcc941fd1bf650b99466a85d"), looks := true }, kinds := [], alts := [], laidByText := true, laidKinds := [.data], laidTests := true, laidLooks := .later }
def QueueNoneCardSaid : Prop := Claim7.holds Tryd.pinned (.plain (OpenSpec.ofChange queueNoneSpec)) queueNoneCard

/-- THE TIED CARD OF 'tripwirelaw24.QueueOrders'. -/
def queueOrdersCard : Claim7 := { stood := { row := queueOrdersRow, standIns := [], harness := (true, "9c00427b798a8f36204b8091ff49e38dd4df475edcc941fd1bf650b99466a85d"), looks := true }, kinds := [], alts := [], laidByText := true, laidKinds := [.data], laidTests := true, laidLooks := .later }
def QueueOrdersCardSaid : Prop := Claim7.holds Tryd.pinned (.plain (OpenSpec.ofChange queueOrdersSpec)) queueOrdersCard

/-- THE TIED CARD OF 'tripwirelaw10.ShapesNumbers'. -/
def shapesNumbersCard : Claim7 := { stood := { row := shapesNumbersRow, standIns := [], harness := (true, "9c00427b798a8f36204b8091ff49e38dd4df475edcc941fd1bf650b99466a85d"), looks := true }, kinds := [], alts := [], laidByText := true, laidKinds := [.data], laidTests := true, laidLooks := .later }
def ShapesNumbersCardSaid : Prop := Claim7.holds Tryd.pinned (.plain (OpenSpec.ofChange shapesNumbersSpec)) shapesNumbersCard

/-- THE TIED CARD OF 'tripwirelaw10.ShapesBegin'. -/
def shapesBeginCard : Claim7 := { stood := { row := shapesBeginRow, standIns := [], harness := (true, "9c00427b798a8f36204b8091ff49e38dd4df475edcc941fd1bf650b99466a85d"), looks := true }, kinds := [], alts := [], laidByText := true, laidKinds := [.data], laidTests := true, laidLooks := .later }
def ShapesBeginCardSaid : Prop := Claim7.holds Tryd.pinned (.plain (OpenSpec.ofChange shapesBeginSpec)) shapesBeginCard

/-- THE TIED CARD OF 'tripwirelaw10.ShapesBoxes'. -/
def shapesBoxesCard : Claim7 := { stood := { row := shapesBoxesRow, standIns := [], harness := (true, "9c00427b798a8f36204b8091ff49e38dd4df475edcc941fd1bf650b99466a85d"), looks := true }, kinds := [], alts := [], laidByText := true, laidKinds := [.data], laidTests := true, laidLooks := .later }
def ShapesBoxesCardSaid : Prop := Claim7.holds Tryd.pinned (.plain (OpenSpec.ofChange shapesBoxesSpec)) shapesBoxesCard

/-- THE TIED CARD OF 'tripwirelaw05.SparseSpace'. -/
def sparseSpaceCard : Claim7 := { stood := { row := sparseSpaceRow, standIns := [], harness := (true, "9c00427b798a8f36204b8091ff49e38dd4df475edcc941fd1bf650b99466a85d"), looks := true }, kinds := [], alts := [], laidByText := true, laidKinds := [.data], laidTests := true, laidLooks := .later }
def SparseSpaceCardSaid : Prop := Claim7.holds Tryd.pinned (.plain (OpenSpec.ofChange sparseSpaceSpec)) sparseSpaceCard

/-- THE TIED CARD OF 'tripwirelaw06.MatrixOrders'. -/
def matrixOrdersCard : Claim7 := { stood := { row := matrixOrdersRow, standIns := [], harness := (true, "9c00427b798a8f36204b8091ff49e38dd4df475edcc941fd1bf650b99466a85d"), looks := true }, kinds := [], alts := [], laidByText := true, laidKinds := [.data], laidTests := true, laidLooks := .later }
def MatrixOrdersCardSaid : Prop := Claim7.holds Tryd.pinned (.plain (OpenSpec.ofChange matrixOrdersSpec)) matrixOrdersCard

/-- THE SECOND FORM's CARD OF 'tripwirelaw02.WholeTells'. -/
def wholeTellsUptoCard : Claim7 := { stood := { row := wholeTellsUptoRow, standIns := [], harness := (true, "9c00427b798a8f36204b8091ff49e38dd4df475edcc941fd1bf650b99466a85d"), looks := true }, kinds := [], alts := [], laidByText := true, laidKinds := [.data], laidTests := true, laidLooks := .later }
def WholeTellsUptoCardSaid : Prop := Claim7.holds Tryd.pinned (.plain (OpenSpec.upto wholeTellsSpec)) wholeTellsUptoCard

/-- THE SECOND FORM's CARD OF 'tripwirelaw24.QueueNone'. -/
def queueNoneUptoCard : Claim7 := { stood := { row := queueNoneUptoRow, standIns := [], harness := (true, "9c00427b798a8f36204b8091ff49e38dd4df475edcc941fd1bf650b99466a85d"), looks := true }, kinds := [], alts := [], laidByText := true, laidKinds := [.data], laidTests := true, laidLooks := .later }
def QueueNoneUptoCardSaid : Prop := Claim7.holds Tryd.pinned (.plain (OpenSpec.upto queueNoneSpec)) queueNoneUptoCard

/-- THE SECOND FORM's CARD OF 'tripwirelaw24.QueueOrders'. -/
def queueOrdersUptoCard : Claim7 := { stood := { row := queueOrdersUptoRow, standIns := [], harness := (true, "9c00427b798a8f36204b8091ff49e38dd4df475edcc941fd1bf650b99466a85d"), looks := true }, kinds := [], alts := [], laidByText := true, laidKinds := [.data], laidTests := true, laidLooks := .later }
def QueueOrdersUptoCardSaid : Prop := Claim7.holds Tryd.pinned (.plain (OpenSpec.upto queueOrdersSpec)) queueOrdersUptoCard

/-- THE SECOND FORM's CARD OF 'tripwirelaw10.ShapesNumbers'. -/
def shapesNumbersUptoCard : Claim7 := { stood := { row := shapesNumbersUptoRow, standIns := [], harness := (true, "9c00427b798a8f36204b8091ff49e38dd4df475edcc941fd1bf650b99466a85d"), looks := true }, kinds := [], alts := [], laidByText := true, laidKinds := [.data], laidTests := true, laidLooks := .later }
def ShapesNumbersUptoCardSaid : Prop := Claim7.holds Tryd.pinned (.plain (OpenSpec.upto shapesNumbersSpec)) shapesNumbersUptoCard

/-- THE SECOND FORM's CARD OF 'tripwirelaw10.ShapesBegin'. -/
def shapesBeginUptoCard : Claim7 := { stood := { row := shapesBeginUptoRow, standIns := [], harness := (true, "9c00427b798a8f36204b8091ff49e38dd4df475edcc941fd1bf650b99466a85d"), looks := true }, kinds := [], alts := [], laidByText := true, laidKinds := [.data], laidTests := true, laidLooks := .later }
def ShapesBeginUptoCardSaid : Prop := Claim7.holds Tryd.pinned (.plain (OpenSpec.upto shapesBeginSpec)) shapesBeginUptoCard

/-- THE SECOND FORM's CARD OF 'tripwirelaw10.ShapesBoxes'. -/
def shapesBoxesUptoCard : Claim7 := { stood := { row := shapesBoxesUptoRow, standIns := [], harness := (true, "9c00427b798a8f36204b8091ff49e38dd4df475edcc941fd1bf650b99466a85d"), looks := true }, kinds := [], alts := [], laidByText := true, laidKinds := [.data], laidTests := true, laidLooks := .later }
def ShapesBoxesUptoCardSaid : Prop := Claim7.holds Tryd.pinned (.plain (OpenSpec.upto shapesBoxesSpec)) shapesBoxesUptoCard

/-- THE SECOND FORM's CARD OF 'tripwirelaw05.SparseSpace'. -/
def sparseSpaceUptoCard : Claim7 := { stood := { row := sparseSpaceUptoRow, standIns := [], harness := (true, "9c00427b798a8f36204b8091ff49e38dd4df475edcc941fd1bf650b99466a85d"), looks := true }, kinds := [], alts := [], laidByText := true, laidKinds := [.data], laidTests := true, laidLooks := .later }
def SparseSpaceUptoCardSaid : Prop := Claim7.holds Tryd.pinned (.plain (OpenSpec.upto sparseSpaceSpec)) sparseSpaceUptoCard

/-- THE SECOND FORM's CARD OF 'tripwirelaw06.MatrixOrders'. -/
def matrixOrdersUptoCard : Claim7 := { stood := { row := matrixOrdersUptoRow, standIns := [], harness := (true, "9c00427b798a8f36204b8091ff49e38dd4df475edcc941fd1bf650b99466a85d"), looks := true }, kinds := [], alts := [], laidByText := true, laidKinds := [.data], laidTests := true, laidLooks := .later }
def MatrixOrdersUptoCardSaid : Prop := Claim7.holds Tryd.pinned (.plain (OpenSpec.upto matrixOrdersSpec)) matrixOrdersUptoCard
end Rows
end Go.Proofs.YtihdaemjabhhkaaDoor
