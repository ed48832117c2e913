/-
  DERIVED. GIVEN WITH THE SEED: THE CARDS: each row of YtionhpangenhnaaDoorRows.lean that lists a variable, with what it lists TIED to the program's text (the seventh form; the later family's looks); each row that meets fmt, with fmt's text TOLD by the authors' own Lean function (tested against real Go, not proved from fmt's source: count such statements apart). THE CARD IS WHAT COUNTS. Prove the row's statement (the work); the ties are given (YtionhpangenhnaaDoorTie.lean); close each card by the builder's one call (the guide's Derived/Test/ToyasCard.lean, 'card_holds'). Laid BY PROGRAM, IN A SANDBOX (cutbox-door.mjs). By AI agents, Wed Nov 11 2026. No macro, syntax, notation, axiom, sorry.
-/
import Derived.Test.YtionhpangenhnaaDoorRows
import GoSem.ClaimSeven
namespace Go.Proofs.YtionhpangenhnaaDoor
namespace Rows

/-- THE TIED CARD OF 'tripwirelaw10.ShapesNumbers'. -/
def shapesNumbersCard : Claim7 := { stood := { row := shapesNumbersRow, standIns := [], harness := (true, "060ed238f2fc71decd767c9617ac80355fc67eb1764981d739a3354ae3166023"), looks := false }, kinds := [], alts := [], laidByText := true, laidKinds := [.data], laidTests := true, laidLooks := .later }
def ShapesNumbersCardSaid : Prop := Claim7.holds Tryd.pinned (.plain (OpenSpec.ofChange shapesNumbersSpec)) shapesNumbersCard

/-- THE TIED CARD OF 'tripwirelaw10.ShapesBegin'. -/
def shapesBeginCard : Claim7 := { stood := { row := shapesBeginRow, standIns := [], harness := (true, "060ed238f2fc71decd767c9617ac80355fc67eb1764981d739a3354ae3166023"), looks := false }, kinds := [], alts := [], laidByText := true, laidKinds := [.data], laidTests := true, laidLooks := .later }
def ShapesBeginCardSaid : Prop := Claim7.holds Tryd.pinned (.plain (OpenSpec.ofChange shapesBeginSpec)) shapesBeginCard

/-- THE TIED CARD OF 'tripwirelaw10.ShapesBoxes'. -/
def shapesBoxesCard : Claim7 := { stood := { row := shapesBoxesRow, standIns := [], harness := (true, "060ed238f2fc71decd767c9617ac80355fc67eb1764981d739a3354ae3166023"), looks := false }, kinds := [], alts := [], laidByText := true, laidKinds := [.data], laidTests := true, laidLooks := .later }
def ShapesBoxesCardSaid : Prop := Claim7.holds Tryd.pinned (.plain (OpenSpec.ofChange shapesBoxesSpec)) shapesBoxesCard

/-- THE TIED CARD OF 'tripwirelaw05.SparseSpace'. -/
def sparseSpaceCard : Claim7 := { stood := { row := sparseSpaceRow, standIns := [], harness := (true, "060ed238f2fc71decd767c9617ac80355fc67eb1764981d739a3354ae3166023"), looks := false }, kinds := [], alts := [], laidByText := true, laidKinds := [.data], laidTests := true, laidLooks := .later }
def SparseSpaceCardSaid : Prop := Claim7.holds Tryd.pinned (.plain (OpenSpec.ofChange sparseSpaceSpec)) sparseSpaceCard

/-- THE TIED CARD OF 'tripwirelaw06.MatrixOrders'. -/
def matrixOrdersCard : Claim7 := { stood := { row := matrixOrdersRow, standIns := [], harness := (true, "060ed238f2fc71decd767c9617ac80355fc67eb1764981d739a3354ae3166023"), looks := false }, kinds := [], alts := [], laidByText := true, laidKinds := [.data], laidTests := true, laidLooks := .later }
def MatrixOrdersCardSaid : Prop := Claim7.holds Tryd.pinned (.plain (OpenSpec.ofChange matrixOrdersSpec)) matrixOrdersCard

/-- THE SECOND FORM's CARD OF 'tripwirelaw10.ShapesNumbers'. -/
def shapesNumbersUptoCard : Claim7 := { stood := { row := shapesNumbersUptoRow, standIns := [], harness := (true, "060ed238f2fc71decd767c9617ac80355fc67eb1764981d739a3354ae3166023"), looks := false }, kinds := [], alts := [], laidByText := true, laidKinds := [.data], laidTests := true, laidLooks := .later }
def ShapesNumbersUptoCardSaid : Prop := Claim7.holds Tryd.pinned (.plain (OpenSpec.upto shapesNumbersSpec)) shapesNumbersUptoCard

/-- THE SECOND FORM's CARD OF 'tripwirelaw10.ShapesBegin'. -/
def shapesBeginUptoCard : Claim7 := { stood := { row := shapesBeginUptoRow, standIns := [], harness := (true, "060ed238f2fc71decd767c9617ac80355fc67eb1764981d739a3354ae3166023"), looks := false }, kinds := [], alts := [], laidByText := true, laidKinds := [.data], laidTests := true, laidLooks := .later }
def ShapesBeginUptoCardSaid : Prop := Claim7.holds Tryd.pinned (.plain (OpenSpec.upto shapesBeginSpec)) shapesBeginUptoCard

/-- THE SECOND FORM's CARD OF 'tripwirelaw10.ShapesBoxes'. -/
def shapesBoxesUptoCard : Claim7 := { stood := { row := shapesBoxesUptoRow, standIns := [], harness := (true, "060ed238f2fc71decd767c9617ac80355fc67eb1764981d739a3354ae3166023"), looks := false }, kinds := [], alts := [], laidByText := true, laidKinds := [.data], laidTests := true, laidLooks := .later }
def ShapesBoxesUptoCardSaid : Prop := Claim7.holds Tryd.pinned (.plain (OpenSpec.upto shapesBoxesSpec)) shapesBoxesUptoCard

/-- THE SECOND FORM's CARD OF 'tripwirelaw05.SparseSpace'. -/
def sparseSpaceUptoCard : Claim7 := { stood := { row := sparseSpaceUptoRow, standIns := [], harness := (true, "060ed238f2fc71decd767c9617ac80355fc67eb1764981d739a3354ae3166023"), looks := false }, kinds := [], alts := [], laidByText := true, laidKinds := [.data], laidTests := true, laidLooks := .later }
def SparseSpaceUptoCardSaid : Prop := Claim7.holds Tryd.pinned (.plain (OpenSpec.upto sparseSpaceSpec)) sparseSpaceUptoCard

/-- THE SECOND FORM's CARD OF 'tripwirelaw06.MatrixOrders'. -/
def matrixOrdersUptoCard : Claim7 := { stood := { row := matrixOrdersUptoRow, standIns := [], harness := (true, "060ed238f2fc71decd767c9617ac80355fc67eb1764981d739a3354ae3166023"), looks := false }, kinds := [], alts := [], laidByText := true, laidKinds := [.data], laidTests := true, laidLooks := .later }
def MatrixOrdersUptoCardSaid : Prop := Claim7.holds Tryd.pinned (.plain (OpenSpec.upto matrixOrdersSpec)) matrixOrdersUptoCard
end Rows
end Go.Proofs.YtionhpangenhnaaDoor
