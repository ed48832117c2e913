/-
  DERIVED. GIVEN WITH THE SEED: THE CARDS: each row of YtldcfmangolkoaaDoorRows.lean that lists a variable, with what it lists TIED to the program's text (the seventh form; the later family's looks); each row that meets fmt, with fmt's text TOLD by the authors' own Lean function (tested against real Go, not proved from fmt's source: count such statements apart). THE CARD IS WHAT COUNTS. Prove the row's statement (the work); the ties are given (YtldcfmangolkoaaDoorTie.lean); close each card by the builder's one call (the guide's Derived/Test/ToyasCard.lean, 'card_holds'). Laid BY PROGRAM, IN A SANDBOX (cutbox-door.mjs). By AI agents, Wed Nov 11 2026. No macro, syntax, notation, axiom, sorry.
-/
import Derived.Test.YtldcfmangolkoaaDoorRows
import GoSem.ClaimSeven
namespace Go.Proofs.YtldcfmangolkoaaDoor
namespace Rows

/-- THE TIED CARD OF 'tripwirelaw10.ShapesNumbers'. -/
def shapesNumbersCard : Claim7 := { stood := { row := shapesNumbersRow, standIns := [], harness := (true, "dbf247fefb9849c9cee3de07351b5d88817cc258ea482d80c3e654d1c1e46666"), looks := false }, kinds := [], alts := [], laidByText := true, laidKinds := [.data], laidTests := true, laidLooks := .later }
def ShapesNumbersCardSaid : Prop := Claim7.holds Tryd.pinned (.plain (OpenSpec.ofChange shapesNumbersSpec)) shapesNumbersCard

/-- THE TIED CARD OF 'tripwirelaw06.MatrixOrders'. -/
def matrixOrdersCard : Claim7 := { stood := { row := matrixOrdersRow, standIns := [], harness := (true, "dbf247fefb9849c9cee3de07351b5d88817cc258ea482d80c3e654d1c1e46666"), looks := false }, kinds := [], alts := [], laidByText := true, laidKinds := [.data], laidTests := true, laidLooks := .later }
def MatrixOrdersCardSaid : Prop := Claim7.holds Tryd.pinned (.plain (OpenSpec.ofChange matrixOrdersSpec)) matrixOrdersCard

/-- THE TIED CARD OF 'tripwirelaw06.MatrixNumbers'. -/
def matrixNumbersCard : Claim7 := { stood := { row := matrixNumbersRow, standIns := [], harness := (true, "dbf247fefb9849c9cee3de07351b5d88817cc258ea482d80c3e654d1c1e46666"), looks := false }, kinds := [], alts := [], laidByText := true, laidKinds := [.data], laidTests := true, laidLooks := .later }
def MatrixNumbersCardSaid : Prop := Claim7.holds Tryd.pinned (.plain (OpenSpec.ofChange matrixNumbersSpec)) matrixNumbersCard

/-- THE SECOND FORM's CARD OF 'tripwirelaw10.ShapesNumbers'. -/
def shapesNumbersUptoCard : Claim7 := { stood := { row := shapesNumbersUptoRow, standIns := [], harness := (true, "dbf247fefb9849c9cee3de07351b5d88817cc258ea482d80c3e654d1c1e46666"), looks := false }, kinds := [], alts := [], laidByText := true, laidKinds := [.data], laidTests := true, laidLooks := .later }
def ShapesNumbersUptoCardSaid : Prop := Claim7.holds Tryd.pinned (.plain (OpenSpec.upto shapesNumbersSpec)) shapesNumbersUptoCard

/-- THE SECOND FORM's CARD OF 'tripwirelaw06.MatrixOrders'. -/
def matrixOrdersUptoCard : Claim7 := { stood := { row := matrixOrdersUptoRow, standIns := [], harness := (true, "dbf247fefb9849c9cee3de07351b5d88817cc258ea482d80c3e654d1c1e46666"), looks := false }, kinds := [], alts := [], laidByText := true, laidKinds := [.data], laidTests := true, laidLooks := .later }
def MatrixOrdersUptoCardSaid : Prop := Claim7.holds Tryd.pinned (.plain (OpenSpec.upto matrixOrdersSpec)) matrixOrdersUptoCard

/-- THE SECOND FORM's CARD OF 'tripwirelaw06.MatrixNumbers'. -/
def matrixNumbersUptoCard : Claim7 := { stood := { row := matrixNumbersUptoRow, standIns := [], harness := (true, "dbf247fefb9849c9cee3de07351b5d88817cc258ea482d80c3e654d1c1e46666"), looks := false }, kinds := [], alts := [], laidByText := true, laidKinds := [.data], laidTests := true, laidLooks := .later }
def MatrixNumbersUptoCardSaid : Prop := Claim7.holds Tryd.pinned (.plain (OpenSpec.upto matrixNumbersSpec)) matrixNumbersUptoCard
end Rows
end Go.Proofs.YtldcfmangolkoaaDoor
