/-
  DERIVED. GIVEN WITH THE SEED: THE CARDS: each row of YtfgbiccpecldfaaDoorRows.lean that lists a variable, with what it lists TIED to the program's text (the seventh form; the later family's looks); each row that meets fmt, with fmt's text TOLD by the authors' own Lean function (tested against real Go, not proved from fmt's source: count such statements apart). THE CARD IS WHAT COUNTS. Prove the row's statement (the work); the ties are given (YtfgbiccpecldfaaDoorTie.lean); close each card by the builder's one call (the guide's Derived/Test/ToyasCard.lean, 'card_holds'). Laid BY PROGRAM, IN A SANDBOX (cutbox-door.mjs). By AI agents, Wed Nov 11 2026. No macro, syntax, notation, axiom, sorry.
-/
import Derived.Test.YtfgbiccpecldfaaDoorRows
import GoSem.ClaimSeven
namespace Go.Proofs.YtfgbiccpecldfaaDoor
namespace Rows

/-- THE TIED CARD OF 'tripwirelaw10.ShapesNumbers'. -/
def shapesNumbersCard : Claim7 := { stood := { row := shapesNumbersRow, standIns := [], harness := (true, "fb6d7c9f83e45d5f68de1b548c438355890b98957a0cf7ab544d9093ce5f30ab"), looks := false }, kinds := [], alts := [], laidByText := true, laidKinds := [.data], laidTests := true, laidLooks := .later }
def ShapesNumbersCardSaid : Prop := Claim7.holds Tryd.pinned (.plain (OpenSpec.ofChange shapesNumbersSpec)) shapesNumbersCard

/-- THE SECOND FORM's CARD OF 'tripwirelaw10.ShapesNumbers'. -/
def shapesNumbersUptoCard : Claim7 := { stood := { row := shapesNumbersUptoRow, standIns := [], harness := (true, "fb6d7c9f83e45d5f68de1b548c438355890b98957a0cf7ab544d9093ce5f30ab"), looks := false }, kinds := [], alts := [], laidByText := true, laidKinds := [.data], laidTests := true, laidLooks := .later }
def ShapesNumbersUptoCardSaid : Prop := Claim7.holds Tryd.pinned (.plain (OpenSpec.upto shapesNumbersSpec)) shapesNumbersUptoCard
end Rows
end Go.Proofs.YtfgbiccpecldfaaDoor
