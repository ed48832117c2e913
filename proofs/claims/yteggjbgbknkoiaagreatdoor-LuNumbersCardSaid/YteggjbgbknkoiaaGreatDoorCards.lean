/-
  DERIVED. GIVEN WITH THE SEED: THE CARDS: each row of YteggjbgbknkoiaaGreatDoorRows.lean that lists a variable, with what it lists TIED to the program's text (the seventh form; the later family's looks); each row that meets fmt, with fmt's text TOLD by the authors' own Lean function (tested against real Go, not proved from fmt's source: count such statements apart). THE CARD IS WHAT COUNTS. Prove the row's statement (the work); the ties are given (YteggjbgbknkoiaaGreatDoorTie.lean); close each card by the builder's one call (the guide's Derived/Test/ToyasCard.lean, 'card_holds'). Laid BY PROGRAM, IN A SANDBOX (cutbox-door.mjs). By AI agents, Wed Nov 11 2026. No macro, syntax, notation, axiom, sorry.
-/
import Derived.Test.YteggjbgbknkoiaaGreatDoorRows
import GoSem.ClaimSeven
namespace Go.Proofs.YteggjbgbknkoiaaGreatDoor
namespace Rows

/-- THE TIED CARD OF 'tripwirelaw07.LuNumbers'. -/
def luNumbersCard : Claim7 := { stood := { row := luNumbersRow, standIns := [], harness := (true, "c413660b3a2d1a9f7b98047bdf2248d5fda86eeddf9e0e683ff04c81fda1c6de"), looks := false }, kinds := [], alts := [], laidByText := true, laidKinds := [.data], laidTests := true, laidLooks := .later }
def LuNumbersCardSaid : Prop := Claim7.holds Tryz.pinned (.plain (OpenSpec.ofChange luNumbersSpec)) luNumbersCard

/-- THE TIED CARD OF 'tripwirelaw05.SparseNumbers'. -/
def sparseNumbersCard : Claim7 := { stood := { row := sparseNumbersRow, standIns := [], harness := (true, "c413660b3a2d1a9f7b98047bdf2248d5fda86eeddf9e0e683ff04c81fda1c6de"), looks := false }, kinds := [], alts := [], laidByText := true, laidKinds := [.data, .data, .data], laidTests := true, laidLooks := .later }
def SparseNumbersCardSaid : Prop := Claim7.holds Tryz.pinned (.plain (OpenSpec.ofChange sparseNumbersSpec)) sparseNumbersCard

/-- THE TIED CARD OF 'tripwirelaw08.BasisNumbers'. -/
def basisNumbersCard : Claim7 := { stood := { row := basisNumbersRow, standIns := [], harness := (true, "c413660b3a2d1a9f7b98047bdf2248d5fda86eeddf9e0e683ff04c81fda1c6de"), looks := false }, kinds := [], alts := [], laidByText := true, laidKinds := [.data, .data, .data], laidTests := true, laidLooks := .later }
def BasisNumbersCardSaid : Prop := Claim7.holds Tryz.pinned (.plain (OpenSpec.ofChange basisNumbersSpec)) basisNumbersCard

/-- THE SECOND FORM's CARD OF 'tripwirelaw07.LuNumbers'. -/
def luNumbersUptoCard : Claim7 := { stood := { row := luNumbersUptoRow, standIns := [], harness := (true, "c413660b3a2d1a9f7b98047bdf2248d5fda86eeddf9e0e683ff04c81fda1c6de"), looks := false }, kinds := [], alts := [], laidByText := true, laidKinds := [.data], laidTests := true, laidLooks := .later }
def LuNumbersUptoCardSaid : Prop := Claim7.holds Tryz.pinned (.plain (OpenSpec.upto luNumbersSpec)) luNumbersUptoCard

/-- THE SECOND FORM's CARD OF 'tripwirelaw05.SparseNumbers'. -/
def sparseNumbersUptoCard : Claim7 := { stood := { row := sparseNumbersUptoRow, standIns := [], harness := (true, "c413660b3a2d1a9f7b98047bdf2248d5fda86eeddf9e0e683ff04c81fda1c6de"), looks := false }, kinds := [], alts := [], laidByText := true, laidKinds := [.data, .data, .data], laidTests := true, laidLooks := .later }
def SparseNumbersUptoCardSaid : Prop := Claim7.holds Tryz.pinned (.plain (OpenSpec.upto sparseNumbersSpec)) sparseNumbersUptoCard

/-- THE SECOND FORM's CARD OF 'tripwirelaw08.BasisNumbers'. -/
def basisNumbersUptoCard : Claim7 := { stood := { row := basisNumbersUptoRow, standIns := [], harness := (true, "c413660b3a2d1a9f7b98047bdf2248d5fda86eeddf9e0e683ff04c81fda1c6de"), looks := false }, kinds := [], alts := [], laidByText := true, laidKinds := [.data, .data, .data], laidTests := true, laidLooks := .later }
def BasisNumbersUptoCardSaid : Prop := Claim7.holds Tryz.pinned (.plain (OpenSpec.upto basisNumbersSpec)) basisNumbersUptoCard
end Rows
end Go.Proofs.YteggjbgbknkoiaaGreatDoor
