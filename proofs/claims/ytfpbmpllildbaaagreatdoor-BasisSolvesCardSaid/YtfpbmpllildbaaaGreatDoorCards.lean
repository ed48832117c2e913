/-
  DERIVED. GIVEN WITH THE SEED: THE CARDS: each row of YtfpbmpllildbaaaGreatDoorRows.lean that lists a variable, with what it lists TIED to the program's text (the seventh form; the later family's looks); each row that meets fmt, with fmt's text TOLD by the authors' own Lean function (tested against real Go, not proved from fmt's source: count such statements apart). THE CARD IS WHAT COUNTS. Prove the row's statement (the work); the ties are given (YtfpbmpllildbaaaGreatDoorTie.lean); close each card by the builder's one call (the guide's Derived/Test/ToyasCard.lean, 'card_holds'). Laid BY PROGRAM, IN A SANDBOX (cutbox-door.mjs). By AI agents, Wed Nov 11 2026. No macro, syntax, notation, axiom, sorry.
-/
import Derived.Test.YtfpbmpllildbaaaGreatDoorRows
import GoSem.ClaimSeven
namespace Go.Proofs.YtfpbmpllildbaaaGreatDoor
namespace Rows

/-- THE TIED CARD OF 'tripwirelaw07.LuNumbers'. -/
def luNumbersCard : Claim7 := { stood := { row := luNumbersRow, standIns := [], harness := (true, "3c8b9b62a6651aecddf8292ebe818b3d1a04b82978acda2db5e85fb8a5450849"), looks := false }, kinds := [], alts := [], laidByText := true, laidKinds := [.data], laidTests := true, laidLooks := .later }
def LuNumbersCardSaid : Prop := Claim7.holds Tryz.pinned (.plain (OpenSpec.ofChange luNumbersSpec)) luNumbersCard

/-- THE TIED CARD OF 'tripwirelaw07.LuTells'. -/
def luTellsCard : Claim7 := { stood := { row := luTellsRow, standIns := [], harness := (true, "3c8b9b62a6651aecddf8292ebe818b3d1a04b82978acda2db5e85fb8a5450849"), looks := false }, kinds := [], alts := [], laidByText := true, laidKinds := [.data], laidTests := true, laidLooks := .later }
def LuTellsCardSaid : Prop := Claim7.holds Tryz.pinned (.plain (OpenSpec.ofChange luTellsSpec)) luTellsCard

/-- THE TIED CARD OF 'tripwirelaw08.BasisPlays'. -/
def basisPlaysCard : Claim7 := { stood := { row := basisPlaysRow, standIns := [], harness := (true, "3c8b9b62a6651aecddf8292ebe818b3d1a04b82978acda2db5e85fb8a5450849"), looks := false }, kinds := [], alts := [], laidByText := true, laidKinds := [.data], laidTests := true, laidLooks := .later }
def BasisPlaysCardSaid : Prop := Claim7.holds Tryz.pinned (.plain (OpenSpec.ofChange basisPlaysSpec)) basisPlaysCard

/-- THE TIED CARD OF 'tripwirelaw08.BasisNone'. -/
def basisNoneCard : Claim7 := { stood := { row := basisNoneRow, standIns := [], harness := (true, "3c8b9b62a6651aecddf8292ebe818b3d1a04b82978acda2db5e85fb8a5450849"), looks := false }, kinds := [], alts := [], laidByText := true, laidKinds := [.data], laidTests := true, laidLooks := .later }
def BasisNoneCardSaid : Prop := Claim7.holds Tryz.pinned (.plain (OpenSpec.ofChange basisNoneSpec)) basisNoneCard

/-- THE TIED CARD OF 'tripwirelaw08.BasisSolves'. -/
def basisSolvesCard : Claim7 := { stood := { row := basisSolvesRow, standIns := [], harness := (true, "3c8b9b62a6651aecddf8292ebe818b3d1a04b82978acda2db5e85fb8a5450849"), looks := false }, kinds := [], alts := [], laidByText := true, laidKinds := [.data], laidTests := true, laidLooks := .later }
def BasisSolvesCardSaid : Prop := Claim7.holds Tryz.pinned (.plain (OpenSpec.ofChange basisSolvesSpec)) basisSolvesCard

/-- THE TIED CARD OF 'tripwirelaw05.SparseNumbers'. -/
def sparseNumbersCard : Claim7 := { stood := { row := sparseNumbersRow, standIns := [], harness := (true, "3c8b9b62a6651aecddf8292ebe818b3d1a04b82978acda2db5e85fb8a5450849"), looks := false }, kinds := [], alts := [], laidByText := true, laidKinds := [.data, .data, .data], laidTests := true, laidLooks := .later }
def SparseNumbersCardSaid : Prop := Claim7.holds Tryz.pinned (.plain (OpenSpec.ofChange sparseNumbersSpec)) sparseNumbersCard

/-- THE TIED CARD OF 'tripwirelaw08.BasisNumbers'. -/
def basisNumbersCard : Claim7 := { stood := { row := basisNumbersRow, standIns := [], harness := (true, "3c8b9b62a6651aecddf8292ebe818b3d1a04b82978acda2db5e85fb8a5450849"), looks := false }, kinds := [], alts := [], laidByText := true, laidKinds := [.data, .data, .data], laidTests := true, laidLooks := .later }
def BasisNumbersCardSaid : Prop := Claim7.holds Tryz.pinned (.plain (OpenSpec.ofChange basisNumbersSpec)) basisNumbersCard

/-- THE SECOND FORM's CARD OF 'tripwirelaw07.LuNumbers'. -/
def luNumbersUptoCard : Claim7 := { stood := { row := luNumbersUptoRow, standIns := [], harness := (true, "3c8b9b62a6651aecddf8292ebe818b3d1a04b82978acda2db5e85fb8a5450849"), looks := false }, kinds := [], alts := [], laidByText := true, laidKinds := [.data], laidTests := true, laidLooks := .later }
def LuNumbersUptoCardSaid : Prop := Claim7.holds Tryz.pinned (.plain (OpenSpec.upto luNumbersSpec)) luNumbersUptoCard

/-- THE SECOND FORM's CARD OF 'tripwirelaw07.LuTells'. -/
def luTellsUptoCard : Claim7 := { stood := { row := luTellsUptoRow, standIns := [], harness := (true, "3c8b9b62a6651aecddf8292ebe818b3d1a04b82978acda2db5e85fb8a5450849"), looks := false }, kinds := [], alts := [], laidByText := true, laidKinds := [.data], laidTests := true, laidLooks := .later }
def LuTellsUptoCardSaid : Prop := Claim7.holds Tryz.pinned (.plain (OpenSpec.upto luTellsSpec)) luTellsUptoCard

/-- THE SECOND FORM's CARD OF 'tripwirelaw08.BasisPlays'. -/
def basisPlaysUptoCard : Claim7 := { stood := { row := basisPlaysUptoRow, standIns := [], harness := (true, "3c8b9b62a6651aecddf8292ebe818b3d1a04b82978acda2db5e85fb8a5450849"), looks := false }, kinds := [], alts := [], laidByText := true, laidKinds := [.data], laidTests := true, laidLooks := .later }
def BasisPlaysUptoCardSaid : Prop := Claim7.holds Tryz.pinned (.plain (OpenSpec.upto basisPlaysSpec)) basisPlaysUptoCard

/-- THE SECOND FORM's CARD OF 'tripwirelaw08.BasisNone'. -/
def basisNoneUptoCard : Claim7 := { stood := { row := basisNoneUptoRow, standIns := [], harness := (true, "3c8b9b62a6651aecddf8292ebe818b3d1a04b82978acda2db5e85fb8a5450849"), looks := false }, kinds := [], alts := [], laidByText := true, laidKinds := [.data], laidTests := true, laidLooks := .later }
def BasisNoneUptoCardSaid : Prop := Claim7.holds Tryz.pinned (.plain (OpenSpec.upto basisNoneSpec)) basisNoneUptoCard

/-- THE SECOND FORM's CARD OF 'tripwirelaw08.BasisSolves'. -/
def basisSolvesUptoCard : Claim7 := { stood := { row := basisSolvesUptoRow, standIns := [], harness := (true, "3c8b9b62a6651aecddf8292ebe818b3d1a04b82978acda2db5e85fb8a5450849"), looks := false }, kinds := [], alts := [], laidByText := true, laidKinds := [.data], laidTests := true, laidLooks := .later }
def BasisSolvesUptoCardSaid : Prop := Claim7.holds Tryz.pinned (.plain (OpenSpec.upto basisSolvesSpec)) basisSolvesUptoCard

/-- THE SECOND FORM's CARD OF 'tripwirelaw05.SparseNumbers'. -/
def sparseNumbersUptoCard : Claim7 := { stood := { row := sparseNumbersUptoRow, standIns := [], harness := (true, "3c8b9b62a6651aecddf8292ebe818b3d1a04b82978acda2db5e85fb8a5450849"), looks := false }, kinds := [], alts := [], laidByText := true, laidKinds := [.data, .data, .data], laidTests := true, laidLooks := .later }
def SparseNumbersUptoCardSaid : Prop := Claim7.holds Tryz.pinned (.plain (OpenSpec.upto sparseNumbersSpec)) sparseNumbersUptoCard

/-- THE SECOND FORM's CARD OF 'tripwirelaw08.BasisNumbers'. -/
def basisNumbersUptoCard : Claim7 := { stood := { row := basisNumbersUptoRow, standIns := [], harness := (true, "3c8b9b62a6651aecddf8292ebe818b3d1a04b82978acda2db5e85fb8a5450849"), looks := false }, kinds := [], alts := [], laidByText := true, laidKinds := [.data, .data, .data], laidTests := true, laidLooks := .later }
def BasisNumbersUptoCardSaid : Prop := Claim7.holds Tryz.pinned (.plain (OpenSpec.upto basisNumbersSpec)) basisNumbersUptoCard
end Rows
end Go.Proofs.YtfpbmpllildbaaaGreatDoor
