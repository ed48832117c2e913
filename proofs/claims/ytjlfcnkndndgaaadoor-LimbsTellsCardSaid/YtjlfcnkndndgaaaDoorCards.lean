/-
  DERIVED. GIVEN WITH THE SEED: THE CARDS: each row of YtjlfcnkndndgaaaDoorRows.lean that lists a variable, with what it lists TIED to the program's text (the seventh form; the later family's looks); each row that meets fmt, with fmt's text TOLD by the authors' own Lean function (tested against real Go, not proved from fmt's source: count such statements apart). THE CARD IS WHAT COUNTS. Prove the row's statement (the work); the ties are given (YtjlfcnkndndgaaaDoorTie.lean); close each card by the builder's one call (the guide's Derived/Test/ToyasCard.lean, 'card_holds'). Laid BY PROGRAM, IN A SANDBOX (cutbox-door.mjs). By AI agents, Wed Nov 11 2026. No macro, syntax, notation, axiom, sorry.
-/
import Derived.Test.YtjlfcnkndndgaaaDoorRows
import GoSem.ClaimSeven
namespace Go.Proofs.YtjlfcnkndndgaaaDoor
namespace Rows

/-- THE TIED CARD OF 'tripwirelaw01.LimbsGcds'. -/
def limbsGcdsCard : Claim7 := { stood := { row := limbsGcdsRow, standIns := [], harness := (true, "81858e0205190d2ecb8bbd3fd3c846e82d452400a06f9adbde853b8cbe7a5374"), looks := false }, kinds := [], alts := [], laidByText := true, laidKinds := [.data], laidTests := true, laidLooks := .later }
def LimbsGcdsCardSaid : Prop := Claim7.holds Tryd.pinned (.plain (OpenSpec.ofChange limbsGcdsSpec)) limbsGcdsCard

/-- THE TIED CARD OF 'tripwirelaw01.LimbsDivides'. -/
def limbsDividesCard : Claim7 := { stood := { row := limbsDividesRow, standIns := [], harness := (true, "81858e0205190d2ecb8bbd3fd3c846e82d452400a06f9adbde853b8cbe7a5374"), looks := false }, kinds := [], alts := [], laidByText := true, laidKinds := [.data], laidTests := true, laidLooks := .later }
def LimbsDividesCardSaid : Prop := Claim7.holds Tryd.pinned (.plain (OpenSpec.ofChange limbsDividesSpec)) limbsDividesCard

/-- THE TIED CARD OF 'tripwirelaw01.LimbsRings'. -/
def limbsRingsCard : Claim7 := { stood := { row := limbsRingsRow, standIns := [], harness := (true, "81858e0205190d2ecb8bbd3fd3c846e82d452400a06f9adbde853b8cbe7a5374"), looks := false }, kinds := [], alts := [], laidByText := true, laidKinds := [.data], laidTests := true, laidLooks := .later }
def LimbsRingsCardSaid : Prop := Claim7.holds Tryd.pinned (.plain (OpenSpec.ofChange limbsRingsSpec)) limbsRingsCard

/-- THE TIED CARD OF 'tripwirelaw01.LimbsShifts'. -/
def limbsShiftsCard : Claim7 := { stood := { row := limbsShiftsRow, standIns := [], harness := (true, "81858e0205190d2ecb8bbd3fd3c846e82d452400a06f9adbde853b8cbe7a5374"), looks := false }, kinds := [], alts := [], laidByText := true, laidKinds := [.data], laidTests := true, laidLooks := .later }
def LimbsShiftsCardSaid : Prop := Claim7.holds Tryd.pinned (.plain (OpenSpec.ofChange limbsShiftsSpec)) limbsShiftsCard

/-- THE TIED CARD OF 'tripwirelaw01.LimbsNumbers'. -/
def limbsNumbersCard : Claim7 := { stood := { row := limbsNumbersRow, standIns := [], harness := (true, "81858e0205190d2ecb8bbd3fd3c846e82d452400a06f9adbde853b8cbe7a5374"), looks := false }, kinds := [], alts := [], laidByText := true, laidKinds := [.data], laidTests := true, laidLooks := .later }
def LimbsNumbersCardSaid : Prop := Claim7.holds Tryd.pinned (.plain (OpenSpec.ofChange limbsNumbersSpec)) limbsNumbersCard

/-- THE TIED CARD OF 'tripwirelaw01.LimbsTells'. -/
def limbsTellsCard : Claim7 := { stood := { row := limbsTellsRow, standIns := [], harness := (true, "81858e0205190d2ecb8bbd3fd3c846e82d452400a06f9adbde853b8cbe7a5374"), looks := false }, kinds := [], alts := [], laidByText := true, laidKinds := [.data], laidTests := true, laidLooks := .later }
def LimbsTellsCardSaid : Prop := Claim7.holds Tryd.pinned (.plain (OpenSpec.ofChange limbsTellsSpec)) limbsTellsCard

/-- THE TIED CARD OF 'tripwirelaw02.WholeNumbers'. -/
def wholeNumbersCard : Claim7 := { stood := { row := wholeNumbersRow, standIns := [], harness := (true, "81858e0205190d2ecb8bbd3fd3c846e82d452400a06f9adbde853b8cbe7a5374"), looks := false }, kinds := [], alts := [], laidByText := true, laidKinds := [.data], laidTests := true, laidLooks := .later }
def WholeNumbersCardSaid : Prop := Claim7.holds Tryd.pinned (.plain (OpenSpec.ofChange wholeNumbersSpec)) wholeNumbersCard

/-- THE TIED CARD OF 'tripwirelaw02.WholeTells'. -/
def wholeTellsCard : Claim7 := { stood := { row := wholeTellsRow, standIns := [], harness := (true, "81858e0205190d2ecb8bbd3fd3c846e82d452400a06f9adbde853b8cbe7a5374"), looks := false }, kinds := [], alts := [], laidByText := true, laidKinds := [.data], laidTests := true, laidLooks := .later }
def WholeTellsCardSaid : Prop := Claim7.holds Tryd.pinned (.plain (OpenSpec.ofChange wholeTellsSpec)) wholeTellsCard

/-- THE SECOND FORM's CARD OF 'tripwirelaw01.LimbsGcds'. -/
def limbsGcdsUptoCard : Claim7 := { stood := { row := limbsGcdsUptoRow, standIns := [], harness := (true, "81858e0205190d2ecb8bbd3fd3c846e82d452400a06f9adbde853b8cbe7a5374"), looks := false }, kinds := [], alts := [], laidByText := true, laidKinds := [.data], laidTests := true, laidLooks := .later }
def LimbsGcdsUptoCardSaid : Prop := Claim7.holds Tryd.pinned (.plain (OpenSpec.upto limbsGcdsSpec)) limbsGcdsUptoCard

/-- THE SECOND FORM's CARD OF 'tripwirelaw01.LimbsDivides'. -/
def limbsDividesUptoCard : Claim7 := { stood := { row := limbsDividesUptoRow, standIns := [], harness := (true, "81858e0205190d2ecb8bbd3fd3c846e82d452400a06f9adbde853b8cbe7a5374"), looks := false }, kinds := [], alts := [], laidByText := true, laidKinds := [.data], laidTests := true, laidLooks := .later }
def LimbsDividesUptoCardSaid : Prop := Claim7.holds Tryd.pinned (.plain (OpenSpec.upto limbsDividesSpec)) limbsDividesUptoCard

/-- THE SECOND FORM's CARD OF 'tripwirelaw01.LimbsRings'. -/
def limbsRingsUptoCard : Claim7 := { stood := { row := limbsRingsUptoRow, standIns := [], harness := (true, "81858e0205190d2ecb8bbd3fd3c846e82d452400a06f9adbde853b8cbe7a5374"), looks := false }, kinds := [], alts := [], laidByText := true, laidKinds := [.data], laidTests := true, laidLooks := .later }
def LimbsRingsUptoCardSaid : Prop := Claim7.holds Tryd.pinned (.plain (OpenSpec.upto limbsRingsSpec)) limbsRingsUptoCard

/-- THE SECOND FORM's CARD OF 'tripwirelaw01.LimbsShifts'. -/
def limbsShiftsUptoCard : Claim7 := { stood := { row := limbsShiftsUptoRow, standIns := [], harness := (true, "81858e0205190d2ecb8bbd3fd3c846e82d452400a06f9adbde853b8cbe7a5374"), looks := false }, kinds := [], alts := [], laidByText := true, laidKinds := [.data], laidTests := true, laidLooks := .later }
def LimbsShiftsUptoCardSaid : Prop := Claim7.holds Tryd.pinned (.plain (OpenSpec.upto limbsShiftsSpec)) limbsShiftsUptoCard

/-- THE SECOND FORM's CARD OF 'tripwirelaw01.LimbsNumbers'. -/
def limbsNumbersUptoCard : Claim7 := { stood := { row := limbsNumbersUptoRow, standIns := [], harness := (true, "81858e0205190d2ecb8bbd3fd3c846e82d452400a06f9adbde853b8cbe7a5374"), looks := false }, kinds := [], alts := [], laidByText := true, laidKinds := [.data], laidTests := true, laidLooks := .later }
def LimbsNumbersUptoCardSaid : Prop := Claim7.holds Tryd.pinned (.plain (OpenSpec.upto limbsNumbersSpec)) limbsNumbersUptoCard

/-- THE SECOND FORM's CARD OF 'tripwirelaw01.LimbsTells'. -/
def limbsTellsUptoCard : Claim7 := { stood := { row := limbsTellsUptoRow, standIns := [], harness := (true, "81858e0205190d2ecb8bbd3fd3c846e82d452400a06f9adbde853b8cbe7a5374"), looks := false }, kinds := [], alts := [], laidByText := true, laidKinds := [.data], laidTests := true, laidLooks := .later }
def LimbsTellsUptoCardSaid : Prop := Claim7.holds Tryd.pinned (.plain (OpenSpec.upto limbsTellsSpec)) limbsTellsUptoCard

/-- THE SECOND FORM's CARD OF 'tripwirelaw02.WholeNumbers'. -/
def wholeNumbersUptoCard : Claim7 := { stood := { row := wholeNumbersUptoRow, standIns := [], harness := (true, "81858e0205190d2ecb8bbd3fd3c846e82d452400a06f9adbde853b8cbe7a5374"), looks := false }, kinds := [], alts := [], laidByText := true, laidKinds := [.data], laidTests := true, laidLooks := .later }
def WholeNumbersUptoCardSaid : Prop := Claim7.holds Tryd.pinned (.plain (OpenSpec.upto wholeNumbersSpec)) wholeNumbersUptoCard

/-- THE SECOND FORM's CARD OF 'tripwirelaw02.WholeTells'. -/
def wholeTellsUptoCard : Claim7 := { stood := { row := wholeTellsUptoRow, standIns := [], harness := (true, "81858e0205190d2ecb8bbd3fd3c846e82d452400a06f9adbde853b8cbe7a5374"), looks := false }, kinds := [], alts := [], laidByText := true, laidKinds := [.data], laidTests := true, laidLooks := .later }
def WholeTellsUptoCardSaid : Prop := Claim7.holds Tryd.pinned (.plain (OpenSpec.upto wholeTellsSpec)) wholeTellsUptoCard
end Rows
end Go.Proofs.YtjlfcnkndndgaaaDoor
