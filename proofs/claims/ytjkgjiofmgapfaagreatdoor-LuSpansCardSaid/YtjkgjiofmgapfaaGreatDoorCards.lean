/-
  DERIVED. GIVEN WITH THE SEED: THE CARDS: each row of YtjkgjiofmgapfaaGreatDoorRows.lean that lists a variable, with what it lists TIED to the program's text (the seventh form; the later family's looks); each row that meets fmt, with fmt's text TOLD by the authors' own Lean function (tested against real Go, not proved from fmt's source: count such statements apart). THE CARD IS WHAT COUNTS. Prove the row's statement (the work); the ties are given (YtjkgjiofmgapfaaGreatDoorTie.lean); close each card by the builder's one call (the guide's Derived/Test/ToyasCard.lean, 'card_holds'). Laid BY PROGRAM, IN A SANDBOX (cutbox-door.mjs). By AI agents, Wed Nov 11 2026. No macro, syntax, notation, axiom, sorry.
-/
import Derived.Test.YtjkgjiofmgapfaaGreatDoorRows
import GoSem.ClaimSeven
namespace Go.Proofs.YtjkgjiofmgapfaaGreatDoor
namespace Rows

/-- THE TIED CARD OF 'tripwirelaw15.ProgramLimits'. -/
def programLimitsCard : Claim7 := { stood := { row := programLimitsRow, standIns := [], harness := (true, "8b01975b933aa339937f727dd44e5c02aca9b423a0f43f6eec1c37c379d608a8"), looks := false }, kinds := [], alts := [], laidByText := true, laidKinds := [.data], laidTests := true, laidLooks := .later }
def ProgramLimitsCardSaid : Prop := Claim7.holds Tryz.pinned (.plain (OpenSpec.ofChange programLimitsSpec)) programLimitsCard

/-- THE TIED CARD OF 'tripwirelaw15.ProgramSpans'. -/
def programSpansCard : Claim7 := { stood := { row := programSpansRow, standIns := [], harness := (true, "8b01975b933aa339937f727dd44e5c02aca9b423a0f43f6eec1c37c379d608a8"), looks := false }, kinds := [], alts := [], laidByText := true, laidKinds := [.data], laidTests := true, laidLooks := .later }
def ProgramSpansCardSaid : Prop := Claim7.holds Tryz.pinned (.plain (OpenSpec.ofChange programSpansSpec)) programSpansCard

/-- THE TIED CARD OF 'tripwirelaw15.ProgramForms'. -/
def programFormsCard : Claim7 := { stood := { row := programFormsRow, standIns := [], harness := (true, "8b01975b933aa339937f727dd44e5c02aca9b423a0f43f6eec1c37c379d608a8"), looks := false }, kinds := [], alts := [], laidByText := true, laidKinds := [.data], laidTests := true, laidLooks := .later }
def ProgramFormsCardSaid : Prop := Claim7.holds Tryz.pinned (.plain (OpenSpec.ofChange programFormsSpec)) programFormsCard

/-- THE TIED CARD OF 'tripwirelaw07.LuNumbers'. -/
def luNumbersCard : Claim7 := { stood := { row := luNumbersRow, standIns := [], harness := (true, "8b01975b933aa339937f727dd44e5c02aca9b423a0f43f6eec1c37c379d608a8"), looks := false }, kinds := [], alts := [], laidByText := true, laidKinds := [.data], laidTests := true, laidLooks := .later }
def LuNumbersCardSaid : Prop := Claim7.holds Tryz.pinned (.plain (OpenSpec.ofChange luNumbersSpec)) luNumbersCard

/-- THE TIED CARD OF 'tripwirelaw07.LuTells'. -/
def luTellsCard : Claim7 := { stood := { row := luTellsRow, standIns := [], harness := (true, "8b01975b933aa339937f727dd44e5c02aca9b423a0f43f6eec1c37c379d608a8"), looks := false }, kinds := [], alts := [], laidByText := true, laidKinds := [.data], laidTests := true, laidLooks := .later }
def LuTellsCardSaid : Prop := Claim7.holds Tryz.pinned (.plain (OpenSpec.ofChange luTellsSpec)) luTellsCard

/-- THE TIED CARD OF 'tripwirelaw07.LuNone'. -/
def luNoneCard : Claim7 := { stood := { row := luNoneRow, standIns := [], harness := (true, "8b01975b933aa339937f727dd44e5c02aca9b423a0f43f6eec1c37c379d608a8"), looks := false }, kinds := [], alts := [], laidByText := true, laidKinds := [.data], laidTests := true, laidLooks := .later }
def LuNoneCardSaid : Prop := Claim7.holds Tryz.pinned (.plain (OpenSpec.ofChange luNoneSpec)) luNoneCard

/-- THE TIED CARD OF 'tripwirelaw07.LuSpans'. -/
def luSpansCard : Claim7 := { stood := { row := luSpansRow, standIns := [], harness := (true, "8b01975b933aa339937f727dd44e5c02aca9b423a0f43f6eec1c37c379d608a8"), looks := false }, kinds := [], alts := [], laidByText := true, laidKinds := [.data], laidTests := true, laidLooks := .later }
def LuSpansCardSaid : Prop := Claim7.holds Tryz.pinned (.plain (OpenSpec.ofChange luSpansSpec)) luSpansCard

/-- THE TIED CARD OF 'tripwirelaw07.LuSolves'. -/
def luSolvesCard : Claim7 := { stood := { row := luSolvesRow, standIns := [], harness := (true, "8b01975b933aa339937f727dd44e5c02aca9b423a0f43f6eec1c37c379d608a8"), looks := false }, kinds := [], alts := [], laidByText := true, laidKinds := [.data], laidTests := true, laidLooks := .later }
def LuSolvesCardSaid : Prop := Claim7.holds Tryz.pinned (.plain (OpenSpec.ofChange luSolvesSpec)) luSolvesCard

/-- THE SECOND FORM's CARD OF 'tripwirelaw15.ProgramLimits'. -/
def programLimitsUptoCard : Claim7 := { stood := { row := programLimitsUptoRow, standIns := [], harness := (true, "8b01975b933aa339937f727dd44e5c02aca9b423a0f43f6eec1c37c379d608a8"), looks := false }, kinds := [], alts := [], laidByText := true, laidKinds := [.data], laidTests := true, laidLooks := .later }
def ProgramLimitsUptoCardSaid : Prop := Claim7.holds Tryz.pinned (.plain (OpenSpec.upto programLimitsSpec)) programLimitsUptoCard

/-- THE SECOND FORM's CARD OF 'tripwirelaw15.ProgramSpans'. -/
def programSpansUptoCard : Claim7 := { stood := { row := programSpansUptoRow, standIns := [], harness := (true, "8b01975b933aa339937f727dd44e5c02aca9b423a0f43f6eec1c37c379d608a8"), looks := false }, kinds := [], alts := [], laidByText := true, laidKinds := [.data], laidTests := true, laidLooks := .later }
def ProgramSpansUptoCardSaid : Prop := Claim7.holds Tryz.pinned (.plain (OpenSpec.upto programSpansSpec)) programSpansUptoCard

/-- THE SECOND FORM's CARD OF 'tripwirelaw15.ProgramForms'. -/
def programFormsUptoCard : Claim7 := { stood := { row := programFormsUptoRow, standIns := [], harness := (true, "8b01975b933aa339937f727dd44e5c02aca9b423a0f43f6eec1c37c379d608a8"), looks := false }, kinds := [], alts := [], laidByText := true, laidKinds := [.data], laidTests := true, laidLooks := .later }
def ProgramFormsUptoCardSaid : Prop := Claim7.holds Tryz.pinned (.plain (OpenSpec.upto programFormsSpec)) programFormsUptoCard

/-- THE SECOND FORM's CARD OF 'tripwirelaw07.LuNumbers'. -/
def luNumbersUptoCard : Claim7 := { stood := { row := luNumbersUptoRow, standIns := [], harness := (true, "8b01975b933aa339937f727dd44e5c02aca9b423a0f43f6eec1c37c379d608a8"), looks := false }, kinds := [], alts := [], laidByText := true, laidKinds := [.data], laidTests := true, laidLooks := .later }
def LuNumbersUptoCardSaid : Prop := Claim7.holds Tryz.pinned (.plain (OpenSpec.upto luNumbersSpec)) luNumbersUptoCard

/-- THE SECOND FORM's CARD OF 'tripwirelaw07.LuTells'. -/
def luTellsUptoCard : Claim7 := { stood := { row := luTellsUptoRow, standIns := [], harness := (true, "8b01975b933aa339937f727dd44e5c02aca9b423a0f43f6eec1c37c379d608a8"), looks := false }, kinds := [], alts := [], laidByText := true, laidKinds := [.data], laidTests := true, laidLooks := .later }
def LuTellsUptoCardSaid : Prop := Claim7.holds Tryz.pinned (.plain (OpenSpec.upto luTellsSpec)) luTellsUptoCard

/-- THE SECOND FORM's CARD OF 'tripwirelaw07.LuNone'. -/
def luNoneUptoCard : Claim7 := { stood := { row := luNoneUptoRow, standIns := [], harness := (true, "8b01975b933aa339937f727dd44e5c02aca9b423a0f43f6eec1c37c379d608a8"), looks := false }, kinds := [], alts := [], laidByText := true, laidKinds := [.data], laidTests := true, laidLooks := .later }
def LuNoneUptoCardSaid : Prop := Claim7.holds Tryz.pinned (.plain (OpenSpec.upto luNoneSpec)) luNoneUptoCard

/-- THE SECOND FORM's CARD OF 'tripwirelaw07.LuSpans'. -/
def luSpansUptoCard : Claim7 := { stood := { row := luSpansUptoRow, standIns := [], harness := (true, "8b01975b933aa339937f727dd44e5c02aca9b423a0f43f6eec1c37c379d608a8"), looks := false }, kinds := [], alts := [], laidByText := true, laidKinds := [.data], laidTests := true, laidLooks := .later }
def LuSpansUptoCardSaid : Prop := Claim7.holds Tryz.pinned (.plain (OpenSpec.upto luSpansSpec)) luSpansUptoCard

/-- THE SECOND FORM's CARD OF 'tripwirelaw07.LuSolves'. -/
def luSolvesUptoCard : Claim7 := { stood := { row := luSolvesUptoRow, standIns := [], harness := (true, "8b01975b933aa339937f727dd44e5c02aca9b423a0f43f6eec1c37c379d608a8"), looks := false }, kinds := [], alts := [], laidByText := true, laidKinds := [.data], laidTests := true, laidLooks := .later }
def LuSolvesUptoCardSaid : Prop := Claim7.holds Tryz.pinned (.plain (OpenSpec.upto luSolvesSpec)) luSolvesUptoCard
end Rows
end Go.Proofs.YtjkgjiofmgapfaaGreatDoor
