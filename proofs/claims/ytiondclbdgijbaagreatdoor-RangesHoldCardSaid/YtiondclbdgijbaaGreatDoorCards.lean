/-
  DERIVED. GIVEN WITH THE SEED: THE CARDS: each row of YtiondclbdgijbaaGreatDoorRows.lean that lists a variable, with what it lists TIED to the program's text (the seventh form; the later family's looks); each row that meets fmt, with fmt's text TOLD by the authors' own Lean function (tested against real Go, not proved from fmt's source: count such statements apart). THE CARD IS WHAT COUNTS. Prove the row's statement (the work); the ties are given (YtiondclbdgijbaaGreatDoorTie.lean); close each card by the builder's one call (the guide's Derived/Test/ToyasCard.lean, 'card_holds'). Laid BY PROGRAM, IN A SANDBOX (cutbox-door.mjs). By AI agents, Wed Nov 11 2026. No macro, syntax, notation, axiom, sorry.
-/
import Derived.Test.YtiondclbdgijbaaGreatDoorRows
import GoSem.ClaimSeven
namespace Go.Proofs.YtiondclbdgijbaaGreatDoor
namespace Rows

/-- THE TIED CARD OF 'tripwirelaw20.RangesHold'. -/
def rangesHoldCard : Claim7 := { stood := { row := rangesHoldRow, standIns := [], harness := (true, "9284d622752ac2adde2d3aa560a3d789e5e064d9d729e30e6a6eed398d43cc82"), looks := false }, kinds := [], alts := [], laidByText := true, laidKinds := [.data], laidTests := true, laidLooks := .later }
def RangesHoldCardSaid : Prop := Claim7.holds Tryz.pinned (.plain (OpenSpec.ofChange rangesHoldSpec)) rangesHoldCard

/-- THE SECOND FORM's CARD OF 'tripwirelaw20.RangesHold'. -/
def rangesHoldUptoCard : Claim7 := { stood := { row := rangesHoldUptoRow, standIns := [], harness := (true, "9284d622752ac2adde2d3aa560a3d789e5e064d9d729e30e6a6eed398d43cc82"), looks := false }, kinds := [], alts := [], laidByText := true, laidKinds := [.data], laidTests := true, laidLooks := .later }
def RangesHoldUptoCardSaid : Prop := Claim7.holds Tryz.pinned (.plain (OpenSpec.upto rangesHoldSpec)) rangesHoldUptoCard
end Rows
end Go.Proofs.YtiondclbdgijbaaGreatDoor
