/-
  NARROWER THAN 'FOR EVERY INPUT', by the rows' own cells (each row's printed sentence says how): LimbsGcds: laid · LimbsDivides: laid · LimbsRings: laid · LimbsShifts: laid · LimbsNumbers: laid · LimbsTells: laid · WholeNumbers: laid · WholeTells: laid.
  DERIVED. THE GIVEN ROWS OF THIS SEAT. 8 by the template 'for every input the law returns true; each argument reads behind the call as it read before'; 0 by the template 'total and deterministic' (their statements: YtjlfcnkndndgaaaDoorTotals.lean).
  GIVEN WITH THE SEED: the statements are not yours to turn. If you find one false, say at which input.
  Laid BY PROGRAM, IN A SANDBOX (cutbox-rows.mjs): the forced cells as the released guide's own fill.sh prints them over the translation 9c9cfc1f16001ce2… (all of the seat's roots in one cut). By AI agents, Wed Nov 11 2026. No macro, syntax, notation, axiom, sorry.
-/
import Derived.Test.YtjlfcnkndndgaaaDoorChecked
import GoSem.Claim
import GoSem.ClaimJoined
import GoSem.ClaimMapViews
import Derived.JoinedTies
import Derived.KernelRfl
namespace Go.Proofs.YtjlfcnkndndgaaaDoor
/- THE CELL 'sum', in the pinned program and in every row, IS THE sha256 OF THE DUMP (.gsa) THAT YtjlfcnkndndgaaaDoorProg.lean LOADS. Nothing in Lean hashes anything: it is a label: what it is worth is what the hold of that sum in a sandbox is worth. -/
noncomputable def Tryd.pinned : Pinned := { name := "ytjlfcnkndndgaaadoor", sum := "9c9cfc1f16001ce2730132b11f3e27b140c65a6da9fc8d5b649afb4165f33502", checked := Tryd.checked }
namespace Rows
def none {H : Type} : Left H := { results := [], args := [] }

/- WHAT THE LISTED PACKAGE-LEVEL VARIABLES READ AS WHEN THE CALL BEGINS. Each datum BY PROGRAM (the guide's laid-datum.mjs) off the statement by which the dump's own 'gosem.cut.vars' lays the variable. In a bare row this is a premise. The card (YtjlfcnkndndgaaaDoorCards.lean) ties it to the program's text. -/
def laid_math_bits_deBruijn64tab {H : Type} : DataW H := .agg [.lit (.int .u8 0), .lit (.int .u8 1), .lit (.int .u8 56), .lit (.int .u8 2), .lit (.int .u8 57), .lit (.int .u8 49), .lit (.int .u8 28), .lit (.int .u8 3), .lit (.int .u8 61), .lit (.int .u8 58), .lit (.int .u8 42), .lit (.int .u8 50), .lit (.int .u8 38), .lit (.int .u8 29), .lit (.int .u8 17), .lit (.int .u8 4), .lit (.int .u8 62), .lit (.int .u8 47), .lit (.int .u8 59), .lit (.int .u8 36), .lit (.int .u8 45), .lit (.int .u8 43), .lit (.int .u8 51), .lit (.int .u8 22), .lit (.int .u8 53), .lit (.int .u8 39), .lit (.int .u8 33), .lit (.int .u8 30), .lit (.int .u8 24), .lit (.int .u8 18), .lit (.int .u8 12), .lit (.int .u8 5), .lit (.int .u8 63), .lit (.int .u8 55), .lit (.int .u8 48), .lit (.int .u8 27), .lit (.int .u8 60), .lit (.int .u8 41), .lit (.int .u8 37), .lit (.int .u8 16), .lit (.int .u8 46), .lit (.int .u8 35), .lit (.int .u8 44), .lit (.int .u8 21), .lit (.int .u8 52), .lit (.int .u8 32), .lit (.int .u8 23), .lit (.int .u8 11), .lit (.int .u8 54), .lit (.int .u8 26), .lit (.int .u8 40), .lit (.int .u8 15), .lit (.int .u8 34), .lit (.int .u8 20), .lit (.int .u8 31), .lit (.int .u8 10), .lit (.int .u8 25), .lit (.int .u8 14), .lit (.int .u8 19), .lit (.int .u8 9), .lit (.int .u8 13), .lit (.int .u8 8), .lit (.int .u8 7), .lit (.int .u8 6)]

/-- 'tripwirelaw01.LimbsGcds': WHATEVER THE INPUT: true; the input reads as it did. -/
def limbsGcdsSpec : ChangeSpec := { name := "limbsGcds", fn := fun _ => fun
  | [d1, d2] => { results := [.lit (.bool true)], args := [d1, d2] }
  | _ => none }
def limbsGcdsRow : OpenClaim := { program := "ytjlfcnkndndgaaadoor", sum := "9c9cfc1f16001ce2730132b11f3e27b140c65a6da9fc8d5b649afb4165f33502", func := "tripwire/tripwirelaw01.LimbsGcds", spec := "limbsGcds", inPlace := ["math/bits.Add64", "math/bits.Sub64"], unfollowed := true, recurses := true, named := ["math/bits.divideError", "math/bits.overflowError", "math/bits.deBruijn64tab"], apart := false, laid := [("math/bits.deBruijn64tab", laid_math_bits_deBruijn64tab)] }
def LimbsGcdsSaid : Prop := limbsGcdsRow.holds Tryd.pinned (OpenSpec.ofChange limbsGcdsSpec)

/-- ITS FALSE NEIGHBOUR: 'it returns false'. Refute it at one input. -/
def limbsGcdsWrong : ChangeSpec := { name := "limbsGcds", fn := fun _ => fun
  | [d1, d2] => { results := [.lit (.bool false)], args := [d1, d2] }
  | _ => none }
def LimbsGcdsWrongFalsely : Prop := limbsGcdsRow.holds Tryd.pinned (OpenSpec.ofChange limbsGcdsWrong)

/-- 'tripwirelaw01.LimbsDivides': WHATEVER THE INPUT: true; the input reads as it did. -/
def limbsDividesSpec : ChangeSpec := { name := "limbsDivides", fn := fun _ => fun
  | [d1, d2, d3] => { results := [.lit (.bool true)], args := [d1, d2, d3] }
  | _ => none }
def limbsDividesRow : OpenClaim := { program := "ytjlfcnkndndgaaadoor", sum := "9c9cfc1f16001ce2730132b11f3e27b140c65a6da9fc8d5b649afb4165f33502", func := "tripwire/tripwirelaw01.LimbsDivides", spec := "limbsDivides", inPlace := ["math/bits.Add64", "math/bits.Sub64"], unfollowed := true, recurses := true, named := ["math/bits.divideError", "math/bits.overflowError", "math/bits.deBruijn64tab"], apart := false, laid := [("math/bits.deBruijn64tab", laid_math_bits_deBruijn64tab)] }
def LimbsDividesSaid : Prop := limbsDividesRow.holds Tryd.pinned (OpenSpec.ofChange limbsDividesSpec)

/-- ITS FALSE NEIGHBOUR: 'it returns false'. Refute it at one input. -/
def limbsDividesWrong : ChangeSpec := { name := "limbsDivides", fn := fun _ => fun
  | [d1, d2, d3] => { results := [.lit (.bool false)], args := [d1, d2, d3] }
  | _ => none }
def LimbsDividesWrongFalsely : Prop := limbsDividesRow.holds Tryd.pinned (OpenSpec.ofChange limbsDividesWrong)

/-- 'tripwirelaw01.LimbsRings': WHATEVER THE INPUT: true; the input reads as it did. -/
def limbsRingsSpec : ChangeSpec := { name := "limbsRings", fn := fun _ => fun
  | [d1, d2, d3] => { results := [.lit (.bool true)], args := [d1, d2, d3] }
  | _ => none }
def limbsRingsRow : OpenClaim := { program := "ytjlfcnkndndgaaadoor", sum := "9c9cfc1f16001ce2730132b11f3e27b140c65a6da9fc8d5b649afb4165f33502", func := "tripwire/tripwirelaw01.LimbsRings", spec := "limbsRings", inPlace := ["math/bits.Add64", "math/bits.Sub64"], unfollowed := true, recurses := true, named := ["math/bits.divideError", "math/bits.overflowError", "math/bits.deBruijn64tab"], apart := false, laid := [("math/bits.deBruijn64tab", laid_math_bits_deBruijn64tab)] }
def LimbsRingsSaid : Prop := limbsRingsRow.holds Tryd.pinned (OpenSpec.ofChange limbsRingsSpec)

/-- ITS FALSE NEIGHBOUR: 'it returns false'. Refute it at one input. -/
def limbsRingsWrong : ChangeSpec := { name := "limbsRings", fn := fun _ => fun
  | [d1, d2, d3] => { results := [.lit (.bool false)], args := [d1, d2, d3] }
  | _ => none }
def LimbsRingsWrongFalsely : Prop := limbsRingsRow.holds Tryd.pinned (OpenSpec.ofChange limbsRingsWrong)

/-- 'tripwirelaw01.LimbsShifts': WHATEVER THE INPUT: true; the input reads as it did. -/
def limbsShiftsSpec : ChangeSpec := { name := "limbsShifts", fn := fun _ => fun
  | [d1, d2] => { results := [.lit (.bool true)], args := [d1, d2] }
  | _ => none }
def limbsShiftsRow : OpenClaim := { program := "ytjlfcnkndndgaaadoor", sum := "9c9cfc1f16001ce2730132b11f3e27b140c65a6da9fc8d5b649afb4165f33502", func := "tripwire/tripwirelaw01.LimbsShifts", spec := "limbsShifts", inPlace := ["math/bits.Add64", "math/bits.Sub64"], unfollowed := true, recurses := true, named := ["math/bits.divideError", "math/bits.overflowError", "math/bits.deBruijn64tab"], apart := false, laid := [("math/bits.deBruijn64tab", laid_math_bits_deBruijn64tab)] }
def LimbsShiftsSaid : Prop := limbsShiftsRow.holds Tryd.pinned (OpenSpec.ofChange limbsShiftsSpec)

/-- ITS FALSE NEIGHBOUR: 'it returns false'. Refute it at one input. -/
def limbsShiftsWrong : ChangeSpec := { name := "limbsShifts", fn := fun _ => fun
  | [d1, d2] => { results := [.lit (.bool false)], args := [d1, d2] }
  | _ => none }
def LimbsShiftsWrongFalsely : Prop := limbsShiftsRow.holds Tryd.pinned (OpenSpec.ofChange limbsShiftsWrong)

/-- 'tripwirelaw01.LimbsNumbers': WHATEVER THE INPUT: true; the input reads as it did. -/
def limbsNumbersSpec : ChangeSpec := { name := "limbsNumbers", fn := fun _ => fun
  | [] => { results := [.lit (.bool true)], args := [] }
  | _ => none }
def limbsNumbersRow : OpenClaim := { program := "ytjlfcnkndndgaaadoor", sum := "9c9cfc1f16001ce2730132b11f3e27b140c65a6da9fc8d5b649afb4165f33502", func := "tripwire/tripwirelaw01.LimbsNumbers", spec := "limbsNumbers", inPlace := ["math/bits.Sub64", "math/bits.Add64"], unfollowed := true, recurses := true, named := ["math/bits.divideError", "math/bits.overflowError", "math/bits.deBruijn64tab"], apart := false, laid := [("math/bits.deBruijn64tab", laid_math_bits_deBruijn64tab)] }
def LimbsNumbersSaid : Prop := limbsNumbersRow.holds Tryd.pinned (OpenSpec.ofChange limbsNumbersSpec)

/-- ITS FALSE NEIGHBOUR: 'it returns false'. Refute it at one input. -/
def limbsNumbersWrong : ChangeSpec := { name := "limbsNumbers", fn := fun _ => fun
  | [] => { results := [.lit (.bool false)], args := [] }
  | _ => none }
def LimbsNumbersWrongFalsely : Prop := limbsNumbersRow.holds Tryd.pinned (OpenSpec.ofChange limbsNumbersWrong)

/-- 'tripwirelaw01.LimbsTells': WHATEVER THE INPUT: true; the input reads as it did. -/
def limbsTellsSpec : ChangeSpec := { name := "limbsTells", fn := fun _ => fun
  | [d1, d2, d3] => { results := [.lit (.bool true)], args := [d1, d2, d3] }
  | _ => none }
def limbsTellsRow : OpenClaim := { program := "ytjlfcnkndndgaaadoor", sum := "9c9cfc1f16001ce2730132b11f3e27b140c65a6da9fc8d5b649afb4165f33502", func := "tripwire/tripwirelaw01.LimbsTells", spec := "limbsTells", inPlace := ["math/bits.Add64", "math/bits.Sub64"], unfollowed := true, recurses := true, named := ["math/bits.divideError", "math/bits.overflowError", "math/bits.deBruijn64tab"], apart := false, laid := [("math/bits.deBruijn64tab", laid_math_bits_deBruijn64tab)] }
def LimbsTellsSaid : Prop := limbsTellsRow.holds Tryd.pinned (OpenSpec.ofChange limbsTellsSpec)

/-- ITS FALSE NEIGHBOUR: 'it returns false'. Refute it at one input. -/
def limbsTellsWrong : ChangeSpec := { name := "limbsTells", fn := fun _ => fun
  | [d1, d2, d3] => { results := [.lit (.bool false)], args := [d1, d2, d3] }
  | _ => none }
def LimbsTellsWrongFalsely : Prop := limbsTellsRow.holds Tryd.pinned (OpenSpec.ofChange limbsTellsWrong)

/-- 'tripwirelaw02.WholeNumbers': WHATEVER THE INPUT: true; the input reads as it did. -/
def wholeNumbersSpec : ChangeSpec := { name := "wholeNumbers", fn := fun _ => fun
  | [] => { results := [.lit (.bool true)], args := [] }
  | _ => none }
def wholeNumbersRow : OpenClaim := { program := "ytjlfcnkndndgaaadoor", sum := "9c9cfc1f16001ce2730132b11f3e27b140c65a6da9fc8d5b649afb4165f33502", func := "tripwire/tripwirelaw02.WholeNumbers", spec := "wholeNumbers", inPlace := ["math/bits.Add64", "math/bits.Sub64"], unfollowed := true, recurses := true, named := ["math/bits.divideError", "math/bits.overflowError", "math/bits.deBruijn64tab"], apart := false, laid := [("math/bits.deBruijn64tab", laid_math_bits_deBruijn64tab)] }
def WholeNumbersSaid : Prop := wholeNumbersRow.holds Tryd.pinned (OpenSpec.ofChange wholeNumbersSpec)

/-- ITS FALSE NEIGHBOUR: 'it returns false'. Refute it at one input. -/
def wholeNumbersWrong : ChangeSpec := { name := "wholeNumbers", fn := fun _ => fun
  | [] => { results := [.lit (.bool false)], args := [] }
  | _ => none }
def WholeNumbersWrongFalsely : Prop := wholeNumbersRow.holds Tryd.pinned (OpenSpec.ofChange wholeNumbersWrong)

/-- 'tripwirelaw02.WholeTells': WHATEVER THE INPUT: true; the input reads as it did. -/
def wholeTellsSpec : ChangeSpec := { name := "wholeTells", fn := fun _ => fun
  | [d1, d2, d3] => { results := [.lit (.bool true)], args := [d1, d2, d3] }
  | _ => none }
def wholeTellsRow : OpenClaim := { program := "ytjlfcnkndndgaaadoor", sum := "9c9cfc1f16001ce2730132b11f3e27b140c65a6da9fc8d5b649afb4165f33502", func := "tripwire/tripwirelaw02.WholeTells", spec := "wholeTells", inPlace := ["math/bits.Add64", "math/bits.Sub64"], unfollowed := true, recurses := true, named := ["math/bits.divideError", "math/bits.overflowError", "math/bits.deBruijn64tab"], apart := false, laid := [("math/bits.deBruijn64tab", laid_math_bits_deBruijn64tab)] }
def WholeTellsSaid : Prop := wholeTellsRow.holds Tryd.pinned (OpenSpec.ofChange wholeTellsSpec)

/-- ITS FALSE NEIGHBOUR: 'it returns false'. Refute it at one input. -/
def wholeTellsWrong : ChangeSpec := { name := "wholeTells", fn := fun _ => fun
  | [d1, d2, d3] => { results := [.lit (.bool false)], args := [d1, d2, d3] }
  | _ => none }
def WholeTellsWrongFalsely : Prop := wholeTellsRow.holds Tryd.pinned (OpenSpec.ofChange wholeTellsWrong)

/- THE SECOND FORM. 'bulk': how many values and letters a reading holds, each counted each time it is reached (what is shared counts as often as it is met; a slice's spare places count too). A statement '..UptoSaid' is the law's where the arguments, and the package variables that the reading takes, are together of bulk at most 1048576: NARROWER than '..Said'. Prove '..Said' where nothing that the law and all that it calls make is longer than what came in: it says more and counts as full. Else prove '..UptoSaid'. A law counts once. -/
mutual
def uptoBulk {H : Type} : DataW H → Nat
  | .lit (.string bytes) => bytes.length + 1
  | .lit _ => 1
  | .nil => 1
  | .ptr d => uptoBulk d + 1
  | .slice elems spare => uptoBulkAll elems + uptoBulkAll spare + 1
  | .agg parts => uptoBulkAll parts + 1
  | .iface _ d => uptoBulk d + 1
  | .map entries => uptoBulkEntries entries + 1
  | .held _ => 1
def uptoBulkAll {H : Type} : List (DataW H) → Nat
  | [] => 0
  | d :: r => uptoBulk d + uptoBulkAll r
def uptoBulkEntries {H : Type} : List (Lit × DataW H) → Nat
  | [] => 0
  | x :: r => uptoBulkEntry x + uptoBulkEntries r
def uptoBulkEntry {H : Type} : Lit × DataW H → Nat
  | (.string bytes, d) => bytes.length + uptoBulk d + 1
  | (_, d) => uptoBulk d + 1
 end
def uptoSmall : (H : Type) → List (DataW H) → Bool := fun _ ds => decide (uptoBulkAll ds ≤ 1048576)
def OpenSpec.upto (s : _root_.Go.ChangeSpec) : _root_.Go.OpenSpec := { _root_.Go.OpenSpec.ofChange s with cond := some uptoSmall }

/-- 'tripwirelaw01.LimbsGcds', WHERE WHAT IT READS IS OF BULK AT MOST 1048576: true; the input reads as it did. -/
def limbsGcdsUptoRow : OpenClaim := { program := "ytjlfcnkndndgaaadoor", sum := "9c9cfc1f16001ce2730132b11f3e27b140c65a6da9fc8d5b649afb4165f33502", func := "tripwire/tripwirelaw01.LimbsGcds", spec := "limbsGcds", inPlace := ["math/bits.Add64", "math/bits.Sub64"], unfollowed := true, recurses := true, named := ["math/bits.divideError", "math/bits.overflowError", "math/bits.deBruijn64tab"], apart := false, laid := [("math/bits.deBruijn64tab", laid_math_bits_deBruijn64tab)], narrowed := true }
def LimbsGcdsUptoSaid : Prop := limbsGcdsUptoRow.holds Tryd.pinned (OpenSpec.upto limbsGcdsSpec)

/-- 'tripwirelaw01.LimbsDivides', WHERE WHAT IT READS IS OF BULK AT MOST 1048576: true; the input reads as it did. -/
def limbsDividesUptoRow : OpenClaim := { program := "ytjlfcnkndndgaaadoor", sum := "9c9cfc1f16001ce2730132b11f3e27b140c65a6da9fc8d5b649afb4165f33502", func := "tripwire/tripwirelaw01.LimbsDivides", spec := "limbsDivides", inPlace := ["math/bits.Add64", "math/bits.Sub64"], unfollowed := true, recurses := true, named := ["math/bits.divideError", "math/bits.overflowError", "math/bits.deBruijn64tab"], apart := false, laid := [("math/bits.deBruijn64tab", laid_math_bits_deBruijn64tab)], narrowed := true }
def LimbsDividesUptoSaid : Prop := limbsDividesUptoRow.holds Tryd.pinned (OpenSpec.upto limbsDividesSpec)

/-- 'tripwirelaw01.LimbsRings', WHERE WHAT IT READS IS OF BULK AT MOST 1048576: true; the input reads as it did. -/
def limbsRingsUptoRow : OpenClaim := { program := "ytjlfcnkndndgaaadoor", sum := "9c9cfc1f16001ce2730132b11f3e27b140c65a6da9fc8d5b649afb4165f33502", func := "tripwire/tripwirelaw01.LimbsRings", spec := "limbsRings", inPlace := ["math/bits.Add64", "math/bits.Sub64"], unfollowed := true, recurses := true, named := ["math/bits.divideError", "math/bits.overflowError", "math/bits.deBruijn64tab"], apart := false, laid := [("math/bits.deBruijn64tab", laid_math_bits_deBruijn64tab)], narrowed := true }
def LimbsRingsUptoSaid : Prop := limbsRingsUptoRow.holds Tryd.pinned (OpenSpec.upto limbsRingsSpec)

/-- 'tripwirelaw01.LimbsShifts', WHERE WHAT IT READS IS OF BULK AT MOST 1048576: true; the input reads as it did. -/
def limbsShiftsUptoRow : OpenClaim := { program := "ytjlfcnkndndgaaadoor", sum := "9c9cfc1f16001ce2730132b11f3e27b140c65a6da9fc8d5b649afb4165f33502", func := "tripwire/tripwirelaw01.LimbsShifts", spec := "limbsShifts", inPlace := ["math/bits.Add64", "math/bits.Sub64"], unfollowed := true, recurses := true, named := ["math/bits.divideError", "math/bits.overflowError", "math/bits.deBruijn64tab"], apart := false, laid := [("math/bits.deBruijn64tab", laid_math_bits_deBruijn64tab)], narrowed := true }
def LimbsShiftsUptoSaid : Prop := limbsShiftsUptoRow.holds Tryd.pinned (OpenSpec.upto limbsShiftsSpec)

/-- 'tripwirelaw01.LimbsNumbers', WHERE WHAT IT READS IS OF BULK AT MOST 1048576: true; the input reads as it did. -/
def limbsNumbersUptoRow : OpenClaim := { program := "ytjlfcnkndndgaaadoor", sum := "9c9cfc1f16001ce2730132b11f3e27b140c65a6da9fc8d5b649afb4165f33502", func := "tripwire/tripwirelaw01.LimbsNumbers", spec := "limbsNumbers", inPlace := ["math/bits.Sub64", "math/bits.Add64"], unfollowed := true, recurses := true, named := ["math/bits.divideError", "math/bits.overflowError", "math/bits.deBruijn64tab"], apart := false, laid := [("math/bits.deBruijn64tab", laid_math_bits_deBruijn64tab)], narrowed := true }
def LimbsNumbersUptoSaid : Prop := limbsNumbersUptoRow.holds Tryd.pinned (OpenSpec.upto limbsNumbersSpec)

/-- 'tripwirelaw01.LimbsTells', WHERE WHAT IT READS IS OF BULK AT MOST 1048576: true; the input reads as it did. -/
def limbsTellsUptoRow : OpenClaim := { program := "ytjlfcnkndndgaaadoor", sum := "9c9cfc1f16001ce2730132b11f3e27b140c65a6da9fc8d5b649afb4165f33502", func := "tripwire/tripwirelaw01.LimbsTells", spec := "limbsTells", inPlace := ["math/bits.Add64", "math/bits.Sub64"], unfollowed := true, recurses := true, named := ["math/bits.divideError", "math/bits.overflowError", "math/bits.deBruijn64tab"], apart := false, laid := [("math/bits.deBruijn64tab", laid_math_bits_deBruijn64tab)], narrowed := true }
def LimbsTellsUptoSaid : Prop := limbsTellsUptoRow.holds Tryd.pinned (OpenSpec.upto limbsTellsSpec)

/-- 'tripwirelaw02.WholeNumbers', WHERE WHAT IT READS IS OF BULK AT MOST 1048576: true; the input reads as it did. -/
def wholeNumbersUptoRow : OpenClaim := { program := "ytjlfcnkndndgaaadoor", sum := "9c9cfc1f16001ce2730132b11f3e27b140c65a6da9fc8d5b649afb4165f33502", func := "tripwire/tripwirelaw02.WholeNumbers", spec := "wholeNumbers", inPlace := ["math/bits.Add64", "math/bits.Sub64"], unfollowed := true, recurses := true, named := ["math/bits.divideError", "math/bits.overflowError", "math/bits.deBruijn64tab"], apart := false, laid := [("math/bits.deBruijn64tab", laid_math_bits_deBruijn64tab)], narrowed := true }
def WholeNumbersUptoSaid : Prop := wholeNumbersUptoRow.holds Tryd.pinned (OpenSpec.upto wholeNumbersSpec)

/-- 'tripwirelaw02.WholeTells', WHERE WHAT IT READS IS OF BULK AT MOST 1048576: true; the input reads as it did. -/
def wholeTellsUptoRow : OpenClaim := { program := "ytjlfcnkndndgaaadoor", sum := "9c9cfc1f16001ce2730132b11f3e27b140c65a6da9fc8d5b649afb4165f33502", func := "tripwire/tripwirelaw02.WholeTells", spec := "wholeTells", inPlace := ["math/bits.Add64", "math/bits.Sub64"], unfollowed := true, recurses := true, named := ["math/bits.divideError", "math/bits.overflowError", "math/bits.deBruijn64tab"], apart := false, laid := [("math/bits.deBruijn64tab", laid_math_bits_deBruijn64tab)], narrowed := true }
def WholeTellsUptoSaid : Prop := wholeTellsUptoRow.holds Tryd.pinned (OpenSpec.upto wholeTellsSpec)

end Rows
end Go.Proofs.YtjlfcnkndndgaaaDoor
