/-
  NARROWER THAN 'FOR EVERY INPUT', by the rows' own cells (each row's printed sentence says how): ProgramLimits: laid · ProgramSpans: laid · ProgramForms: laid · LuNumbers: laid · LuTells: laid · LuNone: laid · LuSpans: laid · LuSolves: laid.
  DERIVED. THE GIVEN ROWS OF THIS SEAT. 8 by the template 'for every input the law returns true; each argument reads behind the call as it read before'; 0 by the template 'total and deterministic' (their statements: YtjkgjiofmgapfaaGreatDoorTotals.lean).
  GIVEN WITH THE SEED: the statements are not yours to turn. If you find one false, say at which input.
  Laid BY PROGRAM, IN A SANDBOX (cutbox-rows.mjs): the forced cells as the released guide's own fill.sh prints them over the translation 6af08c1d066c5106… (all of the seat's roots in one cut). By AI agents, Wed Nov 11 2026. No macro, syntax, notation, axiom, sorry.
-/
import Derived.Test.YtjkgjiofmgapfaaGreatDoorChecked
import GoSem.Claim
import GoSem.ClaimJoined
import GoSem.ClaimMapViews
import Derived.JoinedTies
import Derived.KernelRfl
namespace Go.Proofs.YtjkgjiofmgapfaaGreatDoor
/- THE CELL 'sum', in the pinned program and in every row, IS THE sha256 OF THE DUMP (.gsa) THAT YtjkgjiofmgapfaaGreatDoorProg.lean LOADS. Nothing in Lean hashes anything: it is a label: what it is worth is what the hold of that sum in a sandbox is worth. -/
noncomputable def Tryz.pinned : Pinned := { name := "ytjkgjiofmgapfaagreatdoor", sum := "6af08c1d066c51061dde03f8ca0bd41263dfe4dbc158dc1603c41bd150007321", checked := Tryz.checked }
namespace Rows
def none {H : Type} : Left H := { results := [], args := [] }

/- WHAT THE LISTED PACKAGE-LEVEL VARIABLES READ AS WHEN THE CALL BEGINS. Each datum BY PROGRAM (the guide's laid-datum.mjs) off the statement by which the dump's own 'gosem.cut.vars' lays the variable. In a bare row this is a premise. The card (YtjkgjiofmgapfaaGreatDoorCards.lean) ties it to the program's text. -/
def laid_math_bits_deBruijn64tab {H : Type} : DataW H := .agg [.lit (.int .u8 0), .lit (.int .u8 1), .lit (.int .u8 56), .lit (.int .u8 2), .lit (.int .u8 57), .lit (.int .u8 49), .lit (.int .u8 28), .lit (.int .u8 3), .lit (.int .u8 61), .lit (.int .u8 58), .lit (.int .u8 42), .lit (.int .u8 50), .lit (.int .u8 38), .lit (.int .u8 29), .lit (.int .u8 17), .lit (.int .u8 4), .lit (.int .u8 62), .lit (.int .u8 47), .lit (.int .u8 59), .lit (.int .u8 36), .lit (.int .u8 45), .lit (.int .u8 43), .lit (.int .u8 51), .lit (.int .u8 22), .lit (.int .u8 53), .lit (.int .u8 39), .lit (.int .u8 33), .lit (.int .u8 30), .lit (.int .u8 24), .lit (.int .u8 18), .lit (.int .u8 12), .lit (.int .u8 5), .lit (.int .u8 63), .lit (.int .u8 55), .lit (.int .u8 48), .lit (.int .u8 27), .lit (.int .u8 60), .lit (.int .u8 41), .lit (.int .u8 37), .lit (.int .u8 16), .lit (.int .u8 46), .lit (.int .u8 35), .lit (.int .u8 44), .lit (.int .u8 21), .lit (.int .u8 52), .lit (.int .u8 32), .lit (.int .u8 23), .lit (.int .u8 11), .lit (.int .u8 54), .lit (.int .u8 26), .lit (.int .u8 40), .lit (.int .u8 15), .lit (.int .u8 34), .lit (.int .u8 20), .lit (.int .u8 31), .lit (.int .u8 10), .lit (.int .u8 25), .lit (.int .u8 14), .lit (.int .u8 19), .lit (.int .u8 9), .lit (.int .u8 13), .lit (.int .u8 8), .lit (.int .u8 7), .lit (.int .u8 6)]

/-- 'tripwirelaw15.ProgramLimits': WHATEVER THE INPUT: true; the input reads as it did. -/
def programLimitsSpec : ChangeSpec := { name := "programLimits", fn := fun _ => fun
  | [d1, d2] => { results := [.lit (.bool true)], args := [d1, d2] }
  | _ => none }
def programLimitsRow : OpenClaim := { program := "ytjkgjiofmgapfaagreatdoor", sum := "6af08c1d066c51061dde03f8ca0bd41263dfe4dbc158dc1603c41bd150007321", func := "tripwire/tripwirelaw15.ProgramLimits", spec := "programLimits", inPlace := ["math/bits.Add64", "math/bits.Sub64"], unfollowed := true, recurses := true, named := ["math/bits.divideError", "math/bits.overflowError", "math/bits.deBruijn64tab"], apart := false, laid := [("math/bits.deBruijn64tab", laid_math_bits_deBruijn64tab)] }
def ProgramLimitsSaid : Prop := programLimitsRow.holds Tryz.pinned (OpenSpec.ofChange programLimitsSpec)

/-- ITS FALSE NEIGHBOUR: 'it returns false'. Refute it at one input. -/
def programLimitsWrong : ChangeSpec := { name := "programLimits", fn := fun _ => fun
  | [d1, d2] => { results := [.lit (.bool false)], args := [d1, d2] }
  | _ => none }
def ProgramLimitsWrongFalsely : Prop := programLimitsRow.holds Tryz.pinned (OpenSpec.ofChange programLimitsWrong)

/-- 'tripwirelaw15.ProgramSpans': WHATEVER THE INPUT: true; the input reads as it did. -/
def programSpansSpec : ChangeSpec := { name := "programSpans", fn := fun _ => fun
  | [d1, d2, d3] => { results := [.lit (.bool true)], args := [d1, d2, d3] }
  | _ => none }
def programSpansRow : OpenClaim := { program := "ytjkgjiofmgapfaagreatdoor", sum := "6af08c1d066c51061dde03f8ca0bd41263dfe4dbc158dc1603c41bd150007321", func := "tripwire/tripwirelaw15.ProgramSpans", spec := "programSpans", inPlace := ["math/bits.Add64", "math/bits.Sub64"], unfollowed := true, recurses := true, named := ["math/bits.divideError", "math/bits.overflowError", "math/bits.deBruijn64tab"], apart := false, laid := [("math/bits.deBruijn64tab", laid_math_bits_deBruijn64tab)] }
def ProgramSpansSaid : Prop := programSpansRow.holds Tryz.pinned (OpenSpec.ofChange programSpansSpec)

/-- ITS FALSE NEIGHBOUR: 'it returns false'. Refute it at one input. -/
def programSpansWrong : ChangeSpec := { name := "programSpans", fn := fun _ => fun
  | [d1, d2, d3] => { results := [.lit (.bool false)], args := [d1, d2, d3] }
  | _ => none }
def ProgramSpansWrongFalsely : Prop := programSpansRow.holds Tryz.pinned (OpenSpec.ofChange programSpansWrong)

/-- 'tripwirelaw15.ProgramForms': WHATEVER THE INPUT: true; the input reads as it did. -/
def programFormsSpec : ChangeSpec := { name := "programForms", fn := fun _ => fun
  | [d1, d2] => { results := [.lit (.bool true)], args := [d1, d2] }
  | _ => none }
def programFormsRow : OpenClaim := { program := "ytjkgjiofmgapfaagreatdoor", sum := "6af08c1d066c51061dde03f8ca0bd41263dfe4dbc158dc1603c41bd150007321", func := "tripwire/tripwirelaw15.ProgramForms", spec := "programForms", inPlace := ["math/bits.Add64", "math/bits.Sub64"], unfollowed := true, recurses := true, named := ["math/bits.divideError", "math/bits.overflowError", "math/bits.deBruijn64tab"], apart := false, laid := [("math/bits.deBruijn64tab", laid_math_bits_deBruijn64tab)] }
def ProgramFormsSaid : Prop := programFormsRow.holds Tryz.pinned (OpenSpec.ofChange programFormsSpec)

/-- ITS FALSE NEIGHBOUR: 'it returns false'. Refute it at one input. -/
def programFormsWrong : ChangeSpec := { name := "programForms", fn := fun _ => fun
  | [d1, d2] => { results := [.lit (.bool false)], args := [d1, d2] }
  | _ => none }
def ProgramFormsWrongFalsely : Prop := programFormsRow.holds Tryz.pinned (OpenSpec.ofChange programFormsWrong)

/-- 'tripwirelaw07.LuNumbers': WHATEVER THE INPUT: true; the input reads as it did. -/
def luNumbersSpec : ChangeSpec := { name := "luNumbers", fn := fun _ => fun
  | [] => { results := [.lit (.bool true)], args := [] }
  | _ => none }
def luNumbersRow : OpenClaim := { program := "ytjkgjiofmgapfaagreatdoor", sum := "6af08c1d066c51061dde03f8ca0bd41263dfe4dbc158dc1603c41bd150007321", func := "tripwire/tripwirelaw07.LuNumbers", spec := "luNumbers", inPlace := ["math/bits.Add64", "math/bits.Sub64"], unfollowed := true, recurses := true, named := ["math/bits.divideError", "math/bits.overflowError", "math/bits.deBruijn64tab"], apart := false, laid := [("math/bits.deBruijn64tab", laid_math_bits_deBruijn64tab)] }
def LuNumbersSaid : Prop := luNumbersRow.holds Tryz.pinned (OpenSpec.ofChange luNumbersSpec)

/-- ITS FALSE NEIGHBOUR: 'it returns false'. Refute it at one input. -/
def luNumbersWrong : ChangeSpec := { name := "luNumbers", fn := fun _ => fun
  | [] => { results := [.lit (.bool false)], args := [] }
  | _ => none }
def LuNumbersWrongFalsely : Prop := luNumbersRow.holds Tryz.pinned (OpenSpec.ofChange luNumbersWrong)

/-- 'tripwirelaw07.LuTells': WHATEVER THE INPUT: true; the input reads as it did. -/
def luTellsSpec : ChangeSpec := { name := "luTells", fn := fun _ => fun
  | [d1, d2, d3, d4] => { results := [.lit (.bool true)], args := [d1, d2, d3, d4] }
  | _ => none }
def luTellsRow : OpenClaim := { program := "ytjkgjiofmgapfaagreatdoor", sum := "6af08c1d066c51061dde03f8ca0bd41263dfe4dbc158dc1603c41bd150007321", func := "tripwire/tripwirelaw07.LuTells", spec := "luTells", inPlace := ["math/bits.Add64", "math/bits.Sub64"], unfollowed := true, recurses := true, named := ["math/bits.divideError", "math/bits.overflowError", "math/bits.deBruijn64tab"], apart := false, laid := [("math/bits.deBruijn64tab", laid_math_bits_deBruijn64tab)] }
def LuTellsSaid : Prop := luTellsRow.holds Tryz.pinned (OpenSpec.ofChange luTellsSpec)

/-- ITS FALSE NEIGHBOUR: 'it returns false'. Refute it at one input. -/
def luTellsWrong : ChangeSpec := { name := "luTells", fn := fun _ => fun
  | [d1, d2, d3, d4] => { results := [.lit (.bool false)], args := [d1, d2, d3, d4] }
  | _ => none }
def LuTellsWrongFalsely : Prop := luTellsRow.holds Tryz.pinned (OpenSpec.ofChange luTellsWrong)

/-- 'tripwirelaw07.LuNone': WHATEVER THE INPUT: true; the input reads as it did. -/
def luNoneSpec : ChangeSpec := { name := "luNone", fn := fun _ => fun
  | [d] => { results := [.lit (.bool true)], args := [d] }
  | _ => none }
def luNoneRow : OpenClaim := { program := "ytjkgjiofmgapfaagreatdoor", sum := "6af08c1d066c51061dde03f8ca0bd41263dfe4dbc158dc1603c41bd150007321", func := "tripwire/tripwirelaw07.LuNone", spec := "luNone", inPlace := ["math/bits.Add64", "math/bits.Sub64"], unfollowed := true, recurses := true, named := ["math/bits.divideError", "math/bits.overflowError", "math/bits.deBruijn64tab"], apart := false, laid := [("math/bits.deBruijn64tab", laid_math_bits_deBruijn64tab)] }
def LuNoneSaid : Prop := luNoneRow.holds Tryz.pinned (OpenSpec.ofChange luNoneSpec)

/-- ITS FALSE NEIGHBOUR: 'it returns false'. Refute it at one input. -/
def luNoneWrong : ChangeSpec := { name := "luNone", fn := fun _ => fun
  | [d] => { results := [.lit (.bool false)], args := [d] }
  | _ => none }
def LuNoneWrongFalsely : Prop := luNoneRow.holds Tryz.pinned (OpenSpec.ofChange luNoneWrong)

/-- 'tripwirelaw07.LuSpans': WHATEVER THE INPUT: true; the input reads as it did. -/
def luSpansSpec : ChangeSpec := { name := "luSpans", fn := fun _ => fun
  | [d1, d2, d3] => { results := [.lit (.bool true)], args := [d1, d2, d3] }
  | _ => none }
def luSpansRow : OpenClaim := { program := "ytjkgjiofmgapfaagreatdoor", sum := "6af08c1d066c51061dde03f8ca0bd41263dfe4dbc158dc1603c41bd150007321", func := "tripwire/tripwirelaw07.LuSpans", spec := "luSpans", inPlace := ["math/bits.Add64", "math/bits.Sub64"], unfollowed := true, recurses := true, named := ["math/bits.divideError", "math/bits.overflowError", "math/bits.deBruijn64tab"], apart := false, laid := [("math/bits.deBruijn64tab", laid_math_bits_deBruijn64tab)] }
def LuSpansSaid : Prop := luSpansRow.holds Tryz.pinned (OpenSpec.ofChange luSpansSpec)

/-- ITS FALSE NEIGHBOUR: 'it returns false'. Refute it at one input. -/
def luSpansWrong : ChangeSpec := { name := "luSpans", fn := fun _ => fun
  | [d1, d2, d3] => { results := [.lit (.bool false)], args := [d1, d2, d3] }
  | _ => none }
def LuSpansWrongFalsely : Prop := luSpansRow.holds Tryz.pinned (OpenSpec.ofChange luSpansWrong)

/-- 'tripwirelaw07.LuSolves': WHATEVER THE INPUT: true; the input reads as it did. -/
def luSolvesSpec : ChangeSpec := { name := "luSolves", fn := fun _ => fun
  | [d1, d2, d3, d4] => { results := [.lit (.bool true)], args := [d1, d2, d3, d4] }
  | _ => none }
def luSolvesRow : OpenClaim := { program := "ytjkgjiofmgapfaagreatdoor", sum := "6af08c1d066c51061dde03f8ca0bd41263dfe4dbc158dc1603c41bd150007321", func := "tripwire/tripwirelaw07.LuSolves", spec := "luSolves", inPlace := ["math/bits.Add64", "math/bits.Sub64"], unfollowed := true, recurses := true, named := ["math/bits.divideError", "math/bits.overflowError", "math/bits.deBruijn64tab"], apart := false, laid := [("math/bits.deBruijn64tab", laid_math_bits_deBruijn64tab)] }
def LuSolvesSaid : Prop := luSolvesRow.holds Tryz.pinned (OpenSpec.ofChange luSolvesSpec)

/-- ITS FALSE NEIGHBOUR: 'it returns false'. Refute it at one input. -/
def luSolvesWrong : ChangeSpec := { name := "luSolves", fn := fun _ => fun
  | [d1, d2, d3, d4] => { results := [.lit (.bool false)], args := [d1, d2, d3, d4] }
  | _ => none }
def LuSolvesWrongFalsely : Prop := luSolvesRow.holds Tryz.pinned (OpenSpec.ofChange luSolvesWrong)

/- THE SECOND FORM. 'bulk': how many values and letters a reading holds, each counted each time it is reached (what is shared counts as often as it is met; a slice's spare places count too). A statement '..UptoSaid' is the law's where the arguments, and the package variables that the reading takes, are together of bulk at most 1048576: NARROWER than '..Said'. Prove '..Said' where nothing that the law and all that it calls make is longer than what came in: it says more and counts as full. Else prove '..UptoSaid'. A law counts once. -/
mutual
def uptoBulk {H : Type} : DataW H → Nat
  | .lit (.string bytes) => bytes.length + 1
  | .lit _ => 1
  | .nil => 1
  | .ptr d => uptoBulk d + 1
  | .slice elems spare => uptoBulkAll elems + uptoBulkAll spare + 1
  | .agg parts => uptoBulkAll parts + 1
  | .iface _ d => uptoBulk d + 1
  | .map entries => uptoBulkEntries entries + 1
  | .held _ => 1
def uptoBulkAll {H : Type} : List (DataW H) → Nat
  | [] => 0
  | d :: r => uptoBulk d + uptoBulkAll r
def uptoBulkEntries {H : Type} : List (Lit × DataW H) → Nat
  | [] => 0
  | x :: r => uptoBulkEntry x + uptoBulkEntries r
def uptoBulkEntry {H : Type} : Lit × DataW H → Nat
  | (.string bytes, d) => bytes.length + uptoBulk d + 1
  | (_, d) => uptoBulk d + 1
 end
def uptoSmall : (H : Type) → List (DataW H) → Bool := fun _ ds => decide (uptoBulkAll ds ≤ 1048576)
def OpenSpec.upto (s : _root_.Go.ChangeSpec) : _root_.Go.OpenSpec := { _root_.Go.OpenSpec.ofChange s with cond := some uptoSmall }

/-- 'tripwirelaw15.ProgramLimits', WHERE WHAT IT READS IS OF BULK AT MOST 1048576: true; the input reads as it did. -/
def programLimitsUptoRow : OpenClaim := { program := "ytjkgjiofmgapfaagreatdoor", sum := "6af08c1d066c51061dde03f8ca0bd41263dfe4dbc158dc1603c41bd150007321", func := "tripwire/tripwirelaw15.ProgramLimits", spec := "programLimits", inPlace := ["math/bits.Add64", "math/bits.Sub64"], unfollowed := true, recurses := true, named := ["math/bits.divideError", "math/bits.overflowError", "math/bits.deBruijn64tab"], apart := false, laid := [("math/bits.deBruijn64tab", laid_math_bits_deBruijn64tab)], narrowed := true }
def ProgramLimitsUptoSaid : Prop := programLimitsUptoRow.holds Tryz.pinned (OpenSpec.upto programLimitsSpec)

/-- 'tripwirelaw15.ProgramSpans', WHERE WHAT IT READS IS OF BULK AT MOST 1048576: true; the input reads as it did. -/
def programSpansUptoRow : OpenClaim := { program := "ytjkgjiofmgapfaagreatdoor", sum := "6af08c1d066c51061dde03f8ca0bd41263dfe4dbc158dc1603c41bd150007321", func := "tripwire/tripwirelaw15.ProgramSpans", spec := "programSpans", inPlace := ["math/bits.Add64", "math/bits.Sub64"], unfollowed := true, recurses := true, named := ["math/bits.divideError", "math/bits.overflowError", "math/bits.deBruijn64tab"], apart := false, laid := [("math/bits.deBruijn64tab", laid_math_bits_deBruijn64tab)], narrowed := true }
def ProgramSpansUptoSaid : Prop := programSpansUptoRow.holds Tryz.pinned (OpenSpec.upto programSpansSpec)

/-- 'tripwirelaw15.ProgramForms', WHERE WHAT IT READS IS OF BULK AT MOST 1048576: true; the input reads as it did. -/
def programFormsUptoRow : OpenClaim := { program := "ytjkgjiofmgapfaagreatdoor", sum := "6af08c1d066c51061dde03f8ca0bd41263dfe4dbc158dc1603c41bd150007321", func := "tripwire/tripwirelaw15.ProgramForms", spec := "programForms", inPlace := ["math/bits.Add64", "math/bits.Sub64"], unfollowed := true, recurses := true, named := ["math/bits.divideError", "math/bits.overflowError", "math/bits.deBruijn64tab"], apart := false, laid := [("math/bits.deBruijn64tab", laid_math_bits_deBruijn64tab)], narrowed := true }
def ProgramFormsUptoSaid : Prop := programFormsUptoRow.holds Tryz.pinned (OpenSpec.upto programFormsSpec)

/-- 'tripwirelaw07.LuNumbers', WHERE WHAT IT READS IS OF BULK AT MOST 1048576: true; the input reads as it did. -/
def luNumbersUptoRow : OpenClaim := { program := "ytjkgjiofmgapfaagreatdoor", sum := "6af08c1d066c51061dde03f8ca0bd41263dfe4dbc158dc1603c41bd150007321", func := "tripwire/tripwirelaw07.LuNumbers", spec := "luNumbers", inPlace := ["math/bits.Add64", "math/bits.Sub64"], unfollowed := true, recurses := true, named := ["math/bits.divideError", "math/bits.overflowError", "math/bits.deBruijn64tab"], apart := false, laid := [("math/bits.deBruijn64tab", laid_math_bits_deBruijn64tab)], narrowed := true }
def LuNumbersUptoSaid : Prop := luNumbersUptoRow.holds Tryz.pinned (OpenSpec.upto luNumbersSpec)

/-- 'tripwirelaw07.LuTells', WHERE WHAT IT READS IS OF BULK AT MOST 1048576: true; the input reads as it did. -/
def luTellsUptoRow : OpenClaim := { program := "ytjkgjiofmgapfaagreatdoor", sum := "6af08c1d066c51061dde03f8ca0bd41263dfe4dbc158dc1603c41bd150007321", func := "tripwire/tripwirelaw07.LuTells", spec := "luTells", inPlace := ["math/bits.Add64", "math/bits.Sub64"], unfollowed := true, recurses := true, named := ["math/bits.divideError", "math/bits.overflowError", "math/bits.deBruijn64tab"], apart := false, laid := [("math/bits.deBruijn64tab", laid_math_bits_deBruijn64tab)], narrowed := true }
def LuTellsUptoSaid : Prop := luTellsUptoRow.holds Tryz.pinned (OpenSpec.upto luTellsSpec)

/-- 'tripwirelaw07.LuNone', WHERE WHAT IT READS IS OF BULK AT MOST 1048576: true; the input reads as it did. -/
def luNoneUptoRow : OpenClaim := { program := "ytjkgjiofmgapfaagreatdoor", sum := "6af08c1d066c51061dde03f8ca0bd41263dfe4dbc158dc1603c41bd150007321", func := "tripwire/tripwirelaw07.LuNone", spec := "luNone", inPlace := ["math/bits.Add64", "math/bits.Sub64"], unfollowed := true, recurses := true, named := ["math/bits.divideError", "math/bits.overflowError", "math/bits.deBruijn64tab"], apart := false, laid := [("math/bits.deBruijn64tab", laid_math_bits_deBruijn64tab)], narrowed := true }
def LuNoneUptoSaid : Prop := luNoneUptoRow.holds Tryz.pinned (OpenSpec.upto luNoneSpec)

/-- 'tripwirelaw07.LuSpans', WHERE WHAT IT READS IS OF BULK AT MOST 1048576: true; the input reads as it did. -/
def luSpansUptoRow : OpenClaim := { program := "ytjkgjiofmgapfaagreatdoor", sum := "6af08c1d066c51061dde03f8ca0bd41263dfe4dbc158dc1603c41bd150007321", func := "tripwire/tripwirelaw07.LuSpans", spec := "luSpans", inPlace := ["math/bits.Add64", "math/bits.Sub64"], unfollowed := true, recurses := true, named := ["math/bits.divideError", "math/bits.overflowError", "math/bits.deBruijn64tab"], apart := false, laid := [("math/bits.deBruijn64tab", laid_math_bits_deBruijn64tab)], narrowed := true }
def LuSpansUptoSaid : Prop := luSpansUptoRow.holds Tryz.pinned (OpenSpec.upto luSpansSpec)

/-- 'tripwirelaw07.LuSolves', WHERE WHAT IT READS IS OF BULK AT MOST 1048576: true; the input reads as it did. -/
def luSolvesUptoRow : OpenClaim := { program := "ytjkgjiofmgapfaagreatdoor", sum := "6af08c1d066c51061dde03f8ca0bd41263dfe4dbc158dc1603c41bd150007321", func := "tripwire/tripwirelaw07.LuSolves", spec := "luSolves", inPlace := ["math/bits.Add64", "math/bits.Sub64"], unfollowed := true, recurses := true, named := ["math/bits.divideError", "math/bits.overflowError", "math/bits.deBruijn64tab"], apart := false, laid := [("math/bits.deBruijn64tab", laid_math_bits_deBruijn64tab)], narrowed := true }
def LuSolvesUptoSaid : Prop := luSolvesUptoRow.holds Tryz.pinned (OpenSpec.upto luSolvesSpec)

end Rows
end Go.Proofs.YtjkgjiofmgapfaaGreatDoor
