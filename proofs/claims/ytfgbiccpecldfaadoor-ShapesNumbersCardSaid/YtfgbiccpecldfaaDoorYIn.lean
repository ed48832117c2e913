/-
  From a row's own readings to the walks: a slice of digits, a whole number that came in.
-/
import Derived.Test.YtfgbiccpecldfaaDoorYZWa
import Derived.ProofKit
import Derived.OpenShut
import Derived.ShutString
import Derived.ChangeOld
import Derived.Deep.DeepHandedRow
import Derived.Lib.LaidTab
import Derived.Lib.SmallJoins
namespace Go.Proofs.YtfgbiccpecldfaaDoor
open Go.ChangeShapes Go.WideShapes Go.ChangeAt Go.RowKit Tw
theorem own:ownKnob Tryd.prog.godebug=none:=by kernel_rfl
def InI (w:World) (b:Bool) (A:Option Addr) (l c:Nat):Prop:=(∃z,I w b A c l z)∧l≤9223372036854775807
end Go.Proofs.YtfgbiccpecldfaaDoor
