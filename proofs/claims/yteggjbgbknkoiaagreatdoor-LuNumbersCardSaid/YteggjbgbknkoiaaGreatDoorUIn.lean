import Derived.Test.YteggjbgbknkoiaaGreatDoorUZWa
import Derived.ProofKit
import Derived.OpenShut
import Derived.ShutString
import Derived.ChangeOld
import Derived.Deep.DeepHandedRow
import Derived.Lib.LaidTab
import Derived.Lib.SmallJoins
namespace Go.Proofs.YteggjbgbknkoiaaGreatDoor
open Go.ChangeShapes Go.WideShapes Go.ChangeAt Go.RowKit Tw
theorem own:ownKnob Tryz.prog.godebug=none:=by kernel_rfl
def Yes (w:World) (e:Ending) (w':World):Prop:=e=.returned (.bool true)∧Below w.heap.size w w'
def InI (w:World) (b:Bool) (A:Option Addr) (l c:Nat):Prop:=(∃z,I w b A c l z)∧l≤9223372036854775807
end Go.Proofs.YteggjbgbknkoiaaGreatDoor
