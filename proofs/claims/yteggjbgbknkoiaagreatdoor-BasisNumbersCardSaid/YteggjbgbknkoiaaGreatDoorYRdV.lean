import Derived.Test.YteggjbgbknkoiaaGreatDoorYRead
import Derived.Test.YteggjbgbknkoiaaGreatDoorYRow
namespace Go.Proofs.YteggjbgbknkoiaaGreatDoor
open Go.ChangeShapes Go.WideShapes Go.ChangeAt Go.RowKit Tw
def FrIn (W:World) (x:Fr):Prop:=x.l≤9223372036854775807∧x.l'≤9223372036854775807∧∀m,x.l≤m→x.l'≤m→FrOk W m x
def TmIn (W:World) (t:Tm):Prop:=FrIn W t.x∧-9223372036854775808≤t.at_∧t.at_≤9223372036854775807
def VgIn (W:World) (v:Vc):Prop:=v.n≤maxLen∧Sl Tm.cs 5 W v.A v.n v.c v.L∧(∀t∈v.L,TmIn W t)∧(v.A=none→v.c=0)
end Go.Proofs.YteggjbgbknkoiaaGreatDoor
