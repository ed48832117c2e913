import Derived.Test.YteggjbgbknkoiaaGreatDoorUZTab
import Derived.Test.YteggjbgbknkoiaaGreatDoorUWG
import Derived.Deep.Slices
namespace Go.Proofs.YteggjbgbknkoiaaGreatDoor
open Go.ChangeShapes Go.WideShapes Go.ChangeAt Go.RowKit Tw
def InR (w:World) (s:Bool) (A:Option Addr) (l c:Nat) (s':Bool) (A':Option Addr) (l' c':Nat):Prop:=InI w s A l c∧InI w s' A' l' c'
theorem InR.r {w:World} {s s':Bool} {A A':Option Addr} {l c l' c' m:Nat} (h:InR w s A l c s' A' l' c') (hl:l≤m) (hl':l'≤m):∃q,R w s A c l s' A' c' l' q m:=by
 obtain⟨⟨⟨n,h1⟩,_⟩,⟨d,h2⟩,_⟩:=h;exact⟨_,n,d,h1,h2,rfl,hl,hl'⟩
end Go.Proofs.YteggjbgbknkoiaaGreatDoor
