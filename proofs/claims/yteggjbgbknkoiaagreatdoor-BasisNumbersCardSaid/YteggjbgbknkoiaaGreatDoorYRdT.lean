import Derived.Test.YteggjbgbknkoiaaGreatDoorYVm
import Derived.Test.YteggjbgbknkoiaaGreatDoorYRdV
namespace Go.Proofs.YteggjbgbknkoiaaGreatDoor
open Go.RowKit Tw
theorem tm_lens {w:World} {t:Tm} (h:TmIn w t):t.x.l≤9223372036854775807∧t.x.l'≤9223372036854775807:=⟨h.1.1,h.1.2.1⟩
end Go.Proofs.YteggjbgbknkoiaaGreatDoor
