/-
  Terms and numbers that came in, small ones. By hand.
-/
import Derived.Test.YtldcfmangolkoaaGreatDoorYVm
import Derived.Test.YtldcfmangolkoaaGreatDoorYRow
import Derived.Test.YtldcfmangolkoaaGreatDoorYRdV
namespace Go.Proofs.YtldcfmangolkoaaGreatDoor
open Go.RowKit Tw
theorem fr_lens {w:World} {x:Fr} (h:FrIn w x):x.l≤9223372036854775807∧x.l'≤9223372036854775807:=⟨h.1,h.2.1⟩
end Go.Proofs.YtldcfmangolkoaaGreatDoor
