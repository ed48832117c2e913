/-
  lu's Btran. Written by wip/gen/lu9.py.
-/
import Derived.Test.YtfpbmpllildbaaaGreatDoorYLu8
namespace Go.Proofs.YtfpbmpllildbaaaGreatDoor
open Go.RowKit Tw
theorem AllRn.tight {w:World} {K K':Nat} {L:List Fr} (h:AllRn w K L) (hs:∀(i:Nat) (x:Fr),L[i]?=some x→sz x.q+1≤K'):AllRn w K' L:=fun x hx=>by
 obtain⟨i,hi⟩:=List.getElem?_of_mem hx;exact⟨(h x hx).1,(h x hx).2.1,hs i x hi⟩
end Go.Proofs.YtfpbmpllildbaaaGreatDoor
