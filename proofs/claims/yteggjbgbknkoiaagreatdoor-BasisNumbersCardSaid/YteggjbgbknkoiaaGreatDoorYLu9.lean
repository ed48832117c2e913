import Derived.Test.YteggjbgbknkoiaaGreatDoorYLu8
namespace Go.Proofs.YteggjbgbknkoiaaGreatDoor
open Go.RowKit Tw
theorem AllRn.tight {w:World} {K K':Nat} {L:List Fr} (h:AllRn w K L) (hs:∀(i:Nat) (x:Fr),L[i]?=some x→sz x.q+1≤K'):AllRn w K' L:=fun x hx=>by
 obtain⟨i,hi⟩:=rD hx;exact⟨(h x hx).1,(h x hx).2.1,hs i x hi⟩
section
variable {α:Type} {f:α→List Value} {k:Nat} {t te:TypeId}
end
def LuNo (w:World) (p:Option Addr):Prop:=p=none∨∃fb,p=some ⟨fb,0,none⟩∧Bx w fb #[.bool false,.int .i64 0,.slice none 0 0] 68
theorem LuNo.below {w w':World} {p:Option Addr} (h:LuNo w p) (hb:Below w.heap.size w w':=by go_grown):LuNo w' p:=by
 rcases h with h | ⟨fb,h,h2⟩
 ·exact .inl h
 ·exact .inr ⟨fb,h,h2.below hb⟩
end Go.Proofs.YteggjbgbknkoiaaGreatDoor
