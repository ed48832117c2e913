import Derived.Test.YtfpbmpllildbaaaGreatDoorYLu9
namespace Go.Proofs.YtfpbmpllildbaaaGreatDoor
open Go.RowKit Tw
section
variable {α:Type} {f:α→List Value} {k:Nat} {t te:TypeId}
end
def LuNo (w:World) (p:Option Addr):Prop:=p=none∨∃fb,p=some ⟨fb,0,none⟩∧Bx w fb #[.bool false,.int .i64 0,.slice none 0 0] 94
theorem LuNo.below {w w':World} {p:Option Addr} (h:LuNo w p) (hb:Below w.heap.size w w':=by go_grown):LuNo w' p:=by
 rcases h with h | ⟨fb,h,h2⟩
 ·exact .inl h
 ·exact .inr ⟨fb,h,h2.below hb⟩
end Go.Proofs.YtfpbmpllildbaaaGreatDoor
