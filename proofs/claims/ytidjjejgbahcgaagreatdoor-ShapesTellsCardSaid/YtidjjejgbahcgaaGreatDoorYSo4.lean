/-
  sparse.Norm: the one form of a vector. Written by wip/gen/so4.py.
-/
import Derived.Test.YtidjjejgbahcgaaGreatDoorYSo1
import Derived.Test.YtidjjejgbahcgaaGreatDoorYVm
namespace Go.Proofs.YtidjjejgbahcgaaGreatDoor
open Go.RowKit Tw
theorem wsum_take_le (T:List Tm) (i:Nat) (a:Int):wsum (T.take i) a≤wsum T a:=by
 have h:=wsum_append (T.take i) (T.drop i) a;rw[List.take_append_drop] at h;omega
def TellsVO (w:World) (P:List (Int×Rat)) (M:Nat) (e:Ending) (w':World):Prop :=
 ∃A n c L,e=.returned (.slice A n c)∧OwnR w' w.heap.size 79 5 (.slice A n c) n (flat Tm.cs L)∧OnT w' L (fun _=>M)∧prs L=P∧Below w.heap.size w w'
theorem TellsVO.v {w w':World} {P:List (Int×Rat)} {M:Nat} {e:Ending} (h:TellsVO w P M e w'):TellsV w P M e w':=by
 obtain⟨A,n,c,L,rfl,h1,h2,h3,h4⟩:=h;refine⟨A,n,c,rfl,⟨L,h1.sl' elt_vec (h1.eltn elt_vec zo),h2,h3,fun hn=>?_⟩,h4⟩;obtain⟨_,_,e9,h9,_⟩:=h1.slice;cases e9;exact(h9 hn).2
end Go.Proofs.YtidjjejgbahcgaaGreatDoor
