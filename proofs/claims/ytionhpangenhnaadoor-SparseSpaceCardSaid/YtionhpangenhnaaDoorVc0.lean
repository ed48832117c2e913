/-
  Vectors in memory, as slices of terms; a state of a loop that asks each one.
-/
import Derived.Test.YtionhpangenhnaaDoorLst
namespace Go.Proofs.YtionhpangenhnaaDoor
open Go.RowKit Tw

/-- A state of the loop of all. -/
def AL1 {α : Type} (w : World) (L : List α) (p : α → Bool) (n gk : Nat) (s : Value) (wr : World) : Prop := ∃ i : Nat, i ≤ n ∧ n - i = gk ∧ s = .int .i64 (i : Int) ∧ Below w.heap.size w wr ∧ (L.take i).all p = true
/-- A vector in memory. -/
structure Vc where
  A : Option Addr
  n : Nat
  c : Nat
  L : List Tm
def Vc.cs (v : Vc) : List Value := [.slice v.A v.n v.c]
theorem Vc.cs_len (v : Vc) : v.cs.length = 1 := rfl
end Go.Proofs.YtionhpangenhnaaDoor
