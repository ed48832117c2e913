/-
  The fraction 0; small numbers have one digit.
-/
import Derived.Test.YtionhpangenhnaaDoorRow
namespace Go.Proofs.YtionhpangenhnaaDoor
open Go.RowKit Tw

theorem sz_one {n d : Int} (hn : n.natAbs < 18446744073709551616) (hd : 0 < d) (hd' : d.natAbs < 18446744073709551616) : sz (qof n d) ≤ 1 := by
  have := sz_qof (n := n) (d := d) (a := 1) (b := 1) hd (nl_le_of_lt (by rw [Nat.pow_one]; exact hn)) (nl_le_of_lt (by rw [Nat.pow_one]; exact hd'))
  omega
/-- The fraction 0, as Go makes it. -/
def zFr : Fr := ⟨false, none, 0, 0, false, none, 0, 0, 0, true⟩
theorem RN.zero (w : World) : RN w false none 0 0 false none 0 0 0 := ⟨J.zero w, J.zero w⟩
theorem sz_zero : sz 0 ≤ 1 := by
  show max (nl 0) (nl 1) ≤ 1
  rw [nl_zero, nl_one]; decide
theorem zFr_ok (w : World) {m : Nat} (hm : 1 ≤ m) : FrOk w m zFr := (RN.zero w).fr (Nat.le_trans sz_zero hm)
end Go.Proofs.YtionhpangenhnaaDoor
