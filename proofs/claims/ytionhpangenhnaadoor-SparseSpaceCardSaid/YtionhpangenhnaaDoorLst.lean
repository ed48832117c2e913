/-
  Lists looked at from the front; a whole number's cell.
-/
import Derived.Test.YtionhpangenhnaaDoorRow
namespace Go.Proofs.YtionhpangenhnaaDoor
open Go.RowKit Tw

theorem take_all {α : Type} {L : List α} {p : α → Bool} {i : Nat} {x : α} (h : (L.take i).all p = true) (hx : L[i]? = some x) (hp : p x = true) : (L.take (i + 1)).all p = true := by
  rw [List.take_add_one, List.all_append, h, hx]; simp [hp]
theorem all_no {α : Type} {L : List α} {p : α → Bool} {i : Nat} {x : α} (hx : L[i]? = some x) (hp : p x = false) : L.all p = false := by
  rw [List.all_eq_false]; exact ⟨x, List.mem_of_getElem? hx, by rw [hp]; simp⟩
theorem all_yes {α : Type} {L : List α} {p : α → Bool} {n : Nat} (hl : L.length = n) (h : (L.take n).all p = true) : L.all p = true := by rwa [List.take_of_length_le (by omega)] at h
/-- A whole number's cell. -/
def ics (z : Int) : List Value := [.int .i64 z]
theorem ics_len (z : Int) : (ics z).length = 1 := rfl
theorem take_snoc {α : Type} {L : List α} {i : Nat} {x : α} (h : L[i]? = some x) : L.take (i + 1) = L.take i ++ [x] := by rw [List.take_add_one, h]; rfl
end Go.Proofs.YtionhpangenhnaaDoor
