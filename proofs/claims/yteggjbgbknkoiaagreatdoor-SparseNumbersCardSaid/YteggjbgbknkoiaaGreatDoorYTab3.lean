import Derived.Test.YteggjbgbknkoiaaGreatDoorYZTab
import Derived.Stop.LaidErr
namespace Go.Proofs.YteggjbgbknkoiaaGreatDoor
open Go.ChangeShapes Go.WideShapes Go.ChangeAt Go.RowKit Tw
theorem tab_of3 {W : World} {x y : String × DataW Unit} (h : laidMet Tryz.prog [x, ("math/bits.deBruijn64tab", Rows.laid_math_bits_deBruijn64tab), y] W) : Tab W := by
 have h1:=h.tail;rw[laid_is] at h1;have h2 : Lib.TabIs Tryz.prog W "math/bits.deBruijn64tab" .u8 (Lib.deBruijn64tab.map fun (n : Nat) => (n : Int)) := Lib.tabIs_of_head (rest := [y]) gTab gTabType Tryz.underlying195 Tryz.underlying5 cells8 cells64 h1;intro j hj;have:=h2.cell gTab j (by simpa using hj);rw[this];simp[List.getD,hj]
noncomputable def laidWorld3 (os : Os) : World :=
  { laidWorld os with heap := ((laidWorld os).heap.modify 4 fun
      | .cells _ t frozen => .cells (([0, 1, 28, 2, 29, 14, 24, 3, 30, 22, 20, 15, 25, 17, 4, 8, 31, 27, 13, 23, 21, 19, 16, 7, 26, 12, 18, 6, 11, 5, 10, 9] : List Nat).map fun (n : Nat) => Value.int .u8 (n : Int)).toArray t frozen
      | o => o).modify 2 fun
      | .cells _ t frozen => .cells ((List.range 20).map fun (n : Nat) => Value.int .u64 ((10 ^ n : Nat) : Int)).toArray t frozen
      | o => o }
end Go.Proofs.YteggjbgbknkoiaaGreatDoor
