/-
  From a row's own readings to the walks: slices of anything that came in; fractions, terms, whole numbers.
-/
import Derived.Test.YtldcfmangolkoaaDoorYRead
import Derived.Test.YtldcfmangolkoaaDoorYRow
namespace Go.Proofs.YtldcfmangolkoaaDoor
open Go.ChangeShapes Go.WideShapes Go.ChangeAt Go.RowKit Tw

def I64 (z : Int) : Prop := -9223372036854775808 ≤ z ∧ z ≤ 9223372036854775807
end Go.Proofs.YtldcfmangolkoaaDoor
