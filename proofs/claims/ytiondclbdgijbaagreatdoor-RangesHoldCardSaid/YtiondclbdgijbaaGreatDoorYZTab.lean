import Derived.Test.YtiondclbdgijbaaGreatDoorYIn
import Derived.Test.YtiondclbdgijbaaGreatDoorYZGcd
import Derived.Test.YtiondclbdgijbaaGreatDoorYZRb
import Derived.Test.YtiondclbdgijbaaGreatDoorTie
import Derived.Test.YtiondclbdgijbaaGreatDoorCards
set_option maxRecDepth 100000
namespace Go.Proofs.YtiondclbdgijbaaGreatDoor
open Go.ChangeShapes Go.WideShapes Go.ChangeAt Go.RowKit Tw
variable {A:Option Addr} {l:Nat} {xs:List Nat}
theorem gTab : Tryz.prog.globalNamed "math/bits.deBruijn64tab" = some 2 := by kernel_rfl
theorem gTabType:(Tryz.prog.globals[2]?).map (·.type)=some 159:=by kernel_rfl
theorem cells64:Tryz.prog.cellsOf 159=64:=by kernel_rfl
theorem cells8:Tryz.prog.cellsOf 5=1:=by kernel_rfl
theorem laid_is:(Rows.laid_math_bits_deBruijn64tab:DataW Unit)=Lib.tabData .u8 (Lib.deBruijn64tab.map fun(n:Nat)=>(n:Int)):=by kernel_rfl
theorem tab_of {W: World} (h : laidMetH Tryz.prog [("math/bits.deBruijn64tab", Rows.laid_math_bits_deBruijn64tab)] W) : Tab W := by
 have h1 : laidMet Tryz.prog [("math/bits.deBruijn64tab", Rows.laid_math_bits_deBruijn64tab)] W := h;rw[laid_is] at h1;have h2 : Lib.TabIs Tryz.prog W "math/bits.deBruijn64tab" .u8 (Lib.deBruijn64tab.map fun (n : Nat) => (n : Int)) := Lib.tabIs_of_head (rest := []) gTab gTabType Tryz.underlying159 Tryz.underlying5 cells8 cells64 h1;intro j hj;have:=h2.cell gTab j (by simpa using hj);rw[this];simp[List.getD,hj]
noncomputable def laidWorld (os : Os) : World :=
  { World.holding Tryz.prog os ⟨#[], #[], []⟩ with heap := (World.holding Tryz.prog os ⟨#[], #[], []⟩).heap.modify 2 fun
      | .cells _ t frozen => .cells (Lib.deBruijn64tab.map fun (n : Nat) => Value.int .u8 (n : Int)).toArray t frozen
      | o => o }
def Nx (w:World) (A:Option Addr) (c l:Nat) (xs:List Nat):Prop:=Nums w A c xs∧xs.length=l
theorem Nx.v {w:World} {c:Nat} (h:Nx w A c l xs):V w A c l (val xs):=⟨xs,h.1,h.2,rfl⟩
theorem Nx.v0 {w:World} {c:Nat} (h:Nx w A c l xs) (h0:val xs=0):V w A c l 0:=by rw[←h0];exact h.v
theorem Nx.below {w w':World} {c:Nat} (h:Nx w A c l xs) (hb:Below w.heap.size w w':=by go_grown):Nx w' A c l xs:=⟨h.1.below hb,h.2⟩
end Go.Proofs.YtiondclbdgijbaaGreatDoor
