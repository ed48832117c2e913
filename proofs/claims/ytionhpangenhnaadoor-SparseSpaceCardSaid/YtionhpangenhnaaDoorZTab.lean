/-
  The table that the row lists, and a world for the witness.
  What the law LimbsTells asks besides: copies, and the same digits. Written by wip/gen/tells1.py.
-/
import Derived.Test.YtionhpangenhnaaDoorIn
import Derived.Test.YtionhpangenhnaaDoorZGcd
import Derived.Test.YtionhpangenhnaaDoorTie
import Derived.Test.YtionhpangenhnaaDoorCards
import Derived.Test.YtionhpangenhnaaDoorZRb
namespace Go.Proofs.YtionhpangenhnaaDoor
open Go.ChangeShapes Go.WideShapes Go.ChangeAt Go.RowKit Tw

theorem gTab : Tryd.prog.globalNamed "math/bits.deBruijn64tab" = some 2 := by kernel_rfl
theorem gTabType : (Tryd.prog.globals[2]?).map (·.type) = some 161 := by kernel_rfl
theorem cells64 : Tryd.prog.cellsOf 161 = 64 := by kernel_rfl
theorem cells8 : Tryd.prog.cellsOf 5 = 1 := by kernel_rfl
theorem laid_is : (Rows.laid_math_bits_deBruijn64tab : DataW Unit) = Lib.tabData .u8 (Lib.deBruijn64tab.map fun (n : Nat) => (n : Int)) := by kernel_rfl
set_option maxRecDepth 100000 in
theorem tab_of {W : World} (h : laidMetH Tryd.prog [("math/bits.deBruijn64tab", Rows.laid_math_bits_deBruijn64tab)] W) : Tab W := by
  have h1 : laidMet Tryd.prog [("math/bits.deBruijn64tab", Rows.laid_math_bits_deBruijn64tab)] W := h
  rw [laid_is] at h1
  have h2 : Lib.TabIs Tryd.prog W "math/bits.deBruijn64tab" .u8 (Lib.deBruijn64tab.map fun (n : Nat) => (n : Int)) := Lib.tabIs_of_head (rest := []) gTab gTabType Tryd.underlying161 Tryd.underlying5 cells8 cells64 h1
  intro j hj
  have := h2.cell gTab j (by simpa using hj)
  rw [this]
  simp [List.getD, hj]

/-- A world for the witness: the settled one, the table holding what its initialiser lays. -/
noncomputable def laidWorld (os : Os) : World :=
  { World.holding Tryd.prog os ⟨#[], #[], []⟩ with heap := (World.holding Tryd.prog os ⟨#[], #[], []⟩).heap.modify 2 fun
      | .cells _ t frozen => .cells (Lib.deBruijn64tab.map fun (n : Nat) => Value.int .u8 (n : Int)).toArray t frozen
      | o => o }
end Go.Proofs.YtionhpangenhnaaDoor

namespace Go.Proofs.YtionhpangenhnaaDoor
open Go.RowKit Tw

/-- The slice of l digits reads as xs. -/
def Nx (w : World) (A : Option Addr) (c l : Nat) (xs : List Nat) : Prop := Nums w A c xs ∧ xs.length = l
theorem Nx.v {w : World} {A : Option Addr} {c l : Nat} {xs : List Nat} (h : Nx w A c l xs) : V w A c l (val xs) := ⟨xs, h.1, h.2, rfl⟩
theorem Nx.v0 {w : World} {A : Option Addr} {c l : Nat} {xs : List Nat} (h : Nx w A c l xs) (h0 : val xs = 0) : V w A c l 0 := by rw [← h0]; exact h.v
theorem Nx.below {w w' : World} {A : Option Addr} {c l : Nat} {xs : List Nat} (h : Nx w A c l xs) (hb : Below w.heap.size w w') : Nx w' A c l xs := ⟨h.1.below hb, h.2⟩
theorem same_n {w : World} {A A' : Option Addr} {c c' l l' : Nat} {xs : List Nat} (h : Nx w A c l xs) (h' : Nx w A' c' l' xs) (hl : l ≤ 800000) :
    Calls Tryd.prog 105 #[.slice A l c, .slice A' l' c'] w fun e w' => e = .returned (.bool true) ∧ Below w.heap.size w w' := by
  obtain ⟨h1, h2⟩ := h
  obtain ⟨h1', h2'⟩ := h'
  obtain rfl : l = l' := h2.symm.trans h2'
  exact (same_any A A' c c' l xs w h1 h1' (Lib.hid h2) (by omega)).mono fun e w' ⟨he, n, hw⟩ => ⟨he, by rw [hw]; exact below_drewN (Below.refl _ _) n⟩
theorem nums_news {w : World} {b off c : Nat} {xs : List Nat} (h : Nums w (some ⟨b, off, none⟩) c xs) : ∀ j u, (xs.map fun (d : Nat) => Value.int .u64 (d : Int))[j]? = some u → w.cell? ((⟨b, off, none⟩ : Addr).add j) = some u := fun j u hu => by
  have hj : j < xs.length := by
    rcases Nat.lt_or_ge j xs.length with h1 | h1
    · exact h1
    · rw [List.getElem?_eq_none (by simpa using h1)] at hu; cases hu
  obtain ⟨b', off', e, hc⟩ := h.cells (by omega)
  cases e
  rw [List.getElem?_map, dg_get hj] at hu
  have e2 : (⟨b, off, none⟩ : Addr).add j = ⟨b, off + j, none⟩ := by
    unfold Addr.add
    split <;> simp_all
  rw [e2, hc j hj]
  exact hu
theorem words_one (xs : List Nat) : ∀ u ∈ (xs.map fun (d : Nat) => Value.int .u64 (d : Int)), u.oneCell' = true := fun u h => by
  obtain ⟨d, _, rfl⟩ := List.mem_map.1 h
  rfl
/-- What CopyWords tells: the same digits. -/
def TellsX (w : World) (l : Nat) (xs : List Nat) (e : Ending) (w' : World) : Prop := ∃ A c, e = .returned (.slice A l c) ∧ Nx w' A c l xs ∧ Below w.heap.size w w'
/-- A slice of digits that came in, digit by digit. -/
def InX (w : World) (A : Option Addr) (l c : Nat) : Prop := (∃ xs, Nx w A c l xs) ∧ l ≤ 9223372036854775807 ∧ (A = none → c = 0)
set_option maxRecDepth 100000 in
open Go.ChangeShapes Go.WideShapes Go.ChangeAt in
theorem inx_of {H : Type} {enc : TypeId × Value → H} {W : World} {b : Nat} {sp : Nat → Bool} {hd : Bool} {A : Option Addr} {l c : Nat} {d : DataW H} {p : List MemPlace}
    (h : DataW.Trod enc Tryd.prog W b sp hd 23 (.slice A l c) d p) : InX W A l c := by
  obtain ⟨⟨n, xs, h1, h2, _⟩, h3⟩ := in_of h
  refine ⟨⟨xs, h1, h2⟩, h3, ?_⟩
  rintro rfl
  obtain ⟨fuel, hf⟩ := h
  cases fuel with
  | zero => simp [DataW.trod] at hf
  | succ fuel =>
    simp only [Value.cells, DataW.trod, Tryd.underlying23] at hf
    cases c with
    | zero => rfl
    | succ c => cases l <;> simp at hf
end Go.Proofs.YtionhpangenhnaaDoor
