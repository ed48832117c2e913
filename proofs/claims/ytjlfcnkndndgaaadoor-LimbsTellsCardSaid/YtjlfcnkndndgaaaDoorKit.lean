/-
  From the row's own readings to the walks: a slice of digits that came in; the table that the row lists.
-/
import Derived.Test.YtjlfcnkndndgaaaDoorAwake
import Derived.Test.YtjlfcnkndndgaaaDoorTie
import Derived.Test.YtjlfcnkndndgaaaDoorCards
import Derived.ProofKit
import Derived.OpenShut
import Derived.ShutString
import Derived.ChangeOld
import Derived.Deep.DeepHandedRow
import Derived.Lib.LaidTab
namespace Go.Proofs.YtjlfcnkndndgaaaDoor
open Go.ChangeShapes Go.WideShapes Go.ChangeAt Go.RowKit Tw

theorem own : ownKnob Tryd.prog.godebug = none := by kernel_rfl
theorem laidOut : laidOutB Tryd.prog = true := by kernel_rfl

/-- A law that answers true and leaves what was there. -/
def Yes (w : World) (e : Ending) (w' : World) : Prop := e = .returned (.bool true) ∧ Below w.heap.size w w'

/-- A slice of digits that came in. -/
def In (w : World) (A : Option Addr) (l c : Nat) : Prop := (∃ n, V w A c l n) ∧ l ≤ 9223372036854775807

theorem nat_of {z : Int} (h : (Lit.int .u64 z).wf = true) : 0 ≤ z ∧ z < 18446744073709551616 := by
  have := bounds_u64 h
  omega

theorem in_of {H : Type} {enc : TypeId × Value → H} {W : World} {b : Nat} {sp : Nat → Bool} {hd : Bool} {A : Option Addr} {l c : Nat} {d : DataW H} {p : List MemPlace}
    (h : DataW.Trod enc Tryd.prog W b sp hd 22 (.slice A l c) d p) : In W A l c := by
  obtain ⟨fuel, hf⟩ := h
  rcases open_ints Tryd.underlying22 Tryd.underlying29 (by kernel_rfl) hf with ⟨hcs, _⟩ | ⟨x, l', c', zs, hcs, _, hl, hm, hz, _, hcell, hwz⟩
  · simp [Value.cells] at hcs
    obtain ⟨rfl, rfl, rfl⟩ := hcs
    exact ⟨⟨0, [], Nums.nil _ _ _, rfl, rfl⟩, by omega⟩
  · simp [Value.cells] at hcs
    obtain ⟨rfl, rfl, rfl⟩ := hcs
    have hzl : l ≤ zs.length := by rw [hz]; split <;> omega
    have hlen : ((zs.take l).map Int.toNat).length = l := by rw [List.length_map, List.length_take]; omega
    refine ⟨⟨_, (zs.take l).map Int.toNat, ⟨?_, by rw [hlen]; exact hl, fun hp => ?_⟩, hlen, rfl⟩, by unfold maxLen at hm; omega⟩
    · intro y hy
      obtain ⟨z, hz1, rfl⟩ := List.mem_map.1 hy
      have := nat_of (hwz z (List.mem_of_mem_take hz1))
      rw [B_eq]; omega
    · rw [hlen] at hp
      obtain ⟨b, off, rfl, hc⟩ := ints_at hcell (by omega)
      refine ⟨b, off, rfl, fun k hk => ?_⟩
      rw [hlen] at hk
      rw [hc k (by omega)]
      have h1 : zs.getD k 0 = zs[k]'(by omega) := by rw [List.getD_eq_getElem?_getD, List.getElem?_eq_getElem (by omega)]; rfl
      have h2 := nat_of (hwz _ (List.getElem_mem (l := zs) (n := k) (by omega)))
      have h3 : dg ((zs.take l).map Int.toNat) k = (zs[k]'(by omega)).toNat := by
        unfold dg
        rw [List.getD_eq_getElem?_getD, List.getElem?_map, List.getElem?_take, if_pos hk, List.getElem?_eq_getElem (by omega)]; rfl
      rw [h1, h3, Int.toNat_of_nonneg h2.1]

theorem gTab : Tryd.prog.globalNamed "math/bits.deBruijn64tab" = some 2 := by kernel_rfl
theorem gTabType : (Tryd.prog.globals[2]?).map (·.type) = some 78 := by kernel_rfl
theorem cells64 : Tryd.prog.cellsOf 78 = 64 := by kernel_rfl
theorem cells8 : Tryd.prog.cellsOf 5 = 1 := by kernel_rfl
theorem laid_is : (Rows.laid_math_bits_deBruijn64tab : DataW Unit) = Lib.tabData .u8 (Lib.deBruijn64tab.map fun (n : Nat) => (n : Int)) := by kernel_rfl
theorem tab_of {W : World} (h : laidMetH Tryd.prog [("math/bits.deBruijn64tab", Rows.laid_math_bits_deBruijn64tab)] W) : Tab W := by
  have h1 : laidMet Tryd.prog [("math/bits.deBruijn64tab", Rows.laid_math_bits_deBruijn64tab)] W := h
  rw [laid_is] at h1
  have h2 : Lib.TabIs Tryd.prog W "math/bits.deBruijn64tab" .u8 (Lib.deBruijn64tab.map fun (n : Nat) => (n : Int)) := Lib.tabIs_of_head (rest := []) gTab gTabType Tryd.underlying78 Tryd.underlying5 cells8 cells64 h1
  intro j hj
  have := h2.cell gTab j (by simpa using hj)
  rw [this]
  simp [List.getD, hj]

/-- A world for the witness: the settled one, the table holding what its initialiser lays. -/
noncomputable def laidWorld (os : Os) : World :=
  { World.holding Tryd.prog os ⟨#[], #[], []⟩ with heap := (World.holding Tryd.prog os ⟨#[], #[], []⟩).heap.modify 2 fun
      | .cells _ t frozen => .cells (Lib.deBruijn64tab.map fun (n : Nat) => Value.int .u8 (n : Int)).toArray t frozen
      | o => o }
end Go.Proofs.YtjlfcnkndndgaaaDoor
