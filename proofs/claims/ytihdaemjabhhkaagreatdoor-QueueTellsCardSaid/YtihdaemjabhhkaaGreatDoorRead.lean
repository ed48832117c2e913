/-
  From a row's own readings to the walks: a fraction that came in.
-/
import Derived.Test.YtihdaemjabhhkaaGreatDoorZTab
import Derived.Test.YtihdaemjabhhkaaGreatDoorZRat
import Derived.Deep.Slices
namespace Go.Proofs.YtihdaemjabhhkaaGreatDoor
open Go.ChangeShapes Go.WideShapes Go.ChangeAt Go.RowKit Tw

/-- A fraction that came in. -/
def InR (w : World) (s : Bool) (A : Option Addr) (l c : Nat) (s' : Bool) (A' : Option Addr) (l' c' : Nat) : Prop := InI w s A l c ∧ InI w s' A' l' c'
theorem InR.r {w : World} {s s' : Bool} {A A' : Option Addr} {l c l' c' m : Nat} (h : InR w s A l c s' A' l' c') (hl : l ≤ m) (hl' : l' ≤ m) : ∃ q, R w s A c l s' A' c' l' q m := by
  obtain ⟨⟨⟨n, h1⟩, _⟩, ⟨d, h2⟩, _⟩ := h
  exact ⟨_, n, d, h1, h2, rfl, hl, hl'⟩
set_option maxRecDepth 100000 in
theorem rat_of {H : Type} {enc : TypeId × Value → H} {W : World} {b : Nat} {sp : Nat → Bool} {hd : Bool} {fuel : Nat} {cs : List Value} {y : DataW H × List MemPlace}
    (hf : DataW.trod enc Tryz.prog W b sp hd fuel 33 cs = some y) (hl : cs.length = 4) : ∃ s A l c s' A' l' c', cs = [.bool s, .slice A l c, .bool s', .slice A' l' c'] ∧ InR W s A l c s' A' l' c' := by
  obtain ⟨y0, y1, n, hx, hl4, h0, h1⟩ := trod_struct2 Tryz.underlying33 hf
  have hC0 : Tryz.prog.cellsOf 31 = 2 := by kernel_rfl
  match cs, hl with
  | [c0, c1, c2, c3], _ =>
    simp [hC0] at h0 h1
    obtain ⟨s, A, l, c, e, i0⟩ := int_of (v := .agg #[c0, c1]) (d := y0.1) (p := y0.2) ⟨n, by simpa [Value.cells] using h0⟩ ⟨_, rfl⟩
    obtain ⟨s', A', l', c', e', i1⟩ := int_of (v := .agg #[c2, c3]) (d := y1.1) (p := y1.2) ⟨n, by simpa [Value.cells] using h1⟩ ⟨_, rfl⟩
    simp at e e'
    obtain ⟨rfl, rfl⟩ := e
    obtain ⟨rfl, rfl⟩ := e'
    exact ⟨s, A, l, c, s', A', l', c', rfl, i0, i1⟩
/-- The number that a cell holds. -/
def numAt (w : World) (a : Addr) : Int := match w.cell? a with | some (.int _ n) => n | _ => 0
set_option maxRecDepth 100000 in
/-- A slice of pairs that came in: every cell is a number. -/
theorem pairs_of {H : Type} {enc : TypeId × Value → H} {W : World} {b : Nat} {sp : Nat → Bool} {hd : Bool} {fuel : Nat} {v : Value} {y : DataW H × List MemPlace}
    (hf : DataW.trod enc Tryz.prog W b sp hd fuel 34 [v] = some y) : ∃ F fl fc, v = .slice F fl fc ∧ fl ≤ maxLen ∧ (F = none → fl = 0 ∧ fc = 0) ∧ ∀ ad, F = some ad → ∀ j, j < fl * 2 → W.cell? (ad.add j) = some (.int .i64 (numAt W (ad.add j))) := by
  have hC : Tryz.prog.cellsOf 47 = 2 := by kernel_rfl
  have hC1 : Tryz.prog.cellsOf 3 = 1 := by kernel_rfl
  rcases Go.Deep.open_slice Tryz.underlying34 hf with ⟨h1, _⟩ | ⟨a, len, cap, m, n, D, Pl, h1, _, h3, h4, h5, _, h7⟩
  · obtain rfl : v = .slice none 0 0 := by simpa using h1
    exact ⟨none, 0, 0, rfl, by omega, fun _ => ⟨rfl, rfl⟩, (fun _ h => (by cases h))⟩
  · obtain rfl : v = .slice (some a) len cap := by simpa using h1
    refine ⟨some a, len, cap, rfl, by omega, (fun h => (by cases h)), fun ad ha j hj => ?_⟩
    cases ha
    have hm : len ≤ m := by rw [h5]; split <;> omega
    obtain ⟨cs, hc, ht⟩ := h7 (j / 2) (by omega)
    rw [hC] at hc
    obtain ⟨_, hcl, hat⟩ := World.cells?_some hc
    obtain ⟨xs, k, _, _, _, hx, hi⟩ := DataW.trod_array Tryz.underlying47 ht
    have h8 := hi (j % 2) (by omega)
    have hxs : xs[j % 2]? = some (xs[j % 2]'(by omega)) := List.getElem?_eq_getElem (by omega)
    rw [hxs, hC1, Nat.mul_one] at h8
    obtain ⟨z, hz, _, _⟩ := DataW.trod_int Tryz.underlying3 h8
    have h9 := hat (j % 2) (by omega)
    rw [Go.Deep.add_add, show j / 2 * 2 + j % 2 = j by omega] at h9
    have h10 : cs[j % 2]? = some (.int .i64 z) := by
      have : (cs.drop (j % 2)).take 1 = [.int .i64 z] := hz
      have h11 : ((cs.drop (j % 2)).take 1)[0]? = some (.int .i64 z) := by rw [this]; rfl
      simpa using h11
    rw [h10] at h9
    unfold numAt
    rw [h9]
end Go.Proofs.YtihdaemjabhhkaaGreatDoor
