/-
  QueueTells: operations that came in; Least of a queue without nodes. Written by wip/gen/qt6.py.
-/
import Derived.Test.YtihdaemjabhhkaaGreatDoorQt5
namespace Go.Proofs.YtihdaemjabhhkaaGreatDoor
open Go.ChangeShapes Go.WideShapes Go.ChangeAt Go.RowKit Tw Hp

set_option maxRecDepth 100000 in
set_option maxHeartbeats 4000000 in
theorem least_e {w : World} {qb B : Nat} {c2 : Value} (h : QH w qb B (.pointer (some ⟨qb, 0, none⟩)) c2 []) : Calls Tryz.prog 15 #[.pointer (some ⟨qb, 0, none⟩)] w fun e w' => e = .returned (.tuple #[.agg #[.bool false, .slice none 0 0, .bool false, .slice none 0 0], .bool false]) ∧ Below w.heap.size w w' := by
  obtain ⟨W, hW, x0, hB⟩ := boxes1 w #[.bool false, .slice none 0 0, .bool false, .slice none 0 0] 33
  obtain ⟨H, cap, hq, _⟩ := h.at_
  have HQ := Lib.hid (hq.below hB)
  have c1 := HQ.out.cell 1 (.slice H 0 cap) rfl
  have p0 := x0.cell 0 (.bool false) rfl
  have p1 := x0.cell 1 (.slice none 0 0) rfl
  have p2 := x0.cell 2 (.bool false) rfl
  have p3 := x0.cell 3 (.slice none 0 0) rfl
  have f0 := x0.frozen 0
  have f1 := x0.frozen 1
  have f2 := x0.frozen 2
  have f3 := x0.frozen 3
  have l0 := x0.lt
  clear h x0 hq
  go_enter Tryz.func15, Tryz.ntmps15
  go_wp2_with fail
  rw [← hW]
  clear hW
  with_reducible refine (made_yes HQ.out).mono ?_
  rintro e w1 ⟨rfl, rfl⟩
  go_wp2_with fail
  (try simp only [Exit.inBlock, Exit.then])
  refine bodyPost_ret (by simp [results, Tryz.results15, go_sem, p0, p1, p2, p3]; try rfl) rfl ?_
  exact ⟨rfl, (((hB.setCell (Nat.le_refl _) _).setCell (Nat.le_refl _) _).setCell (Nat.le_refl _) _).setCell (Nat.le_refl _) _⟩

/-- Operation number i of a slice. -/
def OpAt (w : World) (b off i : Nat) (p : Bool) (x : Itm) : Prop := ∀ j c, (Value.bool p :: ncs x)[j]? = some c → w.cell? ⟨b, off + i * 8 + j, none⟩ = some c
theorem OpAt.below {w w' : World} {b off i : Nat} {p : Bool} {x : Itm} (h : OpAt w b off i p x) (hb : Below w.heap.size w w') : OpAt w' b off i p x := fun j c hc => (hb.cell (World.block_lt_of_cell? w _ (h j c hc))).trans (h j c hc)
theorem OpAt.at {w : World} {b off i : Nat} {p : Bool} {x : Itm} (h : OpAt w b off i p x) (j : Nat) (c : Value) (hc : (Value.bool p :: ncs x)[j]? = some c) : w.cell? ⟨b, off + i * 8 + j, none⟩ = some c := h j c hc
theorem OpAt.c0 {w : World} {b off i : Nat} {p : Bool} {x : Itm} (h : OpAt w b off i p x) : w.cell? ⟨b, off + i * 8, none⟩ = some (.bool p) := h 0 _ rfl
set_option maxRecDepth 100000 in
theorem op_in {H : Type} {enc : TypeId × Value → H} {W : World} {b : Nat} {sp : Nat → Bool} {hd : Bool} {fuel : Nat} {cs : List Value} {y : DataW H × List MemPlace}
    (hf : DataW.trod enc Tryz.prog W b sp hd fuel 38 cs = some y) : ∃ (p : Bool) (x : Itm), cs = .bool p :: ncs x ∧ NdOk W x := by
  have hC : Tryz.prog.cellsOf 38 = 8 := by kernel_rfl
  have hC0 : Tryz.prog.cellsOf 4 = 1 := by kernel_rfl
  have hC1 : Tryz.prog.cellsOf 36 = 7 := by kernel_rfl
  obtain ⟨xs, n, _, _, hl, hx, hi⟩ := DataW.trod_struct Tryz.underlying38 hf
  rw [hC] at hl
  match cs, hl with
  | [c0, c1, c2, c3, c4, c5, c6, c7], _ =>
    have g : ∀ k, k < 2 → ∃ z, xs[k]? = some z := fun k hk => ⟨xs[k]'(by simp at hx; omega), List.getElem?_eq_getElem _⟩
    obtain ⟨z0, e0⟩ := g 0 (by omega)
    obtain ⟨z1, e1⟩ := g 1 (by omega)
    have h0 := (hi 0 _ rfl).trans e0
    have h1 := (hi 1 _ rfl).trans e1
    simp [hC0] at h0
    simp [hC1] at h1
    obtain ⟨p, ep, _⟩ := DataW.trod_bool Tryz.underlying4 h0
    obtain ⟨x, ex, hok⟩ := node_in h1
    simp at ep
    subst ep
    exact ⟨p, x, by rw [ex]; rfl, hok⟩
set_option maxRecDepth 100000 in
/-- A slice of operations that came in. -/
theorem ops_of {H : Type} {enc : TypeId × Value → H} {W : World} {b : Nat} {sp : Nat → Bool} {hd : Bool} {fuel : Nat} {v : Value} {y : DataW H × List MemPlace}
    (hf : DataW.trod enc Tryz.prog W b sp hd fuel 22 [v] = some y) : ∃ F len cap, v = .slice F len cap ∧ len ≤ cap ∧ cap ≤ maxLen ∧ (0 < len → ∃ g off, F = some ⟨g, off, none⟩ ∧ ∀ i, i < len → ∃ p x, OpAt W g off i p x ∧ NdOk W x) := by
  have hC : Tryz.prog.cellsOf 38 = 8 := by kernel_rfl
  rcases Go.Deep.open_slice Tryz.underlying22 hf with ⟨h1, _⟩ | ⟨a, len, cap, m, n, D, Pl, h1, _, h3, h4, h5, _, h7⟩
  · obtain rfl : v = .slice none 0 0 := by simpa using h1
    exact ⟨none, 0, 0, rfl, Nat.le_refl _, by omega, fun h => absurd h (by omega)⟩
  · obtain rfl : v = .slice (some a) len cap := by simpa using h1
    refine ⟨some a, len, cap, rfl, h3, h4, fun h0 => ?_⟩
    have hm : len ≤ m := by rw [h5]; split <;> omega
    have key : ∀ i, i < len → ∃ (p : Bool) (x : Itm), (∀ j c, (Value.bool p :: ncs x)[j]? = some c → W.cell? (a.add (i * 8 + j)) = some c) ∧ NdOk W x := fun i hi => by
      obtain ⟨cs, hc, ht⟩ := h7 i (by omega)
      rw [hC] at hc
      obtain ⟨_, hcl, hat⟩ := World.cells?_some hc
      obtain ⟨p, x, rfl, hx⟩ := op_in ht
      refine ⟨p, x, fun j c hc => ?_, hx⟩
      have hj : j < 8 := by
        rcases Nat.lt_or_ge j 8 with h | h
        · exact h
        · rw [List.getElem?_eq_none (by simpa [ncs] using h)] at hc; cases hc
      rw [← Go.Deep.add_add, hat j hj]
      exact hc
    obtain ⟨p, x, hx, _⟩ := key 0 h0
    have hc0 := hx 0 _ (show (Value.bool p :: ncs x)[0]? = some _ from rfl)
    obtain ⟨g, off, spot⟩ := a
    have hspot : spot = none := by simpa [Addr.add] using World.cell?_spot hc0
    subst hspot
    refine ⟨g, off, rfl, fun i hi => ?_⟩
    obtain ⟨p, x, hx, hok⟩ := key i hi
    refine ⟨p, x, fun j c hc => ?_, hok⟩
    have := hx j c hc
    rw [Go.WideShapes.add_plain] at this
    rw [Nat.add_assoc]
    exact this
end Go.Proofs.YtihdaemjabhhkaaGreatDoor
