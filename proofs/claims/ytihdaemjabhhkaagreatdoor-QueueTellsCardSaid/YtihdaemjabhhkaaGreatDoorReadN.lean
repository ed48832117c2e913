/-
  From a row's own readings to the walks: nodes that came in.
-/
import Derived.Test.YtihdaemjabhhkaaGreatDoorRead
import Derived.Test.YtihdaemjabhhkaaGreatDoorQu12
namespace Go.Proofs.YtihdaemjabhhkaaGreatDoor
open Go.ChangeShapes Go.WideShapes Go.ChangeAt Go.RowKit Tw Hp

/-- What is known of a node that came in. -/
structure NdOk (w : World) (x : Itm) : Prop where
  rat : InR w x.s x.A x.l x.c x.s' x.A' x.l' x.c'
  fix : ∃ ps, Fx w x.F x.fl x.fc ps
  dep : -9223372036854775808 ≤ x.dep ∧ x.dep ≤ 9223372036854775807
  num : -9223372036854775808 ≤ x.num ∧ x.num ≤ 9223372036854775807
  len : x.fl ≤ maxLen
/-- Node number i of a slice. -/
def NdAt (w : World) (b off i : Nat) (x : Itm) : Prop := ∀ j c, j < 7 → x.cs[j]? = some c → w.cell? ⟨b, off + i * 7 + j, none⟩ = some c
theorem fx_of {W : World} {F : Option Addr} {fl fc : Nat} (h : F = none → fl = 0 ∧ fc = 0) (h2 : ∀ ad, F = some ad → ∀ j, j < fl * 2 → W.cell? (ad.add j) = some (.int .i64 (numAt W (ad.add j)))) : ∃ ps, Fx W F fl fc ps := by
  cases F with
  | none => obtain ⟨rfl, rfl⟩ := h rfl; exact ⟨[], Fx.nil _⟩
  | some ad =>
    refine ⟨(List.range (fl * 2)).map fun j => numAt W (ad.add j), by simp, (fun h => (by cases h)), fun ad' ha j u hu => ?_⟩
    cases ha
    rw [List.map_map, List.getElem?_map] at hu
    rcases Nat.lt_or_ge j (fl * 2) with hj | hj
    · rw [List.getElem?_range hj] at hu
      rw [h2 ad rfl j hj]
      simpa using hu
    · rw [List.getElem?_eq_none (by simpa using hj)] at hu; cases hu
set_option maxRecDepth 100000 in
/-- A node that came in, cell by cell. -/
theorem node_in {H : Type} {enc : TypeId × Value → H} {W : World} {b : Nat} {sp : Nat → Bool} {hd : Bool} {fuel : Nat} {cs : List Value} {y : DataW H × List MemPlace}
    (hf : DataW.trod enc Tryz.prog W b sp hd fuel 36 cs = some y) : ∃ x : Itm, cs = x.cs.take 7 ∧ NdOk W x := by
  have hC : Tryz.prog.cellsOf 36 = 7 := by kernel_rfl
  have hC0 : Tryz.prog.cellsOf 33 = 4 := by kernel_rfl
  have hC1 : Tryz.prog.cellsOf 3 = 1 := by kernel_rfl
  have hC2 : Tryz.prog.cellsOf 34 = 1 := by kernel_rfl
  obtain ⟨xs, n, _, _, hl, hx, hi⟩ := DataW.trod_struct Tryz.underlying36 hf
  rw [hC] at hl
  match cs, hl with
  | [c0, c1, c2, c3, c4, c5, c6], _ =>
    have g : ∀ k, k < 4 → ∃ z, xs[k]? = some z := fun k hk => ⟨xs[k]'(by simp at hx; omega), List.getElem?_eq_getElem _⟩
    obtain ⟨z0, e0⟩ := g 0 (by omega)
    obtain ⟨z1, e1⟩ := g 1 (by omega)
    obtain ⟨z2, e2⟩ := g 2 (by omega)
    obtain ⟨z3, e3⟩ := g 3 (by omega)
    have h0 := (hi 0 _ rfl).trans e0
    have h1 := (hi 1 _ rfl).trans e1
    have h2 := (hi 2 _ rfl).trans e2
    have h3 := (hi 3 _ rfl).trans e3
    simp [hC0] at h0
    simp [hC1] at h1 h2
    simp [hC2] at h3
    obtain ⟨s, A, l, c, s', A', l', c', er, hr⟩ := rat_of h0 rfl
    obtain ⟨dep, ed, _, wd⟩ := DataW.trod_int Tryz.underlying3 h1
    obtain ⟨num, en, _, wn⟩ := DataW.trod_int Tryz.underlying3 h2
    obtain ⟨F, fl, fc, ef, hfl, hfn, hfc⟩ := pairs_of h3
    simp at er ed en
    obtain ⟨rfl, rfl, rfl, rfl⟩ := er
    subst ed en ef
    exact ⟨⟨s, A, c, l, s', A', c', l', 0, dep, num, F, fl, fc, 0⟩, rfl, ⟨hr, fx_of hfn hfc, bounds_i64 wd, bounds_i64 wn, hfl⟩⟩
set_option maxRecDepth 100000 in
/-- A slice of nodes that came in. -/
theorem nodes_of {H : Type} {enc : TypeId × Value → H} {W : World} {b : Nat} {sp : Nat → Bool} {hd : Bool} {fuel : Nat} {v : Value} {y : DataW H × List MemPlace}
    (hf : DataW.trod enc Tryz.prog W b sp hd fuel 26 [v] = some y) : ∃ F len cap, v = .slice F len cap ∧ len ≤ cap ∧ cap ≤ maxLen ∧ (0 < len → ∃ g off, F = some ⟨g, off, none⟩ ∧ ∀ i, i < len → ∃ x, NdAt W g off i x ∧ NdOk W x) := by
  have hC : Tryz.prog.cellsOf 36 = 7 := by kernel_rfl
  rcases Go.Deep.open_slice Tryz.underlying26 hf with ⟨h1, _⟩ | ⟨a, len, cap, m, n, D, Pl, h1, _, h3, h4, h5, _, h7⟩
  · obtain rfl : v = .slice none 0 0 := by simpa using h1
    exact ⟨none, 0, 0, rfl, Nat.le_refl _, by omega, fun h => absurd h (by omega)⟩
  · obtain rfl : v = .slice (some a) len cap := by simpa using h1
    refine ⟨some a, len, cap, rfl, h3, h4, fun h0 => ?_⟩
    have hm : len ≤ m := by rw [h5]; split <;> omega
    have key : ∀ i, i < len → ∃ x : Itm, (∀ j c, j < 7 → x.cs[j]? = some c → W.cell? (a.add (i * 7 + j)) = some c) ∧ NdOk W x := fun i hi => by
      obtain ⟨cs, hc, ht⟩ := h7 i (by omega)
      rw [hC] at hc
      obtain ⟨_, hcl, hat⟩ := World.cells?_some hc
      obtain ⟨x, rfl, hx⟩ := node_in ht
      refine ⟨x, fun j c hj hc => ?_, hx⟩
      rw [← Go.Deep.add_add, hat j hj, List.getElem?_take, if_pos hj]
      exact hc
    obtain ⟨x, hx, _⟩ := key 0 h0
    have hc0 := hx 0 _ (by omega) (show x.cs[0]? = some _ from rfl)
    obtain ⟨g, off, spot⟩ := a
    have hspot : spot = none := by simpa [Addr.add] using World.cell?_spot hc0
    subst hspot
    refine ⟨g, off, rfl, fun i hi => ?_⟩
    obtain ⟨x, hx, hok⟩ := key i hi
    refine ⟨x, fun j c hj hc => ?_, hok⟩
    have := hx j c hj hc
    rw [Go.WideShapes.add_plain] at this
    rw [Nat.add_assoc]
    exact this
end Go.Proofs.YtihdaemjabhhkaaGreatDoor
