/-
  Digits of fractions; is a fraction in its one form? (plain part)
-/
import Derived.Test.YtionhpangenhnaaDoorZRat
import Derived.Deep.LoopGhost
namespace Go.Proofs.YtionhpangenhnaaDoor
open Go.RowKit Tw

theorem Nums.inj {w : World} {A : Option Addr} {c c' : Nat} {xs ys : List Nat} (h : Nums w A c xs) (h' : Nums w A c' ys) (hl : xs.length = ys.length) : xs = ys := by
  apply List.ext_getElem? 
  intro i
  rcases Nat.lt_or_ge i xs.length with hi | hi
  · rw [dg_get hi, dg_get (by omega)]
    obtain ⟨b, off, rfl, hc⟩ := h.cells (by omega)
    obtain ⟨b', off', e, hc'⟩ := h'.cells (by omega)
    cases e
    have h1 := hc i hi
    rw [hc' i (by omega)] at h1
    simp only [Option.some.injEq, Value.int.injEq, true_and] at h1
    congr 1
    omega
  · rw [List.getElem?_eq_none hi, List.getElem?_eq_none (by omega)]
theorem dg_ext {xs ys : List Nat} (hl : xs.length = ys.length) (h : ∀ j, j < xs.length → dg xs j = dg ys j) : xs = ys := by
  apply List.ext_getElem?
  intro i
  rcases Nat.lt_or_ge i xs.length with hi | hi
  · rw [dg_get hi, dg_get (by omega), h i hi]
  · rw [List.getElem?_eq_none hi, List.getElem?_eq_none (by omega)]
/-- A state of the loop of Equal. -/
def EQ1 (w : World) (xs ys : List Nat) (n gk : Nat) (s : Value) (wr : World) : Prop := ∃ i : Nat, i ≤ n ∧ n - i = gk ∧ s = .int .i64 (i : Int) ∧ Below w.heap.size w wr ∧ ∀ j, j < i → dg xs j = dg ys j
/-- Digits that read as xs. -/
def Dx (w : World) (A : Option Addr) (c l : Nat) (xs : List Nat) : Prop := Nums w A c xs ∧ xs.length = l
theorem Dx.below {w w' : World} {A : Option Addr} {c l : Nat} {xs : List Nat} (h : Dx w A c l xs) (hb : Below w.heap.size w w') : Dx w' A c l xs := ⟨h.1.below hb, h.2⟩
theorem Dx.k {w w' : World} {A : Option Addr} {c l : Nat} {xs : List Nat} (h : Dx w A c l xs) (hb : K64 w w') : Dx w' A c l xs := ⟨h.1.k hb, h.2⟩
theorem Dx.inj {w : World} {A : Option Addr} {c c' l : Nat} {xs ys : List Nat} (h : Dx w A c l xs) (h' : Dx w A c' l ys) : xs = ys := h.1.inj h'.1 (h.2.trans h'.2.symm)
theorem J.dx {w : World} {b : Bool} {A : Option Addr} {c l : Nat} {z : Int} (h : J w b A c l z) : Dx w A c l (limbs z.natAbs) := ⟨h.1.1, h.1.2⟩
theorem R.dx {w : World} {s s' : Bool} {A A' : Option Addr} {c c' l l' m : Nat} {q : Rat} (h : R w s A c l s' A' c' l' q m) : ∃ xs ys, Dx w A c l xs ∧ Dx w A' c' l' ys := by
  obtain ⟨n, d, ⟨_, ⟨xs, h1, h2, _⟩, _⟩, ⟨_, ⟨ys, h3, h4, _⟩, _⟩, _⟩ := h
  exact ⟨xs, ys, ⟨h1, h2⟩, ⟨h3, h4⟩⟩
/-- Is what is handed in the one form of q? -/
def exB (s : Bool) (xs : List Nat) (s' : Bool) (ys : List Nat) (q : Rat) : Bool := ((s == decide (q.num < 0)) && decide (xs = limbs q.num.natAbs)) && ((s' == decide (dn q < 0)) && decide (ys = limbs (dn q).natAbs))
theorem J.sg {w : World} {b : Bool} {A : Option Addr} {c l : Nat} {z : Int} (h : J w b A c l z) : b = decide (z < 0) := h.2
theorem RN.n {w : World} {s s' : Bool} {A A' : Option Addr} {c c' l l' : Nat} {q : Rat} (h : RN w s A c l s' A' c' l' q) : J w s A c l q.num := h.1
theorem RN.d {w : World} {s s' : Bool} {A A' : Option Addr} {c c' l l' : Nat} {q : Rat} (h : RN w s A c l s' A' c' l' q) : J w s' A' c' l' (dn q) := h.2
theorem exB_iff {w : World} {s s' : Bool} {A A' : Option Addr} {c c' l l' : Nat} {q : Rat} {xs ys : List Nat} (h : Dx w A c l xs) (h' : Dx w A' c' l' ys) : exB s xs s' ys q = true ↔ RN w s A c l s' A' c' l' q := by
  unfold exB
  simp only [Bool.and_eq_true, beq_iff_eq, decide_eq_true_eq]
  constructor
  · rintro ⟨⟨rfl, rfl⟩, rfl, rfl⟩
    exact ⟨⟨⟨h.1, h.2⟩, rfl⟩, ⟨⟨h'.1, h'.2⟩, rfl⟩⟩
  · rintro ⟨h1, h2⟩
    exact ⟨⟨h1.2, h.inj h1.dx⟩, h2.2, h'.inj h2.dx⟩
end Go.Proofs.YtionhpangenhnaaDoor
