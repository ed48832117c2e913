/-
  From a row's own readings to the walks: networks and queries that came in.
-/
import Derived.Test.YtionhpangenhnaaDoorRdS
import Derived.Test.YtionhpangenhnaaDoorZTab
namespace Go.Proofs.YtionhpangenhnaaDoor
open Go.ChangeShapes Go.WideShapes Go.ChangeAt Go.RowKit Tw

/-- A network that came in. -/
def NtIn (W : World) (v : Value) : Prop := ∃ (inp : Int) (A : Option Addr) (n c : Nat) (L : List Ly), v = .agg #[.int .i64 inp, .slice A n c] ∧ I64 inp ∧ n ≤ c ∧ c ≤ maxLen ∧ Sl Ly.cs 13 W A n c L ∧ ∀ y ∈ L, LyIn W y
set_option maxRecDepth 100000 in
theorem net_of {H : Type} {enc : TypeId × Value → H} {W : World} {b : Nat} {sp : Nat → Bool} {hd : Bool} {v : Value} {d : DataW H} {p : List MemPlace}
    (h : DataW.Trod enc Tryd.prog W b sp hd 30 v d p) (hv : ∃ cs, v = .agg cs) : NtIn W v := by
  obtain ⟨cs, rfl⟩ := hv
  obtain ⟨fuel, hf⟩ := h
  obtain ⟨y0, y1, n, hx, hl, h0, h1⟩ := trod_struct2 Tryd.underlying30 hf
  have hC : Tryd.prog.cellsOf 30 = 2 := by kernel_rfl
  have hC0 : Tryd.prog.cellsOf 3 = 1 := by kernel_rfl
  have hC1 : Tryd.prog.cellsOf 28 = 1 := by kernel_rfl
  have hl' : cs.size = 2 := by rw [← hC, ← hl]; simp [Value.cells]
  obtain ⟨c0, c1, rfl⟩ := Joins.array2 hl'
  simp [Value.cells, hC0] at h0
  simp [Value.cells, hC1] at h1
  obtain ⟨z, ez, _, wz⟩ := DataW.trod_int Tryd.underlying3 h0
  obtain ⟨A, l, c, L, el, l1, l2, l3, l4⟩ := lys_of h1
  simp only [List.cons.injEq, and_true] at ez el
  subst ez el
  exact ⟨z, A, l, c, L, rfl, bounds_i64 wz, l1, l2, l3, l4⟩
set_option maxRecDepth 100000 in
theorem aggNet_of {W : World} {r : Reach} {b : Nat} {v : Value} (h : Value.okWide Tryd.prog W r b 30 v) : ∃ cs, v = .agg cs := by
  obtain ⟨cs, rfl, _⟩ := okWide_struct Tryd.underlying30 h
  exact ⟨cs, rfl⟩
/-- A query that came in. -/
def QyIn (W : World) (v : Value) : Prop := ∃ (xA : Option Addr) (xn xc : Nat) (X : List Fr) (lab : Int) (lA : Option Addr) (ln lc : Nat) (Lo : List Fr) (hA : Option Addr) (hn hc : Nat) (Hi : List Fr) (nm : Int),
  v = .agg #[.slice xA xn xc, .int .i64 lab, .slice lA ln lc, .slice hA hn hc, .int .u8 nm] ∧ I64 lab ∧ (0 ≤ nm ∧ nm ≤ 255) ∧
  (xn ≤ xc ∧ xc ≤ maxLen ∧ Sl Fr.cs 4 W xA xn xc X ∧ ∀ x ∈ X, FrIn W x) ∧ (ln ≤ lc ∧ lc ≤ maxLen ∧ Sl Fr.cs 4 W lA ln lc Lo ∧ ∀ x ∈ Lo, FrIn W x) ∧ (hn ≤ hc ∧ hc ≤ maxLen ∧ Sl Fr.cs 4 W hA hn hc Hi ∧ ∀ x ∈ Hi, FrIn W x)
set_option maxRecDepth 100000 in
theorem query_of {H : Type} {enc : TypeId × Value → H} {W : World} {b : Nat} {sp : Nat → Bool} {hd : Bool} {v : Value} {d : DataW H} {p : List MemPlace}
    (h : DataW.Trod enc Tryd.prog W b sp hd 47 v d p) (hv : ∃ cs, v = .agg cs ∧ cs.size = 5) : QyIn W v := by
  obtain ⟨cs, rfl, hcs⟩ := hv
  obtain ⟨fuel, hf⟩ := h
  have hC0 : Tryd.prog.cellsOf 3 = 1 := by kernel_rfl
  have hC1 : Tryd.prog.cellsOf 35 = 1 := by kernel_rfl
  have hC2 : Tryd.prog.cellsOf 45 = 1 := by kernel_rfl
  obtain ⟨xs, n, _, _, _, hx, hi⟩ := DataW.trod_struct Tryd.underlying47 hf
  obtain ⟨cl⟩ := cs
  match cl, hcs with
  | [c0, c1, c2, c3, c4], _ =>
    have g : ∀ k, k < 5 → ∃ z, xs[k]? = some z := fun k hk => ⟨xs[k]'(by simp at hx; omega), List.getElem?_eq_getElem _⟩
    obtain ⟨z0, e0⟩ := g 0 (by omega)
    have h0 := (hi 0 _ rfl).trans e0
    simp [Value.cells, hC1] at h0
    obtain ⟨z1, e1⟩ := g 1 (by omega)
    have h1 := (hi 1 _ rfl).trans e1
    simp [Value.cells, hC0] at h1
    obtain ⟨z2, e2⟩ := g 2 (by omega)
    have h2 := (hi 2 _ rfl).trans e2
    simp [Value.cells, hC1] at h2
    obtain ⟨z3, e3⟩ := g 3 (by omega)
    have h3 := (hi 3 _ rfl).trans e3
    simp [Value.cells, hC1] at h3
    obtain ⟨z4, e4⟩ := g 4 (by omega)
    have h4 := (hi 4 _ rfl).trans e4
    simp [Value.cells, hC2] at h4
    obtain ⟨xA, xn, xc, X, ex, x1, x2, x3, x4⟩ := frs_of h0
    obtain ⟨lab, eb, _, wb⟩ := DataW.trod_int Tryd.underlying3 h1
    obtain ⟨lA, ln, lc, Lo, el, l1, l2, l3, l4⟩ := frs_of h2
    obtain ⟨hA, hn, hc, Hi, eh, y1, y2, y3, y4⟩ := frs_of h3
    obtain ⟨nm, en, _, wn⟩ := DataW.trod_int Tryd.underlying45 h4
    simp only [List.cons.injEq, and_true] at ex eb el eh en
    subst ex eb el eh en
    exact ⟨xA, xn, xc, X, lab, lA, ln, lc, Lo, hA, hn, hc, Hi, nm, rfl, bounds_i64 wb, bounds_u8 wn, ⟨x1, x2, x3, x4⟩, ⟨l1, l2, l3, l4⟩, ⟨y1, y2, y3, y4⟩⟩
set_option maxRecDepth 100000 in
theorem aggQuery_of {W : World} {r : Reach} {b : Nat} {v : Value} (h : Value.okWide Tryd.prog W r b 47 v) : ∃ cs, v = .agg cs ∧ cs.size = 5 := by
  obtain ⟨cs, rfl, hs⟩ := okWide_struct Tryd.underlying47 h
  have hC : Tryd.prog.cellsOf 47 = 5 := by kernel_rfl
  rw [hC] at hs
  exact ⟨cs, rfl, hs⟩
end Go.Proofs.YtionhpangenhnaaDoor
