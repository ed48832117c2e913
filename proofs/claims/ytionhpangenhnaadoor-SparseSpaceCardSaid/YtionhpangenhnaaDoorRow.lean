/-
  Slices of structs as lists: what is read at a place; fractions and terms in memory.
-/
import Derived.Test.YtionhpangenhnaaDoorApp
import Derived.Test.YtionhpangenhnaaDoorSh1
namespace Go.Proofs.YtionhpangenhnaaDoor
open Go.RowKit Tw

/-- The cells cs lie in block b from off on. -/
def ElA (w : World) (b off : Nat) (cs : List Value) : Prop := ∀ j u, cs[j]? = some u → w.cell? ⟨b, off + j, none⟩ = some u
theorem ElA.below {w w' : World} {b off : Nat} {cs : List Value} (h : ElA w b off cs) (hb : Below w.heap.size w w') : ElA w' b off cs := fun j u hu => (hb.cell (World.block_lt_of_cell? w _ (h j u hu))).trans (h j u hu)
theorem ElA.at {w : World} {b off : Nat} {cs : List Value} (h : ElA w b off cs) (j : Nat) (u : Value) (hu : cs[j]? = some u) : w.cell? ⟨b, off + j, none⟩ = some u := h j u hu
theorem ElA.c0 {w : World} {b off : Nat} {cs : List Value} {u : Value} (h : ElA w b off cs) (hu : cs[0]? = some u) : w.cell? ⟨b, off, none⟩ = some u := h 0 u hu
/-- The slice reads as L; f tells the k cells of one. -/
def Sl {α : Type} (f : α → List Value) (k : Nat) (w : World) (A : Option Addr) (n c : Nat) (L : List α) : Prop := L.length = n ∧ From w k (.slice A n c) n (flat f L)
section
variable {α : Type} {f : α → List Value} {k : Nat} {w w' : World} {A : Option Addr} {n c : Nat} {L : List α}
theorem Sl.below (h : Sl f k w A n c L) (hb : Below w.heap.size w w') : Sl f k w' A n c L := ⟨h.1, h.2.below hb⟩
theorem Sl.nil (w : World) : Sl f k w none 0 0 [] := ⟨rfl, by simp [flat], none, 0, rfl, fun _ => rfl, (fun _ h => (by cases h))⟩
theorem Sl.none_len (h : Sl f k w none n c L) : n = 0 := by
  obtain ⟨_, _, A, c', e, h2, _⟩ := h
  cases e
  exact h2 rfl
theorem add_off (b off j : Nat) : (⟨b, off, none⟩ : Addr).add j = ⟨b, off + j, none⟩ := by unfold Addr.add; split <;> simp_all
/-- Where it lies, and what stands at each place. -/
theorem Sl.at (h : Sl f k w A n c L) (hk : ∀ x, (f x).length = k) (h0 : 0 < k) (hn : 0 < n) : ∃ b off, A = some ⟨b, off, none⟩ ∧ ∀ i x, L[i]? = some x → ElA w b (off + i * k) (f x) := by
  obtain ⟨hl, hlen, A', c', e, hA, hc⟩ := h
  cases e
  cases A with
  | none => have := hA rfl; omega
  | some a =>
    obtain ⟨b, off, spot⟩ := a
    have hp : 0 < (flat f L).length := by rw [hlen]; exact Nat.mul_pos hn h0
    have hc0 := hc _ rfl 0 ((flat f L)[0]) (List.getElem?_eq_getElem hp)
    have hs : spot = none := by simpa [Addr.add] using World.cell?_spot hc0
    subst hs
    refine ⟨b, off, rfl, fun i x hx j u hu => ?_⟩
    have hj : j < k := by
      rcases Nat.lt_or_ge j k with h1 | h1
      · exact h1
      · rw [List.getElem?_eq_none (by rw [hk]; exact h1)] at hu; cases hu
    have h1 := hc _ rfl (i * k + j) u (by rw [flat_get hk L i x hx j hj]; exact hu)
    rw [add_off] at h1
    rw [Nat.add_assoc]
    exact h1
theorem Sl.len (h : Sl f k w A n c L) : L.length = n := h.1
end
theorem OwnR.sl {α : Type} {f : α → List Value} {k : Nat} {w : World} {B : Nat} {e : TypeId} {H : Option Addr} {n cap : Nat} {L : List α} (ho : OwnR w B e k (.slice H n cap) n (flat f L)) (hl : L.length = n) : Sl f k w H n cap L := ⟨hl, ho.from_⟩

/-- A fraction in memory: its cells, what it counts, whether it is in its one form. -/
structure Fr where
  s : Bool
  A : Option Addr
  c : Nat
  l : Nat
  s' : Bool
  A' : Option Addr
  c' : Nat
  l' : Nat
  q : Rat
  ex : Bool
def Fr.cs (x : Fr) : List Value := [.bool x.s, .slice x.A x.l x.c, .bool x.s', .slice x.A' x.l' x.c']
theorem Fr.cs_len (x : Fr) : x.cs.length = 4 := rfl
/-- It counts what it says, with at most m digits above and below. -/
def FrOk (w : World) (m : Nat) (x : Fr) : Prop := R w x.s x.A x.c x.l x.s' x.A' x.c' x.l' x.q m ∧ ∃ xs ys, Dx w x.A x.c x.l xs ∧ Dx w x.A' x.c' x.l' ys ∧ exB x.s xs x.s' ys x.q = x.ex
theorem FrOk.below {w w' : World} {m : Nat} {x : Fr} (h : FrOk w m x) (hb : Below w.heap.size w w') : FrOk w' m x := by
  obtain ⟨h1, xs, ys, h2, h3, h4⟩ := h; exact ⟨h1.below hb, xs, ys, h2.below hb, h3.below hb, h4⟩
theorem FrOk.k {w w' : World} {m : Nat} {x : Fr} (h : FrOk w m x) (hb : K64 w w') : FrOk w' m x := by
  obtain ⟨h1, xs, ys, h2, h3, h4⟩ := h; exact ⟨h1.k hb, xs, ys, h2.k hb, h3.k hb, h4⟩
theorem FrOk.mono {w : World} {m m' : Nat} {x : Fr} (h : FrOk w m x) (hm : m ≤ m') : FrOk w m' x := ⟨h.1.mono hm, h.2⟩
theorem FrOk.r {w : World} {m : Nat} {x : Fr} (h : FrOk w m x) : R w x.s x.A x.c x.l x.s' x.A' x.c' x.l' x.q m := h.1
theorem FrOk.rn {w : World} {m : Nat} {x : Fr} (h : FrOk w m x) : x.ex = true ↔ RN w x.s x.A x.c x.l x.s' x.A' x.c' x.l' x.q := by
  obtain ⟨_, xs, ys, h2, h3, h4⟩ := h
  rw [← h4]; exact exB_iff h2 h3
/-- The one form, as such a fraction. -/
theorem RN.fr {w : World} {s s' : Bool} {A A' : Option Addr} {c c' l l' m : Nat} {q : Rat} (h : RN w s A c l s' A' c' l' q) (hm : sz q ≤ m) : FrOk w m ⟨s, A, c, l, s', A', c', l', q, true⟩ :=
  ⟨h.r' hm, _, _, h.1.dx, h.2.dx, (exB_iff h.1.dx h.2.dx).2 h⟩
/-- A fraction that came in. -/
theorem R.fr {w : World} {s s' : Bool} {A A' : Option Addr} {c c' l l' m : Nat} {q : Rat} (h : R w s A c l s' A' c' l' q m) : ∃ ex, FrOk w m ⟨s, A, c, l, s', A', c', l', q, ex⟩ := by
  obtain ⟨xs, ys, h1, h2⟩ := h.dx
  exact ⟨exB s xs s' ys q, h, xs, ys, h1, h2, rfl⟩
/-- A term in memory. -/
structure Tm where
  at_ : Int
  x : Fr
def Tm.cs (t : Tm) : List Value := [.int .i64 t.at_, .bool t.x.s, .slice t.x.A t.x.l t.x.c, .bool t.x.s', .slice t.x.A' t.x.l' t.x.c']
theorem Tm.cs_len (t : Tm) : t.cs.length = 5 := rfl
/-- Is number i of L as it should be in a vector of n places? -/
def rightAt (L : List Tm) (n : Int) (i : Nat) : Bool :=
  match L[i]? with
  | none => true
  | some t => decide (0 ≤ t.at_) && decide (t.at_ < n) && (match i with | 0 => true | j + 1 => match L[j]? with | none => true | some p => decide (p.at_ < t.at_)) && decide (t.x.q ≠ 0) && t.x.ex
/-- Is L the one form of a vector of n places? -/
def rightB (L : List Tm) (n : Int) : Bool := (List.range L.length).all (rightAt L n)
end Go.Proofs.YtionhpangenhnaaDoor
