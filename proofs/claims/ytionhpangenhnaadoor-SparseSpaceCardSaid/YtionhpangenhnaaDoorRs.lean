/-
  Rows that a call owns: an element looked at, an element (or a part of it) stored over, a shorter slice of it.
-/
import Derived.Test.YtionhpangenhnaaDoorElt0
namespace Go.Proofs.YtionhpangenhnaaDoor
open Go.RowKit Tw

/-- Values stored one after another into a list, from a place on. -/
def setsL (xs : List Value) (base : Nat) : List (Nat × Value) → List Value
  | [] => xs
  | (j, v) :: r => setsL (xs.set (base + j) v) base r
/-- .. into a block. -/
def setsW (w : World) (g base : Nat) : List (Nat × Value) → World
  | [] => w
  | (j, v) :: r => setsW (w.setCell ⟨g, base + j, none⟩ v) g base r
/-- .. into cells. -/
def setsA (a : Array Value) (base : Nat) : List (Nat × Value) → Array Value
  | [] => a
  | (j, v) :: r => setsA (a.setIfInBounds (base + j) v) base r
theorem setsA_size (vs : List (Nat × Value)) : ∀ (a : Array Value) (base : Nat), (setsA a base vs).size = a.size := by
  induction vs with
  | nil => intro a base; rfl
  | cons p r ih => intro a base; obtain ⟨j, v⟩ := p; unfold setsA; rw [ih]; simp
theorem setsL_len (vs : List (Nat × Value)) : ∀ (a : List Value) (base : Nat), (setsL a base vs).length = a.length := by
  induction vs with
  | nil => intro a base; rfl
  | cons p r ih => intro a base; obtain ⟨j, v⟩ := p; unfold setsL; rw [ih]; simp
theorem setsA_list (vs : List (Nat × Value)) : ∀ (a : Array Value) (base m : Nat), (∀ p ∈ vs, base + p.1 < m) → (setsA a base vs).toList.take m = setsL (a.toList.take m) base vs := by
  induction vs with
  | nil => intro a base m _; rfl
  | cons p r ih =>
    intro a base m h
    obtain ⟨j, v⟩ := p
    unfold setsA setsL
    rw [ih _ _ _ fun p hp => h p (List.mem_cons_of_mem _ hp), Array.toList_setIfInBounds, List.take_set]
theorem setsL_mid (vs : List (Nat × Value)) : ∀ (A B C : List Value), (∀ p ∈ vs, p.1 < B.length) → setsL (A ++ B ++ C) A.length vs = A ++ setsL B 0 vs ++ C := by
  induction vs with
  | nil => intro A B C _; rfl
  | cons p r ih =>
    intro A B C h
    obtain ⟨j, v⟩ := p
    have hj : j < B.length := h (j, v) List.mem_cons_self
    unfold setsL
    have e : (A ++ B ++ C).set (A.length + j) v = A ++ B.set (0 + j) v ++ C := by
      rw [List.append_assoc, List.set_append_right _ _ (by omega), Nat.add_sub_cancel_left, List.set_append_left _ _ hj, Nat.zero_add, List.append_assoc]
    rw [e]
    exact ih A (B.set (0 + j) v) C fun p hp => by rw [List.length_set]; exact h p (List.mem_cons_of_mem _ hp)
theorem flat_sets {α : Type} {f : α → List Value} {k : Nat} (hk : ∀ x, (f x).length = k) {L : List α} {i : Nat} {x y : α} (hx : L[i]? = some x) (vs : List (Nat × Value)) (hv : ∀ p ∈ vs, p.1 < k) (hy : setsL (f x) 0 vs = f y) : setsL (flat f L) (i * k) vs = flat f (L.set i y) := by
  have hi : i < L.length := (List.getElem?_eq_some_iff.1 hx).1
  have e1 : L = L.take i ++ x :: L.drop (i + 1) := by
    have h1 := List.take_append_drop i L
    rw [List.drop_eq_getElem_cons hi] at h1
    rw [(List.getElem?_eq_some_iff.1 hx).2] at h1
    exact h1.symm
  have e2 : L.set i y = L.take i ++ y :: L.drop (i + 1) := by rw [List.set_eq_take_append_cons_drop, if_pos hi]
  have hl : (flat f (L.take i)).length = i * k := by rw [flat_len hk, List.length_take, Nat.min_eq_left (by omega)]
  have e3 : ∀ (z : α), flat f (L.take i ++ z :: L.drop (i + 1)) = flat f (L.take i) ++ f z ++ flat f (L.drop (i + 1)) := fun z => by simp [flat]
  rw [e2, e3, ← hy, ← setsL_mid vs _ _ _ (by rw [hk]; exact hv), hl, ← e3, ← e1]
theorem Bx.sets {t : TypeId} (vs : List (Nat × Value)) : ∀ {w : World} {g : Nat} {cur : Array Value} (base : Nat), Bx w g cur t → Bx (setsW w g base vs) g (setsA cur base vs) t := by
  induction vs with
  | nil => intro w g cur base h; exact h
  | cons p r ih => intro w g cur base h; obtain ⟨j, v⟩ := p; exact ih base (h.set _ v)
theorem NoU.set' {arr : Array Value} {v : Value} (h : NoU arr) (i : Nat) (hv : ∀ n, v ≠ .int .u64 n) : NoU (arr.setIfInBounds i v) := fun u hu n => by
  rcases Array.mem_or_eq_of_mem_setIfInBounds hu with h1 | rfl
  · exact h u h1 n
  · exact hv n
theorem NoU.sets (vs : List (Nat × Value)) (hv : ∀ p ∈ vs, ∀ n, p.2 ≠ .int .u64 n) : ∀ {cur : Array Value} (base : Nat), NoU cur → NoU (setsA cur base vs) := by
  induction vs with
  | nil => intro cur base h; exact h
  | cons p r ih => intro cur base h; obtain ⟨j, v⟩ := p; exact ih (fun p hp => hv p (List.mem_cons_of_mem _ hp)) base (h.set' _ (hv (j, v) List.mem_cons_self))
theorem grownBy_refl' (w : World) (row : Option Nat) : w.grownBy w row := ⟨rfl, rfl, rfl, Nat.le_refl _, fun _ _ _ => rfl⟩
theorem grownBy_sets (vs : List (Nat × Value)) : ∀ {w w' : World} {g : Nat} (base : Nat), w.grownBy w' (some g) → w.grownBy (setsW w' g base vs) (some g) := by
  induction vs with
  | nil => intro w w' g base h; exact h
  | cons p r ih => intro w w' g base h; obtain ⟨j, v⟩ := p; exact ih base (grown_set h (.inl rfl) v)
theorem K64.sets {t : TypeId} (vs : List (Nat × Value)) (hv : ∀ p ∈ vs, ∀ n, p.2 ≠ .int .u64 n) : ∀ {w : World} {g : Nat} {cur : Array Value} (base : Nat), Bx w g cur t → NoU cur → (∀ p ∈ vs, base + p.1 < cur.size) → K64 w (setsW w g base vs) := by
  induction vs with
  | nil => intro w g cur base _ _ _; exact fun p n hp => hp
  | cons p r ih =>
    intro w g cur base h hn hl
    obtain ⟨j, v⟩ := p
    have hj : base + j < cur.size := hl (j, v) List.mem_cons_self
    refine K64.trans (K64.set (u := cur[base + j]'hj) (h.cell _ _ (Array.getElem?_eq_getElem hj)) (fun n => hn _ (Array.getElem_mem hj) n) v) ?_
    exact ih (fun p hp => hv p (List.mem_cons_of_mem _ hp)) base (h.set _ v) (hn.set' _ (hv (j, v) List.mem_cons_self)) fun p hp => by simpa using hl p (List.mem_cons_of_mem _ hp)
section
variable {α : Type} {f : α → List Value} {k : Nat} {t te : TypeId}
/-- An element of an owned row, or a part of it, is stored over. -/
theorem Elt.sets (E : Elt f k t te) {w : World} {B g n cap : Nat} {L : List α} (h : OwnR w B te k (.slice (some ⟨g, 0, none⟩) n cap) n (flat f L)) {i : Nat} {x y : α} (hx : L[i]? = some x) (vs : List (Nat × Value)) (hv : ∀ p ∈ vs, p.1 < k ∧ ∀ m, p.2 ≠ .int .u64 m) (hy : setsL (f x) 0 vs = f y) :
    OwnR (setsW w g (i * k) vs) B te k (.slice (some ⟨g, 0, none⟩) n cap) n (flat f (L.set i y)) ∧ Grew w (setsW w g (i * k) vs) (.slice (some ⟨g, 0, none⟩) n cap) (.slice (some ⟨g, 0, none⟩) n cap) := by
  obtain ⟨h1, ⟨h2, _⟩ | ⟨g', cap', cur, h2, h3, h4, h5, h6, h7, h8, h9⟩⟩ := h
  · cases h2
  · cases h2
    have hl : L.length = n ∨ k = 0 := by
      rw [flat_len E.len] at h1
      rcases Nat.eq_zero_or_pos k with hk | hk
      · exact .inr hk
      · exact .inl (Nat.eq_of_mul_eq_mul_right hk h1)
    have hi : i < L.length := (List.getElem?_eq_some_iff.1 hx).1
    have hb : ∀ p ∈ vs, i * k + p.1 < n * k := fun p hp => by
      have hp1 := (hv p hp).1
      have hn : L.length = n := by
        rcases hl with h | h
        · exact h
        · omega
      calc i * k + p.1 < i * k + k := by omega
        _ = (i + 1) * k := by rw [Nat.add_mul, Nat.one_mul]
        _ ≤ n * k := Nat.mul_le_mul_right _ (by omega)
    have hb2 : ∀ p ∈ vs, i * k + p.1 < cur.size := fun p hp => by
      have := hb p hp
      have h10 := Nat.mul_le_mul_right k h5
      omega
    refine ⟨⟨by rw [flat_len E.len, List.length_set, ← flat_len E.len]; exact h1, .inr ⟨_, _, setsA cur (i * k) vs, rfl, h3, h4.sets vs _, h5, h6, by rw [setsA_size]; exact h7, ?_, h9.sets vs (fun p hp => (hv p hp).2) _⟩⟩, ⟨grownBy_sets vs _ (grownBy_refl' w _), K64.sets vs (fun p hp => (hv p hp).2) _ h4 h9 hb2, .inl rfl⟩⟩
    rw [setsA_list vs _ _ _ hb, h8, flat_sets E.len hx vs (fun p hp => (hv p hp).1) hy]
/-- A cell of an element of an owned row. -/
theorem Elt.cell (E : Elt f k t te) {w : World} {B g n cap : Nat} {L : List α} (h : OwnR w B te k (.slice (some ⟨g, 0, none⟩) n cap) n (flat f L)) {i : Nat} {x : α} (hx : L[i]? = some x) {j : Nat} {u : Value} (hj : j < k) (hu : (f x)[j]? = some u) : w.cell? ⟨g, i * k + j, none⟩ = some u :=
  h.cell (by rw [flat_get E.len L i x hx j hj]; exact hu)
theorem OwnR.frozen {w : World} {B g n cap k : Nat} {te : TypeId} {xs : List Value} (h : OwnR w B te k (.slice (some ⟨g, 0, none⟩) n cap) n xs) (j : Nat) : w.frozen? ⟨g, j, none⟩ = false := by
  obtain ⟨h1, ⟨h2, _⟩ | ⟨g', cap', cur, h2, h3, h4, _⟩⟩ := h
  · cases h2
  · cases h2; exact h4.frozen j
theorem OwnR.blk {w : World} {B g n cap k : Nat} {te : TypeId} {xs : List Value} (h : OwnR w B te k (.slice (some ⟨g, 0, none⟩) n cap) n xs) : g < w.heap.size ∧ B ≤ g := ⟨h.lt g rfl, h.base g rfl⟩
theorem OwnR.cap {w : World} {B n cap k : Nat} {A : Option Addr} {te : TypeId} {xs : List Value} (h : OwnR w B te k (.slice A n cap) n xs) : n ≤ cap ∧ cap ≤ maxLen := by
  obtain ⟨H, c, e, _, _, h1, h2⟩ := h.slice
  cases e
  exact ⟨h1, h2⟩
/-- The beginning of an owned row. -/
theorem Elt.take (E : Elt f k t te) {w : World} {B n cap : Nat} {A : Option Addr} {L : List α} (h : OwnR w B te k (.slice A n cap) n (flat f L)) {q : Nat} (hq : q ≤ n) : OwnR w B te k (.slice A q cap) q (flat f (L.take q)) := by
  obtain ⟨h1, ⟨h2, rfl⟩ | ⟨g', cap', cur, h2, h3, h4, h5, h6, h7, h8, h9⟩⟩ := h
  · cases h2
    obtain rfl : q = 0 := by omega
    exact OwnR.nil w B te k
  · cases h2
    rw [← flat_take E.len]
    refine ⟨by rw [List.length_take, h1, Nat.min_eq_left (Nat.mul_le_mul_right _ hq)], .inr ⟨g', _, cur, rfl, h3, h4, by omega, h6, h7, ?_, h9⟩⟩
    rw [← h8, List.take_take, Nat.min_eq_left (Nat.mul_le_mul_right _ hq)]
theorem OwnR.eltn (E : Elt f k t te) (h0 : 0 < k) {w : World} {B n : Nat} {v : Value} {L : List α} (h : OwnR w B te k v n (flat f L)) : L.length = n := by
  have := h.1
  rw [flat_len E.len] at this
  exact Nat.eq_of_mul_eq_mul_right h0 this
/-- A row of more than nothing has a block. -/
theorem OwnR.some {w : World} {B n cap k : Nat} {A : Option Addr} {te : TypeId} {xs : List Value} (h : OwnR w B te k (.slice A n cap) n xs) (hn : 0 < n) : ∃ g, A = .some ⟨g, 0, none⟩ := by
  obtain ⟨H, c, e, h1, h2, _⟩ := h.slice
  cases e
  cases A with
  | none => have := (h1 rfl).1; omega
  | some a => obtain ⟨g, rfl⟩ := h2 a rfl; exact ⟨g, rfl⟩
end
end Go.Proofs.YtionhpangenhnaaDoor
