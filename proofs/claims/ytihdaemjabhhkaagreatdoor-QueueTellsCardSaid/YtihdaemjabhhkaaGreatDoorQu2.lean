/-
  Rows of items: an exchange; the state of a queue. Written by wip/gen/qu2.py.
-/
import Derived.Test.YtihdaemjabhhkaaGreatDoorQu1
import Derived.Test.YtihdaemjabhhkaaGreatDoorOwnR
namespace Go.Proofs.YtihdaemjabhhkaaGreatDoor
open Go.RowKit Tw Hp

/-- The row in block g holds the items L, and has room for cap. -/
def HRow (w : World) (g cap : Nat) (L : List Itm) : Prop := ∃ arr, Bx w g arr 110 ∧ arr.size = cap * 8 ∧ L.length ≤ cap ∧ (∀ i, i < L.length → ∀ j x, (ix L i).cs[j]? = some x → arr[i * 8 + j]? = some x) ∧ NoU arr ∧ cap ≤ maxLen
theorem cs_lt {a : Itm} {j : Nat} {x : Value} (h : a.cs[j]? = some x) : j < 8 := by
  rcases Nat.lt_or_ge j 8 with h1 | h1
  · exact h1
  · rw [List.getElem?_eq_none (by simpa [Itm.cs] using h1)] at h; cases h
section
variable {w w' : World} {g cap i j : Nat} {L : List Itm} {a b : Itm}
theorem HRow.lt (h : HRow w g cap L) : g < w.heap.size := by obtain ⟨arr, h1, _⟩ := h; exact h1.lt
theorem HRow.len (h : HRow w g cap L) : L.length ≤ cap := by obtain ⟨arr, _, _, h1, _⟩ := h; exact h1
theorem HRow.below (h : HRow w g cap L) (hb : Below w.heap.size w w') : HRow w' g cap L := by obtain ⟨arr, h1, h2⟩ := h; exact ⟨arr, h1.below hb, h2⟩
theorem HRow.grown {row : Option Nat} (h : HRow w g cap L) (hb : w.grownBy w' row) (hg : some g ≠ row) : HRow w' g cap L := by obtain ⟨arr, h1, h2⟩ := h; exact ⟨arr, (hb.block g h1.lt hg).trans h1, h2⟩
theorem HRow.it (h : HRow w g cap L) (hi : i < L.length) (ha : ix L i = a) : ItAt w g i a := by
  obtain ⟨arr, h1, _, _, h3, _⟩ := h
  intro j x hx
  exact h1.cell _ _ (h3 i hi j x (by rw [ha]; exact hx))
theorem HRow.frozen (h : HRow w g cap L) (k : Nat) : w.frozen? ⟨g, k, none⟩ = false := by obtain ⟨arr, h1, _⟩ := h; exact h1.frozen k
theorem HRow.take (h : HRow w g cap (L ++ [a])) : HRow w g cap L := by
  obtain ⟨arr, h1, h2, h3, h4, h5⟩ := h
  refine ⟨arr, h1, h2, by simp at h3; omega, fun i hi j x hx => h4 i (by simp; omega) j x ?_, h5⟩
  unfold ix at *
  rw [List.getD_eq_getElem?_getD, List.getElem?_append_left hi, ← List.getD_eq_getElem?_getD]; exact hx
theorem grownBy_refl (w : World) (row : Option Nat) : w.grownBy w row := ⟨rfl, rfl, rfl, Nat.le_refl _, fun _ _ _ => rfl⟩
theorem NoU.set {arr : Array Value} {v : Value} (h : NoU arr) (i : Nat) (hv : ∀ n, v ≠ .int .u64 n) : NoU (arr.setIfInBounds i v) := fun u hu n => by
  rcases Array.mem_or_eq_of_mem_setIfInBounds hu with h1 | rfl
  · exact h u h1 n
  · exact hv n
/-- The cells of a row of items. -/
def row (L : List Itm) : List Value := L.flatMap Itm.cs
theorem row_len (L : List Itm) : (row L).length = L.length * 8 := by
  induction L with
  | nil => rfl
  | cons x L ih => show (x.cs ++ row L).length = _; rw [List.length_append, ih, List.length_cons]; simp [Itm.cs]; omega
theorem row_snoc (L : List Itm) (x : Itm) : row (L ++ [x]) = row L ++ x.cs := by simp [row]
theorem row_get (L : List Itm) : ∀ (i : Nat), i < L.length → ∀ j, j < 8 → (row L)[i * 8 + j]? = (ix L i).cs[j]? := by
  induction L with
  | nil => intro i hi; simp at hi
  | cons x L ih =>
    intro i hi j hj
    show (x.cs ++ row L)[i * 8 + j]? = _
    have hl : x.cs.length = 8 := rfl
    cases i with
    | zero => rw [List.getElem?_append_left (by rw [hl]; omega), Nat.zero_mul, Nat.zero_add]; rfl
    | succ k =>
      rw [List.getElem?_append_right (by rw [hl]; omega), hl, show (k + 1) * 8 + j - 8 = k * 8 + j by omega, ih k (by simpa using hi) j hj]
      rfl
theorem OwnR.hrow {w : World} {B g n cap : Nat} {L : List Itm} (h : OwnR w B 110 8 (.slice (some ⟨g, 0, none⟩) n cap) n (row L)) : HRow w g cap L ∧ L.length = n ∧ B ≤ g := by
  obtain ⟨h1, ⟨h2, _⟩ | ⟨g', cap', cur, h2, h3, h4, h5, h6, h7, h8, h9⟩⟩ := h
  · cases h2
  · cases h2
    rw [row_len] at h1
    have hn : L.length = n := by omega
    refine ⟨⟨cur, h4, h7, by omega, fun i hi j x hx => ?_, h9, h6⟩, hn, h3⟩
    have hj := cs_lt hx
    rw [← row_get L i hi j hj, ← h8, List.getElem?_take, if_pos (by omega)] at hx
    simpa using hx
theorem HRow.own {w : World} {B g cap : Nat} {L : List Itm} (h : HRow w g cap L) (hB : B ≤ g) : OwnR w B 110 8 (.slice (some ⟨g, 0, none⟩) L.length cap) L.length (row L) := by
  obtain ⟨arr, h1, h2, h3, h4, h5, h6⟩ := h
  refine ⟨row_len L, .inr ⟨g, cap, arr, rfl, hB, h1, h3, h6, h2, ?_, h5⟩⟩
  apply List.ext_getElem?
  intro m
  by_cases hm : m < L.length * 8
  · obtain ⟨i, j, hj, rfl⟩ : ∃ i j, j < 8 ∧ m = i * 8 + j := ⟨m / 8, m % 8, by omega, by omega⟩
    have hi : i < L.length := by omega
    rw [List.getElem?_take, if_pos hm, row_get L i hi j hj]
    have hx : (ix L i).cs[j]? = some ((ix L i).cs[j]'(by simpa [Itm.cs] using hj)) := List.getElem?_eq_getElem _
    rw [hx]
    have := h4 i hi j _ hx
    simpa using this
  · rw [List.getElem?_take, if_neg hm, List.getElem?_eq_none (by rw [row_len]; omega)]
theorem set8_get (arr : Array Value) (x : Itm) (i m : Nat) (hs : i * 8 + 8 ≤ arr.size) :
    ((((((((arr.setIfInBounds (i * 8) (.bool x.s)).setIfInBounds (i * 8 + 1) (.slice x.A x.l x.c)).setIfInBounds (i * 8 + 2) (.bool x.s')).setIfInBounds (i * 8 + 3) (.slice x.A' x.l' x.c')).setIfInBounds (i * 8 + 4) (.int .i64 x.dep)).setIfInBounds (i * 8 + 5) (.int .i64 x.num)).setIfInBounds (i * 8 + 6) (.slice x.F x.fl x.fc)).setIfInBounds (i * 8 + 7) (.int .i64 x.turn))[m]? = if i * 8 ≤ m ∧ m < i * 8 + 8 then x.cs[m - i * 8]? else arr[m]? := by
  by_cases h : i * 8 ≤ m ∧ m < i * 8 + 8
  · rw [if_pos h]
    obtain ⟨k, rfl⟩ : ∃ k, m = i * 8 + k := ⟨m - i * 8, by omega⟩
    have hk : k < 8 := by omega
    rw [Nat.add_sub_cancel_left]
    obtain rfl | rfl | rfl | rfl | rfl | rfl | rfl | rfl : k = 0 ∨ k = 1 ∨ k = 2 ∨ k = 3 ∨ k = 4 ∨ k = 5 ∨ k = 6 ∨ k = 7 := by omega
    all_goals
      simp only [Array.getElem?_setIfInBounds, Array.size_setIfInBounds, Nat.add_zero]
      simp [Itm.cs, show i * 8 < arr.size by omega, show i * 8 + 1 < arr.size by omega, show i * 8 + 2 < arr.size by omega, show i * 8 + 3 < arr.size by omega, show i * 8 + 4 < arr.size by omega, show i * 8 + 5 < arr.size by omega, show i * 8 + 6 < arr.size by omega, show i * 8 + 7 < arr.size by omega]
  · rw [if_neg h]
    simp only [Array.getElem?_setIfInBounds, Array.size_setIfInBounds]
    repeat rw [if_neg (by omega)]
/-- An item is stored over. -/
theorem row_store (h : HRow w g cap L) (hi : i < L.length) (x : Itm) : ∃ W, W = (((((((w.setCell ⟨g, i * 8, none⟩ (.bool x.s)).setCell ⟨g, i * 8 + 1, none⟩ (.slice x.A x.l x.c)).setCell ⟨g, i * 8 + 2, none⟩ (.bool x.s')).setCell ⟨g, i * 8 + 3, none⟩ (.slice x.A' x.l' x.c')).setCell ⟨g, i * 8 + 4, none⟩ (.int .i64 x.dep)).setCell ⟨g, i * 8 + 5, none⟩ (.int .i64 x.num)).setCell ⟨g, i * 8 + 6, none⟩ (.slice x.F x.fl x.fc)).setCell ⟨g, i * 8 + 7, none⟩ (.int .i64 x.turn) ∧ HRow W g cap (L.set i x) ∧ K64 w W ∧ w.grownBy W (some g) := by
  obtain ⟨arr, h1, h2, h3, h4, h5, h6⟩ := h
  have hs : i * 8 + 8 ≤ arr.size := by omega
  have hb : Bx ((((((((w.setCell ⟨g, i * 8, none⟩ (.bool x.s)).setCell ⟨g, i * 8 + 1, none⟩ (.slice x.A x.l x.c)).setCell ⟨g, i * 8 + 2, none⟩ (.bool x.s')).setCell ⟨g, i * 8 + 3, none⟩ (.slice x.A' x.l' x.c')).setCell ⟨g, i * 8 + 4, none⟩ (.int .i64 x.dep)).setCell ⟨g, i * 8 + 5, none⟩ (.int .i64 x.num)).setCell ⟨g, i * 8 + 6, none⟩ (.slice x.F x.fl x.fc)).setCell ⟨g, i * 8 + 7, none⟩ (.int .i64 x.turn)) g ((((((((arr.setIfInBounds (i * 8) (.bool x.s)).setIfInBounds (i * 8 + 1) (.slice x.A x.l x.c)).setIfInBounds (i * 8 + 2) (.bool x.s')).setIfInBounds (i * 8 + 3) (.slice x.A' x.l' x.c')).setIfInBounds (i * 8 + 4) (.int .i64 x.dep)).setIfInBounds (i * 8 + 5) (.int .i64 x.num)).setIfInBounds (i * 8 + 6) (.slice x.F x.fl x.fc)).setIfInBounds (i * 8 + 7) (.int .i64 x.turn)) 110 := (((((((h1.set _ _).set _ _).set _ _).set _ _).set _ _).set _ _).set _ _).set _ _
  have old : ∀ k, k < 8 → ∃ v, arr[i * 8 + k]? = some v ∧ ∀ n, v ≠ .int .u64 n := fun k hk => by
    have h5 := h4 i hi k
    obtain rfl | rfl | rfl | rfl | rfl | rfl | rfl | rfl : k = 0 ∨ k = 1 ∨ k = 2 ∨ k = 3 ∨ k = 4 ∨ k = 5 ∨ k = 6 ∨ k = 7 := by omega
    all_goals exact ⟨_, h5 _ rfl, fun n e => by cases e⟩
  obtain ⟨u0, v0, n0⟩ := old 0 (by omega)
  obtain ⟨u1, v1, n1⟩ := old 1 (by omega)
  obtain ⟨u2, v2, n2⟩ := old 2 (by omega)
  obtain ⟨u3, v3, n3⟩ := old 3 (by omega)
  obtain ⟨u4, v4, n4⟩ := old 4 (by omega)
  obtain ⟨u5, v5, n5⟩ := old 5 (by omega)
  obtain ⟨u6, v6, n6⟩ := old 6 (by omega)
  obtain ⟨u7, v7, n7⟩ := old 7 (by omega)
  have k0 : K64 (w) (w.setCell ⟨g, i * 8, none⟩ (.bool x.s)) := K64.set (u := u0) (by exact h1.cell _ _ v0) n0 _
  have k1 : K64 (w.setCell ⟨g, i * 8, none⟩ (.bool x.s)) ((w.setCell ⟨g, i * 8, none⟩ (.bool x.s)).setCell ⟨g, i * 8 + 1, none⟩ (.slice x.A x.l x.c)) := K64.set (u := u1) (by rw [World.cell?_setCell_other _ _ _ _ (by simp)]; exact h1.cell _ _ v1) n1 _
  have k2 : K64 ((w.setCell ⟨g, i * 8, none⟩ (.bool x.s)).setCell ⟨g, i * 8 + 1, none⟩ (.slice x.A x.l x.c)) (((w.setCell ⟨g, i * 8, none⟩ (.bool x.s)).setCell ⟨g, i * 8 + 1, none⟩ (.slice x.A x.l x.c)).setCell ⟨g, i * 8 + 2, none⟩ (.bool x.s')) := K64.set (u := u2) (by rw [World.cell?_setCell_other _ _ _ _ (by simp)]; rw [World.cell?_setCell_other _ _ _ _ (by simp)]; exact h1.cell _ _ v2) n2 _
  have k3 : K64 (((w.setCell ⟨g, i * 8, none⟩ (.bool x.s)).setCell ⟨g, i * 8 + 1, none⟩ (.slice x.A x.l x.c)).setCell ⟨g, i * 8 + 2, none⟩ (.bool x.s')) ((((w.setCell ⟨g, i * 8, none⟩ (.bool x.s)).setCell ⟨g, i * 8 + 1, none⟩ (.slice x.A x.l x.c)).setCell ⟨g, i * 8 + 2, none⟩ (.bool x.s')).setCell ⟨g, i * 8 + 3, none⟩ (.slice x.A' x.l' x.c')) := K64.set (u := u3) (by rw [World.cell?_setCell_other _ _ _ _ (by simp)]; rw [World.cell?_setCell_other _ _ _ _ (by simp)]; rw [World.cell?_setCell_other _ _ _ _ (by simp)]; exact h1.cell _ _ v3) n3 _
  have k4 : K64 ((((w.setCell ⟨g, i * 8, none⟩ (.bool x.s)).setCell ⟨g, i * 8 + 1, none⟩ (.slice x.A x.l x.c)).setCell ⟨g, i * 8 + 2, none⟩ (.bool x.s')).setCell ⟨g, i * 8 + 3, none⟩ (.slice x.A' x.l' x.c')) (((((w.setCell ⟨g, i * 8, none⟩ (.bool x.s)).setCell ⟨g, i * 8 + 1, none⟩ (.slice x.A x.l x.c)).setCell ⟨g, i * 8 + 2, none⟩ (.bool x.s')).setCell ⟨g, i * 8 + 3, none⟩ (.slice x.A' x.l' x.c')).setCell ⟨g, i * 8 + 4, none⟩ (.int .i64 x.dep)) := K64.set (u := u4) (by rw [World.cell?_setCell_other _ _ _ _ (by simp)]; rw [World.cell?_setCell_other _ _ _ _ (by simp)]; rw [World.cell?_setCell_other _ _ _ _ (by simp)]; rw [World.cell?_setCell_other _ _ _ _ (by simp)]; exact h1.cell _ _ v4) n4 _
  have k5 : K64 (((((w.setCell ⟨g, i * 8, none⟩ (.bool x.s)).setCell ⟨g, i * 8 + 1, none⟩ (.slice x.A x.l x.c)).setCell ⟨g, i * 8 + 2, none⟩ (.bool x.s')).setCell ⟨g, i * 8 + 3, none⟩ (.slice x.A' x.l' x.c')).setCell ⟨g, i * 8 + 4, none⟩ (.int .i64 x.dep)) ((((((w.setCell ⟨g, i * 8, none⟩ (.bool x.s)).setCell ⟨g, i * 8 + 1, none⟩ (.slice x.A x.l x.c)).setCell ⟨g, i * 8 + 2, none⟩ (.bool x.s')).setCell ⟨g, i * 8 + 3, none⟩ (.slice x.A' x.l' x.c')).setCell ⟨g, i * 8 + 4, none⟩ (.int .i64 x.dep)).setCell ⟨g, i * 8 + 5, none⟩ (.int .i64 x.num)) := K64.set (u := u5) (by rw [World.cell?_setCell_other _ _ _ _ (by simp)]; rw [World.cell?_setCell_other _ _ _ _ (by simp)]; rw [World.cell?_setCell_other _ _ _ _ (by simp)]; rw [World.cell?_setCell_other _ _ _ _ (by simp)]; rw [World.cell?_setCell_other _ _ _ _ (by simp)]; exact h1.cell _ _ v5) n5 _
  have k6 : K64 ((((((w.setCell ⟨g, i * 8, none⟩ (.bool x.s)).setCell ⟨g, i * 8 + 1, none⟩ (.slice x.A x.l x.c)).setCell ⟨g, i * 8 + 2, none⟩ (.bool x.s')).setCell ⟨g, i * 8 + 3, none⟩ (.slice x.A' x.l' x.c')).setCell ⟨g, i * 8 + 4, none⟩ (.int .i64 x.dep)).setCell ⟨g, i * 8 + 5, none⟩ (.int .i64 x.num)) (((((((w.setCell ⟨g, i * 8, none⟩ (.bool x.s)).setCell ⟨g, i * 8 + 1, none⟩ (.slice x.A x.l x.c)).setCell ⟨g, i * 8 + 2, none⟩ (.bool x.s')).setCell ⟨g, i * 8 + 3, none⟩ (.slice x.A' x.l' x.c')).setCell ⟨g, i * 8 + 4, none⟩ (.int .i64 x.dep)).setCell ⟨g, i * 8 + 5, none⟩ (.int .i64 x.num)).setCell ⟨g, i * 8 + 6, none⟩ (.slice x.F x.fl x.fc)) := K64.set (u := u6) (by rw [World.cell?_setCell_other _ _ _ _ (by simp)]; rw [World.cell?_setCell_other _ _ _ _ (by simp)]; rw [World.cell?_setCell_other _ _ _ _ (by simp)]; rw [World.cell?_setCell_other _ _ _ _ (by simp)]; rw [World.cell?_setCell_other _ _ _ _ (by simp)]; rw [World.cell?_setCell_other _ _ _ _ (by simp)]; exact h1.cell _ _ v6) n6 _
  have k7 : K64 (((((((w.setCell ⟨g, i * 8, none⟩ (.bool x.s)).setCell ⟨g, i * 8 + 1, none⟩ (.slice x.A x.l x.c)).setCell ⟨g, i * 8 + 2, none⟩ (.bool x.s')).setCell ⟨g, i * 8 + 3, none⟩ (.slice x.A' x.l' x.c')).setCell ⟨g, i * 8 + 4, none⟩ (.int .i64 x.dep)).setCell ⟨g, i * 8 + 5, none⟩ (.int .i64 x.num)).setCell ⟨g, i * 8 + 6, none⟩ (.slice x.F x.fl x.fc)) ((((((((w.setCell ⟨g, i * 8, none⟩ (.bool x.s)).setCell ⟨g, i * 8 + 1, none⟩ (.slice x.A x.l x.c)).setCell ⟨g, i * 8 + 2, none⟩ (.bool x.s')).setCell ⟨g, i * 8 + 3, none⟩ (.slice x.A' x.l' x.c')).setCell ⟨g, i * 8 + 4, none⟩ (.int .i64 x.dep)).setCell ⟨g, i * 8 + 5, none⟩ (.int .i64 x.num)).setCell ⟨g, i * 8 + 6, none⟩ (.slice x.F x.fl x.fc)).setCell ⟨g, i * 8 + 7, none⟩ (.int .i64 x.turn)) := K64.set (u := u7) (by rw [World.cell?_setCell_other _ _ _ _ (by simp)]; rw [World.cell?_setCell_other _ _ _ _ (by simp)]; rw [World.cell?_setCell_other _ _ _ _ (by simp)]; rw [World.cell?_setCell_other _ _ _ _ (by simp)]; rw [World.cell?_setCell_other _ _ _ _ (by simp)]; rw [World.cell?_setCell_other _ _ _ _ (by simp)]; rw [World.cell?_setCell_other _ _ _ _ (by simp)]; exact h1.cell _ _ v7) n7 _
  refine ⟨_, rfl, ⟨_, hb, by simpa using h2, by simpa using h3, fun k hk j y hy => ?_, (((((((h5.set _ (fun _ e => by cases e)).set _ (fun _ e => by cases e)).set _ (fun _ e => by cases e)).set _ (fun _ e => by cases e)).set _ (fun _ e => by cases e)).set _ (fun _ e => by cases e)).set _ (fun _ e => by cases e)).set _ (fun _ e => by cases e), h6⟩, (((((((k0.trans k1).trans k2).trans k3).trans k4).trans k5).trans k6).trans k7), ?_⟩
  · rw [List.length_set] at hk
    have hj := cs_lt hy
    rw [set8_get arr x i _ hs]
    by_cases e : k = i
    · subst e
      rw [ix_set_eq hi] at hy
      rw [if_pos (by omega), Nat.add_sub_cancel_left]
      exact hy
    · rw [if_neg (by omega)]
      rw [ix_set_ne (Ne.symm e)] at hy
      exact h4 k hk j y hy
  · exact (grown_set (grown_set (grown_set (grown_set (grown_set (grown_set (grown_set (grown_set (grownBy_refl w (some g)) (.inl rfl) _) (.inl rfl) _) (.inl rfl) _) (.inl rfl) _) (.inl rfl) _) (.inl rfl) _) (.inl rfl) _) (.inl rfl) _)
end
theorem set_at {i j : Nat} {L : List Itm} {b : Itm} (h : ix L j = b) (hj : j < L.length) : ix (L.set i b) j = b := by
  by_cases e : i = j
  · subst e; exact ix_set_eq hj
  · rw [ix_set_ne e]; exact h
set_option maxRecDepth 100000 in
set_option maxHeartbeats 4000000 in
theorem swap_q {w : World} {g cap n i j : Nat} {L : List Itm} {a b : Itm} (h : HRow w g cap L) (hn : L.length = n) (hi : i < L.length) (hj : j < L.length) (ha : Hid (ix L i = a)) (hb : Hid (ix L j = b)) :
    Calls Tryz.prog 247 #[.slice (some ⟨g, 0, none⟩) n cap, .int .i64 (i : Int), .int .i64 (j : Int)] w fun e w' => e = .returned (.tuple #[]) ∧ HRow w' g cap (swp L i j) ∧ K64 w w' ∧ w.grownBy w' (some g) := by
  have i1 : (i : Int) < n := by omega
  have j1 : (j : Int) < n := by omega
  have i2 : (0 : Int) ≤ i := by omega
  have j2 : (0 : Int) ≤ j := by omega
  have IT0 := Lib.hid (h.it hi ha.out)
  have IT1 := Lib.hid (h.it hj hb.out)
  have HR := Lib.hid h
  clear h hn
  have hB := Below.refl w.heap.size w
  have Bz := Below.refl w.heap.size w
  have p50_0 := IT0.out.c0
  have p50_1 := IT0.out.at 1 (.slice a.A a.l a.c) rfl
  have p50_2 := IT0.out.at 2 (.bool a.s') rfl
  have p50_3 := IT0.out.at 3 (.slice a.A' a.l' a.c') rfl
  have p50_4 := IT0.out.at 4 (.int .i64 a.dep) rfl
  have p50_5 := IT0.out.at 5 (.int .i64 a.num) rfl
  have p50_6 := IT0.out.at 6 (.slice a.F a.fl a.fc) rfl
  have p50_7 := IT0.out.at 7 (.int .i64 a.turn) rfl
  have f50_0 := HR.out.frozen (i * 8)
  have f50_1 := HR.out.frozen (i * 8 + 1)
  have f50_2 := HR.out.frozen (i * 8 + 2)
  have f50_3 := HR.out.frozen (i * 8 + 3)
  have f50_4 := HR.out.frozen (i * 8 + 4)
  have f50_5 := HR.out.frozen (i * 8 + 5)
  have f50_6 := HR.out.frozen (i * 8 + 6)
  have f50_7 := HR.out.frozen (i * 8 + 7)
  have y50 := HR.out.lt
  have p51_0 := IT1.out.c0
  have p51_1 := IT1.out.at 1 (.slice b.A b.l b.c) rfl
  have p51_2 := IT1.out.at 2 (.bool b.s') rfl
  have p51_3 := IT1.out.at 3 (.slice b.A' b.l' b.c') rfl
  have p51_4 := IT1.out.at 4 (.int .i64 b.dep) rfl
  have p51_5 := IT1.out.at 5 (.int .i64 b.num) rfl
  have p51_6 := IT1.out.at 6 (.slice b.F b.fl b.fc) rfl
  have p51_7 := IT1.out.at 7 (.int .i64 b.turn) rfl
  have f51_0 := HR.out.frozen (j * 8)
  have f51_1 := HR.out.frozen (j * 8 + 1)
  have f51_2 := HR.out.frozen (j * 8 + 2)
  have f51_3 := HR.out.frozen (j * 8 + 3)
  have f51_4 := HR.out.frozen (j * 8 + 4)
  have f51_5 := HR.out.frozen (j * 8 + 5)
  have f51_6 := HR.out.frozen (j * 8 + 6)
  have f51_7 := HR.out.frozen (j * 8 + 7)
  have y51 := HR.out.lt
  go_enter Tryz.func247, Tryz.ntmps247
  go_wp2_with fail
  (try simp only [List.append_eq, List.cons_append, List.nil_append])
  refine wp_region_plan (.pure 0 (.pure 1 (.pure 2 (.pure 3 (.pure 4 (.pure 5 (.pure 6 (.take 7 (.pure 8 (.pure 9 (.pure 10 (.take 11 (.pure 12 (.only 13 (.pure 14 (.only 15 .done)))))))))))))))) [13, 15] (fun w' => w'.cell? ⟨g, i * 8, none⟩ = some (.bool a.s) ∧ w'.cell? ⟨g, i * 8 + 1, none⟩ = some (.slice a.A a.l a.c) ∧ w'.cell? ⟨g, i * 8 + 2, none⟩ = some (.bool a.s') ∧ w'.cell? ⟨g, i * 8 + 3, none⟩ = some (.slice a.A' a.l' a.c') ∧ w'.cell? ⟨g, i * 8 + 4, none⟩ = some (.int .i64 a.dep) ∧ w'.cell? ⟨g, i * 8 + 5, none⟩ = some (.int .i64 a.num) ∧ w'.cell? ⟨g, i * 8 + 6, none⟩ = some (.slice a.F a.fl a.fc) ∧ w'.cell? ⟨g, i * 8 + 7, none⟩ = some (.int .i64 a.turn) ∧ w'.cell? ⟨g, j * 8, none⟩ = some (.bool b.s) ∧ w'.cell? ⟨g, j * 8 + 1, none⟩ = some (.slice b.A b.l b.c) ∧ w'.cell? ⟨g, j * 8 + 2, none⟩ = some (.bool b.s') ∧ w'.cell? ⟨g, j * 8 + 3, none⟩ = some (.slice b.A' b.l' b.c') ∧ w'.cell? ⟨g, j * 8 + 4, none⟩ = some (.int .i64 b.dep) ∧ w'.cell? ⟨g, j * 8 + 5, none⟩ = some (.int .i64 b.num) ∧ w'.cell? ⟨g, j * 8 + 6, none⟩ = some (.slice b.F b.fl b.fc) ∧ w'.cell? ⟨g, j * 8 + 7, none⟩ = some (.int .i64 b.turn)) (by kernel_rfl) (by kernel_rfl) ⟨p50_0, p50_1, p50_2, p50_3, p50_4, p50_5, p50_6, p50_7, p51_0, p51_1, p51_2, p51_3, p51_4, p51_5, p51_6, p51_7⟩ ?_
  refine wpPlan_pure (o := ⟨some 6, _, _, _, _, _⟩) (v := ?_) rfl rfl (fun w' => ?_) ?_
  rotate_left
  · go_simp <;> with_reducible rfl
  try simp only [Act.put, List.setIfInBounds_toArray, List.set_cons_zero, List.set_cons_succ]
  refine wpPlan_pure (o := ⟨some 7, _, _, _, _, _⟩) (v := ?_) rfl rfl (fun w' => ?_) ?_
  rotate_left
  · go_simp <;> with_reducible rfl
  try simp only [Act.put, List.setIfInBounds_toArray, List.set_cons_zero, List.set_cons_succ]
  refine wpPlan_pure (o := ⟨some 8, _, _, _, _, _⟩) (v := ?_) rfl rfl (fun w' => ?_) ?_
  rotate_left
  · go_simp <;> with_reducible rfl
  try simp only [Act.put, List.setIfInBounds_toArray, List.set_cons_zero, List.set_cons_succ]
  refine wpPlan_pure (o := ⟨some 9, _, _, _, _, _⟩) (v := ?_) rfl rfl (fun w' => ?_) ?_
  rotate_left
  · go_simp <;> with_reducible rfl
  try simp only [Act.put, List.setIfInBounds_toArray, List.set_cons_zero, List.set_cons_succ]
  refine wpPlan_pure (o := ⟨some 10, _, _, _, _, _⟩) (v := ?_) rfl rfl (fun w' => ?_) ?_
  rotate_left
  · go_simp <;> with_reducible rfl
  try simp only [Act.put, List.setIfInBounds_toArray, List.set_cons_zero, List.set_cons_succ]
  refine wpPlan_pure (o := ⟨some 11, _, _, _, _, _⟩) (v := ?_) rfl rfl (fun w' => ?_) ?_
  rotate_left
  · go_simp <;> with_reducible rfl
  try simp only [Act.put, List.setIfInBounds_toArray, List.set_cons_zero, List.set_cons_succ]
  refine wpPlan_pure (o := ⟨some 12, _, _, _, _, _⟩) (v := ?_) rfl rfl (fun w' => ?_) ?_
  rotate_left
  · go_simp <;> with_reducible rfl
  try simp only [Act.put, List.setIfInBounds_toArray, List.set_cons_zero, List.set_cons_succ]
  refine wpPlan_take (o := ⟨some 13, _, _, _, _, _⟩) (v := ?_) rfl rfl (fun w' hS => ?_) ?_
  rotate_left
  · obtain ⟨p50_0, p50_1, p50_2, p50_3, p50_4, p50_5, p50_6, p50_7, p51_0, p51_1, p51_2, p51_3, p51_4, p51_5, p51_6, p51_7⟩ := hS; go_simp <;> with_reducible rfl
  try simp only [Act.put, List.setIfInBounds_toArray, List.set_cons_zero, List.set_cons_succ]
  refine wpPlan_pure (o := ⟨some 14, _, _, _, _, _⟩) (v := ?_) rfl rfl (fun w' => ?_) ?_
  rotate_left
  · go_simp <;> with_reducible rfl
  try simp only [Act.put, List.setIfInBounds_toArray, List.set_cons_zero, List.set_cons_succ]
  refine wpPlan_pure (o := ⟨some 15, _, _, _, _, _⟩) (v := ?_) rfl rfl (fun w' => ?_) ?_
  rotate_left
  · go_simp <;> with_reducible rfl
  try simp only [Act.put, List.setIfInBounds_toArray, List.set_cons_zero, List.set_cons_succ]
  refine wpPlan_pure (o := ⟨some 16, _, _, _, _, _⟩) (v := ?_) rfl rfl (fun w' => ?_) ?_
  rotate_left
  · go_simp <;> with_reducible rfl
  try simp only [Act.put, List.setIfInBounds_toArray, List.set_cons_zero, List.set_cons_succ]
  refine wpPlan_take (o := ⟨some 17, _, _, _, _, _⟩) (v := ?_) rfl rfl (fun w' hS => ?_) ?_
  rotate_left
  · obtain ⟨p50_0, p50_1, p50_2, p50_3, p50_4, p50_5, p50_6, p50_7, p51_0, p51_1, p51_2, p51_3, p51_4, p51_5, p51_6, p51_7⟩ := hS; go_simp <;> with_reducible rfl
  try simp only [Act.put, List.setIfInBounds_toArray, List.set_cons_zero, List.set_cons_succ]
  refine wpPlan_pure (o := ⟨some 18, _, _, _, _, _⟩) (v := ?_) rfl rfl (fun w' => ?_) ?_
  rotate_left
  · go_simp <;> with_reducible rfl
  try simp only [Act.put, List.setIfInBounds_toArray, List.set_cons_zero, List.set_cons_succ]
  refine wpPlan_late (o := ⟨none, _, _, _, _, _⟩) rfl rfl (by decide) (fun K hK => ?_)
  go_simp
  refine hK.out _ _ ?_
  try simp only [Act.put, List.setIfInBounds_toArray, List.set_cons_zero, List.set_cons_succ]
  clear hK K
  obtain ⟨V1, hV, hr, kk1, gg1⟩ := row_store HR.out hi b
  rw [← hV]
  clear hV HR IT0
  have HR := Lib.hid hr
  replace IT1 := Lib.hid (hr.it (i := j) (a := b) (by simpa using hj) (set_at hb.out hj))
  clear hr
  have IT0 : Hid (ItAt V1 g i b) := Lib.hid (HR.out.it (i := i) (a := b) (by simpa using hi) (ix_set_eq hi))
  clear p50_0 p50_1 p50_2 p50_3 p50_4 p50_5 p50_6 p50_7 f50_0 f50_1 f50_2 f50_3 f50_4 f50_5 f50_6 f50_7 y50 p51_0 p51_1 p51_2 p51_3 p51_4 p51_5 p51_6 p51_7 f51_0 f51_1 f51_2 f51_3 f51_4 f51_5 f51_6 f51_7 y51
  have p50_0 := IT0.out.c0
  have p50_1 := IT0.out.at 1 (.slice b.A b.l b.c) rfl
  have p50_2 := IT0.out.at 2 (.bool b.s') rfl
  have p50_3 := IT0.out.at 3 (.slice b.A' b.l' b.c') rfl
  have p50_4 := IT0.out.at 4 (.int .i64 b.dep) rfl
  have p50_5 := IT0.out.at 5 (.int .i64 b.num) rfl
  have p50_6 := IT0.out.at 6 (.slice b.F b.fl b.fc) rfl
  have p50_7 := IT0.out.at 7 (.int .i64 b.turn) rfl
  have f50_0 := HR.out.frozen (i * 8)
  have f50_1 := HR.out.frozen (i * 8 + 1)
  have f50_2 := HR.out.frozen (i * 8 + 2)
  have f50_3 := HR.out.frozen (i * 8 + 3)
  have f50_4 := HR.out.frozen (i * 8 + 4)
  have f50_5 := HR.out.frozen (i * 8 + 5)
  have f50_6 := HR.out.frozen (i * 8 + 6)
  have f50_7 := HR.out.frozen (i * 8 + 7)
  have y50 := HR.out.lt
  have p51_0 := IT1.out.c0
  have p51_1 := IT1.out.at 1 (.slice b.A b.l b.c) rfl
  have p51_2 := IT1.out.at 2 (.bool b.s') rfl
  have p51_3 := IT1.out.at 3 (.slice b.A' b.l' b.c') rfl
  have p51_4 := IT1.out.at 4 (.int .i64 b.dep) rfl
  have p51_5 := IT1.out.at 5 (.int .i64 b.num) rfl
  have p51_6 := IT1.out.at 6 (.slice b.F b.fl b.fc) rfl
  have p51_7 := IT1.out.at 7 (.int .i64 b.turn) rfl
  have f51_0 := HR.out.frozen (j * 8)
  have f51_1 := HR.out.frozen (j * 8 + 1)
  have f51_2 := HR.out.frozen (j * 8 + 2)
  have f51_3 := HR.out.frozen (j * 8 + 3)
  have f51_4 := HR.out.frozen (j * 8 + 4)
  have f51_5 := HR.out.frozen (j * 8 + 5)
  have f51_6 := HR.out.frozen (j * 8 + 6)
  have f51_7 := HR.out.frozen (j * 8 + 7)
  have y51 := HR.out.lt
  refine wpPlan_pure (o := ⟨some 19, _, _, _, _, _⟩) (v := ?_) rfl rfl (fun w' => ?_) ?_
  rotate_left
  · go_simp <;> with_reducible rfl
  try simp only [Act.put, List.setIfInBounds_toArray, List.set_cons_zero, List.set_cons_succ]
  refine wpPlan_late (o := ⟨none, _, _, _, _, _⟩) rfl rfl (by decide) (fun K hK => ?_)
  go_simp
  refine hK.out _ _ ?_
  try simp only [Act.put, List.setIfInBounds_toArray, List.set_cons_zero, List.set_cons_succ]
  clear hK K
  obtain ⟨V2, hV, hr, kk2, gg2⟩ := row_store HR.out (i := j) (by simpa using hj) a
  rw [← hV]
  clear hV
  clear p50_0 p50_1 p50_2 p50_3 p50_4 p50_5 p50_6 p50_7 f50_0 f50_1 f50_2 f50_3 f50_4 f50_5 f50_6 f50_7 y50 p51_0 p51_1 p51_2 p51_3 p51_4 p51_5 p51_6 p51_7 f51_0 f51_1 f51_2 f51_3 f51_4 f51_5 f51_6 f51_7 y51
  refine wpPlan_done ?_
  go_wp2_with fail
  go_end0
  refine ⟨rfl, ?_, fun p n hp => (kk1.trans kk2) p n hp, grown_drew (grown_trans gg1 gg2)⟩
  have e : (L.set i b).set j a = swp L i j := by unfold swp; rw [ha.out, hb.out]
  rw [← e]
  exact hr.below (by go_grown)
end Go.Proofs.YtihdaemjabhhkaaGreatDoor
