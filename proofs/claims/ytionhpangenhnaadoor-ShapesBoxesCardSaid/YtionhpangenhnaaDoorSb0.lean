/-
  Small networks are as asked; a beginning of a network, in plain Lean.
-/
import Derived.Test.YtionhpangenhnaaDoorSh10
import Derived.Test.YtionhpangenhnaaDoorSr2
namespace Go.Proofs.YtionhpangenhnaaDoor
open Go.RowKit Tw

theorem FrIn.below {w w' : World} {x : Fr} (h : FrIn w x) (hb : Below w.heap.size w w') : FrIn w' x := ⟨h.1, h.2.1, fun m h1 h2 => (h.2.2 m h1 h2).below hb⟩
theorem TmIn.below {w w' : World} {x : Tm} (h : TmIn w x) (hb : Below w.heap.size w w') : TmIn w' x := ⟨h.1.below hb, h.2⟩
theorem VcIn.below {w w' : World} {x : Vc} (h : VcIn w x) (hb : Below w.heap.size w w') : VcIn w' x := ⟨h.1, h.2.1.below hb, fun t ht => (h.2.2 t ht).below hb⟩
theorem GpIn.below {w w' : World} {x : Gp} (h : GpIn w x) (hb : Below w.heap.size w w') : GpIn w' x := ⟨h.1, h.2.1.below hb, h.2.2⟩
theorem LyIn.below {w w' : World} {y : Ly} (h : LyIn w y) (hb : Below w.heap.size w w') : LyIn w' y :=
  ⟨h.rows.below hb, fun v hv => (h.rok v hv).below hb, h.bias.below hb, fun v hv => (h.bok v hv).below hb, h.kern.below hb, fun v hv => (h.kok v hv).below hb, h.groups.below hb, fun v hv => (h.gok v hv).below hb, h.ints, h.kind, h.lens⟩
theorem VcIn.ok {W : World} {v : Vc} {units digits : Int} {m : Nat} (h : VcIn W v) (hs : shortVc units digits v = true) (hd : digits ≤ m) (hu : units ≤ 100000) : VcOk W m v := by
  unfold shortVc at hs
  simp only [Bool.and_eq_true, decide_eq_true_eq, List.all_eq_true] at hs
  refine ⟨h.2.1, fun t ht => ?_, by omega⟩
  have h1 := hs.2 t ht
  unfold shortFr at h1
  simp only [Bool.and_eq_true, decide_eq_true_eq] at h1
  exact (h.2.2 t ht).1.2.2 m (by omega) (by omega)
theorem FrIn.okAll {W : World} {L : List Fr} {n : Nat} {units digits : Int} {m : Nat} (h : ∀ x ∈ L, FrIn W x) (hs : shortFrs units digits n L = true) (hd : digits ≤ m) : ∀ x ∈ L, FrOk W m x := fun x hx => by
  unfold shortFrs at hs
  simp only [Bool.and_eq_true, decide_eq_true_eq, List.all_eq_true] at hs
  have h1 := hs.2 x hx
  unfold shortFr at h1
  simp only [Bool.and_eq_true, decide_eq_true_eq] at h1
  exact (h x hx).2.2 m (by omega) (by omega)
/-- A layer that came in and is small. -/
theorem LyIn.ok {W : World} {y : Ly} {units digits : Int} {m : Nat} (h : LyIn W y) (hs : smallLy units digits y = true) (hd : digits ≤ m) (hu : units ≤ 25000) : LyOk W m y := by
  unfold smallLy at hs
  simp only [Bool.and_eq_true, decide_eq_true_eq] at hs
  obtain ⟨h1, h2, h3, h4, h5, h6, h7, h8, h9⟩ := hs
  have l2 : (y.bn : Int) ≤ units := by unfold shortFrs at h2; simp only [Bool.and_eq_true, decide_eq_true_eq] at h2; exact h2.1
  have l3 : (y.kn : Int) ≤ 4 * units := by unfold shortFrs at h3; simp only [Bool.and_eq_true, decide_eq_true_eq] at h3; exact h3.1
  unfold shortVcs at h1
  simp only [Bool.and_eq_true, decide_eq_true_eq, List.all_eq_true] at h1
  refine ⟨h.rows, fun v hv => (h.rok v hv).ok (h1.2 v hv) hd (by omega), h.bias, FrIn.okAll h.bok h2 hd, h.kern, FrIn.okAll h.kok h3 hd, h.groups, fun v hv => ⟨(h.gok v hv).2.1, ?_⟩, ⟨by omega, by omega, by omega, by omega⟩⟩
  have := List.all_eq_true.1 h9 v hv
  simp only [decide_eq_true_eq] at this
  omega
/-- A network that came in and is small. -/
theorem small_ok {W : World} {L : List Ly} {n m : Nat} {lays units digits : Int} (h : ∀ y ∈ L, LyIn W y) (hs : smallNet lays units digits n L = true) (hd : digits ≤ m) (hu : units ≤ 25000) : (n : Int) ≤ lays ∧ ∀ y ∈ L, LyOk W m y := by
  unfold smallNet at hs
  simp only [Bool.and_eq_true, decide_eq_true_eq, List.all_eq_true] at hs
  exact ⟨hs.1, fun y hy => (h y hy).ok (hs.2 y hy) hd hu⟩
/-- The sizes of a beginning are a beginning. -/
theorem steps_take {L : List Ly} : ∀ {n s : Int} {l : List Int} (k : Nat), stepsF L n s = .ok l → stepsF (L.take k) n s = .ok (l.take (k + 1)) := by
  induction L with
  | nil => intro n s l k h; cases h; simp [stepsF]
  | cons y L ih =>
    intro n s l k h
    rw [steps_cons] at h
    cases k with
    | zero =>
      split at h
      · cases h
      · split at h
        · cases h
        · split at h
          · cases h
          · rename_i u t _ _ _
            cases hs : stepsF L u (s + t) with
            | error e => rw [hs] at h; cases h
            | ok l2 => rw [hs] at h; simp [Except.map] at h; subst h; simp [stepsF]
    | succ k =>
      rw [List.take_succ_cons, steps_cons]
      cases hb : behindF y n with
      | none => rw [hb] at h; cases h
      | some p =>
        obtain ⟨u, t⟩ := p
        rw [hb] at h
        simp only at h ⊢
        by_cases h1 : 256 < u
        · rw [if_pos h1] at h; cases h
        · rw [if_neg h1] at h ⊢
          by_cases h2 : 16384 < s + t
          · rw [if_pos h2] at h; cases h
          · rw [if_neg h2] at h ⊢
            cases hs : stepsF L u (s + t) with
            | error e => rw [hs] at h; cases h
            | ok l2 => rw [hs] at h; simp [Except.map] at h; subst h; rw [ih k hs]; rfl
theorem sizes_take {L : List Ly} {inp : Int} {l : List Int} (k : Nat) (h : sizesF inp L = .ok l) : sizesF inp (L.take k) = .ok (l.take (k + 1)) := by
  have h1 := sizes_steps h
  have hl : (L.take k).length ≤ 16 := Nat.le_trans (List.length_take_le' _ _) h1.2.2.1
  unfold sizesF
  rw [if_neg (by omega), if_neg (by omega), if_neg (by omega)]
  exact steps_take k h1.2.2.2
/-- All sizes are from 1 to 256. -/
theorem steps_rng {w : World} {m : Nat} {L : List Ly} (hok : ∀ y ∈ L, LyOk w m y) : ∀ {n s : Int} {l : List Int}, 1 ≤ n → n ≤ 256 → stepsF L n s = .ok l → ∀ x ∈ l, 1 ≤ x ∧ x ≤ 256 := by
  induction L with
  | nil => intro n s l h1 h2 h x hx; cases h; obtain rfl := List.mem_singleton.1 hx; exact ⟨h1, h2⟩
  | cons y L ih =>
    intro n s l h1 h2 h x hx
    rw [steps_cons] at h
    cases hb : behindF y n with
    | none => rw [hb] at h; cases h
    | some p =>
      obtain ⟨u, t⟩ := p
      have hbd := behind_bd (hok y List.mem_cons_self) h1 h2 hb
      rw [hb] at h
      simp only at h
      by_cases h3 : 256 < u
      · rw [if_pos h3] at h; cases h
      · rw [if_neg h3] at h
        by_cases h4 : 16384 < s + t
        · rw [if_pos h4] at h; cases h
        · rw [if_neg h4] at h
          cases hs : stepsF L u (s + t) with
          | error e => rw [hs] at h; cases h
          | ok l2 =>
            rw [hs] at h
            simp [Except.map] at h
            subst h
            rcases List.mem_cons.1 hx with rfl | hx
            · exact ⟨h1, h2⟩
            · exact ih (fun y hy => hok y (List.mem_cons_of_mem _ hy)) hbd.1 (by omega) hs x hx
end Go.Proofs.YtionhpangenhnaaDoor
