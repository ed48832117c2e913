/-
  Whole numbers: what is handed in counts z; what is told is the one form.
-/
import Derived.Test.YtjlfcnkndndgaaaDoorV
import Derived.Handy
namespace Go.Proofs.YtjlfcnkndndgaaaDoor
open Go.RowKit Tw

/-- The number of a sign and a size. -/
def sgn (b : Bool) (n : Nat) : Int := if b then -(n : Int) else n
theorem sgn_abs (b : Bool) (n : Nat) : (sgn b n).natAbs = n := by unfold sgn; split <;> omega
theorem sgn_neg (b : Bool) (n : Nat) : decide (sgn b n < 0) = (b && decide (n ≠ 0)) := by
  unfold sgn
  cases b
  · simp
  · rw [Bool.eq_iff_iff]; simp; omega

/-- A whole number told: its one form, of at most m digits, in new memory. -/
def TellsI (w : World) (z : Int) (m : Nat) (e : Ending) (w' : World) : Prop :=
  ∃ A c l, e = .returned (.agg #[.bool (decide (z < 0)), .slice A l c]) ∧ C w' A c l z.natAbs ∧ l ≤ m ∧ Below w.heap.size w w'

theorem signed_at (b : Bool) (A : Option Addr) (l c : Nat) (w : World) :
    Calls Tryd.prog 84 #[.bool b, .slice A l c] w fun e w' => e = .returned (.agg #[.bool (b && decide (0 < l)), .slice A l c]) ∧ Below w.heap.size w w' := by
  cases b
  · go_enter Tryd.func84, Tryd.ntmps84
    go_wp2_with fail
    go_returns
    exact ⟨by simp, by go_grown⟩
  · by_cases h : 0 < l
    · have p1 : decide ((0 : Int) < (l : Int)) = true := by simp; omega
      go_enter Tryd.func84, Tryd.ntmps84
      go_wp2_with fail
      go_returns
      exact ⟨by simp [h], by go_grown⟩
    · have p1 : decide ((0 : Int) < (l : Int)) = false := by simp; omega
      go_enter Tryd.func84, Tryd.ntmps84
      go_wp2_with fail
      go_returns
      exact ⟨by simp [h], by go_grown⟩
theorem signed_c {w : World} {A : Option Addr} {c l n : Nat} (b : Bool) (z : Int) (h : C w A c l n) (hz : sgn b n = z) :
    Calls Tryd.prog 84 #[.bool b, .slice A l c] w fun e w' => e = .returned (.agg #[.bool (decide (z < 0)), .slice A l c]) ∧ Below w.heap.size w w' := by
  refine (signed_at b A l c w).mono fun e w' ⟨he, hb⟩ => ⟨?_, hb⟩
  rw [he, ← hz, sgn_neg, ← h.2]
  have : decide (0 < nl n) = decide (n ≠ 0) := by
    have := @nl_eq_zero n
    rw [Bool.eq_iff_iff]; simp; omega
  rw [this]

/-- A block that holds a sign and a size. -/
def IBox (w : World) (b : Nat) (v0 v1 : Value) : Prop := w.heap[b]? = some (.cells #[v0, v1] 43)
theorem IBox.lt {w : World} {b : Nat} {v0 v1 : Value} (h : IBox w b v0 v1) : b < w.heap.size := by
  rcases Nat.lt_or_ge b w.heap.size with h1 | h1
  · exact h1
  · unfold IBox at h; rw [Array.getElem?_eq_none (by omega)] at h; cases h
theorem IBox.below {w w' : World} {b : Nat} {v0 v1 : Value} (h : IBox w b v0 v1) (hb : Below w.heap.size w w') : IBox w' b v0 v1 := (hb.block b h.lt).trans h
theorem IBox.drew {w : World} {b : Nat} {v0 v1 : Value} (h : IBox w b v0 v1) : IBox w.drew b v0 v1 := h
theorem IBox.look {w : World} {b : Nat} {v0 v1 : Value} (h : IBox w b v0 v1) :
    (w.cell? ⟨b, 0, none⟩ = some v0 ∧ w.cell? ⟨b, 1, none⟩ = some v1) ∧ (w.frozen? ⟨b, 0, none⟩ = false ∧ w.frozen? ⟨b, 1, none⟩ = false) ∧ b < w.heap.size := by
  have hl := h.lt
  unfold IBox at h
  refine ⟨⟨?_, ?_⟩, ⟨?_, ?_⟩, hl⟩ <;> simp [World.cell?, World.frozen?, h]
theorem IBox.new (w : World) (v0 v1 : Value) : IBox (w.alloc (.cells #[v0, v1] 43)) w.heap.size v0 v1 := heap_alloc_new _ _
theorem V.drew {w : World} {A : Option Addr} {c l n : Nat} (h : V w A c l n) : V w.drew A c l n := h.below (Below.drew (Below.refl _ _))
theorem C.drew {w : World} {A : Option Addr} {c l n : Nat} (h : C w A c l n) : C w.drew A c l n := h.below (Below.drew (Below.refl _ _))
theorem C.set {w : World} {A : Option Addr} {c l n : Nat} {p : Addr} {u : Value} (h : C w A c l n) (x : w.cell? p = some u) (hu : ∀ m, u ≠ .int .u64 m) (v : Value) : C (w.setCell p v) A c l n := by
  refine ⟨⟨h.1.ok, h.1.le, fun hp => ?_⟩, h.2⟩
  obtain ⟨b, off, e, hc⟩ := h.1.cells hp
  refine ⟨b, off, e, fun k hk => ?_⟩
  have h1 := hc k hk
  rw [World.cell?_setCell_other]
  · exact h1
  · intro e
    rw [← e, x] at h1
    exact hu _ (Option.some.inj h1)
theorem C.box {w : World} {A : Option Addr} {c l n b : Nat} {s : Bool} {v' u v : Value} (h : C w A c l n) (x : w.cell? ⟨b, 0, none⟩ = some (.bool s)) (y : w.cell? ⟨b, 1, none⟩ = some v') (hv : ∀ m, v' ≠ .int .u64 m) :
    C ((w.setCell ⟨b, 0, none⟩ u).setCell ⟨b, 1, none⟩ v) A c l n :=
  (h.set x (fun m e => by cases e) u).set ((World.cell?_setCell_other _ _ _ _ (by intro e; cases e)).trans y) hv v
/-- One struct and the place of the result. -/
theorem box1 (w : World) (v0 v1 u0 u1 : Value) : ∃ W, W = (w.alloc (.cells #[v0, v1] 43)).alloc (.cells #[u0, u1] 43) ∧ IBox W w.heap.size v0 v1 ∧ IBox W (w.heap.size + 1) u0 u1 ∧ Below w.heap.size w W := by
  refine ⟨_, rfl, (IBox.new _ _ _).below (lit_below _ _), ?_, by go_grown⟩
  have := IBox.new (w.alloc (.cells #[v0, v1] 43)) u0 u1
  simpa using this

section
variable {w : World} {A A' : Option Addr} {c c' l l' n n' : Nat}
theorem norm_v (b : Bool) (h : V w A c l n) (hl : l ≤ 800000) :
    Calls Tryd.prog 42 #[.agg #[.bool b, .slice A l c]] w (TellsI w (sgn b n) l) := by
  obtain ⟨W, hW, x0, x1, hB⟩ := box1 w (.bool b) (.slice A l c) (.bool false) (.slice none 0 0)
  have HV := Lib.hid (h.below hB)
  have HX := Lib.hid x0
  have HY := Lib.hid x1
  obtain ⟨⟨a1, a2⟩, _, a4⟩ := x0.look
  clear h x0 x1
  go_enter Tryd.func42, Tryd.ntmps42
  go_wp2_with fail
  rw [← hW]
  clear hW
  go_region_with ((first
    | (go_at_call 15; refine (trim_v (by repeat (first | exact HV.out | apply V.drew)) hl).mono ?_; rintro e w1 ⟨A1, c1, l1, rfl, h1, m1, b1⟩; obtain ⟨⟨x1, x2⟩, x3, x4⟩ := (HX.out.below (below_trans (by go_grown) b1)).look)
    | (go_at_call 84; refine (signed_c b (sgn b n) (by repeat (first | exact h1 | apply C.drew)) rfl).mono ?_; rintro e w2 ⟨rfl, b2⟩; have b3 := below_trans (below_trans (below_trans (a := W) (by go_grown) b1) (by go_grown)) b2; obtain ⟨⟨y1, y2⟩, ⟨y3, y4⟩, y5⟩ := (HY.out.below b3).look)))
  all_goals
    go_wp2_with fail
    (try simp only [Exit.inBlock, Exit.then])
    refine bodyPost_ret (by simp [results, Tryd.results42, go_sem, y1, y2]; try rfl) rfl ?_
    exact ⟨A1, c1, l1, rfl, by rw [sgn_abs]; exact (h1.below (below_trans (by go_grown) b2)).box y1 y2 (fun _ e => by cases e), m1, ((below_trans hB b3).setCell (by simp) _).setCell (by simp) _⟩
theorem neg_v (b : Bool) (h : V w A c l n) (hl : l ≤ 800000) :
    Calls Tryd.prog 39 #[.agg #[.bool b, .slice A l c]] w (TellsI w (sgn (!b) n) l) := by
  obtain ⟨W, hW, x0, x1, hB⟩ := box1 w (.bool b) (.slice A l c) (.bool false) (.slice none 0 0)
  have HV := Lib.hid (h.below hB)
  have HX := Lib.hid x0
  have HY := Lib.hid x1
  obtain ⟨⟨a1, a2⟩, _, a4⟩ := x0.look
  clear h x0 x1
  go_enter Tryd.func39, Tryd.ntmps39
  go_wp2_with fail
  rw [← hW]
  clear hW
  go_region_with ((first
    | (go_at_call 15; refine (trim_v (by repeat (first | exact HV.out | apply V.drew)) hl).mono ?_; rintro e w1 ⟨A1, c1, l1, rfl, h1, m1, b1⟩; obtain ⟨⟨x1, x2⟩, x3, x4⟩ := (HX.out.below (below_trans (by go_grown) b1)).look)
    | (go_at_call 84; refine (signed_c (!b) (sgn (!b) n) (by repeat (first | exact h1 | apply C.drew)) rfl).mono ?_; rintro e w2 ⟨rfl, b2⟩; have b3 := below_trans (below_trans (below_trans (a := W) (by go_grown) b1) (by go_grown)) b2; obtain ⟨⟨y1, y2⟩, ⟨y3, y4⟩, y5⟩ := (HY.out.below b3).look)))
  all_goals
    go_wp2_with fail
    (try simp only [Exit.inBlock, Exit.then])
    refine bodyPost_ret (by simp [results, Tryd.results39, go_sem, y1, y2]; try rfl) rfl ?_
    exact ⟨A1, c1, l1, rfl, by rw [sgn_abs]; exact (h1.below (below_trans (by go_grown) b2)).box y1 y2 (fun _ e => by cases e), m1, ((below_trans hB b3).setCell (by simp) _).setCell (by simp) _⟩
theorem abs_v (b : Bool) (h : V w A c l n) (hl : l ≤ 800000) :
    Calls Tryd.prog 47 #[.agg #[.bool b, .slice A l c]] w (TellsI w (n : Int) l) := by
  obtain ⟨W, hW, x0, x1, hB⟩ := box1 w (.bool b) (.slice A l c) (.bool false) (.slice none 0 0)
  have HV := Lib.hid (h.below hB)
  have HY := Lib.hid x1
  obtain ⟨⟨a1, a2⟩, _, a4⟩ := x0.look
  clear h x0 x1
  go_enter Tryd.func47, Tryd.ntmps47
  go_wp2_with fail
  rw [← hW]
  clear hW
  refine (trim_v HV.out hl).mono ?_
  rintro e w1 ⟨A1, c1, l1, rfl, h1, m1, b1⟩
  go_wp2_with fail
  refine (signed_c false (n : Int) h1 rfl).mono ?_
  rintro e w2 ⟨rfl, b2⟩
  have b3 := below_trans b1 b2
  obtain ⟨⟨y1, y2⟩, ⟨y3, y4⟩, y5⟩ := (HY.out.below b3).look
  go_wp2_with fail
  (try simp only [Exit.inBlock, Exit.then])
  refine bodyPost_ret (by simp [results, Tryd.results47, go_sem, y1, y2]; try rfl) rfl ?_
  exact ⟨A1, c1, l1, rfl, (h1.below b2).box y1 y2 (fun _ e => by cases e), m1, ((below_trans hB b3).setCell (by simp) _).setCell (by simp) _⟩
end
end Go.Proofs.YtjlfcnkndndgaaaDoor
