/-
  Whole numbers: products and sums.
-/
import Derived.Test.YtjlfcnkndndgaaaDoorW2
import Derived.Deep.RegionHeld3
namespace Go.Proofs.YtjlfcnkndndgaaaDoor
open Go.RowKit Tw

theorem cell_off {w : World} {b b' j : Nat} {u v : Value} (h : b ≠ b') : ((w.setCell ⟨b, 0, none⟩ u).setCell ⟨b, 1, none⟩ v).cell? ⟨b', j, none⟩ = w.cell? ⟨b', j, none⟩ := by
  rw [World.cell?_setCell_other _ _ _ _ (by intro e; cases e; exact h rfl), World.cell?_setCell_other _ _ _ _ (by intro e; cases e; exact h rfl)]
/-- Two structs and the place of the result. -/
theorem box2 (w : World) (v0 v1 u0 u1 r0 r1 : Value) : ∃ W, W = ((w.alloc (.cells #[v0, v1] 43)).alloc (.cells #[u0, u1] 43)).alloc (.cells #[r0, r1] 43) ∧ IBox W w.heap.size v0 v1 ∧ IBox W (w.heap.size + 1) u0 u1 ∧ IBox W (w.heap.size + 1 + 1) r0 r1 ∧ Below w.heap.size w W := by
  obtain ⟨W, hW, x0, x1, hB⟩ := box1 w v0 v1 u0 u1
  have hs : W.heap.size = w.heap.size + 1 + 1 := by rw [hW]; simp
  have := IBox.new W r0 r1
  rw [hs] at this
  refine ⟨_, rfl, ?_, ?_, ?_, ?_⟩
  · rw [← hW]; exact x0.below (lit_below _ _)
  · rw [← hW]; exact x1.below (lit_below _ _)
  · rw [← hW]; exact this
  · rw [← hW]; exact below_trans hB (lit_below _ _)
theorem sgn_mul (b b' : Bool) (n n' : Nat) : sgn (b != b') (n * n') = sgn b n * sgn b' n' := by
  unfold sgn
  cases b <;> cases b' <;> simp [Int.mul_neg, Int.neg_mul]

section
variable {w : World} {A A' : Option Addr} {c c' l l' n n' : Nat}
set_option maxHeartbeats 1000000 in
theorem mul_i (b b' : Bool) (h : V w A c l n) (h' : V w A' c' l' n') (hl : l + l' ≤ 800000) :
    Calls Tryd.prog 57 #[.agg #[.bool b, .slice A l c], .agg #[.bool b', .slice A' l' c']] w (TellsI w (sgn b n * sgn b' n') (l + l')) := by
  rw [← sgn_mul]
  obtain ⟨W, hW, x0, x1, x2, hB⟩ := box2 w (.bool b) (.slice A l c) (.bool b') (.slice A' l' c') (.bool false) (.slice none 0 0)
  have HV := Lib.hid (h.below hB)
  have HV' := Lib.hid (h'.below hB)
  have HX := Lib.hid x0
  have HX' := Lib.hid x1
  have HY := Lib.hid x2
  obtain ⟨⟨a1, a2⟩, _, a4⟩ := x0.look
  obtain ⟨⟨a1', a2'⟩, _, a4'⟩ := x1.look
  clear h h' x0 x1 x2
  go_enter Tryd.func57, Tryd.ntmps57
  go_wp2_with fail
  rw [← hW]
  clear hW
  go_region_held3 (fun w' => w'.cell? ⟨w.heap.size, 0, none⟩ = some (.bool b) ∧ w'.cell? ⟨w.heap.size, 1, none⟩ = some (.slice A l c) ∧ w'.cell? ⟨w.heap.size + 1, 0, none⟩ = some (.bool b') ∧ w'.cell? ⟨w.heap.size + 1, 1, none⟩ = some (.slice A' l' c'))
    (first | exact ⟨a1, a2, a1', a2'⟩ | exact ⟨x1, x2, x1', x2'⟩ | exact ⟨s1, s2, s1', s2'⟩ | exact ⟨(cell_off (by omega)).trans s1, (cell_off (by omega)).trans s2, (cell_off (by omega)).trans s1', (cell_off (by omega)).trans s2'⟩ | go_keep)
    (first
      | (go_at_call 17; refine (mul_v (by repeat (first | exact HV.out | apply V.drew)) (by repeat (first | exact HV'.out | apply V.drew)) hl).mono ?_; rintro e w1 ⟨A1, c1, l1, rfl, h1, m1, b1⟩; obtain ⟨⟨x1, x2⟩, x3, x4⟩ := (HX.out.below (below_trans (by go_grown) b1)).look; obtain ⟨⟨x1', x2'⟩, x3', x4'⟩ := (HX'.out.below (below_trans (by go_grown) b1)).look)
      | (go_at_call 84; refine (signed_c (b != b') (sgn (b != b') (n * n')) (by repeat (first | exact h1 | apply C.drew)) rfl).mono ?_; rintro e w2 ⟨rfl, b2⟩; have b3 := below_trans (below_trans (below_trans (a := W) (by go_grown) b1) (by go_grown)) b2; obtain ⟨⟨y1, y2⟩, ⟨y3, y4⟩, y5⟩ := (HY.out.below b3).look; obtain ⟨⟨s1, s2⟩, s3, s4⟩ := (HX.out.below b3).look; obtain ⟨⟨s1', s2'⟩, s3', s4'⟩ := (HX'.out.below b3).look))
  all_goals
    go_wp2_with fail
    (try simp only [Exit.inBlock, Exit.then])
    have q1 : w2.cell? ⟨w.heap.size + 2, 0, none⟩ = some (.bool false) := y1
    have q2 : w2.cell? ⟨w.heap.size + 2, 1, none⟩ = some (.slice none 0 0) := y2
    refine bodyPost_ret (by simp [results, Tryd.results57, go_sem, q1, q2]; try rfl) rfl ?_
    exact ⟨A1, c1, l1, rfl, by rw [sgn_abs]; exact (h1.below (below_trans (by go_grown) b2)).box y1 y2 (fun _ e => by cases e), m1, ((below_trans hB b3).setCell (by simp only []; omega) _).setCell (by simp only []; omega) _⟩
end
end Go.Proofs.YtjlfcnkndndgaaaDoor
