/-
  Whole numbers: sums.
-/
import Derived.Test.YtjlfcnkndndgaaaDoorW3
namespace Go.Proofs.YtjlfcnkndndgaaaDoor
open Go.RowKit Tw

section
variable {w : World} {A A' : Option Addr} {c c' l l' n n' : Nat}
theorem below_v (b : Bool) (h : V w A c l n) (hl : l ≤ 800000) (t : Bool) (ht : decide (sgn b n < 0) = t) :
    Calls Tryd.prog 86 #[.agg #[.bool b, .slice A l c]] w fun e w' => e = .returned (.bool t) ∧ Below w.heap.size w w' :=
  (below_x b h hl t ht).mono fun e w' ⟨he, hw⟩ => ⟨he, by rw [hw]; exact below_trans (lit_below _ _) (lit_below _ _)⟩

set_option maxRecDepth 100000 in
set_option maxHeartbeats 4000000 in
/-- Both below 0, or neither. -/
theorem add_same (b b' t : Bool) (h : V w A c l n) (h' : V w A' c' l' n') (hl : l + l' ≤ 800000) (ht : Hid (decide (sgn b n < 0) = t)) (ht' : Hid (decide (sgn b' n' < 0) = t)) :
    Calls Tryd.prog 53 #[.agg #[.bool b, .slice A l c], .agg #[.bool b', .slice A' l' c']] w (TellsI w (sgn t (n + n')) (max l l' + 1)) := by
  obtain ⟨W, hW, x0, x1, x2, hB⟩ := box2 w (.bool b) (.slice A l c) (.bool b') (.slice A' l' c') (.bool false) (.slice none 0 0)
  have HV := Lib.hid (h.below hB)
  have HV' := Lib.hid (h'.below hB)
  have HX := Lib.hid x0
  have HX' := Lib.hid x1
  have HY := Lib.hid x2
  obtain ⟨⟨a1, a2⟩, _, a4⟩ := x0.look
  obtain ⟨⟨a1', a2'⟩, _, a4'⟩ := x1.look
  have Bz := Below.refl W.heap.size W
  have p1 : (t == t) = true := by simp
  clear h h' x0 x1 x2
  go_enter Tryd.func53, Tryd.ntmps53
  go_wp2_with fail
  rw [← hW]
  clear hW
  go_region_held3 (fun w' => w'.cell? ⟨w.heap.size, 0, none⟩ = some (.bool b) ∧ w'.cell? ⟨w.heap.size, 1, none⟩ = some (.slice A l c) ∧ w'.cell? ⟨w.heap.size + 1, 0, none⟩ = some (.bool b') ∧ w'.cell? ⟨w.heap.size + 1, 1, none⟩ = some (.slice A' l' c'))
    (first | exact ⟨a1, a2, a1', a2'⟩ | go_keep)
    (first
      | (go_at_call 86; refine (below_v b (HV.out.below (below_trans Bz (by go_grown))) (by omega) t ht.out).mono ?_; rintro e wz ⟨rfl, bz⟩; have Bz := below_trans (below_trans Bz (by go_grown)) bz; obtain ⟨⟨a1, a2⟩, a3, a4⟩ := (HX.out.below Bz).look; obtain ⟨⟨a1', a2'⟩, a3', a4'⟩ := (HX'.out.below Bz).look)
      | (go_at_call 86; refine (below_v b' (HV'.out.below (below_trans Bz (by go_grown))) (by omega) t ht'.out).mono ?_; rintro e wz ⟨rfl, bz⟩; have Bz := below_trans (below_trans Bz (by go_grown)) bz; obtain ⟨⟨a1, a2⟩, a3, a4⟩ := (HX.out.below Bz).look; obtain ⟨⟨a1', a2'⟩, a3', a4'⟩ := (HX'.out.below Bz).look))
  all_goals
    go_wp2_with fail
    go_region_held3 (fun w' => w'.cell? ⟨w.heap.size, 0, none⟩ = some (.bool b) ∧ w'.cell? ⟨w.heap.size, 1, none⟩ = some (.slice A l c) ∧ w'.cell? ⟨w.heap.size + 1, 0, none⟩ = some (.bool b') ∧ w'.cell? ⟨w.heap.size + 1, 1, none⟩ = some (.slice A' l' c'))
      (first | exact ⟨a1, a2, a1', a2'⟩ | exact ⟨(cell_off (by omega)).trans a1, (cell_off (by omega)).trans a2, (cell_off (by omega)).trans a1', (cell_off (by omega)).trans a2'⟩ | go_keep)
      (first
        | (go_at_call 86; refine (below_v b (HV.out.below (below_trans Bz (by go_grown))) (by omega) t ht.out).mono ?_; rintro e wz ⟨rfl, bz⟩; have Bz := below_trans (below_trans Bz (by go_grown)) bz; obtain ⟨⟨a1, a2⟩, a3, a4⟩ := (HX.out.below Bz).look; obtain ⟨⟨a1', a2'⟩, a3', a4'⟩ := (HX'.out.below Bz).look)
        | (go_at_call 18; refine (add_v (HV.out.below (below_trans Bz (by go_grown))) (HV'.out.below (below_trans Bz (by go_grown))) hl).mono ?_; rintro e w1 ⟨A1, c1, l1, rfl, h1, m1, b1⟩; have Bz := below_trans (below_trans Bz (by go_grown)) b1; obtain ⟨⟨a1, a2⟩, a3, a4⟩ := (HX.out.below Bz).look; obtain ⟨⟨a1', a2'⟩, a3', a4'⟩ := (HX'.out.below Bz).look)
        | (go_at_call 84; refine (signed_c t (sgn t (n + n')) (by first | exact h1 | exact h1.drew | exact h1.below bz | exact h1.below (below_trans (by go_grown) bz)) rfl).mono ?_; rintro e w2 ⟨rfl, b2⟩; have h2 : C w2 A1 c1 l1 (n + n') := (by first | exact h1.below b2 | exact h1.below (below_trans bz b2) | exact h1.below (below_trans (by go_grown) b2) | exact h1.below (below_trans (below_trans (by go_grown) bz) b2) | exact h1.below (below_trans (below_trans (below_trans (by go_grown) bz) (by go_grown)) b2)); have Bz := below_trans (below_trans Bz (by go_grown)) b2; obtain ⟨⟨a1, a2⟩, a3, a4⟩ := (HX.out.below Bz).look; obtain ⟨⟨a1', a2'⟩, a3', a4'⟩ := (HX'.out.below Bz).look; obtain ⟨⟨y1, y2⟩, ⟨y3, y4⟩, y5⟩ := (HY.out.below Bz).look))
  all_goals
    go_wp2_with fail
    (try simp only [Exit.inBlock, Exit.then])
    have q1 : w2.cell? ⟨w.heap.size + 2, 0, none⟩ = some (.bool false) := y1
    have q2 : w2.cell? ⟨w.heap.size + 2, 1, none⟩ = some (.slice none 0 0) := y2
    refine bodyPost_ret (by simp [results, Tryd.results53, go_sem, q1, q2]; try rfl) rfl ?_
    exact ⟨A1, c1, l1, rfl, by rw [sgn_abs]; exact h2.box y1 y2 (fun _ e => by cases e), m1, ((below_trans hB Bz).setCell (by simp only []; omega) _).setCell (by simp only []; omega) _⟩
end
end Go.Proofs.YtjlfcnkndndgaaaDoor
