/-
  Whole numbers: sums of two signs.
-/
import Derived.Test.YtjlfcnkndndgaaaDoorW4
namespace Go.Proofs.YtjlfcnkndndgaaaDoor
open Go.RowKit Tw

section
variable {w : World} {A A' : Option Addr} {c c' l l' n n' : Nat}
set_option maxRecDepth 100000 in
set_option maxHeartbeats 8000000 in
theorem add_keep (b b' t : Bool) (h : V w A c l n) (h' : V w A' c' l' n') (hl : l + l' ≤ 800000) (ht : Hid (decide (sgn b n < 0) = t)) (ht' : Hid (decide (sgn b' n' < 0) = !t)) (z : Int) (hz : Hid (cmpI (n : Int) (n' : Int) = z)) (p2 : decide (z < 0) = false) :
    Calls Tryd.prog 53 #[.agg #[.bool b, .slice A l c], .agg #[.bool b', .slice A' l' c']] w (TellsI w (sgn t (n - n')) l) := by
  have p1 : (t == !t) = false := by cases t <;> rfl
  obtain ⟨W, hW, x0, x1, x2, hB⟩ := box2 w (.bool b) (.slice A l c) (.bool b') (.slice A' l' c') (.bool false) (.slice none 0 0)
  have HV := Lib.hid (h.below hB)
  have HV' := Lib.hid (h'.below hB)
  have HX := Lib.hid x0
  have HX' := Lib.hid x1
  have HY := Lib.hid x2
  obtain ⟨⟨a1, a2⟩, ⟨a3, a3b⟩, a4⟩ := x0.look
  obtain ⟨⟨a1', a2'⟩, ⟨a3', a3b'⟩, a4'⟩ := x1.look
  have Bz := Below.refl W.heap.size W
  clear h h' x0 x1 x2
  go_enter Tryd.func53, Tryd.ntmps53
  go_wp2_with fail
  rw [← hW]
  clear hW
  go_region_held3 (fun w' => w'.cell? ⟨w.heap.size, 0, none⟩ = some (.bool b) ∧ w'.cell? ⟨w.heap.size, 1, none⟩ = some (.slice A l c) ∧ w'.cell? ⟨w.heap.size + 1, 0, none⟩ = some (.bool b') ∧ w'.cell? ⟨w.heap.size + 1, 1, none⟩ = some (.slice A' l' c'))
    (first | exact ⟨a1, a2, a1', a2'⟩ | go_keep)
    (first
      | (go_at_call 86; refine (below_v b (HV.out.below (below_trans Bz (by go_grown))) (by omega) t ht.out).mono ?_; rintro e wz ⟨rfl, bz⟩; have Bz := below_trans (below_trans Bz (by go_grown)) bz; obtain ⟨⟨a1, a2⟩, ⟨a3, a3b⟩, a4⟩ := (HX.out.below Bz).look; obtain ⟨⟨a1', a2'⟩, ⟨a3', a3b'⟩, a4'⟩ := (HX'.out.below Bz).look)
      | (go_at_call 86; refine (below_v b' (HV'.out.below (below_trans Bz (by go_grown))) (by omega) (!t) ht'.out).mono ?_; rintro e wz ⟨rfl, bz⟩; have Bz := below_trans (below_trans Bz (by go_grown)) bz; obtain ⟨⟨a1, a2⟩, ⟨a3, a3b⟩, a4⟩ := (HX.out.below Bz).look; obtain ⟨⟨a1', a2'⟩, ⟨a3', a3b'⟩, a4'⟩ := (HX'.out.below Bz).look))
  all_goals
    go_wp2_with fail
    refine (cmp_v z (HV.out.below (below_trans Bz (by go_grown))) (HV'.out.below (below_trans Bz (by go_grown))) hl hz.out).mono ?_
    rintro e wz ⟨rfl, bz⟩
    have Bz := below_trans (below_trans Bz (by go_grown)) bz
    obtain ⟨⟨a1, a2⟩, ⟨a3, a3b⟩, a4⟩ := (HX.out.below Bz).look
    obtain ⟨⟨a1', a2'⟩, ⟨a3', a3b'⟩, a4'⟩ := (HX'.out.below Bz).look
    go_wp2_with fail
    go_region_held3 (fun w' => w'.cell? ⟨w.heap.size, 0, none⟩ = some (.bool b) ∧ w'.cell? ⟨w.heap.size, 1, none⟩ = some (.slice A l c) ∧ w'.cell? ⟨w.heap.size + 1, 0, none⟩ = some (.bool b') ∧ w'.cell? ⟨w.heap.size + 1, 1, none⟩ = some (.slice A' l' c'))
      (first | exact ⟨a1, a2, a1', a2'⟩ | exact ⟨(cell_off (by omega)).trans a1, (cell_off (by omega)).trans a2, (cell_off (by omega)).trans a1', (cell_off (by omega)).trans a2'⟩ | go_keep)
      (first
        | (go_at_call 86; refine (below_v b (HV.out.below (below_trans Bz (by go_grown))) (by omega) t ht.out).mono ?_; rintro e wz ⟨rfl, bz⟩; have Bz := below_trans (below_trans Bz (by go_grown)) bz; obtain ⟨⟨a1, a2⟩, ⟨a3, a3b⟩, a4⟩ := (HX.out.below Bz).look; obtain ⟨⟨a1', a2'⟩, ⟨a3', a3b'⟩, a4'⟩ := (HX'.out.below Bz).look)
        | (go_at_call 19; refine (sub_v (HV.out.below (below_trans Bz (by go_grown))) (HV'.out.below (below_trans Bz (by go_grown))) (by omega)).mono ?_; rintro e w1 ⟨A1, c1, l1, rfl, h1, m1, b1⟩; have Bz := below_trans (below_trans Bz (by go_grown)) b1; obtain ⟨⟨a1, a2⟩, ⟨a3, a3b⟩, a4⟩ := (HX.out.below Bz).look; obtain ⟨⟨a1', a2'⟩, ⟨a3', a3b'⟩, a4'⟩ := (HX'.out.below Bz).look)
        | (go_at_call 84; refine (signed_c t (sgn t (n - n')) (by first | exact h1 | exact h1.drew | exact h1.below bz | exact h1.below (below_trans (by go_grown) bz)) rfl).mono ?_; rintro e w2 ⟨rfl, b2⟩; have h2 : C w2 A1 c1 l1 (n - n') := (by first | exact h1.below b2 | exact h1.below (below_trans bz b2) | exact h1.below (below_trans (by go_grown) b2) | exact h1.below (below_trans (below_trans (by go_grown) bz) b2) | exact h1.below (below_trans (below_trans (below_trans (by go_grown) bz) (by go_grown)) b2)); have Bz := below_trans (below_trans Bz (by go_grown)) b2; obtain ⟨⟨a1, a2⟩, ⟨a3, a3b⟩, a4⟩ := (HX.out.below Bz).look; obtain ⟨⟨a1', a2'⟩, ⟨a3', a3b'⟩, a4'⟩ := (HX'.out.below Bz).look; obtain ⟨⟨y1, y2⟩, ⟨y3, y4⟩, y5⟩ := (HY.out.below Bz).look))
  all_goals
    go_wp2_with fail
    (try simp only [Exit.inBlock, Exit.then])
    have q1 : w2.cell? ⟨w.heap.size + 2, 0, none⟩ = some (.bool false) := y1
    have q2 : w2.cell? ⟨w.heap.size + 2, 1, none⟩ = some (.slice none 0 0) := y2
    refine bodyPost_ret (by simp [results, Tryd.results53, go_sem, q1, q2]; try rfl) rfl ?_
    exact ⟨A1, c1, l1, rfl, by rw [sgn_abs]; exact h2.box y1 y2 (fun _ e => by cases e), m1, ((below_trans hB Bz).setCell (by simp only []; omega) _).setCell (by simp only []; omega) _⟩
end
end Go.Proofs.YtjlfcnkndndgaaaDoor
