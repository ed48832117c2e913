/-
  Whole numbers: sums of two signs, the greater one second; Add and Sub as a whole. Written by wip/gen/addswap.py.
-/
import Derived.Test.YtjlfcnkndndgaaaDoorW5
namespace Go.Proofs.YtjlfcnkndndgaaaDoor
open Go.RowKit Tw

theorem V.set {w : World} {A : Option Addr} {c l n : Nat} {p : Addr} {u : Value} (h : V w A c l n) (x : w.cell? p = some u) (hu : ∀ m, u ≠ .int .u64 m) (v : Value) : V (w.setCell p v) A c l n := by
  obtain ⟨xs, h1, h2, h3⟩ := h
  refine ⟨xs, ⟨h1.ok, h1.le, fun hp => ?_⟩, h2, h3⟩
  obtain ⟨b, off, e, hc⟩ := h1.cells hp
  refine ⟨b, off, e, fun k hk => ?_⟩
  have h4 := hc k hk
  rw [World.cell?_setCell_other]
  · exact h4
  · intro e
    rw [← e, x] at h4
    exact hu _ (Option.some.inj h4)
theorem V.box {w : World} {A : Option Addr} {c l n b : Nat} {s : Bool} {B' : Option Addr} {m k : Nat} {u v : Value} (h : V w A c l n) (x : IBox w b (.bool s) (.slice B' m k)) :
    V ((w.setCell ⟨b, 0, none⟩ u).setCell ⟨b, 1, none⟩ v) A c l n :=
  (h.set x.look.1.1 (fun m e => by cases e) u).set ((World.cell?_setCell_other _ _ _ _ (by intro e; cases e)).trans x.look.1.2) (fun _ e => by cases e) v
theorem IBox.set {w : World} {b : Nat} {v0 v1 u v : Value} (h : IBox w b v0 v1) : IBox ((w.setCell ⟨b, 0, none⟩ u).setCell ⟨b, 1, none⟩ v) b u v := by
  unfold IBox at h ⊢
  have h1 := heap_setCell_same w b 0 _ _ u h
  have h2 := heap_setCell_same _ b 1 _ _ v h1
  rw [h2]
  rfl
theorem IBox.other {w : World} {b b' : Nat} {v0 v1 u v : Value} (h : IBox w b v0 v1) (hne : b' ≠ b) : IBox ((w.setCell ⟨b', 0, none⟩ u).setCell ⟨b', 1, none⟩ v) b v0 v1 := by
  unfold IBox at h ⊢
  have := Below.heap_setCell (w.setCell ⟨b', 0, none⟩ u) ⟨b', 1, none⟩ v b (by simpa using Ne.symm hne)
  have h2 := Below.heap_setCell w ⟨b', 0, none⟩ u b (by simpa using Ne.symm hne)
  rw [this, h2, h]
/-- The two structs have changed places. -/
theorem swapped {w : World} {i j k : Nat} {b b' : Bool} {A A' : Option Addr} {l l' c c' : Nat} {r0 r1 : Value} (hij : i ≠ j) (hik : i ≠ k) (hjk : j ≠ k) (x : IBox w i (.bool b) (.slice A l c)) (y : IBox w j (.bool b') (.slice A' l' c')) (z : IBox w k r0 r1) :
    ∃ W, W = (((w.setCell ⟨i, 0, none⟩ (.bool b')).setCell ⟨i, 1, none⟩ (.slice A' l' c')).setCell ⟨j, 0, none⟩ (.bool b)).setCell ⟨j, 1, none⟩ (.slice A l c) ∧ IBox W i (.bool b') (.slice A' l' c') ∧ IBox W j (.bool b) (.slice A l c) ∧ IBox W k r0 r1 ∧ (∀ A c l n, V w A c l n → V W A c l n) ∧ ∀ B, B ≤ i → B ≤ j → ∀ v, Below B v w → Below B v W := by
  have y2 : IBox ((w.setCell ⟨i, 0, none⟩ (.bool b')).setCell ⟨i, 1, none⟩ (.slice A' l' c')) j (.bool b') (.slice A' l' c') := y.other hij
  refine ⟨_, rfl, x.set.other hij.symm, y2.set, (z.other hik).other hjk, fun A c l n h => (h.box x).box y2, fun B h1 h2 v h => ((((h.setCell h1 _).setCell h1 _).setCell h2 _).setCell h2 _)⟩

section
variable {w : World} {A A' : Option Addr} {c c' l l' n n' : Nat}
set_option maxRecDepth 100000 in
set_option maxHeartbeats 8000000 in
theorem add_swap (b b' t : Bool) (h : V w A c l n) (h' : V w A' c' l' n') (hl : l + l' ≤ 800000) (ht : Hid (decide (sgn b n < 0) = t)) (ht' : Hid (decide (sgn b' n' < 0) = !t)) (z : Int) (hz : Hid (cmpI (n : Int) (n' : Int) = z)) (p2 : decide (z < 0) = true) :
    Calls Tryd.prog 53 #[.agg #[.bool b, .slice A l c], .agg #[.bool b', .slice A' l' c']] w (TellsI w (sgn (!t) (n' - n)) l') := by
  have p1 : (t == !t) = false := by cases t <;> rfl
  obtain ⟨W, hW, x0, x1, x2, hB⟩ := box2 w (.bool b) (.slice A l c) (.bool b') (.slice A' l' c') (.bool false) (.slice none 0 0)
  have HV := Lib.hid (h.below hB)
  have HV' := Lib.hid (h'.below hB)
  have HX := Lib.hid x0
  have HX' := Lib.hid x1
  have HY := Lib.hid x2
  obtain ⟨⟨a1, a2⟩, ⟨a3, a3b⟩, a4⟩ := x0.look
  obtain ⟨⟨a1', a2'⟩, ⟨a3', a3b'⟩, a4'⟩ := x1.look
  have Bz := Below.refl W.heap.size W
  clear h h' x0 x1 x2
  go_enter Tryd.func53, Tryd.ntmps53
  go_wp2_with fail
  rw [← hW]
  clear hW
  go_region_held3 (fun w' => w'.cell? ⟨w.heap.size, 0, none⟩ = some (.bool b) ∧ w'.cell? ⟨w.heap.size, 1, none⟩ = some (.slice A l c) ∧ w'.cell? ⟨w.heap.size + 1, 0, none⟩ = some (.bool b') ∧ w'.cell? ⟨w.heap.size + 1, 1, none⟩ = some (.slice A' l' c'))
    (first | exact ⟨a1, a2, a1', a2'⟩ | go_keep)
    (first
      | (go_at_call 86; refine (below_v b (HV.out.below (below_trans Bz (by go_grown))) (by omega) t ht.out).mono ?_; rintro e wz ⟨rfl, bz⟩; have Bz := below_trans (below_trans Bz (by go_grown)) bz; obtain ⟨⟨a1, a2⟩, ⟨a3, a3b⟩, a4⟩ := (HX.out.below Bz).look; obtain ⟨⟨a1', a2'⟩, ⟨a3', a3b'⟩, a4'⟩ := (HX'.out.below Bz).look)
      | (go_at_call 86; refine (below_v b' (HV'.out.below (below_trans Bz (by go_grown))) (by omega) (!t) ht'.out).mono ?_; rintro e wz ⟨rfl, bz⟩; have Bz := below_trans (below_trans Bz (by go_grown)) bz; obtain ⟨⟨a1, a2⟩, ⟨a3, a3b⟩, a4⟩ := (HX.out.below Bz).look; obtain ⟨⟨a1', a2'⟩, ⟨a3', a3b'⟩, a4'⟩ := (HX'.out.below Bz).look))
  all_goals
    go_wp2_with fail
    refine (cmp_v z (HV.out.below (below_trans Bz (by go_grown))) (HV'.out.below (below_trans Bz (by go_grown))) hl hz.out).mono ?_
    rintro e wz ⟨rfl, bz⟩
    have Bz := below_trans (below_trans Bz (by go_grown)) bz
    obtain ⟨⟨a1, a2⟩, ⟨a3, a3b⟩, a4⟩ := (HX.out.below Bz).look
    obtain ⟨⟨a1', a2'⟩, ⟨a3', a3b'⟩, a4'⟩ := (HX'.out.below Bz).look
    obtain ⟨W2, hW2, u0, u1, u2, hv, hbb⟩ := swapped (by omega) (by omega) (by omega) (HX.out.below Bz) (HX'.out.below Bz) (HY.out.below Bz)
    have HU := Lib.hid hW2
    have gV := Lib.hid (hv _ _ _ _ (HV.out.below Bz))
    have gV' := Lib.hid (hv _ _ _ _ (HV'.out.below Bz))
    have gB := Lib.hid (hbb w.heap.size (by omega) (by omega) w (below_trans hB Bz))
    clear hW2 hv hbb
    go_wp2_with fail
    rw [← HU.out]
    clear HV HV' HX HX' HY HU
    have HV := gV
    have HV' := gV'
    have HX := Lib.hid u0
    have HX' := Lib.hid u1
    have HY := Lib.hid u2
    clear gV gV' Bz hB
    have hB := gB.out
    clear gB
    have Bz := Below.refl W2.heap.size W2
    obtain ⟨⟨a1, a2⟩, ⟨a3, a3b⟩, a4⟩ := (HX.out.below Bz).look
    obtain ⟨⟨a1', a2'⟩, ⟨a3', a3b'⟩, a4'⟩ := (HX'.out.below Bz).look
    clear u0 u1 u2
    go_region_held3 (fun w' => w'.cell? ⟨w.heap.size, 0, none⟩ = some (.bool b') ∧ w'.cell? ⟨w.heap.size, 1, none⟩ = some (.slice A' l' c') ∧ w'.cell? ⟨w.heap.size + 1, 0, none⟩ = some (.bool b) ∧ w'.cell? ⟨w.heap.size + 1, 1, none⟩ = some (.slice A l c))
      (first | exact ⟨a1, a2, a1', a2'⟩ | exact ⟨(cell_off (by omega)).trans a1, (cell_off (by omega)).trans a2, (cell_off (by omega)).trans a1', (cell_off (by omega)).trans a2'⟩ | go_keep)
      (first
        | (go_at_call 86; refine (below_v b' (HV'.out.below (below_trans Bz (by go_grown))) (by omega) (!t) ht'.out).mono ?_; rintro e wz ⟨rfl, bz⟩; have Bz := below_trans (below_trans Bz (by go_grown)) bz; obtain ⟨⟨a1, a2⟩, ⟨a3, a3b⟩, a4⟩ := (HX.out.below Bz).look; obtain ⟨⟨a1', a2'⟩, ⟨a3', a3b'⟩, a4'⟩ := (HX'.out.below Bz).look)
        | (go_at_call 19; refine (sub_v (HV'.out.below (below_trans Bz (by go_grown))) (HV.out.below (below_trans Bz (by go_grown))) (by omega)).mono ?_; rintro e w1 ⟨A1, c1, l1, rfl, h1, m1, b1⟩; have Bz := below_trans (below_trans Bz (by go_grown)) b1; obtain ⟨⟨a1, a2⟩, ⟨a3, a3b⟩, a4⟩ := (HX.out.below Bz).look; obtain ⟨⟨a1', a2'⟩, ⟨a3', a3b'⟩, a4'⟩ := (HX'.out.below Bz).look)
        | (go_at_call 84; refine (signed_c (!t) (sgn (!t) (n' - n)) (by first | exact h1 | exact h1.drew | exact h1.below bz | exact h1.below (below_trans (by go_grown) bz)) rfl).mono ?_; rintro e w2 ⟨rfl, b2⟩; have h2 : C w2 A1 c1 l1 (n' - n) := (by first | exact h1.below b2 | exact h1.below (below_trans bz b2) | exact h1.below (below_trans (by go_grown) b2) | exact h1.below (below_trans (below_trans (by go_grown) bz) b2) | exact h1.below (below_trans (below_trans (below_trans (by go_grown) bz) (by go_grown)) b2)); have Bz := below_trans (below_trans Bz (by go_grown)) b2; obtain ⟨⟨a1, a2⟩, ⟨a3, a3b⟩, a4⟩ := (HX.out.below Bz).look; obtain ⟨⟨a1', a2'⟩, ⟨a3', a3b'⟩, a4'⟩ := (HX'.out.below Bz).look; obtain ⟨⟨y1, y2⟩, ⟨y3, y4⟩, y5⟩ := (HY.out.below Bz).look))
  all_goals
    go_wp2_with fail
    (try simp only [Exit.inBlock, Exit.then])
    have q1 : w2.cell? ⟨w.heap.size + 2, 0, none⟩ = some (.bool false) := y1
    have q2 : w2.cell? ⟨w.heap.size + 2, 1, none⟩ = some (.slice none 0 0) := y2
    refine bodyPost_ret (by simp [results, Tryd.results53, go_sem, q1, q2]; try rfl) rfl ?_
    exact ⟨A1, c1, l1, rfl, by rw [sgn_abs]; exact h2.box y1 y2 (fun _ e => by cases e), m1, ((below_trans hB Bz).setCell (by simp only []; omega) _).setCell (by simp only []; omega) _⟩
end
end Go.Proofs.YtjlfcnkndndgaaaDoor
