/-
  WholeNumbers: the law answers true. No condition. Written by wip/gen/wnum.py.
-/
import Derived.Test.YtjlfcnkndndgaaaDoorWG
import Derived.Test.YtjlfcnkndndgaaaDoorSched
import Derived.Test.YtjlfcnkndndgaaaDoorKit
namespace Go.Proofs.YtjlfcnkndndgaaaDoor
open Go.RowKit Tw

theorem I.drew {w : World} {b : Bool} {A : Option Addr} {c l : Nat} {z : Int} (h : I w b A c l z) : I w.drew b A c l z := h.below (Below.drew (Below.refl _ _))
theorem J.drew {w : World} {b : Bool} {A : Option Addr} {c l : Nat} {z : Int} (h : J w b A c l z) : J w.drew b A c l z := h.below (Below.drew (Below.refl _ _))
theorem abs_z {w : World} {A : Option Addr} {c l : Nat} {b : Bool} {z : Int} (h : I w b A c l z) (hl : l ≤ 800000) :
    Calls Tryd.prog 47 #[.agg #[.bool b, .slice A l c]] w (TellsZ w (z.natAbs : Int) l) := by
  obtain ⟨n, h1, rfl⟩ := h
  exact (abs_v b h1 hl).mono fun e w' he => he.z (by rw [sgn_abs]) (Nat.le_refl _)
theorem edge_at (w : World) (x : Nat) (y : Int) (hx : x = 9223372036854775808) (hy : (x : Int) = y) : ∃ W, W = (w.alloc (.cells #[.int .u64 y] 29)).alloc (.cells #[.bool false, .slice (some ⟨w.heap.size, 0, none⟩) 1 1] 43) ∧ I W false (some ⟨w.heap.size, 0, none⟩) 1 1 9223372036854775808 ∧ IBox W (w.heap.size + 1) (.bool false) (.slice (some ⟨w.heap.size, 0, none⟩) 1 1) ∧ Below w.heap.size w W := by
  subst hy
  have h1 := i_lit w false [x] 1 9223372036854775808 (by subst hx; exact ok_dec (by decide)) rfl (by subst hx; decide)
  refine ⟨_, rfl, h1.below (lit_below _ _), ?_, by go_grown⟩
  have := IBox.new (w.alloc (.cells #[.int .u64 (x : Int)] 29)) (.bool false) (.slice (some ⟨w.heap.size, 0, none⟩) 1 1)
  simpa using this
set_option maxRecDepth 100000 in
set_option maxHeartbeats 8000000 in
theorem wnum_any {w : World} (hT : Tab w) : Calls Tryd.prog 9 #[] w (Yes w) := by
  obtain ⟨W, hW, hE, x0, hB⟩ := edge_at w 9223372036854775808 9223372036854775808 rfl rfl
  replace hT := hT.below hB
  have HX := Lib.hid x0
  have Bz := Below.refl W.heap.size W
  clear x0
  obtain ⟨⟨p1, p2⟩, _, _⟩ := HX.out.look
  go_enter Tryd.func9, Tryd.ntmps9
  go_wp2_with fail
  rw [← hW]
  clear hW
  with_reducible refine (small_z (by repeat (first | exact hE | apply I.drew)) (by omega) 0 false (by decide) rfl).mono ?_
  rintro e w1 ⟨rfl, b1⟩
  replace b1 := below_trans (a := W) (by go_grown) b1
  replace hT := hT.below b1
  replace hE := hE.below b1
  replace Bz := below_trans Bz b1
  obtain ⟨⟨p1, p2⟩, _, _⟩ := (HX.out.below Bz).look
  clear b1
  go_wp2_with fail
  with_reducible refine (neg_z (by repeat (first | exact hE | apply I.drew)) (by omega)).mono ?_
  rintro e w2 ⟨s2, A2, c2, l2, rfl, h2, m2, b2⟩
  replace b2 := below_trans (a := w1) (by go_grown) b2
  replace hT := hT.below b2
  replace hE := hE.below b2
  replace Bz := below_trans Bz b2
  obtain ⟨⟨p1, p2⟩, _, _⟩ := (HX.out.below Bz).look
  clear b2
  go_wp2_with fail
  with_reducible refine (small_z (by repeat (first | exact h2.i | apply I.drew)) (by omega) (-9223372036854775808) true (by decide) rfl).mono ?_
  rintro e w3 ⟨rfl, b3⟩
  replace b3 := below_trans (a := w2) (by go_grown) b3
  replace hT := hT.below b3
  replace hE := hE.below b3
  replace Bz := below_trans Bz b3
  obtain ⟨⟨p1, p2⟩, _, _⟩ := (HX.out.below Bz).look
  clear b3
  go_wp2_with fail
  (try simp only [List.append_eq, List.cons_append, List.nil_append])
  refine wp_region_sched [(0, false), (1, false), (2, false), (3, false), (4, false), (5, false), (6, false), (7, false), (8, false), (9, false), (10, false), (11, false), (12, false), (13, false), (14, false), (16, false), (15, true), (17, true), (18, true), (19, false), (20, false), (21, false), (22, true), (23, true), (24, false), (25, false)] (fun w' => w'.cell? ⟨w.heap.size + 1, 0, none⟩ = some (.bool false) ∧ w'.cell? ⟨w.heap.size + 1, 1, none⟩ = some (.slice (some ⟨w.heap.size, 0, none⟩) 1 1)) (by kernel_rfl) (by kernel_rfl) ⟨p1, p2⟩ ?_
  refine wpSched_take (o := ⟨some 22, _, _, _, _, _⟩) (v := ?_) rfl rfl (fun w' hS => ?_) ?_
  rotate_left
  · go_simp <;> with_reducible rfl
  try simp only [Act.put, List.setIfInBounds_toArray, List.set_cons_zero, List.set_cons_succ]
  refine wpSched_take (o := ⟨some 23, _, _, _, _, _⟩) (v := ?_) rfl rfl (fun w' hS => ?_) ?_
  rotate_left
  · go_simp <;> with_reducible rfl
  try simp only [Act.put, List.setIfInBounds_toArray, List.set_cons_zero, List.set_cons_succ]
  refine wpSched_take (o := ⟨some 24, _, _, _, _, _⟩) (v := ?_) rfl rfl (fun w' hS => ?_) ?_
  rotate_left
  · go_simp <;> with_reducible rfl
  try simp only [Act.put, List.setIfInBounds_toArray, List.set_cons_zero, List.set_cons_succ]
  refine wpSched_take (o := ⟨some 25, _, _, _, _, _⟩) (v := ?_) rfl rfl (fun w' hS => ?_) ?_
  rotate_left
  · go_simp <;> with_reducible rfl
  try simp only [Act.put, List.setIfInBounds_toArray, List.set_cons_zero, List.set_cons_succ]
  refine wpSched_take (o := ⟨some 26, _, _, _, _, _⟩) (v := ?_) rfl rfl (fun w' hS => ?_) ?_
  rotate_left
  · go_simp <;> with_reducible rfl
  try simp only [Act.put, List.setIfInBounds_toArray, List.set_cons_zero, List.set_cons_succ]
  refine wpSched_take (o := ⟨some 27, _, _, _, _, _⟩) (v := ?_) rfl rfl (fun w' hS => ?_) ?_
  rotate_left
  · go_simp <;> with_reducible rfl
  try simp only [Act.put, List.setIfInBounds_toArray, List.set_cons_zero, List.set_cons_succ]
  refine wpSched_take (o := ⟨some 28, _, _, _, _, _⟩) (v := ?_) rfl rfl (fun w' hS => ?_) ?_
  rotate_left
  · go_simp <;> with_reducible rfl
  try simp only [Act.put, List.setIfInBounds_toArray, List.set_cons_zero, List.set_cons_succ]
  refine wpSched_take (o := ⟨some 29, _, _, _, _, _⟩) (v := ?_) rfl rfl (fun w' hS => ?_) ?_
  rotate_left
  · go_simp <;> with_reducible rfl
  try simp only [Act.put, List.setIfInBounds_toArray, List.set_cons_zero, List.set_cons_succ]
  refine wpSched_take (o := ⟨some 30, _, _, _, _, _⟩) (v := ?_) rfl rfl (fun w' hS => ?_) ?_
  rotate_left
  · go_simp <;> with_reducible rfl
  try simp only [Act.put, List.setIfInBounds_toArray, List.set_cons_zero, List.set_cons_succ]
  refine wpSched_take (o := ⟨some 31, _, _, _, _, _⟩) (v := ?_) rfl rfl (fun w' hS => ?_) ?_
  rotate_left
  · go_simp <;> with_reducible rfl
  try simp only [Act.put, List.setIfInBounds_toArray, List.set_cons_zero, List.set_cons_succ]
  refine wpSched_take (o := ⟨some 32, _, _, _, _, _⟩) (v := ?_) rfl rfl (fun w' hS => ?_) ?_
  rotate_left
  · go_simp <;> with_reducible rfl
  try simp only [Act.put, List.setIfInBounds_toArray, List.set_cons_zero, List.set_cons_succ]
  refine wpSched_take (o := ⟨some 33, _, _, _, _, _⟩) (v := ?_) rfl rfl (fun w' hS => ?_) ?_
  rotate_left
  · go_simp <;> with_reducible rfl
  try simp only [Act.put, List.setIfInBounds_toArray, List.set_cons_zero, List.set_cons_succ]
  refine wpSched_take (o := ⟨some 34, _, _, _, _, _⟩) (v := ?_) rfl rfl (fun w' hS => ?_) ?_
  rotate_left
  · go_simp <;> with_reducible rfl
  try simp only [Act.put, List.setIfInBounds_toArray, List.set_cons_zero, List.set_cons_succ]
  refine wpSched_take (o := ⟨some 35, _, _, _, _, _⟩) (v := ?_) rfl rfl (fun w' hS => ?_) ?_
  rotate_left
  · go_simp <;> with_reducible rfl
  try simp only [Act.put, List.setIfInBounds_toArray, List.set_cons_zero, List.set_cons_succ]
  refine wpSched_take (o := ⟨some 36, _, _, _, _, _⟩) (v := ?_) rfl rfl (fun w' hS => ?_) ?_
  rotate_left
  · go_simp <;> with_reducible rfl
  try simp only [Act.put, List.setIfInBounds_toArray, List.set_cons_zero, List.set_cons_succ]
  refine wpSched_take (o := ⟨some 38, _, _, _, _, _⟩) (v := ?_) rfl rfl (fun w' hS => ?_) ?_
  rotate_left
  · obtain ⟨p1, p2⟩ := hS; go_simp <;> with_reducible rfl
  try simp only [Act.put, List.setIfInBounds_toArray, List.set_cons_zero, List.set_cons_succ]
  refine wpSched_call (o := ⟨some 37, _, _, _, _, _⟩) rfl rfl (fun K hK => ?_)
  go_simp
  with_reducible refine (of_z (-9223372036854775808) (small_bd (Lib.hid (by decide)))).mono ?_
  rintro e w4 ⟨s4, A4, c4, l4, rfl, h4, m4, b4⟩
  replace b4 := below_trans (a := w3) (by go_grown) b4
  replace hT := hT.below b4
  replace hE := hE.below b4
  replace Bz := below_trans Bz b4
  obtain ⟨⟨p1, p2⟩, _, _⟩ := (HX.out.below Bz).look
  clear b4
  refine hK.out _ _ ⟨p1, p2⟩ (fun _ => ?_)
  try simp only [Act.put, List.setIfInBounds_toArray, List.set_cons_zero, List.set_cons_succ]
  clear hK K
  refine wpSched_call (o := ⟨some 39, _, _, _, _, _⟩) rfl rfl (fun K hK => ?_)
  go_simp
  with_reducible refine (neg_z (by repeat (first | exact hE | apply I.drew)) (by omega)).mono ?_
  rintro e w5 ⟨s5, A5, c5, l5, rfl, h5, m5, b5⟩
  replace b5 := below_trans (a := w4) (by go_grown) b5
  replace hT := hT.below b5
  replace h4 := h4.below b5
  replace Bz := below_trans Bz b5
  obtain ⟨⟨p1, p2⟩, _, _⟩ := (HX.out.below Bz).look
  clear b5
  refine hK.out _ _ ⟨p1, p2⟩ (fun _ => ?_)
  try simp only [Act.put, List.setIfInBounds_toArray, List.set_cons_zero, List.set_cons_succ]
  clear hK K
  refine wpSched_call (o := ⟨some 40, _, _, _, _, _⟩) rfl rfl (fun K hK => ?_)
  go_simp
  with_reducible refine (same_z (by repeat (first | exact h4 | apply J.drew)) (by repeat (first | exact h5 | apply J.drew)) (by omega) (by decide)).mono ?_
  rintro e w6 ⟨rfl, b6⟩
  replace b6 := below_trans (a := w5) (by go_grown) b6
  replace hT := hT.below b6
  replace Bz := below_trans Bz b6
  obtain ⟨⟨p1, p2⟩, _, _⟩ := (HX.out.below Bz).look
  clear b6
  refine hK.out _ _ ⟨p1, p2⟩ (fun _ => ?_)
  try simp only [Act.put, List.setIfInBounds_toArray, List.set_cons_zero, List.set_cons_succ]
  clear hK K
  refine wpSched_take (o := ⟨some 41, _, _, _, _, _⟩) (v := ?_) rfl rfl (fun w' hS => ?_) ?_
  rotate_left
  · go_simp <;> with_reducible rfl
  try simp only [Act.put, List.setIfInBounds_toArray, List.set_cons_zero, List.set_cons_succ]
  refine wpSched_take (o := ⟨some 42, _, _, _, _, _⟩) (v := ?_) rfl rfl (fun w' hS => ?_) ?_
  rotate_left
  · go_simp <;> with_reducible rfl
  try simp only [Act.put, List.setIfInBounds_toArray, List.set_cons_zero, List.set_cons_succ]
  refine wpSched_take (o := ⟨some 43, _, _, _, _, _⟩) (v := ?_) rfl rfl (fun w' hS => ?_) ?_
  rotate_left
  · go_simp <;> with_reducible rfl
  try simp only [Act.put, List.setIfInBounds_toArray, List.set_cons_zero, List.set_cons_succ]
  refine wpSched_call (o := ⟨some 44, _, _, _, _, _⟩) rfl rfl (fun K hK => ?_)
  go_simp
  with_reducible refine (of_z (9223372036854775807) (small_bd (Lib.hid (by decide)))).mono ?_
  rintro e w7 ⟨s7, A7, c7, l7, rfl, h7, m7, b7⟩
  replace b7 := below_trans (a := w6) (by go_grown) b7
  replace hT := hT.below b7
  replace Bz := below_trans Bz b7
  obtain ⟨⟨p1, p2⟩, _, _⟩ := (HX.out.below Bz).look
  clear b7
  refine hK.out _ _ ⟨p1, p2⟩ (fun _ => ?_)
  try simp only [Act.put, List.setIfInBounds_toArray, List.set_cons_zero, List.set_cons_succ]
  clear hK K
  refine wpSched_call (o := ⟨some 45, _, _, _, _, _⟩) rfl rfl (fun K hK => ?_)
  go_simp
  with_reducible refine (is_e (by repeat (first | exact h7 | apply J.drew)) (by decide) (Lib.hid (by decide))).mono ?_
  rintro e w8 ⟨rfl, b8⟩
  replace b8 := below_trans (a := w7) (by go_grown) b8
  replace hT := hT.below b8
  replace Bz := below_trans Bz b8
  obtain ⟨⟨p1, p2⟩, _, _⟩ := (HX.out.below Bz).look
  clear b8
  refine hK.out _ _ ⟨p1, p2⟩ (fun _ => ?_)
  try simp only [Act.put, List.setIfInBounds_toArray, List.set_cons_zero, List.set_cons_succ]
  clear hK K
  refine wpSched_take (o := ⟨some 46, _, _, _, _, _⟩) (v := ?_) rfl rfl (fun w' hS => ?_) ?_
  rotate_left
  · go_simp <;> with_reducible rfl
  try simp only [Act.put, List.setIfInBounds_toArray, List.set_cons_zero, List.set_cons_succ]
  refine wpSched_take (o := ⟨some 7, _, _, _, _, _⟩) (v := ?_) rfl rfl (fun w' hS => ?_) ?_
  rotate_left
  · go_simp <;> with_reducible rfl
  try simp only [Act.put, List.setIfInBounds_toArray, List.set_cons_zero, List.set_cons_succ]
  refine wpSched_done ?_
  go_wp2_with fail
  have zl : I (w8.alloc (.cells #[.int .u64 0, .int .u64 0] 29)) true (some ⟨w8.heap.size, 0, none⟩) 2 2 0 := i_lit w8 true [0, 0] 2 0 (ok_dec (by decide)) rfl (by decide)
  with_reducible refine (norm_z zl (by omega)).mono ?_
  rintro e w9 ⟨s9, A9, c9, l9, rfl, h9, m9, b9⟩
  replace b9 := below_trans (a := w8) (by go_grown) b9
  replace hT := hT.below b9
  replace Bz := below_trans Bz b9
  obtain ⟨⟨p1, p2⟩, _, _⟩ := (HX.out.below Bz).look
  clear b9
  go_wp2_with fail
  with_reducible refine (is_e (by repeat (first | exact h9 | apply J.drew)) (by decide) (Lib.hid (by decide))).mono ?_
  rintro e w10 ⟨rfl, b10⟩
  replace b10 := below_trans (a := w9) (by go_grown) b10
  replace hT := hT.below b10
  replace Bz := below_trans Bz b10
  obtain ⟨⟨p1, p2⟩, _, _⟩ := (HX.out.below Bz).look
  clear b10
  go_wp2_with fail
  clear zl
  have zl : I (w10.alloc (.cells #[.int .u64 0] 29)) true (some ⟨w10.heap.size, 0, none⟩) 1 1 0 := i_lit w10 true [0] 1 0 (ok_dec (by decide)) rfl (by decide)
  with_reducible refine (sign_z zl (by omega) 0 rfl).mono ?_
  rintro e w11 ⟨rfl, b11⟩
  replace b11 := below_trans (a := w10) (by go_grown) b11
  replace hT := hT.below b11
  replace Bz := below_trans Bz b11
  obtain ⟨⟨p1, p2⟩, _, _⟩ := (HX.out.below Bz).look
  clear b11
  go_wp2_with fail
  with_reducible refine (cmp_z (i_none _ true) (i_none _ false) (by omega) 0 (by decide)).mono ?_
  rintro e w12 ⟨rfl, b12⟩
  replace b12 := below_trans (a := w11) (by go_grown) b12
  replace hT := hT.below b12
  replace Bz := below_trans Bz b12
  obtain ⟨⟨p1, p2⟩, _, _⟩ := (HX.out.below Bz).look
  clear b12
  go_wp2_with fail
  with_reducible refine (by_z0 5 (Lib.hid (by decide))).mono ?_
  rintro e w13 ⟨rfl, b13⟩
  replace b13 := below_trans (a := w12) (by go_grown) b13
  replace hT := hT.below b13
  replace Bz := below_trans Bz b13
  obtain ⟨⟨p1, p2⟩, _, _⟩ := (HX.out.below Bz).look
  clear b13
  go_wp2_with fail
  with_reducible refine (by_z (-8) 2 (-4) 0 (Lib.hid (by decide)) (Lib.hid (by decide)) (Lib.hid (by decide)) (Lib.hid (by decide)) (Lib.hid (by decide)) (Lib.hid (by decide)) (Lib.hid (by decide))).mono ?_
  rintro e w14 ⟨rfl, b14⟩
  replace b14 := below_trans (a := w13) (by go_grown) b14
  replace hT := hT.below b14
  replace Bz := below_trans Bz b14
  obtain ⟨⟨p1, p2⟩, _, _⟩ := (HX.out.below Bz).look
  clear b14
  go_wp2_with fail
  with_reducible refine (by_z 0 (-3) 0 0 (Lib.hid (by decide)) (Lib.hid (by decide)) (Lib.hid (by decide)) (Lib.hid (by decide)) (Lib.hid (by decide)) (Lib.hid (by decide)) (Lib.hid (by decide))).mono ?_
  rintro e w15 ⟨rfl, b15⟩
  replace b15 := below_trans (a := w14) (by go_grown) b15
  replace hT := hT.below b15
  replace Bz := below_trans Bz b15
  obtain ⟨⟨p1, p2⟩, _, _⟩ := (HX.out.below Bz).look
  clear b15
  go_wp2_with fail
  with_reducible refine (of_z (-12) (small_bd (Lib.hid (by decide)))).mono ?_
  rintro e w16 ⟨s16, A16, c16, l16, rfl, h16, m16, b16⟩
  replace b16 := below_trans (a := w15) (by go_grown) b16
  replace hT := hT.below b16
  replace Bz := below_trans Bz b16
  obtain ⟨⟨p1, p2⟩, _, _⟩ := (HX.out.below Bz).look
  clear b16
  go_wp2_with fail
  with_reducible refine (of_z (18) (small_bd (Lib.hid (by decide)))).mono ?_
  rintro e w17 ⟨s17, A17, c17, l17, rfl, h17, m17, b17⟩
  replace b17 := below_trans (a := w16) (by go_grown) b17
  replace hT := hT.below b17
  replace h16 := h16.below b17
  replace Bz := below_trans Bz b17
  obtain ⟨⟨p1, p2⟩, _, _⟩ := (HX.out.below Bz).look
  clear b17
  go_wp2_with fail
  with_reducible refine (gcd_z (by repeat (first | exact h16.i | apply I.drew)) (by repeat (first | exact h17.i | apply I.drew)) (by omega) (Lib.hid hT)).mono ?_
  rintro e w18 ⟨s18, A18, c18, l18, rfl, h18, m18, b18⟩
  replace b18 := below_trans (a := w17) (by go_grown) b18
  replace Bz := below_trans Bz b18
  obtain ⟨⟨p1, p2⟩, _, _⟩ := (HX.out.below Bz).look
  clear b18
  go_wp2_with fail
  with_reducible refine (is_e (by repeat (first | exact h18 | apply J.drew)) (by decide) (Lib.hid (by decide))).mono ?_
  rintro e w19 ⟨rfl, b19⟩
  replace b19 := below_trans (a := w18) (by go_grown) b19
  replace Bz := below_trans Bz b19
  obtain ⟨⟨p1, p2⟩, _, _⟩ := (HX.out.below Bz).look
  clear b19
  go_wp2_with fail
  with_reducible refine (of_z (0) (small_bd (Lib.hid (by decide)))).mono ?_
  rintro e w20 ⟨s20, A20, c20, l20, rfl, h20, m20, b20⟩
  replace b20 := below_trans (a := w19) (by go_grown) b20
  replace Bz := below_trans Bz b20
  obtain ⟨⟨p1, p2⟩, _, _⟩ := (HX.out.below Bz).look
  clear b20
  go_wp2_with fail
  with_reducible refine (neg_z (by repeat (first | exact h20.i | apply I.drew)) (by omega)).mono ?_
  rintro e w21 ⟨s21, A21, c21, l21, rfl, h21, m21, b21⟩
  replace b21 := below_trans (a := w20) (by go_grown) b21
  replace Bz := below_trans Bz b21
  obtain ⟨⟨p1, p2⟩, _, _⟩ := (HX.out.below Bz).look
  clear b21
  go_wp2_with fail
  with_reducible refine (is_e (by repeat (first | exact h21 | apply J.drew)) (by decide) (Lib.hid (by decide))).mono ?_
  rintro e w22 ⟨rfl, b22⟩
  replace b22 := below_trans (a := w21) (by go_grown) b22
  replace Bz := below_trans Bz b22
  obtain ⟨⟨p1, p2⟩, _, _⟩ := (HX.out.below Bz).look
  clear b22
  go_wp2_with fail
  with_reducible refine (of_z (-4) (small_bd (Lib.hid (by decide)))).mono ?_
  rintro e w23 ⟨s23, A23, c23, l23, rfl, h23, m23, b23⟩
  replace b23 := below_trans (a := w22) (by go_grown) b23
  replace Bz := below_trans Bz b23
  obtain ⟨⟨p1, p2⟩, _, _⟩ := (HX.out.below Bz).look
  clear b23
  go_wp2_with fail
  with_reducible refine (abs_z (by repeat (first | exact h23.i | apply I.drew)) (by omega)).mono ?_
  rintro e w24 ⟨s24, A24, c24, l24, rfl, h24, m24, b24⟩
  replace b24 := below_trans (a := w23) (by go_grown) b24
  replace Bz := below_trans Bz b24
  obtain ⟨⟨p1, p2⟩, _, _⟩ := (HX.out.below Bz).look
  clear b24
  go_wp2_with fail
  with_reducible refine (is_e (by repeat (first | exact h24 | apply J.drew)) (by decide) (Lib.hid (by decide))).mono ?_
  rintro e w25 ⟨rfl, b25⟩
  replace b25 := below_trans (a := w24) (by go_grown) b25
  replace Bz := below_trans Bz b25
  obtain ⟨⟨p1, p2⟩, _, _⟩ := (HX.out.below Bz).look
  clear b25
  go_wp2_with fail
  with_reducible refine (of_z (-5) (small_bd (Lib.hid (by decide)))).mono ?_
  rintro e w26 ⟨s26, A26, c26, l26, rfl, h26, m26, b26⟩
  replace b26 := below_trans (a := w25) (by go_grown) b26
  replace Bz := below_trans Bz b26
  obtain ⟨⟨p1, p2⟩, _, _⟩ := (HX.out.below Bz).look
  clear b26
  go_wp2_with fail
  with_reducible refine (of_z (-6) (small_bd (Lib.hid (by decide)))).mono ?_
  rintro e w27 ⟨s27, A27, c27, l27, rfl, h27, m27, b27⟩
  replace b27 := below_trans (a := w26) (by go_grown) b27
  replace h26 := h26.below b27
  replace Bz := below_trans Bz b27
  obtain ⟨⟨p1, p2⟩, _, _⟩ := (HX.out.below Bz).look
  clear b27
  go_wp2_with fail
  with_reducible refine (cmp_z (by repeat (first | exact h26.i | apply I.drew)) (by repeat (first | exact h27.i | apply I.drew)) (by omega) 1 (by decide)).mono ?_
  rintro e w28 ⟨rfl, b28⟩
  replace b28 := below_trans (a := w27) (by go_grown) b28
  replace Bz := below_trans Bz b28
  obtain ⟨⟨p1, p2⟩, _, _⟩ := (HX.out.below Bz).look
  clear b28
  go_wp2_with fail
  with_reducible refine (of_z (-5) (small_bd (Lib.hid (by decide)))).mono ?_
  rintro e w29 ⟨s29, A29, c29, l29, rfl, h29, m29, b29⟩
  replace b29 := below_trans (a := w28) (by go_grown) b29
  replace Bz := below_trans Bz b29
  obtain ⟨⟨p1, p2⟩, _, _⟩ := (HX.out.below Bz).look
  clear b29
  go_wp2_with fail
  with_reducible refine (of_z (3) (small_bd (Lib.hid (by decide)))).mono ?_
  rintro e w30 ⟨s30, A30, c30, l30, rfl, h30, m30, b30⟩
  replace b30 := below_trans (a := w29) (by go_grown) b30
  replace h29 := h29.below b30
  replace Bz := below_trans Bz b30
  obtain ⟨⟨p1, p2⟩, _, _⟩ := (HX.out.below Bz).look
  clear b30
  go_wp2_with fail
  with_reducible refine (cmp_z (by repeat (first | exact h29.i | apply I.drew)) (by repeat (first | exact h30.i | apply I.drew)) (by omega) (-1) (by decide)).mono ?_
  rintro e w31 ⟨rfl, b31⟩
  replace b31 := below_trans (a := w30) (by go_grown) b31
  replace Bz := below_trans Bz b31
  obtain ⟨⟨p1, p2⟩, _, _⟩ := (HX.out.below Bz).look
  clear b31
  go_wp2_with fail
  with_reducible refine (of_z (-1) (small_bd (Lib.hid (by decide)))).mono ?_
  rintro e w32 ⟨s32, A32, c32, l32, rfl, h32, m32, b32⟩
  replace b32 := below_trans (a := w31) (by go_grown) b32
  replace Bz := below_trans Bz b32
  obtain ⟨⟨p1, p2⟩, _, _⟩ := (HX.out.below Bz).look
  clear b32
  go_wp2_with fail
  with_reducible refine (sign_z (by repeat (first | exact h32.i | apply I.drew)) (by omega) (-1) (by decide)).mono ?_
  rintro e w33 ⟨rfl, b33⟩
  replace b33 := below_trans (a := w32) (by go_grown) b33
  replace Bz := below_trans Bz b33
  obtain ⟨⟨p1, p2⟩, _, _⟩ := (HX.out.below Bz).look
  clear b33
  go_wp2_with fail
  with_reducible refine (awake2 _).mono ?_
  rintro e w34 ⟨rfl, b34⟩
  replace b34 := below_trans (a := w33) (by go_grown) b34
  replace Bz := below_trans Bz b34
  obtain ⟨⟨p1, p2⟩, _, _⟩ := (HX.out.below Bz).look
  clear b34
  go_wp2_with fail
  go_ret
  exact ⟨rfl, below_trans hB (below_trans Bz (by go_grown))⟩

namespace wholeNumbers
open Go.ChangeShapes Go.WideShapes Go.ChangeAt Go.RowKit Tw

theorem contract (H : Type) (enc : TypeId × Value → H) (W : World) (base : Nat) (args : Array Value) (ds gs : List (DataW H)) (before : List MemPlace)
    (hval : ∀ (j : Nat) t v, Tryd.f9.params[j]? = some t → args[j]? = some v → Value.okWide Tryd.prog W .any base t v)
    (hW : DataW.Whole enc Tryd.prog Tryd.f9.params.toList Rows.wholeNumbersSpec.vars false W args.toList ds gs before) (hL : laidMetH Tryd.prog Rows.wholeNumbersRow.laid W) :
    Calls Tryd.prog 9 args W fun e W' => ∃ v, e = .returned v ∧ Rows.wholeNumbersSpec.post enc Tryd.prog Tryd.f9 false true false false W args v W' := by
  have hW' := hW
  obtain ⟨p, q, hA0, hV, rfl, hfz, hnd⟩ := hW
  have hA : DataW.TrodAll enc Tryd.prog W 0 (fun _ => true) true Tryd.f9.params.toList args.toList ds p := hA0
  rw [Tryd.params9] at hA hval
  obtain ⟨hargs, rfl, rfl⟩ := trodAll_nil hA
  obtain rfl : args = #[] := by cases args; simp_all
  obtain ⟨rfl, rfl⟩ := trodVars_none hV
  refine (wnum_any  (tab_of hL)).mono fun e W' ⟨he, bel⟩ => ?_
  subst he
  exact ⟨_, rfl, _, _, _, [], _, [], hW', trodAll_mk1 (shut_bool Tryd.underlying4 _), trodAll_mk0, rfl, bel.frame _, fun h => by cases h⟩

theorem laid_met (os : Os) : laidMet Tryd.prog Rows.wholeNumbersRow.laid ((laidWorld os).forCall (fun _ _ => 0) ⟨#[], #[], []⟩).memory :=
  laidMet_of_run' 8 (by kernel_rfl) (by kernel_rfl)
theorem reads (os : Os) {H : Type} (enc : TypeId × Value → H) : ∃ places, DataW.whole enc Tryd.prog ((laidWorld os).forCall (fun _ _ => 0) ⟨#[], #[], []⟩).memory Tryd.f9.params.toList Rows.wholeNumbersSpec.vars false (#[] : Array Value).toList 8 = some ([], [], places) :=
  ⟨[], by kernel_rfl⟩

set_option maxRecDepth 100000 in
theorem lifted (os : Os) (started : os.Started) (H : Type) (enc : TypeId × Value → H) (F : Stop.Interp) :
    ReturnsInHanded {} Tryd.checked os 9 .any ((OpenSpec.ofChange Rows.wholeNumbersSpec).preRow enc Tryd.prog Tryd.f9 Rows.wholeNumbersRow.domain false Rows.wholeNumbersRow.laid) (((OpenSpec.ofChange Rows.wholeNumbersSpec).at F).post enc Tryd.prog Tryd.f9 false true false false) := by
  obtain ⟨places, hx⟩ := reads os enc
  refine returnsInHanded_of_row (C := Tryd.checked) (s := OpenSpec.ofChange Rows.wholeNumbersSpec) own started (by kernel_rfl) Tryd.func9
    (witness_row_at (enc := enc) (C := Tryd.checked) false (laidWorld os) #[] rfl (by kernel_rfl) (by kernel_rfl) (by kernel_rfl)
      (OpenSpec.preRow_of_cond 8 hx (by kernel_rfl) (fun k hk => by cases hk) (by kernel_rfl) (laid_met os))) ?_
  intro W base args ds gs before hval hW _ _ _ hL _ _
  exact contract H enc W base args ds gs before hval hW hL

theorem said : Rows.WholeNumbersSaid :=
  OpenClaim.holds_of_cond 9 Tryd.f9 rfl rfl rfl rfl rfl rfl rfl ⟨rfl, rfl, rfl, rfl, rfl⟩ rfl rfl rfl rfl rfl (by kernel_rfl) Tryd.func9 (by kernel_rfl)
    (of_decide_eq_true (by kernel_rfl)) (by unfold Func.isWrapper; first | (rw [if_pos (by decide +kernel)]; kernel_rfl) | (rw [if_neg (by decide +kernel)]; exact ⟨rfl, rfl⟩))
    (fun os started H enc _ F => by rw [OpenClaim.pre_eq_preRow]; exact lifted os started H enc F)

theorem plain (f : FuncId) (fn : Func) (hf : Tryd.pinned.checked.prog.funcNamed "tripwire/tripwirelaw02.WholeNumbers" = some f) (hfn : Tryd.pinned.checked.prog.funcs[f]? = some fn) :
    false = Tryd.pinned.checked.prog.looks [] ∧ ∀ (j : Nat) t, fn.params[j]? = some t → Tryd.pinned.checked.prog.wantsStandIn t = false := by
  obtain rfl : f = 9 := Option.some.inj ((show Tryd.prog.funcNamed "tripwire/tripwirelaw02.WholeNumbers" = some 9 by kernel_rfl).symm.trans hf) |>.symm
  obtain rfl : fn = Tryd.f9 := (Option.some.inj (Tryd.func9.symm.trans hfn)).symm
  refine ⟨by kernel_rfl, fun j t ht => ?_⟩
  rw [Tryd.params9] at ht
  simp at ht

/-- The card. -/
theorem card : Rows.WholeNumbersCardSaid :=
  Claim7.holds_tied_plain_at .later [] _ _ _ _ said (fun _ h => by cases h) (by kernel_rfl) (fun _ h => by cases h) wholeNumbers_row_tie rfl ⟨rfl, rfl⟩ (by kernel_rfl) rfl plain (by kernel_rfl)
end wholeNumbers
end Go.Proofs.YtjlfcnkndndgaaaDoor
