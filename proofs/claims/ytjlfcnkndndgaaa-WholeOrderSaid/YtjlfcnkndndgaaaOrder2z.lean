/-
  The walk of tripwirelaw02.WholeOrder, one of its ways. Written by wip/gen/order.py.
-/
import Derived.Test.YtjlfcnkndndgaaaOrder
namespace Go.Proofs.Ytjlfcnkndndgaaa
open Go.RowKit Tw

set_option maxRecDepth 100000 in
set_option maxHeartbeats 8000000 in
theorem order_2z (sa sb sc : Bool) (A B' C' : Option Addr) (ca cb cc la lb lc : Nat) (a b c : Int) (w : World) (ha : I w sa A ca la a) (hb : I w sb B' cb lb b) (hc : I w sc C' cc lc c) (ha1 : la ≤ 40) (hb1 : lb ≤ 40) (hc1 : lc ≤ 40)
    (h0 : Hid (b = 0)) (k : Int) (HK : Hid (cmpI a b = k)) (g1 : decide (0 < k) = false) (k2 : Int) (HK2 : Hid (cmpI b c = k2)) (g2 : decide (0 < k2) = true) :
    Calls Try.prog 4 #[.agg #[.bool sa, .slice A la ca], .agg #[.bool sb, .slice B' lb cb], .agg #[.bool sc, .slice C' lc cc]] w fun e w' => e = .returned (.bool true) ∧ Below w.heap.size w w' := by
  obtain ⟨ta, HA⟩ : ∃ t, Hid (a.sign = t) := ⟨_, Lib.hid rfl⟩
  obtain ⟨tb, HB⟩ : ∃ t, Hid (b.sign = t) := ⟨_, Lib.hid rfl⟩
  obtain ⟨tc, HC⟩ : ∃ t, Hid (c.sign = t) := ⟨_, Lib.hid rfl⟩
  obtain ⟨k', HK'⟩ : ∃ t, Hid (cmpI b a = t) := ⟨_, Lib.hid rfl⟩
  have E1 : Hid ((a - b).sign = k) := by show _ = _; rw [cmpI_sub]; exact HK.out
  have E2 : Hid (cmpI (a + c) (b + c) = k) := by show _ = _; rw [cmpI_add]; exact HK.out
  have bk : -1 ≤ k ∧ k ≤ 1 := by rw [← HK.out]; exact cmpI_bd _ _
  have ba : -1 ≤ ta ∧ ta ≤ 1 := by rw [← HA.out]; exact sign_range _
  have bb : -1 ≤ tb ∧ tb ≤ 1 := by rw [← HB.out]; exact sign_range _
  have bc : -1 ≤ tc ∧ tc ≤ 1 := by rw [← HC.out]; exact sign_range _
  have hk' : k' = -k := by rw [← HK'.out, ← HK.out]; exact cmpI_swap _ _
  have u0 : IntKind.i64.wrap (-k') = k := by rw [wrap_id (by omega)]; omega
  have v0 : wrap64 (-k') = k := by rw [IntWalk.wrap64_in _ ⟨by omega, by omega⟩]; omega
  obtain ⟨m, hm⟩ : ∃ m, k * tc = m := ⟨_, rfl⟩
  have u1 : IntKind.i64.wrap (k * tc) = m := by rw [wrap_id (mul_bd bk bc)]; exact hm
  have v1 : wrap64 (k * tc) = m := by have := mul_bd bk bc; rw [IntWalk.wrap64_in _ ⟨by omega, by omega⟩]; exact hm
  obtain ⟨n, hn⟩ : ∃ m, ta * tb = m := ⟨_, rfl⟩
  have u2 : IntKind.i64.wrap (ta * tb) = n := by rw [wrap_id (mul_bd ba bb)]; exact hn
  have v2 : wrap64 (ta * tb) = n := by have := mul_bd ba bb; rw [IntWalk.wrap64_in _ ⟨by omega, by omega⟩]; exact hn
  have E3 : Hid (cmpI (a * c) (b * c) = m) := by show _ = _; rw [cmpI_mul, HK.out, HC.out]; exact hm
  have E4 : Hid ((a * b).sign = n) := by show _ = _; rw [Int.sign_mul, HA.out, HB.out]; exact hn
  have g0 : (tb == 0) = true := by rw [← HB.out, h0.out]; rfl
  clear hm hn hk' bk ba bb bc
  obtain ⟨W, hW, x0, x1, x2, hB⟩ := box2 w (.bool sa) (.slice A la ca) (.bool sb) (.slice B' lb cb) (.bool sc) (.slice C' lc cc)
  replace ha := ha.below hB
  replace hb := hb.below hB
  replace hc := hc.below hB
  have HX := Lib.hid x0
  have HY := Lib.hid x1
  have HZ := Lib.hid x2
  have Bz := Below.refl W.heap.size W
  clear x0 x1 x2
  go_enter Try.func4, Try.ntmps4
  go_wp2_with fail
  rw [← hW]
  clear hW
  with_reducible refine (short_z 40 true (by simp; omega)).mono ?_
  rintro e w1 ⟨rfl, b1⟩
  replace b1 := below_trans (a := W) (by go_grown) b1
  replace ha := ha.below b1
  replace hb := hb.below b1
  replace hc := hc.below b1
  replace Bz := below_trans Bz b1
  obtain ⟨⟨p1, p2⟩, _, _⟩ := (HX.out.below Bz).look
  obtain ⟨⟨q1, q2⟩, _, _⟩ := (HY.out.below Bz).look
  obtain ⟨⟨r1, r2⟩, _, _⟩ := (HZ.out.below Bz).look
  clear b1
  go_wp2_with fail
  with_reducible refine (short_z 40 true (by simp; omega)).mono ?_
  rintro e w2 ⟨rfl, b2⟩
  replace b2 := below_trans (a := w1) (by go_grown) b2
  replace ha := ha.below b2
  replace hb := hb.below b2
  replace hc := hc.below b2
  replace Bz := below_trans Bz b2
  obtain ⟨⟨p1, p2⟩, _, _⟩ := (HX.out.below Bz).look
  obtain ⟨⟨q1, q2⟩, _, _⟩ := (HY.out.below Bz).look
  obtain ⟨⟨r1, r2⟩, _, _⟩ := (HZ.out.below Bz).look
  clear b2
  go_wp2_with fail
  with_reducible refine (short_z 40 true (by simp; omega)).mono ?_
  rintro e w3 ⟨rfl, b3⟩
  replace b3 := below_trans (a := w2) (by go_grown) b3
  replace ha := ha.below b3
  replace hb := hb.below b3
  replace hc := hc.below b3
  replace Bz := below_trans Bz b3
  obtain ⟨⟨p1, p2⟩, _, _⟩ := (HX.out.below Bz).look
  obtain ⟨⟨q1, q2⟩, _, _⟩ := (HY.out.below Bz).look
  obtain ⟨⟨r1, r2⟩, _, _⟩ := (HZ.out.below Bz).look
  clear b3
  go_wp2_with fail
  with_reducible refine (cmp_z (by repeat (first | exact ha | apply I.drew)) (by repeat (first | exact hb | apply I.drew)) (by omega) k HK.out).mono ?_
  rintro e w4 ⟨rfl, b4⟩
  replace b4 := below_trans (a := w3) (by go_grown) b4
  replace ha := ha.below b4
  replace hb := hb.below b4
  replace hc := hc.below b4
  replace Bz := below_trans Bz b4
  obtain ⟨⟨p1, p2⟩, _, _⟩ := (HX.out.below Bz).look
  obtain ⟨⟨q1, q2⟩, _, _⟩ := (HY.out.below Bz).look
  obtain ⟨⟨r1, r2⟩, _, _⟩ := (HZ.out.below Bz).look
  clear b4
  go_wp2_with fail
  (try simp only [List.append_eq, List.cons_append, List.nil_append])
  refine wp_region_sched [(0, false), (1, false), (2, false), (3, true), (4, true), (5, false), (6, false), (7, false), (8, false), (9, false), (10, true), (11, false), (12, false), (13, false), (14, false), (15, false), (16, false), (17, false), (19, false), (20, false), (18, true), (21, true), (22, true), (23, false), (24, false), (25, false), (26, false), (27, false), (30, false), (31, false), (33, false), (34, false), (28, true), (29, false), (32, true), (35, true), (36, true), (37, false), (38, false), (39, false), (40, false), (41, false), (44, false), (46, false), (42, true), (43, true), (45, true), (47, true), (48, false), (49, false), (50, false), (51, false), (52, false), (53, false), (54, false), (55, false), (56, false), (57, true), (58, false), (59, false), (60, false), (61, false), (62, false), (63, true), (64, false), (65, false), (66, false), (67, false)] (fun w' => w'.cell? ⟨w.heap.size, 0, none⟩ = some (.bool sa) ∧ w'.cell? ⟨w.heap.size, 1, none⟩ = some (.slice A la ca) ∧ w'.cell? ⟨w.heap.size + 1, 0, none⟩ = some (.bool sb) ∧ w'.cell? ⟨w.heap.size + 1, 1, none⟩ = some (.slice B' lb cb) ∧ w'.cell? ⟨w.heap.size + 2, 0, none⟩ = some (.bool sc) ∧ w'.cell? ⟨w.heap.size + 2, 1, none⟩ = some (.slice C' lc cc)) (by kernel_rfl) (by kernel_rfl) ⟨p1, p2, q1, q2, r1, r2⟩ ?_
  refine wpSched_take (o := ⟨some 28, _, _, _, _, _⟩) (v := ?_) rfl rfl (fun w' hS => ?_) ?_
  rotate_left
  · go_simp <;> with_reducible rfl
  try simp only [Act.put, List.setIfInBounds_toArray, List.set_cons_zero, List.set_cons_succ]
  refine wpSched_take (o := ⟨some 29, _, _, _, _, _⟩) (v := ?_) rfl rfl (fun w' hS => ?_) ?_
  rotate_left
  · obtain ⟨p1, p2, q1, q2, r1, r2⟩ := hS; go_simp <;> with_reducible rfl
  try simp only [Act.put, List.setIfInBounds_toArray, List.set_cons_zero, List.set_cons_succ]
  refine wpSched_take (o := ⟨some 30, _, _, _, _, _⟩) (v := ?_) rfl rfl (fun w' hS => ?_) ?_
  rotate_left
  · obtain ⟨p1, p2, q1, q2, r1, r2⟩ := hS; go_simp <;> with_reducible rfl
  try simp only [Act.put, List.setIfInBounds_toArray, List.set_cons_zero, List.set_cons_succ]
  refine wpSched_call (o := ⟨some 31, _, _, _, _, _⟩) rfl rfl (fun K hK => ?_)
  go_simp
  with_reducible refine (sub_z (by repeat (first | exact ha | apply I.drew)) (by repeat (first | exact hb | apply I.drew)) (by omega)).mono ?_
  rintro e w5 ⟨s5, A5, c5, l5, rfl, h5, m5, b5⟩
  replace b5 := below_trans (a := w4) (by go_grown) b5
  replace ha := ha.below b5
  replace hb := hb.below b5
  replace hc := hc.below b5
  replace Bz := below_trans Bz b5
  obtain ⟨⟨p1, p2⟩, _, _⟩ := (HX.out.below Bz).look
  obtain ⟨⟨q1, q2⟩, _, _⟩ := (HY.out.below Bz).look
  obtain ⟨⟨r1, r2⟩, _, _⟩ := (HZ.out.below Bz).look
  clear b5
  refine hK.out _ _ ⟨p1, p2, q1, q2, r1, r2⟩ (fun _ => ?_)
  try simp only [Act.put, List.setIfInBounds_toArray, List.set_cons_zero, List.set_cons_succ]
  clear hK K
  refine wpSched_call (o := ⟨some 32, _, _, _, _, _⟩) rfl rfl (fun K hK => ?_)
  go_simp
  with_reducible refine (sign_z (by repeat (first | exact h5.i | apply I.drew)) (by omega) k E1.out).mono ?_
  rintro e w6 ⟨rfl, b6⟩
  replace b6 := below_trans (a := w5) (by go_grown) b6
  replace ha := ha.below b6
  replace hb := hb.below b6
  replace hc := hc.below b6
  replace Bz := below_trans Bz b6
  obtain ⟨⟨p1, p2⟩, _, _⟩ := (HX.out.below Bz).look
  obtain ⟨⟨q1, q2⟩, _, _⟩ := (HY.out.below Bz).look
  obtain ⟨⟨r1, r2⟩, _, _⟩ := (HZ.out.below Bz).look
  clear b6
  refine hK.out _ _ ⟨p1, p2, q1, q2, r1, r2⟩ (fun _ => ?_)
  try simp only [Act.put, List.setIfInBounds_toArray, List.set_cons_zero, List.set_cons_succ]
  clear hK K
  refine wpSched_take (o := ⟨some 33, _, _, _, _, _⟩) (v := ?_) rfl rfl (fun w' hS => ?_) ?_
  rotate_left
  · go_simp <;> with_reducible rfl
  try simp only [Act.put, List.setIfInBounds_toArray, List.set_cons_zero, List.set_cons_succ]
  refine wpSched_take (o := ⟨some 34, _, _, _, _, _⟩) (v := ?_) rfl rfl (fun w' hS => ?_) ?_
  rotate_left
  · go_simp <;> with_reducible rfl
  try simp only [Act.put, List.setIfInBounds_toArray, List.set_cons_zero, List.set_cons_succ]
  refine wpSched_take (o := ⟨some 35, _, _, _, _, _⟩) (v := ?_) rfl rfl (fun w' hS => ?_) ?_
  rotate_left
  · go_simp <;> with_reducible rfl
  try simp only [Act.put, List.setIfInBounds_toArray, List.set_cons_zero, List.set_cons_succ]
  refine wpSched_take (o := ⟨some 36, _, _, _, _, _⟩) (v := ?_) rfl rfl (fun w' hS => ?_) ?_
  rotate_left
  · obtain ⟨p1, p2, q1, q2, r1, r2⟩ := hS; go_simp <;> with_reducible rfl
  try simp only [Act.put, List.setIfInBounds_toArray, List.set_cons_zero, List.set_cons_succ]
  refine wpSched_take (o := ⟨some 37, _, _, _, _, _⟩) (v := ?_) rfl rfl (fun w' hS => ?_) ?_
  rotate_left
  · obtain ⟨p1, p2, q1, q2, r1, r2⟩ := hS; go_simp <;> with_reducible rfl
  try simp only [Act.put, List.setIfInBounds_toArray, List.set_cons_zero, List.set_cons_succ]
  refine wpSched_call (o := ⟨some 38, _, _, _, _, _⟩) rfl rfl (fun K hK => ?_)
  go_simp
  with_reducible refine (cmp_z (by repeat (first | exact hb | apply I.drew)) (by repeat (first | exact ha | apply I.drew)) (by omega) k' HK'.out).mono ?_
  rintro e w7 ⟨rfl, b7⟩
  replace b7 := below_trans (a := w6) (by go_grown) b7
  replace ha := ha.below b7
  replace hb := hb.below b7
  replace hc := hc.below b7
  replace Bz := below_trans Bz b7
  obtain ⟨⟨p1, p2⟩, _, _⟩ := (HX.out.below Bz).look
  obtain ⟨⟨q1, q2⟩, _, _⟩ := (HY.out.below Bz).look
  obtain ⟨⟨r1, r2⟩, _, _⟩ := (HZ.out.below Bz).look
  clear b7
  refine hK.out _ _ ⟨p1, p2, q1, q2, r1, r2⟩ (fun _ => ?_)
  try simp only [Act.put, List.setIfInBounds_toArray, List.set_cons_zero, List.set_cons_succ]
  clear hK K
  refine wpSched_take (o := ⟨some 39, _, _, _, _, _⟩) (v := ?_) rfl rfl (fun w' hS => ?_) ?_
  rotate_left
  · go_simp <;> with_reducible rfl
  try simp only [Act.put, List.setIfInBounds_toArray, List.set_cons_zero, List.set_cons_succ]
  refine wpSched_take (o := ⟨some 40, _, _, _, _, _⟩) (v := ?_) rfl rfl (fun w' hS => ?_) ?_
  rotate_left
  · go_simp <;> with_reducible rfl
  try simp only [Act.put, List.setIfInBounds_toArray, List.set_cons_zero, List.set_cons_succ]
  refine wpSched_take (o := ⟨some 41, _, _, _, _, _⟩) (v := ?_) rfl rfl (fun w' hS => ?_) ?_
  rotate_left
  · go_simp <;> with_reducible rfl
  try simp only [Act.put, List.setIfInBounds_toArray, List.set_cons_zero, List.set_cons_succ]
  refine wpSched_take (o := ⟨some 42, _, _, _, _, _⟩) (v := ?_) rfl rfl (fun w' hS => ?_) ?_
  rotate_left
  · go_simp <;> with_reducible rfl
  try simp only [Act.put, List.setIfInBounds_toArray, List.set_cons_zero, List.set_cons_succ]
  refine wpSched_take (o := ⟨some 43, _, _, _, _, _⟩) (v := ?_) rfl rfl (fun w' hS => ?_) ?_
  rotate_left
  · go_simp <;> with_reducible rfl
  try simp only [Act.put, List.setIfInBounds_toArray, List.set_cons_zero, List.set_cons_succ]
  refine wpSched_take (o := ⟨some 44, _, _, _, _, _⟩) (v := ?_) rfl rfl (fun w' hS => ?_) ?_
  rotate_left
  · obtain ⟨p1, p2, q1, q2, r1, r2⟩ := hS; go_simp <;> with_reducible rfl
  try simp only [Act.put, List.setIfInBounds_toArray, List.set_cons_zero, List.set_cons_succ]
  refine wpSched_take (o := ⟨some 45, _, _, _, _, _⟩) (v := ?_) rfl rfl (fun w' hS => ?_) ?_
  rotate_left
  · obtain ⟨p1, p2, q1, q2, r1, r2⟩ := hS; go_simp <;> with_reducible rfl
  try simp only [Act.put, List.setIfInBounds_toArray, List.set_cons_zero, List.set_cons_succ]
  refine wpSched_take (o := ⟨some 47, _, _, _, _, _⟩) (v := ?_) rfl rfl (fun w' hS => ?_) ?_
  rotate_left
  · obtain ⟨p1, p2, q1, q2, r1, r2⟩ := hS; go_simp <;> with_reducible rfl
  try simp only [Act.put, List.setIfInBounds_toArray, List.set_cons_zero, List.set_cons_succ]
  refine wpSched_take (o := ⟨some 48, _, _, _, _, _⟩) (v := ?_) rfl rfl (fun w' hS => ?_) ?_
  rotate_left
  · obtain ⟨p1, p2, q1, q2, r1, r2⟩ := hS; go_simp <;> with_reducible rfl
  try simp only [Act.put, List.setIfInBounds_toArray, List.set_cons_zero, List.set_cons_succ]
  refine wpSched_call (o := ⟨some 46, _, _, _, _, _⟩) rfl rfl (fun K hK => ?_)
  go_simp
  with_reducible refine (add_z (by repeat (first | exact ha | apply I.drew)) (by repeat (first | exact hc | apply I.drew)) (by omega)).mono ?_
  rintro e w8 ⟨s8, A8, c8, l8, rfl, h8, m8, b8⟩
  replace b8 := below_trans (a := w7) (by go_grown) b8
  replace ha := ha.below b8
  replace hb := hb.below b8
  replace hc := hc.below b8
  replace Bz := below_trans Bz b8
  obtain ⟨⟨p1, p2⟩, _, _⟩ := (HX.out.below Bz).look
  obtain ⟨⟨q1, q2⟩, _, _⟩ := (HY.out.below Bz).look
  obtain ⟨⟨r1, r2⟩, _, _⟩ := (HZ.out.below Bz).look
  clear b8
  refine hK.out _ _ ⟨p1, p2, q1, q2, r1, r2⟩ (fun _ => ?_)
  try simp only [Act.put, List.setIfInBounds_toArray, List.set_cons_zero, List.set_cons_succ]
  clear hK K
  refine wpSched_call (o := ⟨some 49, _, _, _, _, _⟩) rfl rfl (fun K hK => ?_)
  go_simp
  with_reducible refine (add_z (by repeat (first | exact hb | apply I.drew)) (by repeat (first | exact hc | apply I.drew)) (by omega)).mono ?_
  rintro e w9 ⟨s9, A9, c9, l9, rfl, h9, m9, b9⟩
  replace b9 := below_trans (a := w8) (by go_grown) b9
  replace ha := ha.below b9
  replace hb := hb.below b9
  replace hc := hc.below b9
  replace h8 := h8.below b9
  replace Bz := below_trans Bz b9
  obtain ⟨⟨p1, p2⟩, _, _⟩ := (HX.out.below Bz).look
  obtain ⟨⟨q1, q2⟩, _, _⟩ := (HY.out.below Bz).look
  obtain ⟨⟨r1, r2⟩, _, _⟩ := (HZ.out.below Bz).look
  clear b9
  refine hK.out _ _ ⟨p1, p2, q1, q2, r1, r2⟩ (fun _ => ?_)
  try simp only [Act.put, List.setIfInBounds_toArray, List.set_cons_zero, List.set_cons_succ]
  clear hK K
  refine wpSched_call (o := ⟨some 50, _, _, _, _, _⟩) rfl rfl (fun K hK => ?_)
  go_simp
  with_reducible refine (cmp_z (by repeat (first | exact h8.i | apply I.drew)) (by repeat (first | exact h9.i | apply I.drew)) (by omega) k E2.out).mono ?_
  rintro e w10 ⟨rfl, b10⟩
  replace b10 := below_trans (a := w9) (by go_grown) b10
  replace ha := ha.below b10
  replace hb := hb.below b10
  replace hc := hc.below b10
  replace Bz := below_trans Bz b10
  obtain ⟨⟨p1, p2⟩, _, _⟩ := (HX.out.below Bz).look
  obtain ⟨⟨q1, q2⟩, _, _⟩ := (HY.out.below Bz).look
  obtain ⟨⟨r1, r2⟩, _, _⟩ := (HZ.out.below Bz).look
  clear b10
  refine hK.out _ _ ⟨p1, p2, q1, q2, r1, r2⟩ (fun _ => ?_)
  try simp only [Act.put, List.setIfInBounds_toArray, List.set_cons_zero, List.set_cons_succ]
  clear hK K
  refine wpSched_take (o := ⟨some 51, _, _, _, _, _⟩) (v := ?_) rfl rfl (fun w' hS => ?_) ?_
  rotate_left
  · go_simp <;> with_reducible rfl
  try simp only [Act.put, List.setIfInBounds_toArray, List.set_cons_zero, List.set_cons_succ]
  refine wpSched_take (o := ⟨some 52, _, _, _, _, _⟩) (v := ?_) rfl rfl (fun w' hS => ?_) ?_
  rotate_left
  · go_simp <;> with_reducible rfl
  try simp only [Act.put, List.setIfInBounds_toArray, List.set_cons_zero, List.set_cons_succ]
  refine wpSched_take (o := ⟨some 53, _, _, _, _, _⟩) (v := ?_) rfl rfl (fun w' hS => ?_) ?_
  rotate_left
  · go_simp <;> with_reducible rfl
  try simp only [Act.put, List.setIfInBounds_toArray, List.set_cons_zero, List.set_cons_succ]
  refine wpSched_take (o := ⟨some 54, _, _, _, _, _⟩) (v := ?_) rfl rfl (fun w' hS => ?_) ?_
  rotate_left
  · go_simp <;> with_reducible rfl
  try simp only [Act.put, List.setIfInBounds_toArray, List.set_cons_zero, List.set_cons_succ]
  refine wpSched_take (o := ⟨some 55, _, _, _, _, _⟩) (v := ?_) rfl rfl (fun w' hS => ?_) ?_
  rotate_left
  · obtain ⟨p1, p2, q1, q2, r1, r2⟩ := hS; go_simp <;> with_reducible rfl
  try simp only [Act.put, List.setIfInBounds_toArray, List.set_cons_zero, List.set_cons_succ]
  refine wpSched_take (o := ⟨some 58, _, _, _, _, _⟩) (v := ?_) rfl rfl (fun w' hS => ?_) ?_
  rotate_left
  · obtain ⟨p1, p2, q1, q2, r1, r2⟩ := hS; go_simp <;> with_reducible rfl
  try simp only [Act.put, List.setIfInBounds_toArray, List.set_cons_zero, List.set_cons_succ]
  refine wpSched_take (o := ⟨some 59, _, _, _, _, _⟩) (v := ?_) rfl rfl (fun w' hS => ?_) ?_
  rotate_left
  · obtain ⟨p1, p2, q1, q2, r1, r2⟩ := hS; go_simp <;> with_reducible rfl
  try simp only [Act.put, List.setIfInBounds_toArray, List.set_cons_zero, List.set_cons_succ]
  refine wpSched_take (o := ⟨some 61, _, _, _, _, _⟩) (v := ?_) rfl rfl (fun w' hS => ?_) ?_
  rotate_left
  · obtain ⟨p1, p2, q1, q2, r1, r2⟩ := hS; go_simp <;> with_reducible rfl
  try simp only [Act.put, List.setIfInBounds_toArray, List.set_cons_zero, List.set_cons_succ]
  refine wpSched_take (o := ⟨some 62, _, _, _, _, _⟩) (v := ?_) rfl rfl (fun w' hS => ?_) ?_
  rotate_left
  · obtain ⟨p1, p2, q1, q2, r1, r2⟩ := hS; go_simp <;> with_reducible rfl
  try simp only [Act.put, List.setIfInBounds_toArray, List.set_cons_zero, List.set_cons_succ]
  refine wpSched_call (o := ⟨some 56, _, _, _, _, _⟩) rfl rfl (fun K hK => ?_)
  go_simp
  with_reducible refine (sign_z (by repeat (first | exact hc | apply I.drew)) (by omega) tc HC.out).mono ?_
  rintro e w11 ⟨rfl, b11⟩
  replace b11 := below_trans (a := w10) (by go_grown) b11
  replace ha := ha.below b11
  replace hb := hb.below b11
  replace hc := hc.below b11
  replace Bz := below_trans Bz b11
  obtain ⟨⟨p1, p2⟩, _, _⟩ := (HX.out.below Bz).look
  obtain ⟨⟨q1, q2⟩, _, _⟩ := (HY.out.below Bz).look
  obtain ⟨⟨r1, r2⟩, _, _⟩ := (HZ.out.below Bz).look
  clear b11
  refine hK.out _ _ ⟨p1, p2, q1, q2, r1, r2⟩ (fun _ => ?_)
  try simp only [Act.put, List.setIfInBounds_toArray, List.set_cons_zero, List.set_cons_succ]
  clear hK K
  refine wpSched_take (o := ⟨some 57, _, _, _, _, _⟩) (v := ?_) rfl rfl (fun w' hS => ?_) ?_
  rotate_left
  · go_simp <;> with_reducible rfl
  try simp only [Act.put, List.setIfInBounds_toArray, List.set_cons_zero, List.set_cons_succ]
  refine wpSched_call (o := ⟨some 60, _, _, _, _, _⟩) rfl rfl (fun K hK => ?_)
  go_simp
  with_reducible refine (mul_z (by repeat (first | exact ha | apply I.drew)) (by repeat (first | exact hc | apply I.drew)) (by omega)).mono ?_
  rintro e w12 ⟨s12, A12, c12, l12, rfl, h12, m12, b12⟩
  replace b12 := below_trans (a := w11) (by go_grown) b12
  replace ha := ha.below b12
  replace hb := hb.below b12
  replace hc := hc.below b12
  replace Bz := below_trans Bz b12
  obtain ⟨⟨p1, p2⟩, _, _⟩ := (HX.out.below Bz).look
  obtain ⟨⟨q1, q2⟩, _, _⟩ := (HY.out.below Bz).look
  obtain ⟨⟨r1, r2⟩, _, _⟩ := (HZ.out.below Bz).look
  clear b12
  refine hK.out _ _ ⟨p1, p2, q1, q2, r1, r2⟩ (fun _ => ?_)
  try simp only [Act.put, List.setIfInBounds_toArray, List.set_cons_zero, List.set_cons_succ]
  clear hK K
  refine wpSched_call (o := ⟨some 63, _, _, _, _, _⟩) rfl rfl (fun K hK => ?_)
  go_simp
  with_reducible refine (mul_z (by repeat (first | exact hb | apply I.drew)) (by repeat (first | exact hc | apply I.drew)) (by omega)).mono ?_
  rintro e w13 ⟨s13, A13, c13, l13, rfl, h13, m13, b13⟩
  replace b13 := below_trans (a := w12) (by go_grown) b13
  replace ha := ha.below b13
  replace hb := hb.below b13
  replace hc := hc.below b13
  replace h12 := h12.below b13
  replace Bz := below_trans Bz b13
  obtain ⟨⟨p1, p2⟩, _, _⟩ := (HX.out.below Bz).look
  obtain ⟨⟨q1, q2⟩, _, _⟩ := (HY.out.below Bz).look
  obtain ⟨⟨r1, r2⟩, _, _⟩ := (HZ.out.below Bz).look
  clear b13
  refine hK.out _ _ ⟨p1, p2, q1, q2, r1, r2⟩ (fun _ => ?_)
  try simp only [Act.put, List.setIfInBounds_toArray, List.set_cons_zero, List.set_cons_succ]
  clear hK K
  refine wpSched_call (o := ⟨some 64, _, _, _, _, _⟩) rfl rfl (fun K hK => ?_)
  go_simp
  with_reducible refine (cmp_z (by repeat (first | exact h12.i | apply I.drew)) (by repeat (first | exact h13.i | apply I.drew)) (by omega) m E3.out).mono ?_
  rintro e w14 ⟨rfl, b14⟩
  replace b14 := below_trans (a := w13) (by go_grown) b14
  replace ha := ha.below b14
  replace hb := hb.below b14
  replace hc := hc.below b14
  replace Bz := below_trans Bz b14
  obtain ⟨⟨p1, p2⟩, _, _⟩ := (HX.out.below Bz).look
  obtain ⟨⟨q1, q2⟩, _, _⟩ := (HY.out.below Bz).look
  obtain ⟨⟨r1, r2⟩, _, _⟩ := (HZ.out.below Bz).look
  clear b14
  refine hK.out _ _ ⟨p1, p2, q1, q2, r1, r2⟩ (fun _ => ?_)
  try simp only [Act.put, List.setIfInBounds_toArray, List.set_cons_zero, List.set_cons_succ]
  clear hK K
  refine wpSched_take (o := ⟨some 65, _, _, _, _, _⟩) (v := ?_) rfl rfl (fun w' hS => ?_) ?_
  rotate_left
  · go_simp <;> with_reducible rfl
  try simp only [Act.put, List.setIfInBounds_toArray, List.set_cons_zero, List.set_cons_succ]
  refine wpSched_take (o := ⟨some 66, _, _, _, _, _⟩) (v := ?_) rfl rfl (fun w' hS => ?_) ?_
  rotate_left
  · go_simp <;> with_reducible rfl
  try simp only [Act.put, List.setIfInBounds_toArray, List.set_cons_zero, List.set_cons_succ]
  refine wpSched_take (o := ⟨some 67, _, _, _, _, _⟩) (v := ?_) rfl rfl (fun w' hS => ?_) ?_
  rotate_left
  · go_simp <;> with_reducible rfl
  try simp only [Act.put, List.setIfInBounds_toArray, List.set_cons_zero, List.set_cons_succ]
  refine wpSched_take (o := ⟨some 68, _, _, _, _, _⟩) (v := ?_) rfl rfl (fun w' hS => ?_) ?_
  rotate_left
  · obtain ⟨p1, p2, q1, q2, r1, r2⟩ := hS; go_simp <;> with_reducible rfl
  try simp only [Act.put, List.setIfInBounds_toArray, List.set_cons_zero, List.set_cons_succ]
  refine wpSched_take (o := ⟨some 69, _, _, _, _, _⟩) (v := ?_) rfl rfl (fun w' hS => ?_) ?_
  rotate_left
  · obtain ⟨p1, p2, q1, q2, r1, r2⟩ := hS; go_simp <;> with_reducible rfl
  try simp only [Act.put, List.setIfInBounds_toArray, List.set_cons_zero, List.set_cons_succ]
  refine wpSched_take (o := ⟨some 72, _, _, _, _, _⟩) (v := ?_) rfl rfl (fun w' hS => ?_) ?_
  rotate_left
  · obtain ⟨p1, p2, q1, q2, r1, r2⟩ := hS; go_simp <;> with_reducible rfl
  try simp only [Act.put, List.setIfInBounds_toArray, List.set_cons_zero, List.set_cons_succ]
  refine wpSched_take (o := ⟨some 74, _, _, _, _, _⟩) (v := ?_) rfl rfl (fun w' hS => ?_) ?_
  rotate_left
  · obtain ⟨p1, p2, q1, q2, r1, r2⟩ := hS; go_simp <;> with_reducible rfl
  try simp only [Act.put, List.setIfInBounds_toArray, List.set_cons_zero, List.set_cons_succ]
  refine wpSched_call (o := ⟨some 70, _, _, _, _, _⟩) rfl rfl (fun K hK => ?_)
  go_simp
  with_reducible refine (mul_z (by repeat (first | exact ha | apply I.drew)) (by repeat (first | exact hb | apply I.drew)) (by omega)).mono ?_
  rintro e w15 ⟨s15, A15, c15, l15, rfl, h15, m15, b15⟩
  replace b15 := below_trans (a := w14) (by go_grown) b15
  replace ha := ha.below b15
  replace hb := hb.below b15
  replace hc := hc.below b15
  replace Bz := below_trans Bz b15
  obtain ⟨⟨p1, p2⟩, _, _⟩ := (HX.out.below Bz).look
  obtain ⟨⟨q1, q2⟩, _, _⟩ := (HY.out.below Bz).look
  obtain ⟨⟨r1, r2⟩, _, _⟩ := (HZ.out.below Bz).look
  clear b15
  refine hK.out _ _ ⟨p1, p2, q1, q2, r1, r2⟩ (fun _ => ?_)
  try simp only [Act.put, List.setIfInBounds_toArray, List.set_cons_zero, List.set_cons_succ]
  clear hK K
  refine wpSched_call (o := ⟨some 71, _, _, _, _, _⟩) rfl rfl (fun K hK => ?_)
  go_simp
  with_reducible refine (sign_z (by repeat (first | exact h15.i | apply I.drew)) (by omega) n E4.out).mono ?_
  rintro e w16 ⟨rfl, b16⟩
  replace b16 := below_trans (a := w15) (by go_grown) b16
  replace ha := ha.below b16
  replace hb := hb.below b16
  replace hc := hc.below b16
  replace Bz := below_trans Bz b16
  obtain ⟨⟨p1, p2⟩, _, _⟩ := (HX.out.below Bz).look
  obtain ⟨⟨q1, q2⟩, _, _⟩ := (HY.out.below Bz).look
  obtain ⟨⟨r1, r2⟩, _, _⟩ := (HZ.out.below Bz).look
  clear b16
  refine hK.out _ _ ⟨p1, p2, q1, q2, r1, r2⟩ (fun _ => ?_)
  try simp only [Act.put, List.setIfInBounds_toArray, List.set_cons_zero, List.set_cons_succ]
  clear hK K
  refine wpSched_call (o := ⟨some 73, _, _, _, _, _⟩) rfl rfl (fun K hK => ?_)
  go_simp
  with_reducible refine (sign_z (by repeat (first | exact ha | apply I.drew)) (by omega) ta HA.out).mono ?_
  rintro e w17 ⟨rfl, b17⟩
  replace b17 := below_trans (a := w16) (by go_grown) b17
  replace hb := hb.below b17
  replace hc := hc.below b17
  replace Bz := below_trans Bz b17
  obtain ⟨⟨p1, p2⟩, _, _⟩ := (HX.out.below Bz).look
  obtain ⟨⟨q1, q2⟩, _, _⟩ := (HY.out.below Bz).look
  obtain ⟨⟨r1, r2⟩, _, _⟩ := (HZ.out.below Bz).look
  clear b17
  refine hK.out _ _ ⟨p1, p2, q1, q2, r1, r2⟩ (fun _ => ?_)
  try simp only [Act.put, List.setIfInBounds_toArray, List.set_cons_zero, List.set_cons_succ]
  clear hK K
  refine wpSched_call (o := ⟨some 75, _, _, _, _, _⟩) rfl rfl (fun K hK => ?_)
  go_simp
  with_reducible refine (sign_z (by repeat (first | exact hb | apply I.drew)) (by omega) tb HB.out).mono ?_
  rintro e w18 ⟨rfl, b18⟩
  replace b18 := below_trans (a := w17) (by go_grown) b18
  replace hb := hb.below b18
  replace hc := hc.below b18
  replace Bz := below_trans Bz b18
  obtain ⟨⟨p1, p2⟩, _, _⟩ := (HX.out.below Bz).look
  obtain ⟨⟨q1, q2⟩, _, _⟩ := (HY.out.below Bz).look
  obtain ⟨⟨r1, r2⟩, _, _⟩ := (HZ.out.below Bz).look
  clear b18
  refine hK.out _ _ ⟨p1, p2, q1, q2, r1, r2⟩ (fun _ => ?_)
  try simp only [Act.put, List.setIfInBounds_toArray, List.set_cons_zero, List.set_cons_succ]
  clear hK K
  refine wpSched_take (o := ⟨some 76, _, _, _, _, _⟩) (v := ?_) rfl rfl (fun w' hS => ?_) ?_
  rotate_left
  · go_simp <;> with_reducible rfl
  try simp only [Act.put, List.setIfInBounds_toArray, List.set_cons_zero, List.set_cons_succ]
  refine wpSched_take (o := ⟨some 77, _, _, _, _, _⟩) (v := ?_) rfl rfl (fun w' hS => ?_) ?_
  rotate_left
  · go_simp <;> with_reducible rfl
  try simp only [Act.put, List.setIfInBounds_toArray, List.set_cons_zero, List.set_cons_succ]
  refine wpSched_take (o := ⟨some 78, _, _, _, _, _⟩) (v := ?_) rfl rfl (fun w' hS => ?_) ?_
  rotate_left
  · go_simp <;> with_reducible rfl
  try simp only [Act.put, List.setIfInBounds_toArray, List.set_cons_zero, List.set_cons_succ]
  refine wpSched_take (o := ⟨some 79, _, _, _, _, _⟩) (v := ?_) rfl rfl (fun w' hS => ?_) ?_
  rotate_left
  · go_simp <;> with_reducible rfl
  try simp only [Act.put, List.setIfInBounds_toArray, List.set_cons_zero, List.set_cons_succ]
  refine wpSched_take (o := ⟨some 80, _, _, _, _, _⟩) (v := ?_) rfl rfl (fun w' hS => ?_) ?_
  rotate_left
  · go_simp <;> with_reducible rfl
  try simp only [Act.put, List.setIfInBounds_toArray, List.set_cons_zero, List.set_cons_succ]
  refine wpSched_take (o := ⟨some 81, _, _, _, _, _⟩) (v := ?_) rfl rfl (fun w' hS => ?_) ?_
  rotate_left
  · go_simp <;> with_reducible rfl
  try simp only [Act.put, List.setIfInBounds_toArray, List.set_cons_zero, List.set_cons_succ]
  refine wpSched_take (o := ⟨some 82, _, _, _, _, _⟩) (v := ?_) rfl rfl (fun w' hS => ?_) ?_
  rotate_left
  · go_simp <;> with_reducible rfl
  try simp only [Act.put, List.setIfInBounds_toArray, List.set_cons_zero, List.set_cons_succ]
  refine wpSched_take (o := ⟨some 83, _, _, _, _, _⟩) (v := ?_) rfl rfl (fun w' hS => ?_) ?_
  rotate_left
  · obtain ⟨p1, p2, q1, q2, r1, r2⟩ := hS; go_simp <;> with_reducible rfl
  try simp only [Act.put, List.setIfInBounds_toArray, List.set_cons_zero, List.set_cons_succ]
  refine wpSched_take (o := ⟨some 84, _, _, _, _, _⟩) (v := ?_) rfl rfl (fun w' hS => ?_) ?_
  rotate_left
  · obtain ⟨p1, p2, q1, q2, r1, r2⟩ := hS; go_simp <;> with_reducible rfl
  try simp only [Act.put, List.setIfInBounds_toArray, List.set_cons_zero, List.set_cons_succ]
  refine wpSched_call (o := ⟨some 85, _, _, _, _, _⟩) rfl rfl (fun K hK => ?_)
  go_simp
  with_reducible refine (cmp_z (by repeat (first | exact hb | apply I.drew)) (by repeat (first | exact hc | apply I.drew)) (by omega) k2 HK2.out).mono ?_
  rintro e w19 ⟨rfl, b19⟩
  replace b19 := below_trans (a := w18) (by go_grown) b19
  replace hb := hb.below b19
  replace Bz := below_trans Bz b19
  obtain ⟨⟨p1, p2⟩, _, _⟩ := (HX.out.below Bz).look
  obtain ⟨⟨q1, q2⟩, _, _⟩ := (HY.out.below Bz).look
  obtain ⟨⟨r1, r2⟩, _, _⟩ := (HZ.out.below Bz).look
  clear b19
  refine hK.out _ _ ⟨p1, p2, q1, q2, r1, r2⟩ (fun _ => ?_)
  try simp only [Act.put, List.setIfInBounds_toArray, List.set_cons_zero, List.set_cons_succ]
  clear hK K
  refine wpSched_take (o := ⟨some 86, _, _, _, _, _⟩) (v := ?_) rfl rfl (fun w' hS => ?_) ?_
  rotate_left
  · go_simp <;> with_reducible rfl
  try simp only [Act.put, List.setIfInBounds_toArray, List.set_cons_zero, List.set_cons_succ]
  refine wpSched_take (o := ⟨some 87, _, _, _, _, _⟩) (v := ?_) rfl rfl (fun w' hS => ?_) ?_
  rotate_left
  · go_simp <;> with_reducible rfl
  try simp only [Act.put, List.setIfInBounds_toArray, List.set_cons_zero, List.set_cons_succ]
  refine wpSched_take (o := ⟨some 88, _, _, _, _, _⟩) (v := ?_) rfl rfl (fun w' hS => ?_) ?_
  rotate_left
  · go_simp <;> with_reducible rfl
  try simp only [Act.put, List.setIfInBounds_toArray, List.set_cons_zero, List.set_cons_succ]
  refine wpSched_skip (o := ⟨some 89, _, _, _, _, _⟩) rfl rfl ?_
  try simp only [Act.put, List.setIfInBounds_toArray, List.set_cons_zero, List.set_cons_succ]
  refine wpSched_skip (o := ⟨some 90, _, _, _, _, _⟩) rfl rfl ?_
  try simp only [Act.put, List.setIfInBounds_toArray, List.set_cons_zero, List.set_cons_succ]
  refine wpSched_pass (o := ⟨some 91, _, _, _, _, _⟩) rfl rfl ⟨p1, p2, q1, q2, r1, r2⟩ ?_
  try simp only [Act.put, List.setIfInBounds_toArray, List.set_cons_zero, List.set_cons_succ]
  refine wpSched_skip (o := ⟨some 92, _, _, _, _, _⟩) rfl rfl ?_
  try simp only [Act.put, List.setIfInBounds_toArray, List.set_cons_zero, List.set_cons_succ]
  refine wpSched_take (o := ⟨some 93, _, _, _, _, _⟩) (v := ?_) rfl rfl (fun w' hS => ?_) ?_
  rotate_left
  · go_simp <;> with_reducible rfl
  try simp only [Act.put, List.setIfInBounds_toArray, List.set_cons_zero, List.set_cons_succ]
  refine wpSched_take (o := ⟨some 94, _, _, _, _, _⟩) (v := ?_) rfl rfl (fun w' hS => ?_) ?_
  rotate_left
  · go_simp <;> with_reducible rfl
  try simp only [Act.put, List.setIfInBounds_toArray, List.set_cons_zero, List.set_cons_succ]
  refine wpSched_take (o := ⟨some 8, _, _, _, _, _⟩) (v := ?_) rfl rfl (fun w' hS => ?_) ?_
  rotate_left
  · go_simp <;> with_reducible rfl
  try simp only [Act.put, List.setIfInBounds_toArray, List.set_cons_zero, List.set_cons_succ]
  refine wpSched_done ?_
  go_wp2_with fail
  with_reducible refine (divmod_e0 (by repeat (first | exact hb | apply I.drew)) (by omega) h0.out).mono ?_
  rintro e w20 ⟨s20, A20, c20, l20, s20r, A20r, c20r, l20r, rfl, h20, h20r, m20, m20r, b20⟩
  replace b20 := below_trans (a := w19) (by go_grown) b20
  replace hb := hb.below b20
  replace Bz := below_trans Bz b20
  obtain ⟨⟨p1, p2⟩, _, _⟩ := (HX.out.below Bz).look
  obtain ⟨⟨q1, q2⟩, _, _⟩ := (HY.out.below Bz).look
  obtain ⟨⟨r1, r2⟩, _, _⟩ := (HZ.out.below Bz).look
  clear b20
  go_wp2_with fail
  obtain ⟨W2, hW2, y0, y1, hB2⟩ := box1 w20 (.bool s20) (.slice A20 l20 c20) (.bool s20r) (.slice A20r l20r c20r)
  rw [← hW2]
  clear hW2
  have HQ := Lib.hid y0
  have HR := Lib.hid y1
  clear y0 y1
  replace hb := hb.below hB2
  replace h20 := h20.below hB2
  replace h20r := h20r.below hB2
  replace Bz := below_trans Bz hB2
  have Bq := Below.refl W2.heap.size W2
  obtain ⟨⟨p1, p2⟩, _, _⟩ := (HX.out.below Bz).look
  obtain ⟨⟨q1, q2⟩, _, _⟩ := (HY.out.below Bz).look
  obtain ⟨⟨r1, r2⟩, _, _⟩ := (HZ.out.below Bz).look
  obtain ⟨⟨y1, y2⟩, _, _⟩ := (HQ.out.below Bq).look
  obtain ⟨⟨z1, z2⟩, _, _⟩ := (HR.out.below Bq).look
  clear hB2
  with_reducible refine (sign_z (by repeat (first | exact hb | apply I.drew)) (by omega) tb HB.out).mono ?_
  rintro e w21 ⟨rfl, b21⟩
  replace b21 := below_trans (a := W2) (by go_grown) b21
  replace h20 := h20.below b21
  replace h20r := h20r.below b21
  replace Bz := below_trans Bz b21
  replace Bq := below_trans Bq b21
  obtain ⟨⟨p1, p2⟩, _, _⟩ := (HX.out.below Bz).look
  obtain ⟨⟨q1, q2⟩, _, _⟩ := (HY.out.below Bz).look
  obtain ⟨⟨r1, r2⟩, _, _⟩ := (HZ.out.below Bz).look
  obtain ⟨⟨y1, y2⟩, _, _⟩ := (HQ.out.below Bq).look
  obtain ⟨⟨z1, z2⟩, _, _⟩ := (HR.out.below Bq).look
  clear b21
  go_wp2_with fail
  with_reducible refine (is_e (by repeat (first | exact h20 | apply J.drew)) rfl (Lib.hid (by decide))).mono ?_
  rintro e w22 ⟨rfl, b22⟩
  replace b22 := below_trans (a := w21) (by go_grown) b22
  replace h20r := h20r.below b22
  replace Bz := below_trans Bz b22
  replace Bq := below_trans Bq b22
  obtain ⟨⟨p1, p2⟩, _, _⟩ := (HX.out.below Bz).look
  obtain ⟨⟨q1, q2⟩, _, _⟩ := (HY.out.below Bz).look
  obtain ⟨⟨r1, r2⟩, _, _⟩ := (HZ.out.below Bz).look
  obtain ⟨⟨y1, y2⟩, _, _⟩ := (HQ.out.below Bq).look
  obtain ⟨⟨z1, z2⟩, _, _⟩ := (HR.out.below Bq).look
  clear b22
  go_wp2_with fail
  with_reducible refine (is_e (by repeat (first | exact h20r | apply J.drew)) rfl (Lib.hid (by decide))).mono ?_
  rintro e w23 ⟨rfl, b23⟩
  replace b23 := below_trans (a := w22) (by go_grown) b23
  replace Bz := below_trans Bz b23
  replace Bq := below_trans Bq b23
  obtain ⟨⟨p1, p2⟩, _, _⟩ := (HX.out.below Bz).look
  obtain ⟨⟨q1, q2⟩, _, _⟩ := (HY.out.below Bz).look
  obtain ⟨⟨r1, r2⟩, _, _⟩ := (HZ.out.below Bz).look
  obtain ⟨⟨y1, y2⟩, _, _⟩ := (HQ.out.below Bq).look
  obtain ⟨⟨z1, z2⟩, _, _⟩ := (HR.out.below Bq).look
  clear b23
  go_wp2_with fail
  with_reducible refine (awake2 _).mono ?_
  rintro e w24 ⟨rfl, b24⟩
  replace b24 := below_trans (a := w23) (by go_grown) b24
  replace Bz := below_trans Bz b24
  replace Bq := below_trans Bq b24
  obtain ⟨⟨p1, p2⟩, _, _⟩ := (HX.out.below Bz).look
  obtain ⟨⟨q1, q2⟩, _, _⟩ := (HY.out.below Bz).look
  obtain ⟨⟨r1, r2⟩, _, _⟩ := (HZ.out.below Bz).look
  obtain ⟨⟨y1, y2⟩, _, _⟩ := (HQ.out.below Bq).look
  obtain ⟨⟨z1, z2⟩, _, _⟩ := (HR.out.below Bq).look
  clear b24
  go_wp2_with fail
  go_ret
  exact ⟨rfl, below_trans hB (below_trans Bz (by go_grown))⟩
end Go.Proofs.Ytjlfcnkndndgaaa
