/-
  The walk of tripwirelaw02.WholeOrder, one of its ways. Written by wip/gen/order.py.
-/
import Derived.Test.YtjlfcnkndndgaaaOrder
namespace Go.Proofs.Ytjlfcnkndndgaaa
open Go.RowKit Tw

set_option maxRecDepth 100000 in
set_option maxHeartbeats 8000000 in
theorem order_3n (sa sb sc : Bool) (A B' C' : Option Addr) (ca cb cc la lb lc : Nat) (a b c : Int) (w : World) (ha : I w sa A ca la a) (hb : I w sb B' cb lb b) (hc : I w sc C' cc lc c) (ha1 : la ≤ 40) (hb1 : lb ≤ 40) (hc1 : lc ≤ 40)
    (h0 : b ≠ 0) (k : Int) (HK : Hid (cmpI a b = k)) (g1 : decide (0 < k) = false) (k2 : Int) (HK2 : Hid (cmpI b c = k2)) (g2 : decide (0 < k2) = false) (k3 : Int) (HK3 : Hid (cmpI a c = k3)) (g3 : decide (k3 ≤ 0) = true) :
    Calls Try.prog 4 #[.agg #[.bool sa, .slice A la ca], .agg #[.bool sb, .slice B' lb cb], .agg #[.bool sc, .slice C' lc cc]] w fun e w' => e = .returned (.bool true) ∧ Below w.heap.size w w' := by
  obtain ⟨ta, HA⟩ : ∃ t, Hid (a.sign = t) := ⟨_, Lib.hid rfl⟩
  obtain ⟨tb, HB⟩ : ∃ t, Hid (b.sign = t) := ⟨_, Lib.hid rfl⟩
  obtain ⟨tc, HC⟩ : ∃ t, Hid (c.sign = t) := ⟨_, Lib.hid rfl⟩
  obtain ⟨k', HK'⟩ : ∃ t, Hid (cmpI b a = t) := ⟨_, Lib.hid rfl⟩
  have E1 : Hid ((a - b).sign = k) := by show _ = _; rw [cmpI_sub]; exact HK.out
  have E2 : Hid (cmpI (a + c) (b + c) = k) := by show _ = _; rw [cmpI_add]; exact HK.out
  have bk : -1 ≤ k ∧ k ≤ 1 := by rw [← HK.out]; exact cmpI_bd _ _
  have ba : -1 ≤ ta ∧ ta ≤ 1 := by rw [← HA.out]; exact sign_range _
  have bb : -1 ≤ tb ∧ tb ≤ 1 := by rw [← HB.out]; exact sign_range _
  have bc : -1 ≤ tc ∧ tc ≤ 1 := by rw [← HC.out]; exact sign_range _
  have hk' : k' = -k := by rw [← HK'.out, ← HK.out]; exact cmpI_swap _ _
  have u0 : IntKind.i64.wrap (-k') = k := by rw [wrap_id (by omega)]; omega
  have v0 : wrap64 (-k') = k := by rw [IntWalk.wrap64_in _ ⟨by omega, by omega⟩]; omega
  obtain ⟨m, hm⟩ : ∃ m, k * tc = m := ⟨_, rfl⟩
  have u1 : IntKind.i64.wrap (k * tc) = m := by rw [wrap_id (mul_bd bk bc)]; exact hm
  have v1 : wrap64 (k * tc) = m := by have := mul_bd bk bc; rw [IntWalk.wrap64_in _ ⟨by omega, by omega⟩]; exact hm
  obtain ⟨n, hn⟩ : ∃ m, ta * tb = m := ⟨_, rfl⟩
  have u2 : IntKind.i64.wrap (ta * tb) = n := by rw [wrap_id (mul_bd ba bb)]; exact hn
  have v2 : wrap64 (ta * tb) = n := by have := mul_bd ba bb; rw [IntWalk.wrap64_in _ ⟨by omega, by omega⟩]; exact hn
  have E3 : Hid (cmpI (a * c) (b * c) = m) := by show _ = _; rw [cmpI_mul, HK.out, HC.out]; exact hm
  have E4 : Hid ((a * b).sign = n) := by show _ = _; rw [Int.sign_mul, HA.out, HB.out]; exact hn
  have g0 : (tb == 0) = false := by
    have : tb ≠ 0 := by rw [← HB.out]; intro h; exact h0 (Int.sign_eq_zero_iff_zero.1 h)
    simpa using this
  obtain ⟨tr, HR1⟩ : ∃ t, Hid ((a % b).sign = t) := ⟨_, Lib.hid rfl⟩
  have g4 : decide (0 ≤ tr) = true := by
    rw [← HR1.out]
    have := Int.emod_nonneg a h0
    simpa using Int.sign_nonneg_iff.2 this
  have HR2 : Hid (cmpI (a % b) (b.natAbs : Int) = -1) := by
    show _ = _
    have := Int.emod_lt a h0
    unfold cmpI
    rw [if_pos this]
  clear hm hn hk' bk ba bb bc
  obtain ⟨W, hW, x0, x1, x2, hB⟩ := box2 w (.bool sa) (.slice A la ca) (.bool sb) (.slice B' lb cb) (.bool sc) (.slice C' lc cc)
  replace ha := ha.below hB
  replace hb := hb.below hB
  replace hc := hc.below hB
  have HX := Lib.hid x0
  have HY := Lib.hid x1
  have HZ := Lib.hid x2
  have Bz := Below.refl W.heap.size W
  clear x0 x1 x2
  go_enter Try.func4, Try.ntmps4
  go_wp2_with fail
  rw [← hW]
  clear hW
  with_reducible refine (short_z 40 true (by simp; omega)).mono ?_
  rintro e w1 ⟨rfl, b1⟩
  replace b1 := below_trans (a := W) (by go_grown) b1
  replace ha := ha.below b1
  replace hb := hb.below b1
  replace hc := hc.below b1
  replace Bz := below_trans Bz b1
  obtain ⟨⟨p1, p2⟩, _, _⟩ := (HX.out.below Bz).look
  obtain ⟨⟨q1, q2⟩, _, _⟩ := (HY.out.below Bz).look
  obtain ⟨⟨r1, r2⟩, _, _⟩ := (HZ.out.below Bz).look
  clear b1
  go_wp2_with fail
  with_reducible refine (short_z 40 true (by simp; omega)).mono ?_
  rintro e w2 ⟨rfl, b2⟩
  replace b2 := below_trans (a := w1) (by go_grown) b2
  replace ha := ha.below b2
  replace hb := hb.below b2
  replace hc := hc.below b2
  replace Bz := below_trans Bz b2
  obtain ⟨⟨p1, p2⟩, _, _⟩ := (HX.out.below Bz).look
  obtain ⟨⟨q1, q2⟩, _, _⟩ := (HY.out.below Bz).look
  obtain ⟨⟨r1, r2⟩, _, _⟩ := (HZ.out.below Bz).look
  clear b2
  go_wp2_with fail
  with_reducible refine (short_z 40 true (by simp; omega)).mono ?_
  rintro e w3 ⟨rfl, b3⟩
  replace b3 := below_trans (a := w2) (by go_grown) b3
  replace ha := ha.below b3
  replace hb := hb.below b3
  replace hc := hc.below b3
  replace Bz := below_trans Bz b3
  obtain ⟨⟨p1, p2⟩, _, _⟩ := (HX.out.below Bz).look
  obtain ⟨⟨q1, q2⟩, _, _⟩ := (HY.out.below Bz).look
  obtain ⟨⟨r1, r2⟩, _, _⟩ := (HZ.out.below Bz).look
  clear b3
  go_wp2_with fail
  with_reducible refine (cmp_z (by repeat (first | exact ha | apply I.drew)) (by repeat (first | exact hb | apply I.drew)) (by omega) k HK.out).mono ?_
  rintro e w4 ⟨rfl, b4⟩
  replace b4 := below_trans (a := w3) (by go_grown) b4
  replace ha := ha.below b4
  replace hb := hb.below b4
  replace hc := hc.below b4
  replace Bz := below_trans Bz b4
  obtain ⟨⟨p1, p2⟩, _, _⟩ := (HX.out.below Bz).look
  obtain ⟨⟨q1, q2⟩, _, _⟩ := (HY.out.below Bz).look
  obtain ⟨⟨r1, r2⟩, _, _⟩ := (HZ.out.below Bz).look
  clear b4
  go_wp2_with fail
  (try simp only [List.append_eq, List.cons_append, List.nil_append])
  refine wp_region_sched [(0, false), (1, false), (2, false), (3, true), (4, true), (5, false), (6, false), (7, false), (8, false), (9, false), (10, true), (11, false), (12, false), (13, false), (14, false), (15, false), (16, false), (17, false), (19, false), (20, false), (18, true), (21, true), (22, true), (23, false), (24, false), (25, false), (26, false), (27, false), (30, false), (31, false), (33, false), (34, false), (28, true), (29, false), (32, true), (35, true), (36, true), (37, false), (38, false), (39, false), (40, false), (41, false), (44, false), (46, false), (42, true), (43, true), (45, true), (47, true), (48, false), (49, false), (50, false), (51, false), (52, false), (53, false), (54, false), (55, false), (56, false), (57, true), (58, false), (59, false), (60, false), (61, false), (62, false), (63, true), (64, false), (65, false), (66, false), (67, false)] (fun w' => w'.cell? ⟨w.heap.size, 0, none⟩ = some (.bool sa) ∧ w'.cell? ⟨w.heap.size, 1, none⟩ = some (.slice A la ca) ∧ w'.cell? ⟨w.heap.size + 1, 0, none⟩ = some (.bool sb) ∧ w'.cell? ⟨w.heap.size + 1, 1, none⟩ = some (.slice B' lb cb) ∧ w'.cell? ⟨w.heap.size + 2, 0, none⟩ = some (.bool sc) ∧ w'.cell? ⟨w.heap.size + 2, 1, none⟩ = some (.slice C' lc cc)) (by kernel_rfl) (by kernel_rfl) ⟨p1, p2, q1, q2, r1, r2⟩ ?_
  refine wpSched_take (o := ⟨some 28, _, _, _, _, _⟩) (v := ?_) rfl rfl (fun w' hS => ?_) ?_
  rotate_left
  · go_simp <;> with_reducible rfl
  try simp only [Act.put, List.setIfInBounds_toArray, List.set_cons_zero, List.set_cons_succ]
  refine wpSched_take (o := ⟨some 29, _, _, _, _, _⟩) (v := ?_) rfl rfl (fun w' hS => ?_) ?_
  rotate_left
  · obtain ⟨p1, p2, q1, q2, r1, r2⟩ := hS; go_simp <;> with_reducible rfl
  try simp only [Act.put, List.setIfInBounds_toArray, List.set_cons_zero, List.set_cons_succ]
  refine wpSched_take (o := ⟨some 30, _, _, _, _, _⟩) (v := ?_) rfl rfl (fun w' hS => ?_) ?_
  rotate_left
  · obtain ⟨p1, p2, q1, q2, r1, r2⟩ := hS; go_simp <;> with_reducible rfl
  try simp only [Act.put, List.setIfInBounds_toArray, List.set_cons_zero, List.set_cons_succ]
  refine wpSched_call (o := ⟨some 31, _, _, _, _, _⟩) rfl rfl (fun K hK => ?_)
  go_simp
  with_reducible refine (sub_z (by repeat (first | exact ha | apply I.drew)) (by repeat (first | exact hb | apply I.drew)) (by omega)).mono ?_
  rintro e w5 ⟨s5, A5, c5, l5, rfl, h5, m5, b5⟩
  replace b5 := below_trans (a := w4) (by go_grown) b5
  replace ha := ha.below b5
  replace hb := hb.below b5
  replace hc := hc.below b5
  replace Bz := below_trans Bz b5
  obtain ⟨⟨p1, p2⟩, _, _⟩ := (HX.out.below Bz).look
  obtain ⟨⟨q1, q2⟩, _, _⟩ := (HY.out.below Bz).look
  obtain ⟨⟨r1, r2⟩, _, _⟩ := (HZ.out.below Bz).look
  clear b5
  refine hK.out _ _ ⟨p1, p2, q1, q2, r1, r2⟩ (fun _ => ?_)
  try simp only [Act.put, List.setIfInBounds_toArray, List.set_cons_zero, List.set_cons_succ]
  clear hK K
  refine wpSched_call (o := ⟨some 32, _, _, _, _, _⟩) rfl rfl (fun K hK => ?_)
  go_simp
  with_reducible refine (sign_z (by repeat (first | exact h5.i | apply I.drew)) (by omega) k E1.out).mono ?_
  rintro e w6 ⟨rfl, b6⟩
  replace b6 := below_trans (a := w5) (by go_grown) b6
  replace ha := ha.below b6
  replace hb := hb.below b6
  replace hc := hc.below b6
  replace Bz := below_trans Bz b6
  obtain ⟨⟨p1, p2⟩, _, _⟩ := (HX.out.below Bz).look
  obtain ⟨⟨q1, q2⟩, _, _⟩ := (HY.out.below Bz).look
  obtain ⟨⟨r1, r2⟩, _, _⟩ := (HZ.out.below Bz).look
  clear b6
  refine hK.out _ _ ⟨p1, p2, q1, q2, r1, r2⟩ (fun _ => ?_)
  try simp only [Act.put, List.setIfInBounds_toArray, List.set_cons_zero, List.set_cons_succ]
  clear hK K
  refine wpSched_take (o := ⟨some 33, _, _, _, _, _⟩) (v := ?_) rfl rfl (fun w' hS => ?_) ?_
  rotate_left
  · go_simp <;> with_reducible rfl
  try simp only [Act.put, List.setIfInBounds_toArray, List.set_cons_zero, List.set_cons_succ]
  refine wpSched_take (o := ⟨some 34, _, _, _, _, _⟩) (v := ?_) rfl rfl (fun w' hS => ?_) ?_
  rotate_left
  · go_simp <;> with_reducible rfl
  try simp only [Act.put, List.setIfInBounds_toArray, List.set_cons_zero, List.set_cons_succ]
  refine wpSched_take (o := ⟨some 35, _, _, _, _, _⟩) (v := ?_) rfl rfl (fun w' hS => ?_) ?_
  rotate_left
  · go_simp <;> with_reducible rfl
  try simp only [Act.put, List.setIfInBounds_toArray, List.set_cons_zero, List.set_cons_succ]
  refine wpSched_take (o := ⟨some 36, _, _, _, _, _⟩) (v := ?_) rfl rfl (fun w' hS => ?_) ?_
  rotate_left
  · obtain ⟨p1, p2, q1, q2, r1, r2⟩ := hS; go_simp <;> with_reducible rfl
  try simp only [Act.put, List.setIfInBounds_toArray, List.set_cons_zero, List.set_cons_succ]
  refine wpSched_take (o := ⟨some 37, _, _, _, _, _⟩) (v := ?_) rfl rfl (fun w' hS => ?_) ?_
  rotate_left
  · obtain ⟨p1, p2, q1, q2, r1, r2⟩ := hS; go_simp <;> with_reducible rfl
  try simp only [Act.put, List.setIfInBounds_toArray, List.set_cons_zero, List.set_cons_succ]
  refine wpSched_call (o := ⟨some 38, _, _, _, _, _⟩) rfl rfl (fun K hK => ?_)
  go_simp
  with_reducible refine (cmp_z (by repeat (first | exact hb | apply I.drew)) (by repeat (first | exact ha | apply I.drew)) (by omega) k' HK'.out).mono ?_
  rintro e w7 ⟨rfl, b7⟩
  replace b7 := below_trans (a := w6) (by go_grown) b7
  replace ha := ha.below b7
  replace hb := hb.below b7
  replace hc := hc.below b7
  replace Bz := below_trans Bz b7
  obtain ⟨⟨p1, p2⟩, _, _⟩ := (HX.out.below Bz).look
  obtain ⟨⟨q1, q2⟩, _, _⟩ := (HY.out.below Bz).look
  obtain ⟨⟨r1, r2⟩, _, _⟩ := (HZ.out.below Bz).look
  clear b7
  refine hK.out _ _ ⟨p1, p2, q1, q2, r1, r2⟩ (fun _ => ?_)
  try simp only [Act.put, List.setIfInBounds_toArray, List.set_cons_zero, List.set_cons_succ]
  clear hK K
  refine wpSched_take (o := ⟨some 39, _, _, _, _, _⟩) (v := ?_) rfl rfl (fun w' hS => ?_) ?_
  rotate_left
  · go_simp <;> with_reducible rfl
  try simp only [Act.put, List.setIfInBounds_toArray, List.set_cons_zero, List.set_cons_succ]
  refine wpSched_take (o := ⟨some 40, _, _, _, _, _⟩) (v := ?_) rfl rfl (fun w' hS => ?_) ?_
  rotate_left
  · go_simp <;> with_reducible rfl
  try simp only [Act.put, List.setIfInBounds_toArray, List.set_cons_zero, List.set_cons_succ]
  refine wpSched_take (o := ⟨some 41, _, _, _, _, _⟩) (v := ?_) rfl rfl (fun w' hS => ?_) ?_
  rotate_left
  · go_simp <;> with_reducible rfl
  try simp only [Act.put, List.setIfInBounds_toArray, List.set_cons_zero, List.set_cons_succ]
  refine wpSched_take (o := ⟨some 42, _, _, _, _, _⟩) (v := ?_) rfl rfl (fun w' hS => ?_) ?_
  rotate_left
  · go_simp <;> with_reducible rfl
  try simp only [Act.put, List.setIfInBounds_toArray, List.set_cons_zero, List.set_cons_succ]
  refine wpSched_take (o := ⟨some 43, _, _, _, _, _⟩) (v := ?_) rfl rfl (fun w' hS => ?_) ?_
  rotate_left
  · go_simp <;> with_reducible rfl
  try simp only [Act.put, List.setIfInBounds_toArray, List.set_cons_zero, List.set_cons_succ]
  refine wpSched_take (o := ⟨some 44, _, _, _, _, _⟩) (v := ?_) rfl rfl (fun w' hS => ?_) ?_
  rotate_left
  · obtain ⟨p1, p2, q1, q2, r1, r2⟩ := hS; go_simp <;> with_reducible rfl
  try simp only [Act.put, List.setIfInBounds_toArray, List.set_cons_zero, List.set_cons_succ]
  refine wpSched_take (o := ⟨some 45, _, _, _, _, _⟩) (v := ?_) rfl rfl (fun w' hS => ?_) ?_
  rotate_left
  · obtain ⟨p1, p2, q1, q2, r1, r2⟩ := hS; go_simp <;> with_reducible rfl
  try simp only [Act.put, List.setIfInBounds_toArray, List.set_cons_zero, List.set_cons_succ]
  refine wpSched_take (o := ⟨some 47, _, _, _, _, _⟩) (v := ?_) rfl rfl (fun w' hS => ?_) ?_
  rotate_left
  · obtain ⟨p1, p2, q1, q2, r1, r2⟩ := hS; go_simp <;> with_reducible rfl
  try simp only [Act.put, List.setIfInBounds_toArray, List.set_cons_zero, List.set_cons_succ]
  refine wpSched_take (o := ⟨some 48, _, _, _, _, _⟩) (v := ?_) rfl rfl (fun w' hS => ?_) ?_
  rotate_left
  · obtain ⟨p1, p2, q1, q2, r1, r2⟩ := hS; go_simp <;> with_reducible rfl
  try simp only [Act.put, List.setIfInBounds_toArray, List.set_cons_zero, List.set_cons_succ]
  refine wpSched_call (o := ⟨some 46, _, _, _, _, _⟩) rfl rfl (fun K hK => ?_)
  go_simp
  with_reducible refine (add_z (by repeat (first | exact ha | apply I.drew)) (by repeat (first | exact hc | apply I.drew)) (by omega)).mono ?_
  rintro e w8 ⟨s8, A8, c8, l8, rfl, h8, m8, b8⟩
  replace b8 := below_trans (a := w7) (by go_grown) b8
  replace ha := ha.below b8
  replace hb := hb.below b8
  replace hc := hc.below b8
  replace Bz := below_trans Bz b8
  obtain ⟨⟨p1, p2⟩, _, _⟩ := (HX.out.below Bz).look
  obtain ⟨⟨q1, q2⟩, _, _⟩ := (HY.out.below Bz).look
  obtain ⟨⟨r1, r2⟩, _, _⟩ := (HZ.out.below Bz).look
  clear b8
  refine hK.out _ _ ⟨p1, p2, q1, q2, r1, r2⟩ (fun _ => ?_)
  try simp only [Act.put, List.setIfInBounds_toArray, List.set_cons_zero, List.set_cons_succ]
  clear hK K
  refine wpSched_call (o := ⟨some 49, _, _, _, _, _⟩) rfl rfl (fun K hK => ?_)
  go_simp
  with_reducible refine (add_z (by repeat (first | exact hb | apply I.drew)) (by repeat (first | exact hc | apply I.drew)) (by omega)).mono ?_
  rintro e w9 ⟨s9, A9, c9, l9, rfl, h9, m9, b9⟩
  replace b9 := below_trans (a := w8) (by go_grown) b9
  replace ha := ha.below b9
  replace hb := hb.below b9
  replace hc := hc.below b9
  replace h8 := h8.below b9
  replace Bz := below_trans Bz b9
  obtain ⟨⟨p1, p2⟩, _, _⟩ := (HX.out.below Bz).look
  obtain ⟨⟨q1, q2⟩, _, _⟩ := (HY.out.below Bz).look
  obtain ⟨⟨r1, r2⟩, _, _⟩ := (HZ.out.below Bz).look
  clear b9
  refine hK.out _ _ ⟨p1, p2, q1, q2, r1, r2⟩ (fun _ => ?_)
  try simp only [Act.put, List.setIfInBounds_toArray, List.set_cons_zero, List.set_cons_succ]
  clear hK K
  refine wpSched_call (o := ⟨some 50, _, _, _, _, _⟩) rfl rfl (fun K hK => ?_)
  go_simp
  with_reducible refine (cmp_z (by repeat (first | exact h8.i | apply I.drew)) (by repeat (first | exact h9.i | apply I.drew)) (by omega) k E2.out).mono ?_
  rintro e w10 ⟨rfl, b10⟩
  replace b10 := below_trans (a := w9) (by go_grown) b10
  replace ha := ha.below b10
  replace hb := hb.below b10
  replace hc := hc.below b10
  replace Bz := below_trans Bz b10
  obtain ⟨⟨p1, p2⟩, _, _⟩ := (HX.out.below Bz).look
  obtain ⟨⟨q1, q2⟩, _, _⟩ := (HY.out.below Bz).look
  obtain ⟨⟨r1, r2⟩, _, _⟩ := (HZ.out.below Bz).look
  clear b10
  refine hK.out _ _ ⟨p1, p2, q1, q2, r1, r2⟩ (fun _ => ?_)
  try simp only [Act.put, List.setIfInBounds_toArray, List.set_cons_zero, List.set_cons_succ]
  clear hK K
  refine wpSched_take (o := ⟨some 51, _, _, _, _, _⟩) (v := ?_) rfl rfl (fun w' hS => ?_) ?_
  rotate_left
  · go_simp <;> with_reducible rfl
  try simp only [Act.put, List.setIfInBounds_toArray, List.set_cons_zero, List.set_cons_succ]
  refine wpSched_take (o := ⟨some 52, _, _, _, _, _⟩) (v := ?_) rfl rfl (fun w' hS => ?_) ?_
  rotate_left
  · go_simp <;> with_reducible rfl
  try simp only [Act.put, List.setIfInBounds_toArray, List.set_cons_zero, List.set_cons_succ]
  refine wpSched_take (o := ⟨some 53, _, _, _, _, _⟩) (v := ?_) rfl rfl (fun w' hS => ?_) ?_
  rotate_left
  · go_simp <;> with_reducible rfl
  try simp only [Act.put, List.setIfInBounds_toArray, List.set_cons_zero, List.set_cons_succ]
  refine wpSched_take (o := ⟨some 54, _, _, _, _, _⟩) (v := ?_) rfl rfl (fun w' hS => ?_) ?_
  rotate_left
  · go_simp <;> with_reducible rfl
  try simp only [Act.put, List.setIfInBounds_toArray, List.set_cons_zero, List.set_cons_succ]
  refine wpSched_take (o := ⟨some 55, _, _, _, _, _⟩) (v := ?_) rfl rfl (fun w' hS => ?_) ?_
  rotate_left
  · obtain ⟨p1, p2, q1, q2, r1, r2⟩ := hS; go_simp <;> with_reducible rfl
  try simp only [Act.put, List.setIfInBounds_toArray, List.set_cons_zero, List.set_cons_succ]
  refine wpSched_take (o := ⟨some 58, _, _, _, _, _⟩) (v := ?_) rfl rfl (fun w' hS => ?_) ?_
  rotate_left
  · obtain ⟨p1, p2, q1, q2, r1, r2⟩ := hS; go_simp <;> with_reducible rfl
  try simp only [Act.put, List.setIfInBounds_toArray, List.set_cons_zero, List.set_cons_succ]
  refine wpSched_take (o := ⟨some 59, _, _, _, _, _⟩) (v := ?_) rfl rfl (fun w' hS => ?_) ?_
  rotate_left
  · obtain ⟨p1, p2, q1, q2, r1, r2⟩ := hS; go_simp <;> with_reducible rfl
  try simp only [Act.put, List.setIfInBounds_toArray, List.set_cons_zero, List.set_cons_succ]
  refine wpSched_take (o := ⟨some 61, _, _, _, _, _⟩) (v := ?_) rfl rfl (fun w' hS => ?_) ?_
  rotate_left
  · obtain ⟨p1, p2, q1, q2, r1, r2⟩ := hS; go_simp <;> with_reducible rfl
  try simp only [Act.put, List.setIfInBounds_toArray, List.set_cons_zero, List.set_cons_succ]
  refine wpSched_take (o := ⟨some 62, _, _, _, _, _⟩) (v := ?_) rfl rfl (fun w' hS => ?_) ?_
  rotate_left
  · obtain ⟨p1, p2, q1, q2, r1, r2⟩ := hS; go_simp <;> with_reducible rfl
  try simp only [Act.put, List.setIfInBounds_toArray, List.set_cons_zero, List.set_cons_succ]
  refine wpSched_call (o := ⟨some 56, _, _, _, _, _⟩) rfl rfl (fun K hK => ?_)
  go_simp
  with_reducible refine (sign_z (by repeat (first | exact hc | apply I.drew)) (by omega) tc HC.out).mono ?_
  rintro e w11 ⟨rfl, b11⟩
  replace b11 := below_trans (a := w10) (by go_grown) b11
  replace ha := ha.below b11
  replace hb := hb.below b11
  replace hc := hc.below b11
  replace Bz := below_trans Bz b11
  obtain ⟨⟨p1, p2⟩, _, _⟩ := (HX.out.below Bz).look
  obtain ⟨⟨q1, q2⟩, _, _⟩ := (HY.out.below Bz).look
  obtain ⟨⟨r1, r2⟩, _, _⟩ := (HZ.out.below Bz).look
  clear b11
  refine hK.out _ _ ⟨p1, p2, q1, q2, r1, r2⟩ (fun _ => ?_)
  try simp only [Act.put, List.setIfInBounds_toArray, List.set_cons_zero, List.set_cons_succ]
  clear hK K
  refine wpSched_take (o := ⟨some 57, _, _, _, _, _⟩) (v := ?_) rfl rfl (fun w' hS => ?_) ?_
  rotate_left
  · go_simp <;> with_reducible rfl
  try simp only [Act.put, List.setIfInBounds_toArray, List.set_cons_zero, List.set_cons_succ]
  refine wpSched_call (o := ⟨some 60, _, _, _, _, _⟩) rfl rfl (fun K hK => ?_)
  go_simp
  with_reducible refine (mul_z (by repeat (first | exact ha | apply I.drew)) (by repeat (first | exact hc | apply I.drew)) (by omega)).mono ?_
  rintro e w12 ⟨s12, A12, c12, l12, rfl, h12, m12, b12⟩
  replace b12 := below_trans (a := w11) (by go_grown) b12
  replace ha := ha.below b12
  replace hb := hb.below b12
  replace hc := hc.below b12
  replace Bz := below_trans Bz b12
  obtain ⟨⟨p1, p2⟩, _, _⟩ := (HX.out.below Bz).look
  obtain ⟨⟨q1, q2⟩, _, _⟩ := (HY.out.below Bz).look
  obtain ⟨⟨r1, r2⟩, _, _⟩ := (HZ.out.below Bz).look
  clear b12
  refine hK.out _ _ ⟨p1, p2, q1, q2, r1, r2⟩ (fun _ => ?_)
  try simp only [Act.put, List.setIfInBounds_toArray, List.set_cons_zero, List.set_cons_succ]
  clear hK K
  refine wpSched_call (o := ⟨some 63, _, _, _, _, _⟩) rfl rfl (fun K hK => ?_)
  go_simp
  with_reducible refine (mul_z (by repeat (first | exact hb | apply I.drew)) (by repeat (first | exact hc | apply I.drew)) (by omega)).mono ?_
  rintro e w13 ⟨s13, A13, c13, l13, rfl, h13, m13, b13⟩
  replace b13 := below_trans (a := w12) (by go_grown) b13
  replace ha := ha.below b13
  replace hb := hb.below b13
  replace hc := hc.below b13
  replace h12 := h12.below b13
  replace Bz := below_trans Bz b13
  obtain ⟨⟨p1, p2⟩, _, _⟩ := (HX.out.below Bz).look
  obtain ⟨⟨q1, q2⟩, _, _⟩ := (HY.out.below Bz).look
  obtain ⟨⟨r1, r2⟩, _, _⟩ := (HZ.out.below Bz).look
  clear b13
  refine hK.out _ _ ⟨p1, p2, q1, q2, r1, r2⟩ (fun _ => ?_)
  try simp only [Act.put, List.setIfInBounds_toArray, List.set_cons_zero, List.set_cons_succ]
  clear hK K
  refine wpSched_call (o := ⟨some 64, _, _, _, _, _⟩) rfl rfl (fun K hK => ?_)
  go_simp
  with_reducible refine (cmp_z (by repeat (first | exact h12.i | apply I.drew)) (by repeat (first | exact h13.i | apply I.drew)) (by omega) m E3.out).mono ?_
  rintro e w14 ⟨rfl, b14⟩
  replace b14 := below_trans (a := w13) (by go_grown) b14
  replace ha := ha.below b14
  replace hb := hb.below b14
  replace hc := hc.below b14
  replace Bz := below_trans Bz b14
  obtain ⟨⟨p1, p2⟩, _, _⟩ := (HX.out.below Bz).look
  obtain ⟨⟨q1, q2⟩, _, _⟩ := (HY.out.below Bz).look
  obtain ⟨⟨r1, r2⟩, _, _⟩ := (HZ.out.below Bz).look
  clear b14
  refine hK.out _ _ ⟨p1, p2, q1, q2, r1, r2⟩ (fun _ => ?_)
  try simp only [Act.put, List.setIfInBounds_toArray, List.set_cons_zero, List.set_cons_succ]
  clear hK K
  refine wpSched_take (o := ⟨some 65, _, _, _, _, _⟩) (v := ?_) rfl rfl (fun w' hS => ?_) ?_
  rotate_left
  · go_simp <;> with_reducible rfl
  try simp only [Act.put, List.setIfInBounds_toArray, List.set_cons_zero, List.set_cons_succ]
  refine wpSched_take (o := ⟨some 66, _, _, _, _, _⟩) (v := ?_) rfl rfl (fun w' hS => ?_) ?_
  rotate_left
  · go_simp <;> with_reducible rfl
  try simp only [Act.put, List.setIfInBounds_toArray, List.set_cons_zero, List.set_cons_succ]
  refine wpSched_take (o := ⟨some 67, _, _, _, _, _⟩) (v := ?_) rfl rfl (fun w' hS => ?_) ?_
  rotate_left
  · go_simp <;> with_reducible rfl
  try simp only [Act.put, List.setIfInBounds_toArray, List.set_cons_zero, List.set_cons_succ]
  refine wpSched_take (o := ⟨some 68, _, _, _, _, _⟩) (v := ?_) rfl rfl (fun w' hS => ?_) ?_
  rotate_left
  · obtain ⟨p1, p2, q1, q2, r1, r2⟩ := hS; go_simp <;> with_reducible rfl
  try simp only [Act.put, List.setIfInBounds_toArray, List.set_cons_zero, List.set_cons_succ]
  refine wpSched_take (o := ⟨some 69, _, _, _, _, _⟩) (v := ?_) rfl rfl (fun w' hS => ?_) ?_
  rotate_left
  · obtain ⟨p1, p2, q1, q2, r1, r2⟩ := hS; go_simp <;> with_reducible rfl
  try simp only [Act.put, List.setIfInBounds_toArray, List.set_cons_zero, List.set_cons_succ]
  refine wpSched_take (o := ⟨some 72, _, _, _, _, _⟩) (v := ?_) rfl rfl (fun w' hS => ?_) ?_
  rotate_left
  · obtain ⟨p1, p2, q1, q2, r1, r2⟩ := hS; go_simp <;> with_reducible rfl
  try simp only [Act.put, List.setIfInBounds_toArray, List.set_cons_zero, List.set_cons_succ]
  refine wpSched_take (o := ⟨some 74, _, _, _, _, _⟩) (v := ?_) rfl rfl (fun w' hS => ?_) ?_
  rotate_left
  · obtain ⟨p1, p2, q1, q2, r1, r2⟩ := hS; go_simp <;> with_reducible rfl
  try simp only [Act.put, List.setIfInBounds_toArray, List.set_cons_zero, List.set_cons_succ]
  refine wpSched_call (o := ⟨some 70, _, _, _, _, _⟩) rfl rfl (fun K hK => ?_)
  go_simp
  with_reducible refine (mul_z (by repeat (first | exact ha | apply I.drew)) (by repeat (first | exact hb | apply I.drew)) (by omega)).mono ?_
  rintro e w15 ⟨s15, A15, c15, l15, rfl, h15, m15, b15⟩
  replace b15 := below_trans (a := w14) (by go_grown) b15
  replace ha := ha.below b15
  replace hb := hb.below b15
  replace hc := hc.below b15
  replace Bz := below_trans Bz b15
  obtain ⟨⟨p1, p2⟩, _, _⟩ := (HX.out.below Bz).look
  obtain ⟨⟨q1, q2⟩, _, _⟩ := (HY.out.below Bz).look
  obtain ⟨⟨r1, r2⟩, _, _⟩ := (HZ.out.below Bz).look
  clear b15
  refine hK.out _ _ ⟨p1, p2, q1, q2, r1, r2⟩ (fun _ => ?_)
  try simp only [Act.put, List.setIfInBounds_toArray, List.set_cons_zero, List.set_cons_succ]
  clear hK K
  refine wpSched_call (o := ⟨some 71, _, _, _, _, _⟩) rfl rfl (fun K hK => ?_)
  go_simp
  with_reducible refine (sign_z (by repeat (first | exact h15.i | apply I.drew)) (by omega) n E4.out).mono ?_
  rintro e w16 ⟨rfl, b16⟩
  replace b16 := below_trans (a := w15) (by go_grown) b16
  replace ha := ha.below b16
  replace hb := hb.below b16
  replace hc := hc.below b16
  replace Bz := below_trans Bz b16
  obtain ⟨⟨p1, p2⟩, _, _⟩ := (HX.out.below Bz).look
  obtain ⟨⟨q1, q2⟩, _, _⟩ := (HY.out.below Bz).look
  obtain ⟨⟨r1, r2⟩, _, _⟩ := (HZ.out.below Bz).look
  clear b16
  refine hK.out _ _ ⟨p1, p2, q1, q2, r1, r2⟩ (fun _ => ?_)
  try simp only [Act.put, List.setIfInBounds_toArray, List.set_cons_zero, List.set_cons_succ]
  clear hK K
  refine wpSched_call (o := ⟨some 73, _, _, _, _, _⟩) rfl rfl (fun K hK => ?_)
  go_simp
  with_reducible refine (sign_z (by repeat (first | exact ha | apply I.drew)) (by omega) ta HA.out).mono ?_
  rintro e w17 ⟨rfl, b17⟩
  replace b17 := below_trans (a := w16) (by go_grown) b17
  replace ha := ha.below b17
  replace hb := hb.below b17
  replace hc := hc.below b17
  replace Bz := below_trans Bz b17
  obtain ⟨⟨p1, p2⟩, _, _⟩ := (HX.out.below Bz).look
  obtain ⟨⟨q1, q2⟩, _, _⟩ := (HY.out.below Bz).look
  obtain ⟨⟨r1, r2⟩, _, _⟩ := (HZ.out.below Bz).look
  clear b17
  refine hK.out _ _ ⟨p1, p2, q1, q2, r1, r2⟩ (fun _ => ?_)
  try simp only [Act.put, List.setIfInBounds_toArray, List.set_cons_zero, List.set_cons_succ]
  clear hK K
  refine wpSched_call (o := ⟨some 75, _, _, _, _, _⟩) rfl rfl (fun K hK => ?_)
  go_simp
  with_reducible refine (sign_z (by repeat (first | exact hb | apply I.drew)) (by omega) tb HB.out).mono ?_
  rintro e w18 ⟨rfl, b18⟩
  replace b18 := below_trans (a := w17) (by go_grown) b18
  replace ha := ha.below b18
  replace hb := hb.below b18
  replace hc := hc.below b18
  replace Bz := below_trans Bz b18
  obtain ⟨⟨p1, p2⟩, _, _⟩ := (HX.out.below Bz).look
  obtain ⟨⟨q1, q2⟩, _, _⟩ := (HY.out.below Bz).look
  obtain ⟨⟨r1, r2⟩, _, _⟩ := (HZ.out.below Bz).look
  clear b18
  refine hK.out _ _ ⟨p1, p2, q1, q2, r1, r2⟩ (fun _ => ?_)
  try simp only [Act.put, List.setIfInBounds_toArray, List.set_cons_zero, List.set_cons_succ]
  clear hK K
  refine wpSched_take (o := ⟨some 76, _, _, _, _, _⟩) (v := ?_) rfl rfl (fun w' hS => ?_) ?_
  rotate_left
  · go_simp <;> with_reducible rfl
  try simp only [Act.put, List.setIfInBounds_toArray, List.set_cons_zero, List.set_cons_succ]
  refine wpSched_take (o := ⟨some 77, _, _, _, _, _⟩) (v := ?_) rfl rfl (fun w' hS => ?_) ?_
  rotate_left
  · go_simp <;> with_reducible rfl
  try simp only [Act.put, List.setIfInBounds_toArray, List.set_cons_zero, List.set_cons_succ]
  refine wpSched_take (o := ⟨some 78, _, _, _, _, _⟩) (v := ?_) rfl rfl (fun w' hS => ?_) ?_
  rotate_left
  · go_simp <;> with_reducible rfl
  try simp only [Act.put, List.setIfInBounds_toArray, List.set_cons_zero, List.set_cons_succ]
  refine wpSched_take (o := ⟨some 79, _, _, _, _, _⟩) (v := ?_) rfl rfl (fun w' hS => ?_) ?_
  rotate_left
  · go_simp <;> with_reducible rfl
  try simp only [Act.put, List.setIfInBounds_toArray, List.set_cons_zero, List.set_cons_succ]
  refine wpSched_take (o := ⟨some 80, _, _, _, _, _⟩) (v := ?_) rfl rfl (fun w' hS => ?_) ?_
  rotate_left
  · go_simp <;> with_reducible rfl
  try simp only [Act.put, List.setIfInBounds_toArray, List.set_cons_zero, List.set_cons_succ]
  refine wpSched_take (o := ⟨some 81, _, _, _, _, _⟩) (v := ?_) rfl rfl (fun w' hS => ?_) ?_
  rotate_left
  · go_simp <;> with_reducible rfl
  try simp only [Act.put, List.setIfInBounds_toArray, List.set_cons_zero, List.set_cons_succ]
  refine wpSched_take (o := ⟨some 82, _, _, _, _, _⟩) (v := ?_) rfl rfl (fun w' hS => ?_) ?_
  rotate_left
  · go_simp <;> with_reducible rfl
  try simp only [Act.put, List.setIfInBounds_toArray, List.set_cons_zero, List.set_cons_succ]
  refine wpSched_take (o := ⟨some 83, _, _, _, _, _⟩) (v := ?_) rfl rfl (fun w' hS => ?_) ?_
  rotate_left
  · obtain ⟨p1, p2, q1, q2, r1, r2⟩ := hS; go_simp <;> with_reducible rfl
  try simp only [Act.put, List.setIfInBounds_toArray, List.set_cons_zero, List.set_cons_succ]
  refine wpSched_take (o := ⟨some 84, _, _, _, _, _⟩) (v := ?_) rfl rfl (fun w' hS => ?_) ?_
  rotate_left
  · obtain ⟨p1, p2, q1, q2, r1, r2⟩ := hS; go_simp <;> with_reducible rfl
  try simp only [Act.put, List.setIfInBounds_toArray, List.set_cons_zero, List.set_cons_succ]
  refine wpSched_call (o := ⟨some 85, _, _, _, _, _⟩) rfl rfl (fun K hK => ?_)
  go_simp
  with_reducible refine (cmp_z (by repeat (first | exact hb | apply I.drew)) (by repeat (first | exact hc | apply I.drew)) (by omega) k2 HK2.out).mono ?_
  rintro e w19 ⟨rfl, b19⟩
  replace b19 := below_trans (a := w18) (by go_grown) b19
  replace ha := ha.below b19
  replace hb := hb.below b19
  replace hc := hc.below b19
  replace Bz := below_trans Bz b19
  obtain ⟨⟨p1, p2⟩, _, _⟩ := (HX.out.below Bz).look
  obtain ⟨⟨q1, q2⟩, _, _⟩ := (HY.out.below Bz).look
  obtain ⟨⟨r1, r2⟩, _, _⟩ := (HZ.out.below Bz).look
  clear b19
  refine hK.out _ _ ⟨p1, p2, q1, q2, r1, r2⟩ (fun _ => ?_)
  try simp only [Act.put, List.setIfInBounds_toArray, List.set_cons_zero, List.set_cons_succ]
  clear hK K
  refine wpSched_take (o := ⟨some 86, _, _, _, _, _⟩) (v := ?_) rfl rfl (fun w' hS => ?_) ?_
  rotate_left
  · go_simp <;> with_reducible rfl
  try simp only [Act.put, List.setIfInBounds_toArray, List.set_cons_zero, List.set_cons_succ]
  refine wpSched_take (o := ⟨some 87, _, _, _, _, _⟩) (v := ?_) rfl rfl (fun w' hS => ?_) ?_
  rotate_left
  · go_simp <;> with_reducible rfl
  try simp only [Act.put, List.setIfInBounds_toArray, List.set_cons_zero, List.set_cons_succ]
  refine wpSched_take (o := ⟨some 88, _, _, _, _, _⟩) (v := ?_) rfl rfl (fun w' hS => ?_) ?_
  rotate_left
  · go_simp <;> with_reducible rfl
  try simp only [Act.put, List.setIfInBounds_toArray, List.set_cons_zero, List.set_cons_succ]
  refine wpSched_take (o := ⟨some 89, _, _, _, _, _⟩) (v := ?_) rfl rfl (fun w' hS => ?_) ?_
  rotate_left
  · obtain ⟨p1, p2, q1, q2, r1, r2⟩ := hS; go_simp <;> with_reducible rfl
  try simp only [Act.put, List.setIfInBounds_toArray, List.set_cons_zero, List.set_cons_succ]
  refine wpSched_take (o := ⟨some 90, _, _, _, _, _⟩) (v := ?_) rfl rfl (fun w' hS => ?_) ?_
  rotate_left
  · obtain ⟨p1, p2, q1, q2, r1, r2⟩ := hS; go_simp <;> with_reducible rfl
  try simp only [Act.put, List.setIfInBounds_toArray, List.set_cons_zero, List.set_cons_succ]
  refine wpSched_call (o := ⟨some 91, _, _, _, _, _⟩) rfl rfl (fun K hK => ?_)
  go_simp
  with_reducible refine (cmp_z (by repeat (first | exact ha | apply I.drew)) (by repeat (first | exact hc | apply I.drew)) (by omega) k3 HK3.out).mono ?_
  rintro e w20 ⟨rfl, b20⟩
  replace b20 := below_trans (a := w19) (by go_grown) b20
  replace ha := ha.below b20
  replace hb := hb.below b20
  replace Bz := below_trans Bz b20
  obtain ⟨⟨p1, p2⟩, _, _⟩ := (HX.out.below Bz).look
  obtain ⟨⟨q1, q2⟩, _, _⟩ := (HY.out.below Bz).look
  obtain ⟨⟨r1, r2⟩, _, _⟩ := (HZ.out.below Bz).look
  clear b20
  refine hK.out _ _ ⟨p1, p2, q1, q2, r1, r2⟩ (fun _ => ?_)
  try simp only [Act.put, List.setIfInBounds_toArray, List.set_cons_zero, List.set_cons_succ]
  clear hK K
  refine wpSched_take (o := ⟨some 92, _, _, _, _, _⟩) (v := ?_) rfl rfl (fun w' hS => ?_) ?_
  rotate_left
  · go_simp <;> with_reducible rfl
  try simp only [Act.put, List.setIfInBounds_toArray, List.set_cons_zero, List.set_cons_succ]
  refine wpSched_take (o := ⟨some 93, _, _, _, _, _⟩) (v := ?_) rfl rfl (fun w' hS => ?_) ?_
  rotate_left
  · go_simp <;> with_reducible rfl
  try simp only [Act.put, List.setIfInBounds_toArray, List.set_cons_zero, List.set_cons_succ]
  refine wpSched_take (o := ⟨some 94, _, _, _, _, _⟩) (v := ?_) rfl rfl (fun w' hS => ?_) ?_
  rotate_left
  · go_simp <;> with_reducible rfl
  try simp only [Act.put, List.setIfInBounds_toArray, List.set_cons_zero, List.set_cons_succ]
  refine wpSched_take (o := ⟨some 8, _, _, _, _, _⟩) (v := ?_) rfl rfl (fun w' hS => ?_) ?_
  rotate_left
  · go_simp <;> with_reducible rfl
  try simp only [Act.put, List.setIfInBounds_toArray, List.set_cons_zero, List.set_cons_succ]
  refine wpSched_done ?_
  go_wp2_with fail
  with_reducible refine (divmod_z (by repeat (first | exact ha | apply I.drew)) (by repeat (first | exact hb | apply I.drew)) (by omega) h0).mono ?_
  rintro e w21 ⟨s21, A21, c21, l21, s21r, A21r, c21r, l21r, rfl, h21, h21r, m21, m21r, b21⟩
  replace b21 := below_trans (a := w20) (by go_grown) b21
  replace ha := ha.below b21
  replace hb := hb.below b21
  replace Bz := below_trans Bz b21
  obtain ⟨⟨p1, p2⟩, _, _⟩ := (HX.out.below Bz).look
  obtain ⟨⟨q1, q2⟩, _, _⟩ := (HY.out.below Bz).look
  obtain ⟨⟨r1, r2⟩, _, _⟩ := (HZ.out.below Bz).look
  clear b21
  go_wp2_with fail
  obtain ⟨W2, hW2, y0, y1, hB2⟩ := box1 w21 (.bool s21) (.slice A21 l21 c21) (.bool s21r) (.slice A21r l21r c21r)
  rw [← hW2]
  clear hW2
  have HQ := Lib.hid y0
  have HR := Lib.hid y1
  clear y0 y1
  replace ha := ha.below hB2
  replace hb := hb.below hB2
  replace h21 := h21.below hB2
  replace h21r := h21r.below hB2
  replace Bz := below_trans Bz hB2
  have Bq := Below.refl W2.heap.size W2
  obtain ⟨⟨p1, p2⟩, _, _⟩ := (HX.out.below Bz).look
  obtain ⟨⟨q1, q2⟩, _, _⟩ := (HY.out.below Bz).look
  obtain ⟨⟨r1, r2⟩, _, _⟩ := (HZ.out.below Bz).look
  obtain ⟨⟨y1, y2⟩, _, _⟩ := (HQ.out.below Bq).look
  obtain ⟨⟨z1, z2⟩, _, _⟩ := (HR.out.below Bq).look
  clear hB2
  with_reducible refine (sign_z (by repeat (first | exact hb | apply I.drew)) (by omega) tb HB.out).mono ?_
  rintro e w22 ⟨rfl, b22⟩
  replace b22 := below_trans (a := W2) (by go_grown) b22
  replace ha := ha.below b22
  replace hb := hb.below b22
  replace h21 := h21.below b22
  replace h21r := h21r.below b22
  replace Bz := below_trans Bz b22
  replace Bq := below_trans Bq b22
  obtain ⟨⟨p1, p2⟩, _, _⟩ := (HX.out.below Bz).look
  obtain ⟨⟨q1, q2⟩, _, _⟩ := (HY.out.below Bz).look
  obtain ⟨⟨r1, r2⟩, _, _⟩ := (HZ.out.below Bz).look
  obtain ⟨⟨y1, y2⟩, _, _⟩ := (HQ.out.below Bq).look
  obtain ⟨⟨z1, z2⟩, _, _⟩ := (HR.out.below Bq).look
  clear b22
  go_wp2_with fail
  (try simp only [List.append_eq, List.cons_append, List.nil_append])
  refine wp_region_sched [(0, false), (1, false), (2, false), (3, false), (5, false), (7, false), (4, true), (6, true), (8, true), (9, true), (10, false), (11, false), (12, false), (13, true), (14, false), (15, false), (16, false), (17, false), (18, false), (19, true), (20, true), (21, false), (22, false), (23, false), (24, true), (25, false), (26, false)] (fun w' => w'.cell? ⟨w.heap.size, 0, none⟩ = some (.bool sa) ∧ w'.cell? ⟨w.heap.size, 1, none⟩ = some (.slice A la ca) ∧ w'.cell? ⟨w.heap.size + 1, 0, none⟩ = some (.bool sb) ∧ w'.cell? ⟨w.heap.size + 1, 1, none⟩ = some (.slice B' lb cb) ∧ w'.cell? ⟨w.heap.size + 2, 0, none⟩ = some (.bool sc) ∧ w'.cell? ⟨w.heap.size + 2, 1, none⟩ = some (.slice C' lc cc) ∧ w'.cell? ⟨w21.heap.size, 0, none⟩ = some (.bool s21) ∧ w'.cell? ⟨w21.heap.size, 1, none⟩ = some (.slice A21 l21 c21) ∧ w'.cell? ⟨w21.heap.size + 1, 0, none⟩ = some (.bool s21r) ∧ w'.cell? ⟨w21.heap.size + 1, 1, none⟩ = some (.slice A21r l21r c21r)) (by kernel_rfl) (by kernel_rfl) ⟨p1, p2, q1, q2, r1, r2, y1, y2, z1, z2⟩ ?_
  refine wpSched_take (o := ⟨some 116, _, _, _, _, _⟩) (v := ?_) rfl rfl (fun w' hS => ?_) ?_
  rotate_left
  · go_simp <;> with_reducible rfl
  try simp only [Act.put, List.setIfInBounds_toArray, List.set_cons_zero, List.set_cons_succ]
  refine wpSched_take (o := ⟨some 117, _, _, _, _, _⟩) (v := ?_) rfl rfl (fun w' hS => ?_) ?_
  rotate_left
  · go_simp <;> with_reducible rfl
  try simp only [Act.put, List.setIfInBounds_toArray, List.set_cons_zero, List.set_cons_succ]
  refine wpSched_take (o := ⟨some 118, _, _, _, _, _⟩) (v := ?_) rfl rfl (fun w' hS => ?_) ?_
  rotate_left
  · obtain ⟨p1, p2, q1, q2, r1, r2, y1, y2, z1, z2⟩ := hS; go_simp <;> with_reducible rfl
  try simp only [Act.put, List.setIfInBounds_toArray, List.set_cons_zero, List.set_cons_succ]
  refine wpSched_take (o := ⟨some 119, _, _, _, _, _⟩) (v := ?_) rfl rfl (fun w' hS => ?_) ?_
  rotate_left
  · obtain ⟨p1, p2, q1, q2, r1, r2, y1, y2, z1, z2⟩ := hS; go_simp <;> with_reducible rfl
  try simp only [Act.put, List.setIfInBounds_toArray, List.set_cons_zero, List.set_cons_succ]
  refine wpSched_take (o := ⟨some 121, _, _, _, _, _⟩) (v := ?_) rfl rfl (fun w' hS => ?_) ?_
  rotate_left
  · obtain ⟨p1, p2, q1, q2, r1, r2, y1, y2, z1, z2⟩ := hS; go_simp <;> with_reducible rfl
  try simp only [Act.put, List.setIfInBounds_toArray, List.set_cons_zero, List.set_cons_succ]
  refine wpSched_take (o := ⟨some 123, _, _, _, _, _⟩) (v := ?_) rfl rfl (fun w' hS => ?_) ?_
  rotate_left
  · obtain ⟨p1, p2, q1, q2, r1, r2, y1, y2, z1, z2⟩ := hS; go_simp <;> with_reducible rfl
  try simp only [Act.put, List.setIfInBounds_toArray, List.set_cons_zero, List.set_cons_succ]
  refine wpSched_call (o := ⟨some 120, _, _, _, _, _⟩) rfl rfl (fun K hK => ?_)
  go_simp
  with_reducible refine (mul_z (by repeat (first | exact h21.i | apply I.drew)) (by repeat (first | exact hb | apply I.drew)) (by omega)).mono ?_
  rintro e w23 ⟨s23, A23, c23, l23, rfl, h23, m23, b23⟩
  replace b23 := below_trans (a := w22) (by go_grown) b23
  replace ha := ha.below b23
  replace hb := hb.below b23
  replace h21r := h21r.below b23
  replace Bz := below_trans Bz b23
  replace Bq := below_trans Bq b23
  obtain ⟨⟨p1, p2⟩, _, _⟩ := (HX.out.below Bz).look
  obtain ⟨⟨q1, q2⟩, _, _⟩ := (HY.out.below Bz).look
  obtain ⟨⟨r1, r2⟩, _, _⟩ := (HZ.out.below Bz).look
  obtain ⟨⟨y1, y2⟩, _, _⟩ := (HQ.out.below Bq).look
  obtain ⟨⟨z1, z2⟩, _, _⟩ := (HR.out.below Bq).look
  clear b23
  refine hK.out _ _ ⟨p1, p2, q1, q2, r1, r2, y1, y2, z1, z2⟩ (fun _ => ?_)
  try simp only [Act.put, List.setIfInBounds_toArray, List.set_cons_zero, List.set_cons_succ]
  clear hK K
  refine wpSched_call (o := ⟨some 122, _, _, _, _, _⟩) rfl rfl (fun K hK => ?_)
  go_simp
  with_reducible refine (add_z (by repeat (first | exact h23.i | apply I.drew)) (by repeat (first | exact h21r.i | apply I.drew)) (by omega)).mono ?_
  rintro e w24 ⟨s24, A24, c24, l24, rfl, h24, m24, b24⟩
  replace b24 := below_trans (a := w23) (by go_grown) b24
  replace ha := ha.below b24
  replace hb := hb.below b24
  replace h21r := h21r.below b24
  replace Bz := below_trans Bz b24
  replace Bq := below_trans Bq b24
  obtain ⟨⟨p1, p2⟩, _, _⟩ := (HX.out.below Bz).look
  obtain ⟨⟨q1, q2⟩, _, _⟩ := (HY.out.below Bz).look
  obtain ⟨⟨r1, r2⟩, _, _⟩ := (HZ.out.below Bz).look
  obtain ⟨⟨y1, y2⟩, _, _⟩ := (HQ.out.below Bq).look
  obtain ⟨⟨z1, z2⟩, _, _⟩ := (HR.out.below Bq).look
  clear b24
  refine hK.out _ _ ⟨p1, p2, q1, q2, r1, r2, y1, y2, z1, z2⟩ (fun _ => ?_)
  try simp only [Act.put, List.setIfInBounds_toArray, List.set_cons_zero, List.set_cons_succ]
  clear hK K
  refine wpSched_call (o := ⟨some 124, _, _, _, _, _⟩) rfl rfl (fun K hK => ?_)
  go_simp
  with_reducible refine (norm_z (by repeat (first | exact ha | apply I.drew)) (by omega)).mono ?_
  rintro e w25 ⟨s25, A25, c25, l25, rfl, h25, m25, b25⟩
  replace b25 := below_trans (a := w24) (by go_grown) b25
  replace hb := hb.below b25
  replace h21r := h21r.below b25
  replace h24 := h24.below b25
  replace Bz := below_trans Bz b25
  replace Bq := below_trans Bq b25
  obtain ⟨⟨p1, p2⟩, _, _⟩ := (HX.out.below Bz).look
  obtain ⟨⟨q1, q2⟩, _, _⟩ := (HY.out.below Bz).look
  obtain ⟨⟨r1, r2⟩, _, _⟩ := (HZ.out.below Bz).look
  obtain ⟨⟨y1, y2⟩, _, _⟩ := (HQ.out.below Bq).look
  obtain ⟨⟨z1, z2⟩, _, _⟩ := (HR.out.below Bq).look
  clear b25
  refine hK.out _ _ ⟨p1, p2, q1, q2, r1, r2, y1, y2, z1, z2⟩ (fun _ => ?_)
  try simp only [Act.put, List.setIfInBounds_toArray, List.set_cons_zero, List.set_cons_succ]
  clear hK K
  refine wpSched_call (o := ⟨some 125, _, _, _, _, _⟩) rfl rfl (fun K hK => ?_)
  go_simp
  with_reducible refine (same_z (by repeat (first | exact h24 | apply J.drew)) (by repeat (first | exact h25 | apply J.drew)) (by omega) (Int.ediv_mul_add_emod a b)).mono ?_
  rintro e w26 ⟨rfl, b26⟩
  replace b26 := below_trans (a := w25) (by go_grown) b26
  replace hb := hb.below b26
  replace h21r := h21r.below b26
  replace Bz := below_trans Bz b26
  replace Bq := below_trans Bq b26
  obtain ⟨⟨p1, p2⟩, _, _⟩ := (HX.out.below Bz).look
  obtain ⟨⟨q1, q2⟩, _, _⟩ := (HY.out.below Bz).look
  obtain ⟨⟨r1, r2⟩, _, _⟩ := (HZ.out.below Bz).look
  obtain ⟨⟨y1, y2⟩, _, _⟩ := (HQ.out.below Bq).look
  obtain ⟨⟨z1, z2⟩, _, _⟩ := (HR.out.below Bq).look
  clear b26
  refine hK.out _ _ ⟨p1, p2, q1, q2, r1, r2, y1, y2, z1, z2⟩ (fun _ => ?_)
  try simp only [Act.put, List.setIfInBounds_toArray, List.set_cons_zero, List.set_cons_succ]
  clear hK K
  refine wpSched_take (o := ⟨some 126, _, _, _, _, _⟩) (v := ?_) rfl rfl (fun w' hS => ?_) ?_
  rotate_left
  · go_simp <;> with_reducible rfl
  try simp only [Act.put, List.setIfInBounds_toArray, List.set_cons_zero, List.set_cons_succ]
  refine wpSched_take (o := ⟨some 127, _, _, _, _, _⟩) (v := ?_) rfl rfl (fun w' hS => ?_) ?_
  rotate_left
  · go_simp <;> with_reducible rfl
  try simp only [Act.put, List.setIfInBounds_toArray, List.set_cons_zero, List.set_cons_succ]
  refine wpSched_take (o := ⟨some 128, _, _, _, _, _⟩) (v := ?_) rfl rfl (fun w' hS => ?_) ?_
  rotate_left
  · obtain ⟨p1, p2, q1, q2, r1, r2, y1, y2, z1, z2⟩ := hS; go_simp <;> with_reducible rfl
  try simp only [Act.put, List.setIfInBounds_toArray, List.set_cons_zero, List.set_cons_succ]
  refine wpSched_call (o := ⟨some 129, _, _, _, _, _⟩) rfl rfl (fun K hK => ?_)
  go_simp
  with_reducible refine (sign_z (by repeat (first | exact h21r.i | apply I.drew)) (by omega) tr HR1.out).mono ?_
  rintro e w27 ⟨rfl, b27⟩
  replace b27 := below_trans (a := w26) (by go_grown) b27
  replace hb := hb.below b27
  replace h21r := h21r.below b27
  replace Bz := below_trans Bz b27
  replace Bq := below_trans Bq b27
  obtain ⟨⟨p1, p2⟩, _, _⟩ := (HX.out.below Bz).look
  obtain ⟨⟨q1, q2⟩, _, _⟩ := (HY.out.below Bz).look
  obtain ⟨⟨r1, r2⟩, _, _⟩ := (HZ.out.below Bz).look
  obtain ⟨⟨y1, y2⟩, _, _⟩ := (HQ.out.below Bq).look
  obtain ⟨⟨z1, z2⟩, _, _⟩ := (HR.out.below Bq).look
  clear b27
  refine hK.out _ _ ⟨p1, p2, q1, q2, r1, r2, y1, y2, z1, z2⟩ (fun _ => ?_)
  try simp only [Act.put, List.setIfInBounds_toArray, List.set_cons_zero, List.set_cons_succ]
  clear hK K
  refine wpSched_take (o := ⟨some 130, _, _, _, _, _⟩) (v := ?_) rfl rfl (fun w' hS => ?_) ?_
  rotate_left
  · go_simp <;> with_reducible rfl
  try simp only [Act.put, List.setIfInBounds_toArray, List.set_cons_zero, List.set_cons_succ]
  refine wpSched_take (o := ⟨some 131, _, _, _, _, _⟩) (v := ?_) rfl rfl (fun w' hS => ?_) ?_
  rotate_left
  · go_simp <;> with_reducible rfl
  try simp only [Act.put, List.setIfInBounds_toArray, List.set_cons_zero, List.set_cons_succ]
  refine wpSched_take (o := ⟨some 132, _, _, _, _, _⟩) (v := ?_) rfl rfl (fun w' hS => ?_) ?_
  rotate_left
  · go_simp <;> with_reducible rfl
  try simp only [Act.put, List.setIfInBounds_toArray, List.set_cons_zero, List.set_cons_succ]
  refine wpSched_take (o := ⟨some 133, _, _, _, _, _⟩) (v := ?_) rfl rfl (fun w' hS => ?_) ?_
  rotate_left
  · obtain ⟨p1, p2, q1, q2, r1, r2, y1, y2, z1, z2⟩ := hS; go_simp <;> with_reducible rfl
  try simp only [Act.put, List.setIfInBounds_toArray, List.set_cons_zero, List.set_cons_succ]
  refine wpSched_take (o := ⟨some 134, _, _, _, _, _⟩) (v := ?_) rfl rfl (fun w' hS => ?_) ?_
  rotate_left
  · obtain ⟨p1, p2, q1, q2, r1, r2, y1, y2, z1, z2⟩ := hS; go_simp <;> with_reducible rfl
  try simp only [Act.put, List.setIfInBounds_toArray, List.set_cons_zero, List.set_cons_succ]
  refine wpSched_call (o := ⟨some 135, _, _, _, _, _⟩) rfl rfl (fun K hK => ?_)
  go_simp
  with_reducible refine (abs_z (by repeat (first | exact hb | apply I.drew)) (by omega)).mono ?_
  rintro e w28 ⟨s28, A28, c28, l28, rfl, h28, m28, b28⟩
  replace b28 := below_trans (a := w27) (by go_grown) b28
  replace h21r := h21r.below b28
  replace Bz := below_trans Bz b28
  replace Bq := below_trans Bq b28
  obtain ⟨⟨p1, p2⟩, _, _⟩ := (HX.out.below Bz).look
  obtain ⟨⟨q1, q2⟩, _, _⟩ := (HY.out.below Bz).look
  obtain ⟨⟨r1, r2⟩, _, _⟩ := (HZ.out.below Bz).look
  obtain ⟨⟨y1, y2⟩, _, _⟩ := (HQ.out.below Bq).look
  obtain ⟨⟨z1, z2⟩, _, _⟩ := (HR.out.below Bq).look
  clear b28
  refine hK.out _ _ ⟨p1, p2, q1, q2, r1, r2, y1, y2, z1, z2⟩ (fun _ => ?_)
  try simp only [Act.put, List.setIfInBounds_toArray, List.set_cons_zero, List.set_cons_succ]
  clear hK K
  refine wpSched_call (o := ⟨some 136, _, _, _, _, _⟩) rfl rfl (fun K hK => ?_)
  go_simp
  with_reducible refine (cmp_z (by repeat (first | exact h21r.i | apply I.drew)) (by repeat (first | exact h28.i | apply I.drew)) (by omega) (-1) HR2.out).mono ?_
  rintro e w29 ⟨rfl, b29⟩
  replace b29 := below_trans (a := w28) (by go_grown) b29
  replace Bz := below_trans Bz b29
  replace Bq := below_trans Bq b29
  obtain ⟨⟨p1, p2⟩, _, _⟩ := (HX.out.below Bz).look
  obtain ⟨⟨q1, q2⟩, _, _⟩ := (HY.out.below Bz).look
  obtain ⟨⟨r1, r2⟩, _, _⟩ := (HZ.out.below Bz).look
  obtain ⟨⟨y1, y2⟩, _, _⟩ := (HQ.out.below Bq).look
  obtain ⟨⟨z1, z2⟩, _, _⟩ := (HR.out.below Bq).look
  clear b29
  refine hK.out _ _ ⟨p1, p2, q1, q2, r1, r2, y1, y2, z1, z2⟩ (fun _ => ?_)
  try simp only [Act.put, List.setIfInBounds_toArray, List.set_cons_zero, List.set_cons_succ]
  clear hK K
  refine wpSched_take (o := ⟨some 137, _, _, _, _, _⟩) (v := ?_) rfl rfl (fun w' hS => ?_) ?_
  rotate_left
  · go_simp <;> with_reducible rfl
  try simp only [Act.put, List.setIfInBounds_toArray, List.set_cons_zero, List.set_cons_succ]
  refine wpSched_take (o := ⟨some 138, _, _, _, _, _⟩) (v := ?_) rfl rfl (fun w' hS => ?_) ?_
  rotate_left
  · go_simp <;> with_reducible rfl
  try simp only [Act.put, List.setIfInBounds_toArray, List.set_cons_zero, List.set_cons_succ]
  refine wpSched_take (o := ⟨some 139, _, _, _, _, _⟩) (v := ?_) rfl rfl (fun w' hS => ?_) ?_
  rotate_left
  · go_simp <;> with_reducible rfl
  try simp only [Act.put, List.setIfInBounds_toArray, List.set_cons_zero, List.set_cons_succ]
  refine wpSched_call (o := ⟨some 140, _, _, _, _, _⟩) rfl rfl (fun K hK => ?_)
  go_simp
  with_reducible refine (awake2 _).mono ?_
  rintro e w30 ⟨rfl, b30⟩
  replace b30 := below_trans (a := w29) (by go_grown) b30
  replace Bz := below_trans Bz b30
  replace Bq := below_trans Bq b30
  obtain ⟨⟨p1, p2⟩, _, _⟩ := (HX.out.below Bz).look
  obtain ⟨⟨q1, q2⟩, _, _⟩ := (HY.out.below Bz).look
  obtain ⟨⟨r1, r2⟩, _, _⟩ := (HZ.out.below Bz).look
  obtain ⟨⟨y1, y2⟩, _, _⟩ := (HQ.out.below Bq).look
  obtain ⟨⟨z1, z2⟩, _, _⟩ := (HR.out.below Bq).look
  clear b30
  refine hK.out _ _ ⟨p1, p2, q1, q2, r1, r2, y1, y2, z1, z2⟩ (fun _ => ?_)
  try simp only [Act.put, List.setIfInBounds_toArray, List.set_cons_zero, List.set_cons_succ]
  clear hK K
  refine wpSched_take (o := ⟨some 141, _, _, _, _, _⟩) (v := ?_) rfl rfl (fun w' hS => ?_) ?_
  rotate_left
  · go_simp <;> with_reducible rfl
  try simp only [Act.put, List.setIfInBounds_toArray, List.set_cons_zero, List.set_cons_succ]
  refine wpSched_take (o := ⟨some 6, _, _, _, _, _⟩) (v := ?_) rfl rfl (fun w' hS => ?_) ?_
  rotate_left
  · go_simp <;> with_reducible rfl
  try simp only [Act.put, List.setIfInBounds_toArray, List.set_cons_zero, List.set_cons_succ]
  refine wpSched_done ?_
  go_wp2_with fail
  go_ret
  exact ⟨rfl, below_trans hB (below_trans Bz (by go_grown))⟩
end Go.Proofs.Ytjlfcnkndndgaaa
