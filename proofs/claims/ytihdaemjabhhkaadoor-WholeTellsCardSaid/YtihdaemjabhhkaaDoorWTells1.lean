/-
  The walk of WholeTells, one of its ways. Written by wip/gen/wtells.py.
-/
import Derived.Test.YtihdaemjabhhkaaDoorZQ
import Derived.Test.YtihdaemjabhhkaaDoorZTab
import Derived.Test.YtihdaemjabhhkaaDoorWG
namespace Go.Proofs.YtihdaemjabhhkaaDoor
open Go.RowKit Tw

set_option maxRecDepth 100000 in
set_option maxHeartbeats 8000000 in
theorem wtells_n {sa sb : Bool} {A B' : Option Addr} {ca cb la lb : Nat} {a b n : Int} {w : World} {xs ys : List Nat} (ha : I w sa A ca la a) (hb : I w sb B' cb lb b) (xa : Nx w A ca la xs) (xb : Nx w B' cb lb ys) (ha1 : la ≤ 12) (hb1 : lb ≤ 12) (h0 : b ≠ 0)
    (HZ : Hid (-9223372036854775808 ≤ n ∧ n ≤ 9223372036854775807)) (Na : Hid (A = none → ca = 0)) (Nb : Hid (B' = none → cb = 0)) (hT : Hid (Tab w)) :
    Calls Tryd.prog 3 #[.agg #[.bool sa, .slice A la ca], .agg #[.bool sb, .slice B' lb cb], .int .i64 n] w (Yes w) := by
  obtain ⟨ta, HTA⟩ : ∃ t, Hid (a.sign = t) := ⟨_, Lib.hid rfl⟩
  obtain ⟨k, HK⟩ : ∃ t, Hid (cmpI a b = t) := ⟨_, Lib.hid rfl⟩
  obtain ⟨t, HS1⟩ : ∃ t, Hid (isSmall a = t) := ⟨_, Lib.hid rfl⟩
  obtain ⟨r, HS2⟩ : ∃ r, Hid ((if t then a else 0) = r) := ⟨_, Lib.hid rfl⟩
  obtain ⟨W, hW, x0, x1, hB⟩ := boxes2 w #[.bool sa, .slice A la ca] 24 #[.bool sb, .slice B' lb cb] 24
  replace ha := ha.below hB
  replace hb := hb.below hB
  replace xa := xa.below hB
  replace xb := xb.below hB
  have HX0 := Lib.hid x0
  have HX1 := Lib.hid x1
  clear x0 x1
  have Bz := Below.refl W.heap.size W
  have p0_0 := (HX0.out.below Bz).cell 0 (.bool sa) rfl
  have p0_1 := (HX0.out.below Bz).cell 1 (.slice A la ca) rfl
  go_enter Tryd.func3, Tryd.ntmps3
  go_wp2_with fail
  rw [← hW]
  clear hW
  go_wp2_with fail
  with_reducible refine (short_z 12 true (by simp; omega)).mono ?_
  rintro e w1 ⟨rfl, b1⟩
  replace b1 := below_trans (a := W) (by go_grown) b1
  replace ha := ha.below b1
  replace hb := hb.below b1
  replace xa := xa.below b1
  replace xb := xb.below b1
  replace Bz := below_trans Bz b1
  clear b1
  clear p0_0 p0_1
  have p1_0 := (HX1.out.below Bz).cell 0 (.bool sb) rfl
  have p1_1 := (HX1.out.below Bz).cell 1 (.slice B' lb cb) rfl
  go_wp2_with fail
  with_reducible refine (short_z 12 true (by simp; omega)).mono ?_
  rintro e w2 ⟨rfl, b2⟩
  replace b2 := below_trans (a := w1) (by go_grown) b2
  replace ha := ha.below b2
  replace hb := hb.below b2
  replace xa := xa.below b2
  replace xb := xb.below b2
  replace Bz := below_trans Bz b2
  clear b2
  clear p1_0 p1_1
  have p0_1 := (HX0.out.below Bz).cell 1 (.slice A la ca) rfl
  have p1_1 := (HX1.out.below Bz).cell 1 (.slice B' lb cb) rfl
  go_wp2_with fail
  (try simp only [List.append_eq, List.cons_append, List.nil_append])
  refine wp_region_plan (.take 0 (.take 1 (.take 3 (.take 4 (.only 2 (.only 5 (.take 6 (.take 7 .done)))))))) [] (fun w' => w'.cell? ⟨w.heap.size, 1, none⟩ = some (.slice A la ca) ∧ w'.cell? ⟨w.heap.size + 1, 1, none⟩ = some (.slice B' lb cb)) (by kernel_rfl) (by kernel_rfl) ⟨p0_1, p1_1⟩ ?_
  refine wpPlan_take (o := ⟨some 29, _, _, _, _, _⟩) (v := ?_) rfl rfl (fun w' hS => ?_) ?_
  rotate_left
  · go_simp <;> with_reducible rfl
  try simp only [Act.put, List.setIfInBounds_toArray, List.set_cons_zero, List.set_cons_succ]
  refine wpPlan_take (o := ⟨some 30, _, _, _, _, _⟩) (v := ?_) rfl rfl (fun w' hS => ?_) ?_
  rotate_left
  · obtain ⟨p0_1, p1_1⟩ := hS; go_simp <;> with_reducible rfl
  try simp only [Act.put, List.setIfInBounds_toArray, List.set_cons_zero, List.set_cons_succ]
  refine wpPlan_take (o := ⟨some 32, _, _, _, _, _⟩) (v := ?_) rfl rfl (fun w' hS => ?_) ?_
  rotate_left
  · go_simp <;> with_reducible rfl
  try simp only [Act.put, List.setIfInBounds_toArray, List.set_cons_zero, List.set_cons_succ]
  refine wpPlan_take (o := ⟨some 33, _, _, _, _, _⟩) (v := ?_) rfl rfl (fun w' hS => ?_) ?_
  rotate_left
  · obtain ⟨p0_1, p1_1⟩ := hS; go_simp <;> with_reducible rfl
  try simp only [Act.put, List.setIfInBounds_toArray, List.set_cons_zero, List.set_cons_succ]
  refine wpPlan_call (o := ⟨some 31, _, _, _, _, _⟩) rfl rfl (fun K hK => ?_)
  go_simp
  with_reducible refine (copy_v (Nx.below xa (by go_grown)) (by omega) Na.out).mono ?_
  rintro e w3 ⟨A3, c3, rfl, h3, b3⟩
  replace b3 := below_trans (a := w2) (by go_grown) b3
  replace ha := ha.below b3
  replace hb := hb.below b3
  replace xa := xa.below b3
  replace xb := xb.below b3
  replace Bz := below_trans Bz b3
  clear b3
  clear p0_1 p1_1
  have p0_1 := (HX0.out.below Bz).cell 1 (.slice A la ca) rfl
  have p1_1 := (HX1.out.below Bz).cell 1 (.slice B' lb cb) rfl
  refine hK.out _ _ ⟨p0_1, p1_1⟩ (fun _ => ?_)
  try simp only [Act.put, List.setIfInBounds_toArray, List.set_cons_zero, List.set_cons_succ]
  clear hK K
  refine wpPlan_call (o := ⟨some 34, _, _, _, _, _⟩) rfl rfl (fun K hK => ?_)
  go_simp
  with_reducible refine (copy_v (Nx.below xb (by go_grown)) (by omega) Nb.out).mono ?_
  rintro e w4 ⟨A4, c4, rfl, h4, b4⟩
  replace b4 := below_trans (a := w3) (by go_grown) b4
  replace ha := ha.below b4
  replace hb := hb.below b4
  replace h3 := h3.below b4
  replace xa := xa.below b4
  replace xb := xb.below b4
  replace Bz := below_trans Bz b4
  clear b4
  clear p0_1 p1_1
  have p0_0 := (HX0.out.below Bz).cell 0 (.bool sa) rfl
  have p0_1 := (HX0.out.below Bz).cell 1 (.slice A la ca) rfl
  have p1_0 := (HX1.out.below Bz).cell 0 (.bool sb) rfl
  have p1_1 := (HX1.out.below Bz).cell 1 (.slice B' lb cb) rfl
  refine hK.out _ _ ⟨p0_1, p1_1⟩ (fun _ => ?_)
  try simp only [Act.put, List.setIfInBounds_toArray, List.set_cons_zero, List.set_cons_succ]
  clear hK K
  refine wpPlan_take (o := ⟨some 7, _, _, _, _, _⟩) (v := ?_) rfl rfl (fun w' hS => ?_) ?_
  rotate_left
  · go_simp <;> with_reducible rfl
  try simp only [Act.put, List.setIfInBounds_toArray, List.set_cons_zero, List.set_cons_succ]
  refine wpPlan_take (o := ⟨some 8, _, _, _, _, _⟩) (v := ?_) rfl rfl (fun w' hS => ?_) ?_
  rotate_left
  · go_simp <;> with_reducible rfl
  try simp only [Act.put, List.setIfInBounds_toArray, List.set_cons_zero, List.set_cons_succ]
  refine wpPlan_done ?_
  go_wp2_with fail
  with_reducible refine (divmod_z (I.below ha (by go_grown)) (I.below hb (by go_grown)) (by omega) h0).mono ?_
  rintro e w5 ⟨s5, A5, c5, l5, s5r, A5r, c5r, l5r, rfl, h5, h5r, m5, m5r, b5⟩
  replace b5 := below_trans (a := w4) (by go_grown) b5
  replace ha := ha.below b5
  replace hb := hb.below b5
  replace h3 := h3.below b5
  replace h4 := h4.below b5
  replace xa := xa.below b5
  replace xb := xb.below b5
  replace Bz := below_trans Bz b5
  clear b5
  clear p0_0 p0_1 p1_0 p1_1
  go_upto_region 6 with (fail)
  obtain ⟨V1, hW, x2, x3, hN⟩ := boxes2 w5 #[.bool s5, .slice A5 l5 c5] 24 #[.bool s5r, .slice A5r l5r c5r] 24
  rw [← hW]
  clear hW
  obtain ⟨v3, hb3⟩ : ∃ b, b = w5.heap.size + 1 := ⟨_, rfl⟩
  rw [← hb3] at x3 ⊢
  obtain ⟨v2, hb2⟩ : ∃ b, b = w5.heap.size := ⟨_, rfl⟩
  rw [← hb2] at x2 ⊢
  have o0_2 : w.heap.size < v2 := by have := (HX0.out.below Bz).lt; omega
  have o1_2 : w.heap.size + 1 < v2 := by have := (HX1.out.below Bz).lt; omega
  have ow_2 : w.heap.size ≤ v2 := by have := hB.size; have := Bz.size; omega
  have o0_3 : w.heap.size < v3 := by have := (HX0.out.below Bz).lt; omega
  have o1_3 : w.heap.size + 1 < v3 := by have := (HX1.out.below Bz).lt; omega
  have o2_3 : v2 < v3 := by omega
  have ow_3 : w.heap.size ≤ v3 := by have := hB.size; have := Bz.size; omega
  replace ha := ha.below hN
  replace hb := hb.below hN
  replace h3 := h3.below hN
  replace h4 := h4.below hN
  replace h5 := h5.below hN
  replace h5r := h5r.below hN
  replace xa := xa.below hN
  replace xb := xb.below hN
  replace hB := below_trans (below_trans hB Bz) hN
  replace HX0 := Lib.hid ((HX0.out.below Bz).below hN)
  replace HX1 := Lib.hid ((HX1.out.below Bz).below hN)
  have HX2 := Lib.hid x2
  have HX3 := Lib.hid x3
  clear x2 x3 hN Bz hb2 hb3
  have Bz := Below.refl V1.heap.size V1
  have p0_0 := (HX0.out.below Bz).cell 0 (.bool sa) rfl
  have p0_1 := (HX0.out.below Bz).cell 1 (.slice A la ca) rfl
  have p1_0 := (HX1.out.below Bz).cell 0 (.bool sb) rfl
  have p1_1 := (HX1.out.below Bz).cell 1 (.slice B' lb cb) rfl
  go_wp2_with fail
  with_reducible refine (divmodq (I.below ha (by go_grown)) (I.below hb (by go_grown)) (by omega) (by omega) h0).mono ?_
  rintro e w6 ⟨s6, A6, c6, l6, s6r, A6r, c6r, l6r, rfl, h6, h6r, m6, m6r, b6⟩
  replace b6 := below_trans (a := V1) (by go_grown) b6
  replace ha := ha.below b6
  replace hb := hb.below b6
  replace h3 := h3.below b6
  replace h4 := h4.below b6
  replace h5 := h5.below b6
  replace h5r := h5r.below b6
  replace xa := xa.below b6
  replace xb := xb.below b6
  replace Bz := below_trans Bz b6
  clear b6
  clear p0_0 p0_1 p1_0 p1_1
  go_upto_region 7 with (fail)
  obtain ⟨V2, hW, x4, x5, hN⟩ := boxes2 w6 #[.bool s6, .slice A6 l6 c6] 24 #[.bool s6r, .slice A6r l6r c6r] 24
  rw [← hW]
  clear hW
  obtain ⟨v5, hb5⟩ : ∃ b, b = w6.heap.size + 1 := ⟨_, rfl⟩
  rw [← hb5] at x5 ⊢
  obtain ⟨v4, hb4⟩ : ∃ b, b = w6.heap.size := ⟨_, rfl⟩
  rw [← hb4] at x4 ⊢
  have o0_4 : w.heap.size < v4 := by have := (HX0.out.below Bz).lt; omega
  have o1_4 : w.heap.size + 1 < v4 := by have := (HX1.out.below Bz).lt; omega
  have o2_4 : v2 < v4 := by have := (HX2.out.below Bz).lt; omega
  have o3_4 : v3 < v4 := by have := (HX3.out.below Bz).lt; omega
  have ow_4 : w.heap.size ≤ v4 := by have := hB.size; have := Bz.size; omega
  have o0_5 : w.heap.size < v5 := by have := (HX0.out.below Bz).lt; omega
  have o1_5 : w.heap.size + 1 < v5 := by have := (HX1.out.below Bz).lt; omega
  have o2_5 : v2 < v5 := by have := (HX2.out.below Bz).lt; omega
  have o3_5 : v3 < v5 := by have := (HX3.out.below Bz).lt; omega
  have o4_5 : v4 < v5 := by omega
  have ow_5 : w.heap.size ≤ v5 := by have := hB.size; have := Bz.size; omega
  replace ha := ha.below hN
  replace hb := hb.below hN
  replace h3 := h3.below hN
  replace h4 := h4.below hN
  replace h5 := h5.below hN
  replace h5r := h5r.below hN
  replace h6 := h6.below hN
  replace h6r := h6r.below hN
  replace xa := xa.below hN
  replace xb := xb.below hN
  replace hB := below_trans (below_trans hB Bz) hN
  replace HX0 := Lib.hid ((HX0.out.below Bz).below hN)
  replace HX1 := Lib.hid ((HX1.out.below Bz).below hN)
  replace HX2 := Lib.hid ((HX2.out.below Bz).below hN)
  replace HX3 := Lib.hid ((HX3.out.below Bz).below hN)
  have HX4 := Lib.hid x4
  have HX5 := Lib.hid x5
  clear x4 x5 hN Bz hb4 hb5
  have Bz := Below.refl V2.heap.size V2
  have p0_0 := (HX0.out.below Bz).cell 0 (.bool sa) rfl
  have p0_1 := (HX0.out.below Bz).cell 1 (.slice A la ca) rfl
  go_wp2_with fail
  with_reducible refine (small_z (I.below ha (by go_grown)) (by omega) r t HS1.out HS2.out).mono ?_
  rintro e w7 ⟨rfl, b7⟩
  replace b7 := below_trans (a := V2) (by go_grown) b7
  replace ha := ha.below b7
  replace hb := hb.below b7
  replace h3 := h3.below b7
  replace h4 := h4.below b7
  replace h5 := h5.below b7
  replace h5r := h5r.below b7
  replace h6 := h6.below b7
  replace h6r := h6r.below b7
  replace xa := xa.below b7
  replace xb := xb.below b7
  replace Bz := below_trans Bz b7
  clear b7
  clear p0_0 p0_1
  have p0_0 := (HX0.out.below Bz).cell 0 (.bool sa) rfl
  have p0_1 := (HX0.out.below Bz).cell 1 (.slice A la ca) rfl
  go_wp2_with fail
  with_reducible refine (smallq (I.below ha (by go_grown)) (by omega) r t HS1.out HS2.out).mono ?_
  rintro e w8 ⟨rfl, b8⟩
  replace b8 := below_trans (a := w7) (by go_grown) b8
  replace ha := ha.below b8
  replace hb := hb.below b8
  replace h3 := h3.below b8
  replace h4 := h4.below b8
  replace h5 := h5.below b8
  replace h5r := h5r.below b8
  replace h6 := h6.below b8
  replace h6r := h6r.below b8
  replace xa := xa.below b8
  replace xb := xb.below b8
  replace Bz := below_trans Bz b8
  clear b8
  clear p0_0 p0_1
  have p0_0 := (HX0.out.below Bz).cell 0 (.bool sa) rfl
  have p0_1 := (HX0.out.below Bz).cell 1 (.slice A la ca) rfl
  have p1_0 := (HX1.out.below Bz).cell 0 (.bool sb) rfl
  have p1_1 := (HX1.out.below Bz).cell 1 (.slice B' lb cb) rfl
  have p2_0 := (HX2.out.below Bz).cell 0 (.bool s5) rfl
  have p2_1 := (HX2.out.below Bz).cell 1 (.slice A5 l5 c5) rfl
  have p3_0 := (HX3.out.below Bz).cell 0 (.bool s5r) rfl
  have p3_1 := (HX3.out.below Bz).cell 1 (.slice A5r l5r c5r) rfl
  have p4_0 := (HX4.out.below Bz).cell 0 (.bool s6) rfl
  have p4_1 := (HX4.out.below Bz).cell 1 (.slice A6 l6 c6) rfl
  have p5_0 := (HX5.out.below Bz).cell 0 (.bool s6r) rfl
  have p5_1 := (HX5.out.below Bz).cell 1 (.slice A6r l6r c6r) rfl
  go_wp2_with fail
  (try simp only [List.append_eq, List.cons_append, List.nil_append])
  refine wp_region_plan (.take 0 (.take 1 (.take 2 (.only 3 (.take 4 (.take 5 (.take 6 (.take 7 (.only 8 (.take 9 (.take 10 (.take 11 (.take 12 (.take 13 (.take 14 (.take 15 (.take 16 (.take 17 (.take 18 (.take 19 (.take 20 (.take 21 (.take 22 (.take 23 (.take 25 (.take 26 (.only 24 (.only 27 (.only 28 (.take 29 (.take 30 (.take 31 (.take 32 (.take 33 (.take 35 (.take 36 (.only 34 (.only 37 (.only 38 (.take 39 (.take 40 (.take 41 (.take 42 (.take 43 (.take 45 (.take 46 (.only 44 (.only 47 (.only 48 (.take 49 (.take 50 (.take 51 (.take 52 (.take 53 (.take 55 (.take 56 (.only 54 (.only 57 (.only 58 (.take 59 (.take 60 .done))))))))))))))))))))))))))))))))))))))))))))))))))))))))))))) [] (fun w' => w'.cell? ⟨w.heap.size, 0, none⟩ = some (.bool sa) ∧ w'.cell? ⟨w.heap.size, 1, none⟩ = some (.slice A la ca) ∧ w'.cell? ⟨w.heap.size + 1, 0, none⟩ = some (.bool sb) ∧ w'.cell? ⟨w.heap.size + 1, 1, none⟩ = some (.slice B' lb cb) ∧ w'.cell? ⟨v2, 0, none⟩ = some (.bool s5) ∧ w'.cell? ⟨v2, 1, none⟩ = some (.slice A5 l5 c5) ∧ w'.cell? ⟨v3, 0, none⟩ = some (.bool s5r) ∧ w'.cell? ⟨v3, 1, none⟩ = some (.slice A5r l5r c5r) ∧ w'.cell? ⟨v4, 0, none⟩ = some (.bool s6) ∧ w'.cell? ⟨v4, 1, none⟩ = some (.slice A6 l6 c6) ∧ w'.cell? ⟨v5, 0, none⟩ = some (.bool s6r) ∧ w'.cell? ⟨v5, 1, none⟩ = some (.slice A6r l6r c6r)) (by kernel_rfl) (by kernel_rfl) ⟨p0_0, p0_1, p1_0, p1_1, p2_0, p2_1, p3_0, p3_1, p4_0, p4_1, p5_0, p5_1⟩ ?_
  refine wpPlan_take (o := ⟨some 57, _, _, _, _, _⟩) (v := ?_) rfl rfl (fun w' hS => ?_) ?_
  rotate_left
  · go_simp <;> with_reducible rfl
  try simp only [Act.put, List.setIfInBounds_toArray, List.set_cons_zero, List.set_cons_succ]
  refine wpPlan_take (o := ⟨some 58, _, _, _, _, _⟩) (v := ?_) rfl rfl (fun w' hS => ?_) ?_
  rotate_left
  · obtain ⟨p0_0, p0_1, p1_0, p1_1, p2_0, p2_1, p3_0, p3_1, p4_0, p4_1, p5_0, p5_1⟩ := hS; go_simp <;> with_reducible rfl
  try simp only [Act.put, List.setIfInBounds_toArray, List.set_cons_zero, List.set_cons_succ]
  refine wpPlan_take (o := ⟨some 59, _, _, _, _, _⟩) (v := ?_) rfl rfl (fun w' hS => ?_) ?_
  rotate_left
  · obtain ⟨p0_0, p0_1, p1_0, p1_1, p2_0, p2_1, p3_0, p3_1, p4_0, p4_1, p5_0, p5_1⟩ := hS; go_simp <;> with_reducible rfl
  try simp only [Act.put, List.setIfInBounds_toArray, List.set_cons_zero, List.set_cons_succ]
  refine wpPlan_call (o := ⟨some 60, _, _, _, _, _⟩) rfl rfl (fun K hK => ?_)
  go_simp
  with_reducible refine (same_z (J.below h5 (by go_grown)) (J.below h6 (by go_grown)) (by omega) rfl).mono ?_
  rintro e w9 ⟨rfl, b9⟩
  replace b9 := below_trans (a := w8) (by go_grown) b9
  replace ha := ha.below b9
  replace hb := hb.below b9
  replace h3 := h3.below b9
  replace h4 := h4.below b9
  replace h5r := h5r.below b9
  replace h6r := h6r.below b9
  replace xa := xa.below b9
  replace xb := xb.below b9
  replace Bz := below_trans Bz b9
  clear b9
  clear p0_0 p0_1 p1_0 p1_1 p2_0 p2_1 p3_0 p3_1 p4_0 p4_1 p5_0 p5_1
  have p0_0 := (HX0.out.below Bz).cell 0 (.bool sa) rfl
  have p0_1 := (HX0.out.below Bz).cell 1 (.slice A la ca) rfl
  have p1_0 := (HX1.out.below Bz).cell 0 (.bool sb) rfl
  have p1_1 := (HX1.out.below Bz).cell 1 (.slice B' lb cb) rfl
  have p2_0 := (HX2.out.below Bz).cell 0 (.bool s5) rfl
  have p2_1 := (HX2.out.below Bz).cell 1 (.slice A5 l5 c5) rfl
  have p3_0 := (HX3.out.below Bz).cell 0 (.bool s5r) rfl
  have p3_1 := (HX3.out.below Bz).cell 1 (.slice A5r l5r c5r) rfl
  have p4_0 := (HX4.out.below Bz).cell 0 (.bool s6) rfl
  have p4_1 := (HX4.out.below Bz).cell 1 (.slice A6 l6 c6) rfl
  have p5_0 := (HX5.out.below Bz).cell 0 (.bool s6r) rfl
  have p5_1 := (HX5.out.below Bz).cell 1 (.slice A6r l6r c6r) rfl
  refine hK.out _ _ ⟨p0_0, p0_1, p1_0, p1_1, p2_0, p2_1, p3_0, p3_1, p4_0, p4_1, p5_0, p5_1⟩ (fun _ => ?_)
  try simp only [Act.put, List.setIfInBounds_toArray, List.set_cons_zero, List.set_cons_succ]
  clear hK K
  refine wpPlan_take (o := ⟨some 61, _, _, _, _, _⟩) (v := ?_) rfl rfl (fun w' hS => ?_) ?_
  rotate_left
  · go_simp <;> with_reducible rfl
  try simp only [Act.put, List.setIfInBounds_toArray, List.set_cons_zero, List.set_cons_succ]
  refine wpPlan_take (o := ⟨some 62, _, _, _, _, _⟩) (v := ?_) rfl rfl (fun w' hS => ?_) ?_
  rotate_left
  · go_simp <;> with_reducible rfl
  try simp only [Act.put, List.setIfInBounds_toArray, List.set_cons_zero, List.set_cons_succ]
  refine wpPlan_take (o := ⟨some 63, _, _, _, _, _⟩) (v := ?_) rfl rfl (fun w' hS => ?_) ?_
  rotate_left
  · obtain ⟨p0_0, p0_1, p1_0, p1_1, p2_0, p2_1, p3_0, p3_1, p4_0, p4_1, p5_0, p5_1⟩ := hS; go_simp <;> with_reducible rfl
  try simp only [Act.put, List.setIfInBounds_toArray, List.set_cons_zero, List.set_cons_succ]
  refine wpPlan_take (o := ⟨some 64, _, _, _, _, _⟩) (v := ?_) rfl rfl (fun w' hS => ?_) ?_
  rotate_left
  · obtain ⟨p0_0, p0_1, p1_0, p1_1, p2_0, p2_1, p3_0, p3_1, p4_0, p4_1, p5_0, p5_1⟩ := hS; go_simp <;> with_reducible rfl
  try simp only [Act.put, List.setIfInBounds_toArray, List.set_cons_zero, List.set_cons_succ]
  refine wpPlan_call (o := ⟨some 65, _, _, _, _, _⟩) rfl rfl (fun K hK => ?_)
  go_simp
  with_reducible refine (same_z (J.below h5r (by go_grown)) (J.below h6r (by go_grown)) (by omega) rfl).mono ?_
  rintro e w10 ⟨rfl, b10⟩
  replace b10 := below_trans (a := w9) (by go_grown) b10
  replace ha := ha.below b10
  replace hb := hb.below b10
  replace h3 := h3.below b10
  replace h4 := h4.below b10
  replace xa := xa.below b10
  replace xb := xb.below b10
  replace Bz := below_trans Bz b10
  clear b10
  clear p0_0 p0_1 p1_0 p1_1 p2_0 p2_1 p3_0 p3_1 p4_0 p4_1 p5_0 p5_1
  have p0_0 := (HX0.out.below Bz).cell 0 (.bool sa) rfl
  have p0_1 := (HX0.out.below Bz).cell 1 (.slice A la ca) rfl
  have p1_0 := (HX1.out.below Bz).cell 0 (.bool sb) rfl
  have p1_1 := (HX1.out.below Bz).cell 1 (.slice B' lb cb) rfl
  have p2_0 := (HX2.out.below Bz).cell 0 (.bool s5) rfl
  have p2_1 := (HX2.out.below Bz).cell 1 (.slice A5 l5 c5) rfl
  have p3_0 := (HX3.out.below Bz).cell 0 (.bool s5r) rfl
  have p3_1 := (HX3.out.below Bz).cell 1 (.slice A5r l5r c5r) rfl
  have p4_0 := (HX4.out.below Bz).cell 0 (.bool s6) rfl
  have p4_1 := (HX4.out.below Bz).cell 1 (.slice A6 l6 c6) rfl
  have p5_0 := (HX5.out.below Bz).cell 0 (.bool s6r) rfl
  have p5_1 := (HX5.out.below Bz).cell 1 (.slice A6r l6r c6r) rfl
  refine hK.out _ _ ⟨p0_0, p0_1, p1_0, p1_1, p2_0, p2_1, p3_0, p3_1, p4_0, p4_1, p5_0, p5_1⟩ (fun _ => ?_)
  try simp only [Act.put, List.setIfInBounds_toArray, List.set_cons_zero, List.set_cons_succ]
  clear hK K
  refine wpPlan_take (o := ⟨some 66, _, _, _, _, _⟩) (v := ?_) rfl rfl (fun w' hS => ?_) ?_
  rotate_left
  · go_simp <;> with_reducible rfl
  try simp only [Act.put, List.setIfInBounds_toArray, List.set_cons_zero, List.set_cons_succ]
  refine wpPlan_take (o := ⟨some 67, _, _, _, _, _⟩) (v := ?_) rfl rfl (fun w' hS => ?_) ?_
  rotate_left
  · go_simp <;> with_reducible rfl
  try simp only [Act.put, List.setIfInBounds_toArray, List.set_cons_zero, List.set_cons_succ]
  refine wpPlan_take (o := ⟨some 68, _, _, _, _, _⟩) (v := ?_) rfl rfl (fun w' hS => ?_) ?_
  rotate_left
  · go_simp <;> with_reducible rfl
  try simp only [Act.put, List.setIfInBounds_toArray, List.set_cons_zero, List.set_cons_succ]
  refine wpPlan_take (o := ⟨some 69, _, _, _, _, _⟩) (v := ?_) rfl rfl (fun w' hS => ?_) ?_
  rotate_left
  · go_simp <;> with_reducible rfl
  try simp only [Act.put, List.setIfInBounds_toArray, List.set_cons_zero, List.set_cons_succ]
  refine wpPlan_take (o := ⟨some 70, _, _, _, _, _⟩) (v := ?_) rfl rfl (fun w' hS => ?_) ?_
  rotate_left
  · go_simp <;> with_reducible rfl
  try simp only [Act.put, List.setIfInBounds_toArray, List.set_cons_zero, List.set_cons_succ]
  refine wpPlan_take (o := ⟨some 71, _, _, _, _, _⟩) (v := ?_) rfl rfl (fun w' hS => ?_) ?_
  rotate_left
  · go_simp <;> with_reducible rfl
  try simp only [Act.put, List.setIfInBounds_toArray, List.set_cons_zero, List.set_cons_succ]
  refine wpPlan_take (o := ⟨some 72, _, _, _, _, _⟩) (v := ?_) rfl rfl (fun w' hS => ?_) ?_
  rotate_left
  · go_simp <;> with_reducible rfl
  try simp only [Act.put, List.setIfInBounds_toArray, List.set_cons_zero, List.set_cons_succ]
  refine wpPlan_take (o := ⟨some 73, _, _, _, _, _⟩) (v := ?_) rfl rfl (fun w' hS => ?_) ?_
  rotate_left
  · go_simp <;> with_reducible rfl
  try simp only [Act.put, List.setIfInBounds_toArray, List.set_cons_zero, List.set_cons_succ]
  refine wpPlan_take (o := ⟨some 74, _, _, _, _, _⟩) (v := ?_) rfl rfl (fun w' hS => ?_) ?_
  rotate_left
  · go_simp <;> with_reducible rfl
  try simp only [Act.put, List.setIfInBounds_toArray, List.set_cons_zero, List.set_cons_succ]
  refine wpPlan_take (o := ⟨some 75, _, _, _, _, _⟩) (v := ?_) rfl rfl (fun w' hS => ?_) ?_
  rotate_left
  · go_simp <;> with_reducible rfl
  try simp only [Act.put, List.setIfInBounds_toArray, List.set_cons_zero, List.set_cons_succ]
  refine wpPlan_take (o := ⟨some 76, _, _, _, _, _⟩) (v := ?_) rfl rfl (fun w' hS => ?_) ?_
  rotate_left
  · go_simp <;> with_reducible rfl
  try simp only [Act.put, List.setIfInBounds_toArray, List.set_cons_zero, List.set_cons_succ]
  refine wpPlan_take (o := ⟨some 77, _, _, _, _, _⟩) (v := ?_) rfl rfl (fun w' hS => ?_) ?_
  rotate_left
  · go_simp <;> with_reducible rfl
  try simp only [Act.put, List.setIfInBounds_toArray, List.set_cons_zero, List.set_cons_succ]
  refine wpPlan_take (o := ⟨some 78, _, _, _, _, _⟩) (v := ?_) rfl rfl (fun w' hS => ?_) ?_
  rotate_left
  · go_simp <;> with_reducible rfl
  try simp only [Act.put, List.setIfInBounds_toArray, List.set_cons_zero, List.set_cons_succ]
  refine wpPlan_take (o := ⟨some 79, _, _, _, _, _⟩) (v := ?_) rfl rfl (fun w' hS => ?_) ?_
  rotate_left
  · obtain ⟨p0_0, p0_1, p1_0, p1_1, p2_0, p2_1, p3_0, p3_1, p4_0, p4_1, p5_0, p5_1⟩ := hS; go_simp <;> with_reducible rfl
  try simp only [Act.put, List.setIfInBounds_toArray, List.set_cons_zero, List.set_cons_succ]
  refine wpPlan_take (o := ⟨some 80, _, _, _, _, _⟩) (v := ?_) rfl rfl (fun w' hS => ?_) ?_
  rotate_left
  · obtain ⟨p0_0, p0_1, p1_0, p1_1, p2_0, p2_1, p3_0, p3_1, p4_0, p4_1, p5_0, p5_1⟩ := hS; go_simp <;> with_reducible rfl
  try simp only [Act.put, List.setIfInBounds_toArray, List.set_cons_zero, List.set_cons_succ]
  refine wpPlan_take (o := ⟨some 82, _, _, _, _, _⟩) (v := ?_) rfl rfl (fun w' hS => ?_) ?_
  rotate_left
  · obtain ⟨p0_0, p0_1, p1_0, p1_1, p2_0, p2_1, p3_0, p3_1, p4_0, p4_1, p5_0, p5_1⟩ := hS; go_simp <;> with_reducible rfl
  try simp only [Act.put, List.setIfInBounds_toArray, List.set_cons_zero, List.set_cons_succ]
  refine wpPlan_take (o := ⟨some 83, _, _, _, _, _⟩) (v := ?_) rfl rfl (fun w' hS => ?_) ?_
  rotate_left
  · obtain ⟨p0_0, p0_1, p1_0, p1_1, p2_0, p2_1, p3_0, p3_1, p4_0, p4_1, p5_0, p5_1⟩ := hS; go_simp <;> with_reducible rfl
  try simp only [Act.put, List.setIfInBounds_toArray, List.set_cons_zero, List.set_cons_succ]
  refine wpPlan_call (o := ⟨some 81, _, _, _, _, _⟩) rfl rfl (fun K hK => ?_)
  go_simp
  with_reducible refine (add_z (I.below ha (by go_grown)) (I.below hb (by go_grown)) (by omega)).mono ?_
  rintro e w11 ⟨s11, A11, c11, l11, rfl, h11, m11, b11⟩
  replace b11 := below_trans (a := w10) (by go_grown) b11
  replace ha := ha.below b11
  replace hb := hb.below b11
  replace h3 := h3.below b11
  replace h4 := h4.below b11
  replace xa := xa.below b11
  replace xb := xb.below b11
  replace Bz := below_trans Bz b11
  clear b11
  clear p0_0 p0_1 p1_0 p1_1 p2_0 p2_1 p3_0 p3_1 p4_0 p4_1 p5_0 p5_1
  have p0_0 := (HX0.out.below Bz).cell 0 (.bool sa) rfl
  have p0_1 := (HX0.out.below Bz).cell 1 (.slice A la ca) rfl
  have p1_0 := (HX1.out.below Bz).cell 0 (.bool sb) rfl
  have p1_1 := (HX1.out.below Bz).cell 1 (.slice B' lb cb) rfl
  have p2_0 := (HX2.out.below Bz).cell 0 (.bool s5) rfl
  have p2_1 := (HX2.out.below Bz).cell 1 (.slice A5 l5 c5) rfl
  have p3_0 := (HX3.out.below Bz).cell 0 (.bool s5r) rfl
  have p3_1 := (HX3.out.below Bz).cell 1 (.slice A5r l5r c5r) rfl
  have p4_0 := (HX4.out.below Bz).cell 0 (.bool s6) rfl
  have p4_1 := (HX4.out.below Bz).cell 1 (.slice A6 l6 c6) rfl
  have p5_0 := (HX5.out.below Bz).cell 0 (.bool s6r) rfl
  have p5_1 := (HX5.out.below Bz).cell 1 (.slice A6r l6r c6r) rfl
  refine hK.out _ _ ⟨p0_0, p0_1, p1_0, p1_1, p2_0, p2_1, p3_0, p3_1, p4_0, p4_1, p5_0, p5_1⟩ (fun _ => ?_)
  try simp only [Act.put, List.setIfInBounds_toArray, List.set_cons_zero, List.set_cons_succ]
  clear hK K
  refine wpPlan_call (o := ⟨some 84, _, _, _, _, _⟩) rfl rfl (fun K hK => ?_)
  go_simp
  with_reducible refine (addq (I.below ha (by go_grown)) (I.below hb (by go_grown)) (by omega) (by omega)).mono ?_
  rintro e w12 ⟨s12, A12, c12, l12, rfl, h12, m12, b12⟩
  replace b12 := below_trans (a := w11) (by go_grown) b12
  replace ha := ha.below b12
  replace hb := hb.below b12
  replace h11 := h11.below b12
  replace h3 := h3.below b12
  replace h4 := h4.below b12
  replace xa := xa.below b12
  replace xb := xb.below b12
  replace Bz := below_trans Bz b12
  clear b12
  clear p0_0 p0_1 p1_0 p1_1 p2_0 p2_1 p3_0 p3_1 p4_0 p4_1 p5_0 p5_1
  have p0_0 := (HX0.out.below Bz).cell 0 (.bool sa) rfl
  have p0_1 := (HX0.out.below Bz).cell 1 (.slice A la ca) rfl
  have p1_0 := (HX1.out.below Bz).cell 0 (.bool sb) rfl
  have p1_1 := (HX1.out.below Bz).cell 1 (.slice B' lb cb) rfl
  have p2_0 := (HX2.out.below Bz).cell 0 (.bool s5) rfl
  have p2_1 := (HX2.out.below Bz).cell 1 (.slice A5 l5 c5) rfl
  have p3_0 := (HX3.out.below Bz).cell 0 (.bool s5r) rfl
  have p3_1 := (HX3.out.below Bz).cell 1 (.slice A5r l5r c5r) rfl
  have p4_0 := (HX4.out.below Bz).cell 0 (.bool s6) rfl
  have p4_1 := (HX4.out.below Bz).cell 1 (.slice A6 l6 c6) rfl
  have p5_0 := (HX5.out.below Bz).cell 0 (.bool s6r) rfl
  have p5_1 := (HX5.out.below Bz).cell 1 (.slice A6r l6r c6r) rfl
  refine hK.out _ _ ⟨p0_0, p0_1, p1_0, p1_1, p2_0, p2_1, p3_0, p3_1, p4_0, p4_1, p5_0, p5_1⟩ (fun _ => ?_)
  try simp only [Act.put, List.setIfInBounds_toArray, List.set_cons_zero, List.set_cons_succ]
  clear hK K
  refine wpPlan_call (o := ⟨some 85, _, _, _, _, _⟩) rfl rfl (fun K hK => ?_)
  go_simp
  with_reducible refine (same_z (J.below h11 (by go_grown)) (J.below h12 (by go_grown)) (by omega) rfl).mono ?_
  rintro e w13 ⟨rfl, b13⟩
  replace b13 := below_trans (a := w12) (by go_grown) b13
  replace ha := ha.below b13
  replace hb := hb.below b13
  replace h3 := h3.below b13
  replace h4 := h4.below b13
  replace xa := xa.below b13
  replace xb := xb.below b13
  replace Bz := below_trans Bz b13
  clear b13
  clear p0_0 p0_1 p1_0 p1_1 p2_0 p2_1 p3_0 p3_1 p4_0 p4_1 p5_0 p5_1
  have p0_0 := (HX0.out.below Bz).cell 0 (.bool sa) rfl
  have p0_1 := (HX0.out.below Bz).cell 1 (.slice A la ca) rfl
  have p1_0 := (HX1.out.below Bz).cell 0 (.bool sb) rfl
  have p1_1 := (HX1.out.below Bz).cell 1 (.slice B' lb cb) rfl
  have p2_0 := (HX2.out.below Bz).cell 0 (.bool s5) rfl
  have p2_1 := (HX2.out.below Bz).cell 1 (.slice A5 l5 c5) rfl
  have p3_0 := (HX3.out.below Bz).cell 0 (.bool s5r) rfl
  have p3_1 := (HX3.out.below Bz).cell 1 (.slice A5r l5r c5r) rfl
  have p4_0 := (HX4.out.below Bz).cell 0 (.bool s6) rfl
  have p4_1 := (HX4.out.below Bz).cell 1 (.slice A6 l6 c6) rfl
  have p5_0 := (HX5.out.below Bz).cell 0 (.bool s6r) rfl
  have p5_1 := (HX5.out.below Bz).cell 1 (.slice A6r l6r c6r) rfl
  refine hK.out _ _ ⟨p0_0, p0_1, p1_0, p1_1, p2_0, p2_1, p3_0, p3_1, p4_0, p4_1, p5_0, p5_1⟩ (fun _ => ?_)
  try simp only [Act.put, List.setIfInBounds_toArray, List.set_cons_zero, List.set_cons_succ]
  clear hK K
  refine wpPlan_take (o := ⟨some 86, _, _, _, _, _⟩) (v := ?_) rfl rfl (fun w' hS => ?_) ?_
  rotate_left
  · go_simp <;> with_reducible rfl
  try simp only [Act.put, List.setIfInBounds_toArray, List.set_cons_zero, List.set_cons_succ]
  refine wpPlan_take (o := ⟨some 87, _, _, _, _, _⟩) (v := ?_) rfl rfl (fun w' hS => ?_) ?_
  rotate_left
  · go_simp <;> with_reducible rfl
  try simp only [Act.put, List.setIfInBounds_toArray, List.set_cons_zero, List.set_cons_succ]
  refine wpPlan_take (o := ⟨some 88, _, _, _, _, _⟩) (v := ?_) rfl rfl (fun w' hS => ?_) ?_
  rotate_left
  · go_simp <;> with_reducible rfl
  try simp only [Act.put, List.setIfInBounds_toArray, List.set_cons_zero, List.set_cons_succ]
  refine wpPlan_take (o := ⟨some 89, _, _, _, _, _⟩) (v := ?_) rfl rfl (fun w' hS => ?_) ?_
  rotate_left
  · obtain ⟨p0_0, p0_1, p1_0, p1_1, p2_0, p2_1, p3_0, p3_1, p4_0, p4_1, p5_0, p5_1⟩ := hS; go_simp <;> with_reducible rfl
  try simp only [Act.put, List.setIfInBounds_toArray, List.set_cons_zero, List.set_cons_succ]
  refine wpPlan_take (o := ⟨some 90, _, _, _, _, _⟩) (v := ?_) rfl rfl (fun w' hS => ?_) ?_
  rotate_left
  · obtain ⟨p0_0, p0_1, p1_0, p1_1, p2_0, p2_1, p3_0, p3_1, p4_0, p4_1, p5_0, p5_1⟩ := hS; go_simp <;> with_reducible rfl
  try simp only [Act.put, List.setIfInBounds_toArray, List.set_cons_zero, List.set_cons_succ]
  refine wpPlan_take (o := ⟨some 92, _, _, _, _, _⟩) (v := ?_) rfl rfl (fun w' hS => ?_) ?_
  rotate_left
  · obtain ⟨p0_0, p0_1, p1_0, p1_1, p2_0, p2_1, p3_0, p3_1, p4_0, p4_1, p5_0, p5_1⟩ := hS; go_simp <;> with_reducible rfl
  try simp only [Act.put, List.setIfInBounds_toArray, List.set_cons_zero, List.set_cons_succ]
  refine wpPlan_take (o := ⟨some 93, _, _, _, _, _⟩) (v := ?_) rfl rfl (fun w' hS => ?_) ?_
  rotate_left
  · obtain ⟨p0_0, p0_1, p1_0, p1_1, p2_0, p2_1, p3_0, p3_1, p4_0, p4_1, p5_0, p5_1⟩ := hS; go_simp <;> with_reducible rfl
  try simp only [Act.put, List.setIfInBounds_toArray, List.set_cons_zero, List.set_cons_succ]
  refine wpPlan_call (o := ⟨some 91, _, _, _, _, _⟩) rfl rfl (fun K hK => ?_)
  go_simp
  with_reducible refine (sub_z (I.below ha (by go_grown)) (I.below hb (by go_grown)) (by omega)).mono ?_
  rintro e w14 ⟨s14, A14, c14, l14, rfl, h14, m14, b14⟩
  replace b14 := below_trans (a := w13) (by go_grown) b14
  replace ha := ha.below b14
  replace hb := hb.below b14
  replace h3 := h3.below b14
  replace h4 := h4.below b14
  replace xa := xa.below b14
  replace xb := xb.below b14
  replace Bz := below_trans Bz b14
  clear b14
  clear p0_0 p0_1 p1_0 p1_1 p2_0 p2_1 p3_0 p3_1 p4_0 p4_1 p5_0 p5_1
  have p0_0 := (HX0.out.below Bz).cell 0 (.bool sa) rfl
  have p0_1 := (HX0.out.below Bz).cell 1 (.slice A la ca) rfl
  have p1_0 := (HX1.out.below Bz).cell 0 (.bool sb) rfl
  have p1_1 := (HX1.out.below Bz).cell 1 (.slice B' lb cb) rfl
  have p2_0 := (HX2.out.below Bz).cell 0 (.bool s5) rfl
  have p2_1 := (HX2.out.below Bz).cell 1 (.slice A5 l5 c5) rfl
  have p3_0 := (HX3.out.below Bz).cell 0 (.bool s5r) rfl
  have p3_1 := (HX3.out.below Bz).cell 1 (.slice A5r l5r c5r) rfl
  have p4_0 := (HX4.out.below Bz).cell 0 (.bool s6) rfl
  have p4_1 := (HX4.out.below Bz).cell 1 (.slice A6 l6 c6) rfl
  have p5_0 := (HX5.out.below Bz).cell 0 (.bool s6r) rfl
  have p5_1 := (HX5.out.below Bz).cell 1 (.slice A6r l6r c6r) rfl
  refine hK.out _ _ ⟨p0_0, p0_1, p1_0, p1_1, p2_0, p2_1, p3_0, p3_1, p4_0, p4_1, p5_0, p5_1⟩ (fun _ => ?_)
  try simp only [Act.put, List.setIfInBounds_toArray, List.set_cons_zero, List.set_cons_succ]
  clear hK K
  refine wpPlan_call (o := ⟨some 94, _, _, _, _, _⟩) rfl rfl (fun K hK => ?_)
  go_simp
  with_reducible refine (subq (I.below ha (by go_grown)) (I.below hb (by go_grown)) (by omega) (by omega)).mono ?_
  rintro e w15 ⟨s15, A15, c15, l15, rfl, h15, m15, b15⟩
  replace b15 := below_trans (a := w14) (by go_grown) b15
  replace ha := ha.below b15
  replace hb := hb.below b15
  replace h14 := h14.below b15
  replace h3 := h3.below b15
  replace h4 := h4.below b15
  replace xa := xa.below b15
  replace xb := xb.below b15
  replace Bz := below_trans Bz b15
  clear b15
  clear p0_0 p0_1 p1_0 p1_1 p2_0 p2_1 p3_0 p3_1 p4_0 p4_1 p5_0 p5_1
  have p0_0 := (HX0.out.below Bz).cell 0 (.bool sa) rfl
  have p0_1 := (HX0.out.below Bz).cell 1 (.slice A la ca) rfl
  have p1_0 := (HX1.out.below Bz).cell 0 (.bool sb) rfl
  have p1_1 := (HX1.out.below Bz).cell 1 (.slice B' lb cb) rfl
  have p2_0 := (HX2.out.below Bz).cell 0 (.bool s5) rfl
  have p2_1 := (HX2.out.below Bz).cell 1 (.slice A5 l5 c5) rfl
  have p3_0 := (HX3.out.below Bz).cell 0 (.bool s5r) rfl
  have p3_1 := (HX3.out.below Bz).cell 1 (.slice A5r l5r c5r) rfl
  have p4_0 := (HX4.out.below Bz).cell 0 (.bool s6) rfl
  have p4_1 := (HX4.out.below Bz).cell 1 (.slice A6 l6 c6) rfl
  have p5_0 := (HX5.out.below Bz).cell 0 (.bool s6r) rfl
  have p5_1 := (HX5.out.below Bz).cell 1 (.slice A6r l6r c6r) rfl
  refine hK.out _ _ ⟨p0_0, p0_1, p1_0, p1_1, p2_0, p2_1, p3_0, p3_1, p4_0, p4_1, p5_0, p5_1⟩ (fun _ => ?_)
  try simp only [Act.put, List.setIfInBounds_toArray, List.set_cons_zero, List.set_cons_succ]
  clear hK K
  refine wpPlan_call (o := ⟨some 95, _, _, _, _, _⟩) rfl rfl (fun K hK => ?_)
  go_simp
  with_reducible refine (same_z (J.below h14 (by go_grown)) (J.below h15 (by go_grown)) (by omega) rfl).mono ?_
  rintro e w16 ⟨rfl, b16⟩
  replace b16 := below_trans (a := w15) (by go_grown) b16
  replace ha := ha.below b16
  replace hb := hb.below b16
  replace h3 := h3.below b16
  replace h4 := h4.below b16
  replace xa := xa.below b16
  replace xb := xb.below b16
  replace Bz := below_trans Bz b16
  clear b16
  clear p0_0 p0_1 p1_0 p1_1 p2_0 p2_1 p3_0 p3_1 p4_0 p4_1 p5_0 p5_1
  have p0_0 := (HX0.out.below Bz).cell 0 (.bool sa) rfl
  have p0_1 := (HX0.out.below Bz).cell 1 (.slice A la ca) rfl
  have p1_0 := (HX1.out.below Bz).cell 0 (.bool sb) rfl
  have p1_1 := (HX1.out.below Bz).cell 1 (.slice B' lb cb) rfl
  have p2_0 := (HX2.out.below Bz).cell 0 (.bool s5) rfl
  have p2_1 := (HX2.out.below Bz).cell 1 (.slice A5 l5 c5) rfl
  have p3_0 := (HX3.out.below Bz).cell 0 (.bool s5r) rfl
  have p3_1 := (HX3.out.below Bz).cell 1 (.slice A5r l5r c5r) rfl
  have p4_0 := (HX4.out.below Bz).cell 0 (.bool s6) rfl
  have p4_1 := (HX4.out.below Bz).cell 1 (.slice A6 l6 c6) rfl
  have p5_0 := (HX5.out.below Bz).cell 0 (.bool s6r) rfl
  have p5_1 := (HX5.out.below Bz).cell 1 (.slice A6r l6r c6r) rfl
  refine hK.out _ _ ⟨p0_0, p0_1, p1_0, p1_1, p2_0, p2_1, p3_0, p3_1, p4_0, p4_1, p5_0, p5_1⟩ (fun _ => ?_)
  try simp only [Act.put, List.setIfInBounds_toArray, List.set_cons_zero, List.set_cons_succ]
  clear hK K
  refine wpPlan_take (o := ⟨some 96, _, _, _, _, _⟩) (v := ?_) rfl rfl (fun w' hS => ?_) ?_
  rotate_left
  · go_simp <;> with_reducible rfl
  try simp only [Act.put, List.setIfInBounds_toArray, List.set_cons_zero, List.set_cons_succ]
  refine wpPlan_take (o := ⟨some 97, _, _, _, _, _⟩) (v := ?_) rfl rfl (fun w' hS => ?_) ?_
  rotate_left
  · go_simp <;> with_reducible rfl
  try simp only [Act.put, List.setIfInBounds_toArray, List.set_cons_zero, List.set_cons_succ]
  refine wpPlan_take (o := ⟨some 98, _, _, _, _, _⟩) (v := ?_) rfl rfl (fun w' hS => ?_) ?_
  rotate_left
  · go_simp <;> with_reducible rfl
  try simp only [Act.put, List.setIfInBounds_toArray, List.set_cons_zero, List.set_cons_succ]
  refine wpPlan_take (o := ⟨some 99, _, _, _, _, _⟩) (v := ?_) rfl rfl (fun w' hS => ?_) ?_
  rotate_left
  · obtain ⟨p0_0, p0_1, p1_0, p1_1, p2_0, p2_1, p3_0, p3_1, p4_0, p4_1, p5_0, p5_1⟩ := hS; go_simp <;> with_reducible rfl
  try simp only [Act.put, List.setIfInBounds_toArray, List.set_cons_zero, List.set_cons_succ]
  refine wpPlan_take (o := ⟨some 100, _, _, _, _, _⟩) (v := ?_) rfl rfl (fun w' hS => ?_) ?_
  rotate_left
  · obtain ⟨p0_0, p0_1, p1_0, p1_1, p2_0, p2_1, p3_0, p3_1, p4_0, p4_1, p5_0, p5_1⟩ := hS; go_simp <;> with_reducible rfl
  try simp only [Act.put, List.setIfInBounds_toArray, List.set_cons_zero, List.set_cons_succ]
  refine wpPlan_take (o := ⟨some 102, _, _, _, _, _⟩) (v := ?_) rfl rfl (fun w' hS => ?_) ?_
  rotate_left
  · obtain ⟨p0_0, p0_1, p1_0, p1_1, p2_0, p2_1, p3_0, p3_1, p4_0, p4_1, p5_0, p5_1⟩ := hS; go_simp <;> with_reducible rfl
  try simp only [Act.put, List.setIfInBounds_toArray, List.set_cons_zero, List.set_cons_succ]
  refine wpPlan_take (o := ⟨some 103, _, _, _, _, _⟩) (v := ?_) rfl rfl (fun w' hS => ?_) ?_
  rotate_left
  · obtain ⟨p0_0, p0_1, p1_0, p1_1, p2_0, p2_1, p3_0, p3_1, p4_0, p4_1, p5_0, p5_1⟩ := hS; go_simp <;> with_reducible rfl
  try simp only [Act.put, List.setIfInBounds_toArray, List.set_cons_zero, List.set_cons_succ]
  refine wpPlan_call (o := ⟨some 101, _, _, _, _, _⟩) rfl rfl (fun K hK => ?_)
  go_simp
  with_reducible refine (mul_z (I.below ha (by go_grown)) (I.below hb (by go_grown)) (by omega)).mono ?_
  rintro e w17 ⟨s17, A17, c17, l17, rfl, h17, m17, b17⟩
  replace b17 := below_trans (a := w16) (by go_grown) b17
  replace ha := ha.below b17
  replace hb := hb.below b17
  replace h3 := h3.below b17
  replace h4 := h4.below b17
  replace xa := xa.below b17
  replace xb := xb.below b17
  replace Bz := below_trans Bz b17
  clear b17
  clear p0_0 p0_1 p1_0 p1_1 p2_0 p2_1 p3_0 p3_1 p4_0 p4_1 p5_0 p5_1
  have p0_0 := (HX0.out.below Bz).cell 0 (.bool sa) rfl
  have p0_1 := (HX0.out.below Bz).cell 1 (.slice A la ca) rfl
  have p1_0 := (HX1.out.below Bz).cell 0 (.bool sb) rfl
  have p1_1 := (HX1.out.below Bz).cell 1 (.slice B' lb cb) rfl
  have p2_0 := (HX2.out.below Bz).cell 0 (.bool s5) rfl
  have p2_1 := (HX2.out.below Bz).cell 1 (.slice A5 l5 c5) rfl
  have p3_0 := (HX3.out.below Bz).cell 0 (.bool s5r) rfl
  have p3_1 := (HX3.out.below Bz).cell 1 (.slice A5r l5r c5r) rfl
  have p4_0 := (HX4.out.below Bz).cell 0 (.bool s6) rfl
  have p4_1 := (HX4.out.below Bz).cell 1 (.slice A6 l6 c6) rfl
  have p5_0 := (HX5.out.below Bz).cell 0 (.bool s6r) rfl
  have p5_1 := (HX5.out.below Bz).cell 1 (.slice A6r l6r c6r) rfl
  refine hK.out _ _ ⟨p0_0, p0_1, p1_0, p1_1, p2_0, p2_1, p3_0, p3_1, p4_0, p4_1, p5_0, p5_1⟩ (fun _ => ?_)
  try simp only [Act.put, List.setIfInBounds_toArray, List.set_cons_zero, List.set_cons_succ]
  clear hK K
  refine wpPlan_call (o := ⟨some 104, _, _, _, _, _⟩) rfl rfl (fun K hK => ?_)
  go_simp
  with_reducible refine (mulq (I.below ha (by go_grown)) (I.below hb (by go_grown)) (by omega) (by omega)).mono ?_
  rintro e w18 ⟨s18, A18, c18, l18, rfl, h18, m18, b18⟩
  replace b18 := below_trans (a := w17) (by go_grown) b18
  replace ha := ha.below b18
  replace hb := hb.below b18
  replace h17 := h17.below b18
  replace h3 := h3.below b18
  replace h4 := h4.below b18
  replace xa := xa.below b18
  replace xb := xb.below b18
  replace Bz := below_trans Bz b18
  clear b18
  clear p0_0 p0_1 p1_0 p1_1 p2_0 p2_1 p3_0 p3_1 p4_0 p4_1 p5_0 p5_1
  have p0_0 := (HX0.out.below Bz).cell 0 (.bool sa) rfl
  have p0_1 := (HX0.out.below Bz).cell 1 (.slice A la ca) rfl
  have p1_0 := (HX1.out.below Bz).cell 0 (.bool sb) rfl
  have p1_1 := (HX1.out.below Bz).cell 1 (.slice B' lb cb) rfl
  have p2_0 := (HX2.out.below Bz).cell 0 (.bool s5) rfl
  have p2_1 := (HX2.out.below Bz).cell 1 (.slice A5 l5 c5) rfl
  have p3_0 := (HX3.out.below Bz).cell 0 (.bool s5r) rfl
  have p3_1 := (HX3.out.below Bz).cell 1 (.slice A5r l5r c5r) rfl
  have p4_0 := (HX4.out.below Bz).cell 0 (.bool s6) rfl
  have p4_1 := (HX4.out.below Bz).cell 1 (.slice A6 l6 c6) rfl
  have p5_0 := (HX5.out.below Bz).cell 0 (.bool s6r) rfl
  have p5_1 := (HX5.out.below Bz).cell 1 (.slice A6r l6r c6r) rfl
  refine hK.out _ _ ⟨p0_0, p0_1, p1_0, p1_1, p2_0, p2_1, p3_0, p3_1, p4_0, p4_1, p5_0, p5_1⟩ (fun _ => ?_)
  try simp only [Act.put, List.setIfInBounds_toArray, List.set_cons_zero, List.set_cons_succ]
  clear hK K
  refine wpPlan_call (o := ⟨some 105, _, _, _, _, _⟩) rfl rfl (fun K hK => ?_)
  go_simp
  with_reducible refine (same_z (J.below h17 (by go_grown)) (J.below h18 (by go_grown)) (by omega) rfl).mono ?_
  rintro e w19 ⟨rfl, b19⟩
  replace b19 := below_trans (a := w18) (by go_grown) b19
  replace ha := ha.below b19
  replace hb := hb.below b19
  replace h3 := h3.below b19
  replace h4 := h4.below b19
  replace xa := xa.below b19
  replace xb := xb.below b19
  replace Bz := below_trans Bz b19
  clear b19
  clear p0_0 p0_1 p1_0 p1_1 p2_0 p2_1 p3_0 p3_1 p4_0 p4_1 p5_0 p5_1
  have p0_0 := (HX0.out.below Bz).cell 0 (.bool sa) rfl
  have p0_1 := (HX0.out.below Bz).cell 1 (.slice A la ca) rfl
  have p1_0 := (HX1.out.below Bz).cell 0 (.bool sb) rfl
  have p1_1 := (HX1.out.below Bz).cell 1 (.slice B' lb cb) rfl
  have p2_0 := (HX2.out.below Bz).cell 0 (.bool s5) rfl
  have p2_1 := (HX2.out.below Bz).cell 1 (.slice A5 l5 c5) rfl
  have p3_0 := (HX3.out.below Bz).cell 0 (.bool s5r) rfl
  have p3_1 := (HX3.out.below Bz).cell 1 (.slice A5r l5r c5r) rfl
  have p4_0 := (HX4.out.below Bz).cell 0 (.bool s6) rfl
  have p4_1 := (HX4.out.below Bz).cell 1 (.slice A6 l6 c6) rfl
  have p5_0 := (HX5.out.below Bz).cell 0 (.bool s6r) rfl
  have p5_1 := (HX5.out.below Bz).cell 1 (.slice A6r l6r c6r) rfl
  refine hK.out _ _ ⟨p0_0, p0_1, p1_0, p1_1, p2_0, p2_1, p3_0, p3_1, p4_0, p4_1, p5_0, p5_1⟩ (fun _ => ?_)
  try simp only [Act.put, List.setIfInBounds_toArray, List.set_cons_zero, List.set_cons_succ]
  clear hK K
  refine wpPlan_take (o := ⟨some 106, _, _, _, _, _⟩) (v := ?_) rfl rfl (fun w' hS => ?_) ?_
  rotate_left
  · go_simp <;> with_reducible rfl
  try simp only [Act.put, List.setIfInBounds_toArray, List.set_cons_zero, List.set_cons_succ]
  refine wpPlan_take (o := ⟨some 107, _, _, _, _, _⟩) (v := ?_) rfl rfl (fun w' hS => ?_) ?_
  rotate_left
  · go_simp <;> with_reducible rfl
  try simp only [Act.put, List.setIfInBounds_toArray, List.set_cons_zero, List.set_cons_succ]
  refine wpPlan_take (o := ⟨some 108, _, _, _, _, _⟩) (v := ?_) rfl rfl (fun w' hS => ?_) ?_
  rotate_left
  · go_simp <;> with_reducible rfl
  try simp only [Act.put, List.setIfInBounds_toArray, List.set_cons_zero, List.set_cons_succ]
  refine wpPlan_take (o := ⟨some 109, _, _, _, _, _⟩) (v := ?_) rfl rfl (fun w' hS => ?_) ?_
  rotate_left
  · obtain ⟨p0_0, p0_1, p1_0, p1_1, p2_0, p2_1, p3_0, p3_1, p4_0, p4_1, p5_0, p5_1⟩ := hS; go_simp <;> with_reducible rfl
  try simp only [Act.put, List.setIfInBounds_toArray, List.set_cons_zero, List.set_cons_succ]
  refine wpPlan_take (o := ⟨some 110, _, _, _, _, _⟩) (v := ?_) rfl rfl (fun w' hS => ?_) ?_
  rotate_left
  · obtain ⟨p0_0, p0_1, p1_0, p1_1, p2_0, p2_1, p3_0, p3_1, p4_0, p4_1, p5_0, p5_1⟩ := hS; go_simp <;> with_reducible rfl
  try simp only [Act.put, List.setIfInBounds_toArray, List.set_cons_zero, List.set_cons_succ]
  refine wpPlan_take (o := ⟨some 112, _, _, _, _, _⟩) (v := ?_) rfl rfl (fun w' hS => ?_) ?_
  rotate_left
  · obtain ⟨p0_0, p0_1, p1_0, p1_1, p2_0, p2_1, p3_0, p3_1, p4_0, p4_1, p5_0, p5_1⟩ := hS; go_simp <;> with_reducible rfl
  try simp only [Act.put, List.setIfInBounds_toArray, List.set_cons_zero, List.set_cons_succ]
  refine wpPlan_take (o := ⟨some 113, _, _, _, _, _⟩) (v := ?_) rfl rfl (fun w' hS => ?_) ?_
  rotate_left
  · obtain ⟨p0_0, p0_1, p1_0, p1_1, p2_0, p2_1, p3_0, p3_1, p4_0, p4_1, p5_0, p5_1⟩ := hS; go_simp <;> with_reducible rfl
  try simp only [Act.put, List.setIfInBounds_toArray, List.set_cons_zero, List.set_cons_succ]
  refine wpPlan_call (o := ⟨some 111, _, _, _, _, _⟩) rfl rfl (fun K hK => ?_)
  go_simp
  with_reducible refine (gcd_z (I.below ha (by go_grown)) (I.below hb (by go_grown)) (by omega) (Lib.hid (Tab.below hT.out (below_trans hB (below_trans (b := w19) Bz (by go_grown)))))).mono ?_
  rintro e w20 ⟨s20, A20, c20, l20, rfl, h20, m20, b20⟩
  replace b20 := below_trans (a := w19) (by go_grown) b20
  replace ha := ha.below b20
  replace hb := hb.below b20
  replace h3 := h3.below b20
  replace h4 := h4.below b20
  replace xa := xa.below b20
  replace xb := xb.below b20
  replace Bz := below_trans Bz b20
  clear b20
  clear p0_0 p0_1 p1_0 p1_1 p2_0 p2_1 p3_0 p3_1 p4_0 p4_1 p5_0 p5_1
  have p0_0 := (HX0.out.below Bz).cell 0 (.bool sa) rfl
  have p0_1 := (HX0.out.below Bz).cell 1 (.slice A la ca) rfl
  have p1_0 := (HX1.out.below Bz).cell 0 (.bool sb) rfl
  have p1_1 := (HX1.out.below Bz).cell 1 (.slice B' lb cb) rfl
  have p2_0 := (HX2.out.below Bz).cell 0 (.bool s5) rfl
  have p2_1 := (HX2.out.below Bz).cell 1 (.slice A5 l5 c5) rfl
  have p3_0 := (HX3.out.below Bz).cell 0 (.bool s5r) rfl
  have p3_1 := (HX3.out.below Bz).cell 1 (.slice A5r l5r c5r) rfl
  have p4_0 := (HX4.out.below Bz).cell 0 (.bool s6) rfl
  have p4_1 := (HX4.out.below Bz).cell 1 (.slice A6 l6 c6) rfl
  have p5_0 := (HX5.out.below Bz).cell 0 (.bool s6r) rfl
  have p5_1 := (HX5.out.below Bz).cell 1 (.slice A6r l6r c6r) rfl
  refine hK.out _ _ ⟨p0_0, p0_1, p1_0, p1_1, p2_0, p2_1, p3_0, p3_1, p4_0, p4_1, p5_0, p5_1⟩ (fun _ => ?_)
  try simp only [Act.put, List.setIfInBounds_toArray, List.set_cons_zero, List.set_cons_succ]
  clear hK K
  refine wpPlan_call (o := ⟨some 114, _, _, _, _, _⟩) rfl rfl (fun K hK => ?_)
  go_simp
  with_reducible refine (gcdq (I.below ha (by go_grown)) (I.below hb (by go_grown)) (by omega) (by omega)).mono ?_
  rintro e w21 ⟨s21, A21, c21, l21, rfl, h21, m21, b21⟩
  replace b21 := below_trans (a := w20) (by go_grown) b21
  replace ha := ha.below b21
  replace hb := hb.below b21
  replace h20 := h20.below b21
  replace h3 := h3.below b21
  replace h4 := h4.below b21
  replace xa := xa.below b21
  replace xb := xb.below b21
  replace Bz := below_trans Bz b21
  clear b21
  clear p0_0 p0_1 p1_0 p1_1 p2_0 p2_1 p3_0 p3_1 p4_0 p4_1 p5_0 p5_1
  have p0_0 := (HX0.out.below Bz).cell 0 (.bool sa) rfl
  have p0_1 := (HX0.out.below Bz).cell 1 (.slice A la ca) rfl
  have p1_0 := (HX1.out.below Bz).cell 0 (.bool sb) rfl
  have p1_1 := (HX1.out.below Bz).cell 1 (.slice B' lb cb) rfl
  have p2_0 := (HX2.out.below Bz).cell 0 (.bool s5) rfl
  have p2_1 := (HX2.out.below Bz).cell 1 (.slice A5 l5 c5) rfl
  have p3_0 := (HX3.out.below Bz).cell 0 (.bool s5r) rfl
  have p3_1 := (HX3.out.below Bz).cell 1 (.slice A5r l5r c5r) rfl
  have p4_0 := (HX4.out.below Bz).cell 0 (.bool s6) rfl
  have p4_1 := (HX4.out.below Bz).cell 1 (.slice A6 l6 c6) rfl
  have p5_0 := (HX5.out.below Bz).cell 0 (.bool s6r) rfl
  have p5_1 := (HX5.out.below Bz).cell 1 (.slice A6r l6r c6r) rfl
  refine hK.out _ _ ⟨p0_0, p0_1, p1_0, p1_1, p2_0, p2_1, p3_0, p3_1, p4_0, p4_1, p5_0, p5_1⟩ (fun _ => ?_)
  try simp only [Act.put, List.setIfInBounds_toArray, List.set_cons_zero, List.set_cons_succ]
  clear hK K
  refine wpPlan_call (o := ⟨some 115, _, _, _, _, _⟩) rfl rfl (fun K hK => ?_)
  go_simp
  with_reducible refine (same_z (J.below h20 (by go_grown)) (J.below h21 (by go_grown)) (by omega) rfl).mono ?_
  rintro e w22 ⟨rfl, b22⟩
  replace b22 := below_trans (a := w21) (by go_grown) b22
  replace ha := ha.below b22
  replace hb := hb.below b22
  replace h3 := h3.below b22
  replace h4 := h4.below b22
  replace xa := xa.below b22
  replace xb := xb.below b22
  replace Bz := below_trans Bz b22
  clear b22
  clear p0_0 p0_1 p1_0 p1_1 p2_0 p2_1 p3_0 p3_1 p4_0 p4_1 p5_0 p5_1
  have p0_0 := (HX0.out.below Bz).cell 0 (.bool sa) rfl
  have p0_1 := (HX0.out.below Bz).cell 1 (.slice A la ca) rfl
  have p1_0 := (HX1.out.below Bz).cell 0 (.bool sb) rfl
  have p1_1 := (HX1.out.below Bz).cell 1 (.slice B' lb cb) rfl
  have p2_0 := (HX2.out.below Bz).cell 0 (.bool s5) rfl
  have p2_1 := (HX2.out.below Bz).cell 1 (.slice A5 l5 c5) rfl
  have p3_0 := (HX3.out.below Bz).cell 0 (.bool s5r) rfl
  have p3_1 := (HX3.out.below Bz).cell 1 (.slice A5r l5r c5r) rfl
  have p4_0 := (HX4.out.below Bz).cell 0 (.bool s6) rfl
  have p4_1 := (HX4.out.below Bz).cell 1 (.slice A6 l6 c6) rfl
  have p5_0 := (HX5.out.below Bz).cell 0 (.bool s6r) rfl
  have p5_1 := (HX5.out.below Bz).cell 1 (.slice A6r l6r c6r) rfl
  refine hK.out _ _ ⟨p0_0, p0_1, p1_0, p1_1, p2_0, p2_1, p3_0, p3_1, p4_0, p4_1, p5_0, p5_1⟩ (fun _ => ?_)
  try simp only [Act.put, List.setIfInBounds_toArray, List.set_cons_zero, List.set_cons_succ]
  clear hK K
  refine wpPlan_take (o := ⟨some 116, _, _, _, _, _⟩) (v := ?_) rfl rfl (fun w' hS => ?_) ?_
  rotate_left
  · go_simp <;> with_reducible rfl
  try simp only [Act.put, List.setIfInBounds_toArray, List.set_cons_zero, List.set_cons_succ]
  refine wpPlan_take (o := ⟨some 18, _, _, _, _, _⟩) (v := ?_) rfl rfl (fun w' hS => ?_) ?_
  rotate_left
  · go_simp <;> with_reducible rfl
  try simp only [Act.put, List.setIfInBounds_toArray, List.set_cons_zero, List.set_cons_succ]
  refine wpPlan_done ?_
  go_wp2_with fail
  (try simp only [List.append_eq, List.cons_append, List.nil_append])
  refine wp_region_plan (.take 0 (.take 1 (.take 3 (.only 2 (.only 4 (.only 5 (.take 6 (.take 7 (.take 8 (.take 10 (.only 9 (.only 11 (.only 12 (.take 13 (.take 14 (.take 15 (.take 16 (.take 18 (.only 17 (.only 19 (.only 20 (.take 21 (.take 22 (.take 23 (.take 24 (.take 26 (.only 25 (.only 27 (.only 28 (.take 29 (.take 30 (.take 31 (.take 33 (.only 32 (.only 34 (.take 35 (.take 36 (.take 37 (.take 38 (.take 39 (.take 41 (.take 42 (.only 40 (.only 43 (.take 44 (.take 45 (.take 46 .done))))))))))))))))))))))))))))))))))))))))))))))) [] (fun w' => w'.cell? ⟨w.heap.size, 0, none⟩ = some (.bool sa) ∧ w'.cell? ⟨w.heap.size, 1, none⟩ = some (.slice A la ca) ∧ w'.cell? ⟨w.heap.size + 1, 0, none⟩ = some (.bool sb) ∧ w'.cell? ⟨w.heap.size + 1, 1, none⟩ = some (.slice B' lb cb)) (by kernel_rfl) (by kernel_rfl) ⟨p0_0, p0_1, p1_0, p1_1⟩ ?_
  refine wpPlan_take (o := ⟨some 117, _, _, _, _, _⟩) (v := ?_) rfl rfl (fun w' hS => ?_) ?_
  rotate_left
  · go_simp <;> with_reducible rfl
  try simp only [Act.put, List.setIfInBounds_toArray, List.set_cons_zero, List.set_cons_succ]
  refine wpPlan_take (o := ⟨some 118, _, _, _, _, _⟩) (v := ?_) rfl rfl (fun w' hS => ?_) ?_
  rotate_left
  · go_simp <;> with_reducible rfl
  try simp only [Act.put, List.setIfInBounds_toArray, List.set_cons_zero, List.set_cons_succ]
  refine wpPlan_take (o := ⟨some 120, _, _, _, _, _⟩) (v := ?_) rfl rfl (fun w' hS => ?_) ?_
  rotate_left
  · go_simp <;> with_reducible rfl
  try simp only [Act.put, List.setIfInBounds_toArray, List.set_cons_zero, List.set_cons_succ]
  refine wpPlan_call (o := ⟨some 119, _, _, _, _, _⟩) rfl rfl (fun K hK => ?_)
  go_simp
  with_reducible refine (of_z n HZ).mono ?_
  rintro e w23 ⟨s23, A23, c23, l23, rfl, h23, m23, b23⟩
  replace b23 := below_trans (a := w22) (by go_grown) b23
  replace ha := ha.below b23
  replace hb := hb.below b23
  replace h3 := h3.below b23
  replace h4 := h4.below b23
  replace xa := xa.below b23
  replace xb := xb.below b23
  replace Bz := below_trans Bz b23
  clear b23
  clear p0_0 p0_1 p1_0 p1_1 p2_0 p2_1 p3_0 p3_1 p4_0 p4_1 p5_0 p5_1
  have p0_0 := (HX0.out.below Bz).cell 0 (.bool sa) rfl
  have p0_1 := (HX0.out.below Bz).cell 1 (.slice A la ca) rfl
  have p1_0 := (HX1.out.below Bz).cell 0 (.bool sb) rfl
  have p1_1 := (HX1.out.below Bz).cell 1 (.slice B' lb cb) rfl
  refine hK.out _ _ ⟨p0_0, p0_1, p1_0, p1_1⟩ (fun _ => ?_)
  try simp only [Act.put, List.setIfInBounds_toArray, List.set_cons_zero, List.set_cons_succ]
  clear hK K
  refine wpPlan_call (o := ⟨some 121, _, _, _, _, _⟩) rfl rfl (fun K hK => ?_)
  go_simp
  with_reducible refine (ofq n HZ).mono ?_
  rintro e w24 ⟨s24, A24, c24, l24, rfl, h24, m24, b24⟩
  replace b24 := below_trans (a := w23) (by go_grown) b24
  replace ha := ha.below b24
  replace hb := hb.below b24
  replace h23 := h23.below b24
  replace h3 := h3.below b24
  replace h4 := h4.below b24
  replace xa := xa.below b24
  replace xb := xb.below b24
  replace Bz := below_trans Bz b24
  clear b24
  clear p0_0 p0_1 p1_0 p1_1
  have p0_0 := (HX0.out.below Bz).cell 0 (.bool sa) rfl
  have p0_1 := (HX0.out.below Bz).cell 1 (.slice A la ca) rfl
  have p1_0 := (HX1.out.below Bz).cell 0 (.bool sb) rfl
  have p1_1 := (HX1.out.below Bz).cell 1 (.slice B' lb cb) rfl
  refine hK.out _ _ ⟨p0_0, p0_1, p1_0, p1_1⟩ (fun _ => ?_)
  try simp only [Act.put, List.setIfInBounds_toArray, List.set_cons_zero, List.set_cons_succ]
  clear hK K
  refine wpPlan_call (o := ⟨some 122, _, _, _, _, _⟩) rfl rfl (fun K hK => ?_)
  go_simp
  with_reducible refine (same_z (J.below h23 (by go_grown)) (J.below h24 (by go_grown)) (by omega) rfl).mono ?_
  rintro e w25 ⟨rfl, b25⟩
  replace b25 := below_trans (a := w24) (by go_grown) b25
  replace ha := ha.below b25
  replace hb := hb.below b25
  replace h3 := h3.below b25
  replace h4 := h4.below b25
  replace xa := xa.below b25
  replace xb := xb.below b25
  replace Bz := below_trans Bz b25
  clear b25
  clear p0_0 p0_1 p1_0 p1_1
  have p0_0 := (HX0.out.below Bz).cell 0 (.bool sa) rfl
  have p0_1 := (HX0.out.below Bz).cell 1 (.slice A la ca) rfl
  have p1_0 := (HX1.out.below Bz).cell 0 (.bool sb) rfl
  have p1_1 := (HX1.out.below Bz).cell 1 (.slice B' lb cb) rfl
  refine hK.out _ _ ⟨p0_0, p0_1, p1_0, p1_1⟩ (fun _ => ?_)
  try simp only [Act.put, List.setIfInBounds_toArray, List.set_cons_zero, List.set_cons_succ]
  clear hK K
  refine wpPlan_take (o := ⟨some 123, _, _, _, _, _⟩) (v := ?_) rfl rfl (fun w' hS => ?_) ?_
  rotate_left
  · go_simp <;> with_reducible rfl
  try simp only [Act.put, List.setIfInBounds_toArray, List.set_cons_zero, List.set_cons_succ]
  refine wpPlan_take (o := ⟨some 124, _, _, _, _, _⟩) (v := ?_) rfl rfl (fun w' hS => ?_) ?_
  rotate_left
  · go_simp <;> with_reducible rfl
  try simp only [Act.put, List.setIfInBounds_toArray, List.set_cons_zero, List.set_cons_succ]
  refine wpPlan_take (o := ⟨some 125, _, _, _, _, _⟩) (v := ?_) rfl rfl (fun w' hS => ?_) ?_
  rotate_left
  · obtain ⟨p0_0, p0_1, p1_0, p1_1⟩ := hS; go_simp <;> with_reducible rfl
  try simp only [Act.put, List.setIfInBounds_toArray, List.set_cons_zero, List.set_cons_succ]
  refine wpPlan_take (o := ⟨some 127, _, _, _, _, _⟩) (v := ?_) rfl rfl (fun w' hS => ?_) ?_
  rotate_left
  · obtain ⟨p0_0, p0_1, p1_0, p1_1⟩ := hS; go_simp <;> with_reducible rfl
  try simp only [Act.put, List.setIfInBounds_toArray, List.set_cons_zero, List.set_cons_succ]
  refine wpPlan_call (o := ⟨some 126, _, _, _, _, _⟩) rfl rfl (fun K hK => ?_)
  go_simp
  with_reducible refine (norm_z (I.below ha (by go_grown)) (by omega)).mono ?_
  rintro e w26 ⟨s26, A26, c26, l26, rfl, h26, m26, b26⟩
  replace b26 := below_trans (a := w25) (by go_grown) b26
  replace ha := ha.below b26
  replace hb := hb.below b26
  replace h3 := h3.below b26
  replace h4 := h4.below b26
  replace xa := xa.below b26
  replace xb := xb.below b26
  replace Bz := below_trans Bz b26
  clear b26
  clear p0_0 p0_1 p1_0 p1_1
  have p0_0 := (HX0.out.below Bz).cell 0 (.bool sa) rfl
  have p0_1 := (HX0.out.below Bz).cell 1 (.slice A la ca) rfl
  have p1_0 := (HX1.out.below Bz).cell 0 (.bool sb) rfl
  have p1_1 := (HX1.out.below Bz).cell 1 (.slice B' lb cb) rfl
  refine hK.out _ _ ⟨p0_0, p0_1, p1_0, p1_1⟩ (fun _ => ?_)
  try simp only [Act.put, List.setIfInBounds_toArray, List.set_cons_zero, List.set_cons_succ]
  clear hK K
  refine wpPlan_call (o := ⟨some 128, _, _, _, _, _⟩) rfl rfl (fun K hK => ?_)
  go_simp
  with_reducible refine (norm_r (I.below ha (by go_grown)) (by omega)).mono ?_
  rintro e w27 ⟨s27, A27, c27, l27, rfl, h27, m27, b27⟩
  replace b27 := below_trans (a := w26) (by go_grown) b27
  replace ha := ha.below b27
  replace hb := hb.below b27
  replace h26 := h26.below b27
  replace h3 := h3.below b27
  replace h4 := h4.below b27
  replace xa := xa.below b27
  replace xb := xb.below b27
  replace Bz := below_trans Bz b27
  clear b27
  clear p0_0 p0_1 p1_0 p1_1
  have p0_0 := (HX0.out.below Bz).cell 0 (.bool sa) rfl
  have p0_1 := (HX0.out.below Bz).cell 1 (.slice A la ca) rfl
  have p1_0 := (HX1.out.below Bz).cell 0 (.bool sb) rfl
  have p1_1 := (HX1.out.below Bz).cell 1 (.slice B' lb cb) rfl
  refine hK.out _ _ ⟨p0_0, p0_1, p1_0, p1_1⟩ (fun _ => ?_)
  try simp only [Act.put, List.setIfInBounds_toArray, List.set_cons_zero, List.set_cons_succ]
  clear hK K
  refine wpPlan_call (o := ⟨some 129, _, _, _, _, _⟩) rfl rfl (fun K hK => ?_)
  go_simp
  with_reducible refine (same_z (J.below h26 (by go_grown)) (J.below h27 (by go_grown)) (by omega) rfl).mono ?_
  rintro e w28 ⟨rfl, b28⟩
  replace b28 := below_trans (a := w27) (by go_grown) b28
  replace ha := ha.below b28
  replace hb := hb.below b28
  replace h3 := h3.below b28
  replace h4 := h4.below b28
  replace xa := xa.below b28
  replace xb := xb.below b28
  replace Bz := below_trans Bz b28
  clear b28
  clear p0_0 p0_1 p1_0 p1_1
  have p0_0 := (HX0.out.below Bz).cell 0 (.bool sa) rfl
  have p0_1 := (HX0.out.below Bz).cell 1 (.slice A la ca) rfl
  have p1_0 := (HX1.out.below Bz).cell 0 (.bool sb) rfl
  have p1_1 := (HX1.out.below Bz).cell 1 (.slice B' lb cb) rfl
  refine hK.out _ _ ⟨p0_0, p0_1, p1_0, p1_1⟩ (fun _ => ?_)
  try simp only [Act.put, List.setIfInBounds_toArray, List.set_cons_zero, List.set_cons_succ]
  clear hK K
  refine wpPlan_take (o := ⟨some 130, _, _, _, _, _⟩) (v := ?_) rfl rfl (fun w' hS => ?_) ?_
  rotate_left
  · go_simp <;> with_reducible rfl
  try simp only [Act.put, List.setIfInBounds_toArray, List.set_cons_zero, List.set_cons_succ]
  refine wpPlan_take (o := ⟨some 131, _, _, _, _, _⟩) (v := ?_) rfl rfl (fun w' hS => ?_) ?_
  rotate_left
  · go_simp <;> with_reducible rfl
  try simp only [Act.put, List.setIfInBounds_toArray, List.set_cons_zero, List.set_cons_succ]
  refine wpPlan_take (o := ⟨some 132, _, _, _, _, _⟩) (v := ?_) rfl rfl (fun w' hS => ?_) ?_
  rotate_left
  · go_simp <;> with_reducible rfl
  try simp only [Act.put, List.setIfInBounds_toArray, List.set_cons_zero, List.set_cons_succ]
  refine wpPlan_take (o := ⟨some 133, _, _, _, _, _⟩) (v := ?_) rfl rfl (fun w' hS => ?_) ?_
  rotate_left
  · obtain ⟨p0_0, p0_1, p1_0, p1_1⟩ := hS; go_simp <;> with_reducible rfl
  try simp only [Act.put, List.setIfInBounds_toArray, List.set_cons_zero, List.set_cons_succ]
  refine wpPlan_take (o := ⟨some 135, _, _, _, _, _⟩) (v := ?_) rfl rfl (fun w' hS => ?_) ?_
  rotate_left
  · obtain ⟨p0_0, p0_1, p1_0, p1_1⟩ := hS; go_simp <;> with_reducible rfl
  try simp only [Act.put, List.setIfInBounds_toArray, List.set_cons_zero, List.set_cons_succ]
  refine wpPlan_call (o := ⟨some 134, _, _, _, _, _⟩) rfl rfl (fun K hK => ?_)
  go_simp
  with_reducible refine (neg_z (I.below ha (by go_grown)) (by omega)).mono ?_
  rintro e w29 ⟨s29, A29, c29, l29, rfl, h29, m29, b29⟩
  replace b29 := below_trans (a := w28) (by go_grown) b29
  replace ha := ha.below b29
  replace hb := hb.below b29
  replace h3 := h3.below b29
  replace h4 := h4.below b29
  replace xa := xa.below b29
  replace xb := xb.below b29
  replace Bz := below_trans Bz b29
  clear b29
  clear p0_0 p0_1 p1_0 p1_1
  have p0_0 := (HX0.out.below Bz).cell 0 (.bool sa) rfl
  have p0_1 := (HX0.out.below Bz).cell 1 (.slice A la ca) rfl
  have p1_0 := (HX1.out.below Bz).cell 0 (.bool sb) rfl
  have p1_1 := (HX1.out.below Bz).cell 1 (.slice B' lb cb) rfl
  refine hK.out _ _ ⟨p0_0, p0_1, p1_0, p1_1⟩ (fun _ => ?_)
  try simp only [Act.put, List.setIfInBounds_toArray, List.set_cons_zero, List.set_cons_succ]
  clear hK K
  refine wpPlan_call (o := ⟨some 136, _, _, _, _, _⟩) rfl rfl (fun K hK => ?_)
  go_simp
  with_reducible refine (neg_r (I.below ha (by go_grown)) (by omega)).mono ?_
  rintro e w30 ⟨s30, A30, c30, l30, rfl, h30, m30, b30⟩
  replace b30 := below_trans (a := w29) (by go_grown) b30
  replace ha := ha.below b30
  replace hb := hb.below b30
  replace h29 := h29.below b30
  replace h3 := h3.below b30
  replace h4 := h4.below b30
  replace xa := xa.below b30
  replace xb := xb.below b30
  replace Bz := below_trans Bz b30
  clear b30
  clear p0_0 p0_1 p1_0 p1_1
  have p0_0 := (HX0.out.below Bz).cell 0 (.bool sa) rfl
  have p0_1 := (HX0.out.below Bz).cell 1 (.slice A la ca) rfl
  have p1_0 := (HX1.out.below Bz).cell 0 (.bool sb) rfl
  have p1_1 := (HX1.out.below Bz).cell 1 (.slice B' lb cb) rfl
  refine hK.out _ _ ⟨p0_0, p0_1, p1_0, p1_1⟩ (fun _ => ?_)
  try simp only [Act.put, List.setIfInBounds_toArray, List.set_cons_zero, List.set_cons_succ]
  clear hK K
  refine wpPlan_call (o := ⟨some 137, _, _, _, _, _⟩) rfl rfl (fun K hK => ?_)
  go_simp
  with_reducible refine (same_z (J.below h29 (by go_grown)) (J.below h30 (by go_grown)) (by omega) rfl).mono ?_
  rintro e w31 ⟨rfl, b31⟩
  replace b31 := below_trans (a := w30) (by go_grown) b31
  replace ha := ha.below b31
  replace hb := hb.below b31
  replace h3 := h3.below b31
  replace h4 := h4.below b31
  replace xa := xa.below b31
  replace xb := xb.below b31
  replace Bz := below_trans Bz b31
  clear b31
  clear p0_0 p0_1 p1_0 p1_1
  have p0_0 := (HX0.out.below Bz).cell 0 (.bool sa) rfl
  have p0_1 := (HX0.out.below Bz).cell 1 (.slice A la ca) rfl
  have p1_0 := (HX1.out.below Bz).cell 0 (.bool sb) rfl
  have p1_1 := (HX1.out.below Bz).cell 1 (.slice B' lb cb) rfl
  refine hK.out _ _ ⟨p0_0, p0_1, p1_0, p1_1⟩ (fun _ => ?_)
  try simp only [Act.put, List.setIfInBounds_toArray, List.set_cons_zero, List.set_cons_succ]
  clear hK K
  refine wpPlan_take (o := ⟨some 138, _, _, _, _, _⟩) (v := ?_) rfl rfl (fun w' hS => ?_) ?_
  rotate_left
  · go_simp <;> with_reducible rfl
  try simp only [Act.put, List.setIfInBounds_toArray, List.set_cons_zero, List.set_cons_succ]
  refine wpPlan_take (o := ⟨some 139, _, _, _, _, _⟩) (v := ?_) rfl rfl (fun w' hS => ?_) ?_
  rotate_left
  · go_simp <;> with_reducible rfl
  try simp only [Act.put, List.setIfInBounds_toArray, List.set_cons_zero, List.set_cons_succ]
  refine wpPlan_take (o := ⟨some 140, _, _, _, _, _⟩) (v := ?_) rfl rfl (fun w' hS => ?_) ?_
  rotate_left
  · go_simp <;> with_reducible rfl
  try simp only [Act.put, List.setIfInBounds_toArray, List.set_cons_zero, List.set_cons_succ]
  refine wpPlan_take (o := ⟨some 141, _, _, _, _, _⟩) (v := ?_) rfl rfl (fun w' hS => ?_) ?_
  rotate_left
  · obtain ⟨p0_0, p0_1, p1_0, p1_1⟩ := hS; go_simp <;> with_reducible rfl
  try simp only [Act.put, List.setIfInBounds_toArray, List.set_cons_zero, List.set_cons_succ]
  refine wpPlan_take (o := ⟨some 143, _, _, _, _, _⟩) (v := ?_) rfl rfl (fun w' hS => ?_) ?_
  rotate_left
  · obtain ⟨p0_0, p0_1, p1_0, p1_1⟩ := hS; go_simp <;> with_reducible rfl
  try simp only [Act.put, List.setIfInBounds_toArray, List.set_cons_zero, List.set_cons_succ]
  refine wpPlan_call (o := ⟨some 142, _, _, _, _, _⟩) rfl rfl (fun K hK => ?_)
  go_simp
  with_reducible refine (abs_z (I.below ha (by go_grown)) (by omega)).mono ?_
  rintro e w32 ⟨s32, A32, c32, l32, rfl, h32, m32, b32⟩
  replace b32 := below_trans (a := w31) (by go_grown) b32
  replace ha := ha.below b32
  replace hb := hb.below b32
  replace h3 := h3.below b32
  replace h4 := h4.below b32
  replace xa := xa.below b32
  replace xb := xb.below b32
  replace Bz := below_trans Bz b32
  clear b32
  clear p0_0 p0_1 p1_0 p1_1
  have p0_0 := (HX0.out.below Bz).cell 0 (.bool sa) rfl
  have p0_1 := (HX0.out.below Bz).cell 1 (.slice A la ca) rfl
  have p1_0 := (HX1.out.below Bz).cell 0 (.bool sb) rfl
  have p1_1 := (HX1.out.below Bz).cell 1 (.slice B' lb cb) rfl
  refine hK.out _ _ ⟨p0_0, p0_1, p1_0, p1_1⟩ (fun _ => ?_)
  try simp only [Act.put, List.setIfInBounds_toArray, List.set_cons_zero, List.set_cons_succ]
  clear hK K
  refine wpPlan_call (o := ⟨some 144, _, _, _, _, _⟩) rfl rfl (fun K hK => ?_)
  go_simp
  with_reducible refine (abs_r (I.below ha (by go_grown)) (by omega)).mono ?_
  rintro e w33 ⟨s33, A33, c33, l33, rfl, h33, m33, b33⟩
  replace b33 := below_trans (a := w32) (by go_grown) b33
  replace ha := ha.below b33
  replace hb := hb.below b33
  replace h3 := h3.below b33
  replace h32 := h32.below b33
  replace h4 := h4.below b33
  replace xa := xa.below b33
  replace xb := xb.below b33
  replace Bz := below_trans Bz b33
  clear b33
  clear p0_0 p0_1 p1_0 p1_1
  have p0_0 := (HX0.out.below Bz).cell 0 (.bool sa) rfl
  have p0_1 := (HX0.out.below Bz).cell 1 (.slice A la ca) rfl
  have p1_0 := (HX1.out.below Bz).cell 0 (.bool sb) rfl
  have p1_1 := (HX1.out.below Bz).cell 1 (.slice B' lb cb) rfl
  refine hK.out _ _ ⟨p0_0, p0_1, p1_0, p1_1⟩ (fun _ => ?_)
  try simp only [Act.put, List.setIfInBounds_toArray, List.set_cons_zero, List.set_cons_succ]
  clear hK K
  refine wpPlan_call (o := ⟨some 145, _, _, _, _, _⟩) rfl rfl (fun K hK => ?_)
  go_simp
  with_reducible refine (same_z (J.below h32 (by go_grown)) (J.below h33 (by go_grown)) (by omega) rfl).mono ?_
  rintro e w34 ⟨rfl, b34⟩
  replace b34 := below_trans (a := w33) (by go_grown) b34
  replace ha := ha.below b34
  replace hb := hb.below b34
  replace h3 := h3.below b34
  replace h4 := h4.below b34
  replace xa := xa.below b34
  replace xb := xb.below b34
  replace Bz := below_trans Bz b34
  clear b34
  clear p0_0 p0_1 p1_0 p1_1
  have p0_0 := (HX0.out.below Bz).cell 0 (.bool sa) rfl
  have p0_1 := (HX0.out.below Bz).cell 1 (.slice A la ca) rfl
  have p1_0 := (HX1.out.below Bz).cell 0 (.bool sb) rfl
  have p1_1 := (HX1.out.below Bz).cell 1 (.slice B' lb cb) rfl
  refine hK.out _ _ ⟨p0_0, p0_1, p1_0, p1_1⟩ (fun _ => ?_)
  try simp only [Act.put, List.setIfInBounds_toArray, List.set_cons_zero, List.set_cons_succ]
  clear hK K
  refine wpPlan_take (o := ⟨some 146, _, _, _, _, _⟩) (v := ?_) rfl rfl (fun w' hS => ?_) ?_
  rotate_left
  · go_simp <;> with_reducible rfl
  try simp only [Act.put, List.setIfInBounds_toArray, List.set_cons_zero, List.set_cons_succ]
  refine wpPlan_take (o := ⟨some 147, _, _, _, _, _⟩) (v := ?_) rfl rfl (fun w' hS => ?_) ?_
  rotate_left
  · go_simp <;> with_reducible rfl
  try simp only [Act.put, List.setIfInBounds_toArray, List.set_cons_zero, List.set_cons_succ]
  refine wpPlan_take (o := ⟨some 148, _, _, _, _, _⟩) (v := ?_) rfl rfl (fun w' hS => ?_) ?_
  rotate_left
  · obtain ⟨p0_0, p0_1, p1_0, p1_1⟩ := hS; go_simp <;> with_reducible rfl
  try simp only [Act.put, List.setIfInBounds_toArray, List.set_cons_zero, List.set_cons_succ]
  refine wpPlan_take (o := ⟨some 150, _, _, _, _, _⟩) (v := ?_) rfl rfl (fun w' hS => ?_) ?_
  rotate_left
  · obtain ⟨p0_0, p0_1, p1_0, p1_1⟩ := hS; go_simp <;> with_reducible rfl
  try simp only [Act.put, List.setIfInBounds_toArray, List.set_cons_zero, List.set_cons_succ]
  refine wpPlan_call (o := ⟨some 149, _, _, _, _, _⟩) rfl rfl (fun K hK => ?_)
  go_simp
  with_reducible refine (sign_z (I.below ha (by go_grown)) (by omega) ta HTA.out).mono ?_
  rintro e w35 ⟨rfl, b35⟩
  replace b35 := below_trans (a := w34) (by go_grown) b35
  replace ha := ha.below b35
  replace hb := hb.below b35
  replace h3 := h3.below b35
  replace h4 := h4.below b35
  replace xa := xa.below b35
  replace xb := xb.below b35
  replace Bz := below_trans Bz b35
  clear b35
  clear p0_0 p0_1 p1_0 p1_1
  have p0_0 := (HX0.out.below Bz).cell 0 (.bool sa) rfl
  have p0_1 := (HX0.out.below Bz).cell 1 (.slice A la ca) rfl
  have p1_0 := (HX1.out.below Bz).cell 0 (.bool sb) rfl
  have p1_1 := (HX1.out.below Bz).cell 1 (.slice B' lb cb) rfl
  refine hK.out _ _ ⟨p0_0, p0_1, p1_0, p1_1⟩ (fun _ => ?_)
  try simp only [Act.put, List.setIfInBounds_toArray, List.set_cons_zero, List.set_cons_succ]
  clear hK K
  refine wpPlan_call (o := ⟨some 151, _, _, _, _, _⟩) rfl rfl (fun K hK => ?_)
  go_simp
  with_reducible refine (sign_r (I.below ha (by go_grown)) (by omega) ta HTA.out).mono ?_
  rintro e w36 ⟨rfl, b36⟩
  replace b36 := below_trans (a := w35) (by go_grown) b36
  replace ha := ha.below b36
  replace hb := hb.below b36
  replace h3 := h3.below b36
  replace h4 := h4.below b36
  replace xa := xa.below b36
  replace xb := xb.below b36
  replace Bz := below_trans Bz b36
  clear b36
  clear p0_0 p0_1 p1_0 p1_1
  have p0_0 := (HX0.out.below Bz).cell 0 (.bool sa) rfl
  have p0_1 := (HX0.out.below Bz).cell 1 (.slice A la ca) rfl
  have p1_0 := (HX1.out.below Bz).cell 0 (.bool sb) rfl
  have p1_1 := (HX1.out.below Bz).cell 1 (.slice B' lb cb) rfl
  refine hK.out _ _ ⟨p0_0, p0_1, p1_0, p1_1⟩ (fun _ => ?_)
  try simp only [Act.put, List.setIfInBounds_toArray, List.set_cons_zero, List.set_cons_succ]
  clear hK K
  refine wpPlan_take (o := ⟨some 152, _, _, _, _, _⟩) (v := ?_) rfl rfl (fun w' hS => ?_) ?_
  rotate_left
  · go_simp <;> with_reducible rfl
  try simp only [Act.put, List.setIfInBounds_toArray, List.set_cons_zero, List.set_cons_succ]
  refine wpPlan_take (o := ⟨some 153, _, _, _, _, _⟩) (v := ?_) rfl rfl (fun w' hS => ?_) ?_
  rotate_left
  · go_simp <;> with_reducible rfl
  try simp only [Act.put, List.setIfInBounds_toArray, List.set_cons_zero, List.set_cons_succ]
  refine wpPlan_take (o := ⟨some 154, _, _, _, _, _⟩) (v := ?_) rfl rfl (fun w' hS => ?_) ?_
  rotate_left
  · go_simp <;> with_reducible rfl
  try simp only [Act.put, List.setIfInBounds_toArray, List.set_cons_zero, List.set_cons_succ]
  refine wpPlan_take (o := ⟨some 155, _, _, _, _, _⟩) (v := ?_) rfl rfl (fun w' hS => ?_) ?_
  rotate_left
  · obtain ⟨p0_0, p0_1, p1_0, p1_1⟩ := hS; go_simp <;> with_reducible rfl
  try simp only [Act.put, List.setIfInBounds_toArray, List.set_cons_zero, List.set_cons_succ]
  refine wpPlan_take (o := ⟨some 156, _, _, _, _, _⟩) (v := ?_) rfl rfl (fun w' hS => ?_) ?_
  rotate_left
  · obtain ⟨p0_0, p0_1, p1_0, p1_1⟩ := hS; go_simp <;> with_reducible rfl
  try simp only [Act.put, List.setIfInBounds_toArray, List.set_cons_zero, List.set_cons_succ]
  refine wpPlan_take (o := ⟨some 158, _, _, _, _, _⟩) (v := ?_) rfl rfl (fun w' hS => ?_) ?_
  rotate_left
  · obtain ⟨p0_0, p0_1, p1_0, p1_1⟩ := hS; go_simp <;> with_reducible rfl
  try simp only [Act.put, List.setIfInBounds_toArray, List.set_cons_zero, List.set_cons_succ]
  refine wpPlan_take (o := ⟨some 159, _, _, _, _, _⟩) (v := ?_) rfl rfl (fun w' hS => ?_) ?_
  rotate_left
  · obtain ⟨p0_0, p0_1, p1_0, p1_1⟩ := hS; go_simp <;> with_reducible rfl
  try simp only [Act.put, List.setIfInBounds_toArray, List.set_cons_zero, List.set_cons_succ]
  refine wpPlan_call (o := ⟨some 157, _, _, _, _, _⟩) rfl rfl (fun K hK => ?_)
  go_simp
  with_reducible refine (cmp_z (I.below ha (by go_grown)) (I.below hb (by go_grown)) (by omega) k HK.out).mono ?_
  rintro e w37 ⟨rfl, b37⟩
  replace b37 := below_trans (a := w36) (by go_grown) b37
  replace ha := ha.below b37
  replace hb := hb.below b37
  replace h3 := h3.below b37
  replace h4 := h4.below b37
  replace xa := xa.below b37
  replace xb := xb.below b37
  replace Bz := below_trans Bz b37
  clear b37
  clear p0_0 p0_1 p1_0 p1_1
  have p0_0 := (HX0.out.below Bz).cell 0 (.bool sa) rfl
  have p0_1 := (HX0.out.below Bz).cell 1 (.slice A la ca) rfl
  have p1_0 := (HX1.out.below Bz).cell 0 (.bool sb) rfl
  have p1_1 := (HX1.out.below Bz).cell 1 (.slice B' lb cb) rfl
  refine hK.out _ _ ⟨p0_0, p0_1, p1_0, p1_1⟩ (fun _ => ?_)
  try simp only [Act.put, List.setIfInBounds_toArray, List.set_cons_zero, List.set_cons_succ]
  clear hK K
  refine wpPlan_call (o := ⟨some 160, _, _, _, _, _⟩) rfl rfl (fun K hK => ?_)
  go_simp
  with_reducible refine (cmpq (I.below ha (by go_grown)) (I.below hb (by go_grown)) (by omega) (by omega) k HK.out).mono ?_
  rintro e w38 ⟨rfl, b38⟩
  replace b38 := below_trans (a := w37) (by go_grown) b38
  replace h3 := h3.below b38
  replace h4 := h4.below b38
  replace xa := xa.below b38
  replace xb := xb.below b38
  replace Bz := below_trans Bz b38
  clear b38
  clear p0_0 p0_1 p1_0 p1_1
  have p0_0 := (HX0.out.below Bz).cell 0 (.bool sa) rfl
  have p0_1 := (HX0.out.below Bz).cell 1 (.slice A la ca) rfl
  have p1_0 := (HX1.out.below Bz).cell 0 (.bool sb) rfl
  have p1_1 := (HX1.out.below Bz).cell 1 (.slice B' lb cb) rfl
  refine hK.out _ _ ⟨p0_0, p0_1, p1_0, p1_1⟩ (fun _ => ?_)
  try simp only [Act.put, List.setIfInBounds_toArray, List.set_cons_zero, List.set_cons_succ]
  clear hK K
  refine wpPlan_take (o := ⟨some 161, _, _, _, _, _⟩) (v := ?_) rfl rfl (fun w' hS => ?_) ?_
  rotate_left
  · go_simp <;> with_reducible rfl
  try simp only [Act.put, List.setIfInBounds_toArray, List.set_cons_zero, List.set_cons_succ]
  refine wpPlan_take (o := ⟨some 162, _, _, _, _, _⟩) (v := ?_) rfl rfl (fun w' hS => ?_) ?_
  rotate_left
  · go_simp <;> with_reducible rfl
  try simp only [Act.put, List.setIfInBounds_toArray, List.set_cons_zero, List.set_cons_succ]
  refine wpPlan_take (o := ⟨some 19, _, _, _, _, _⟩) (v := ?_) rfl rfl (fun w' hS => ?_) ?_
  rotate_left
  · go_simp <;> with_reducible rfl
  try simp only [Act.put, List.setIfInBounds_toArray, List.set_cons_zero, List.set_cons_succ]
  refine wpPlan_done ?_
  go_wp2_with fail
  with_reducible refine (same_n (Nx.below h3 (by go_grown)) (Nx.below xa (by go_grown)) (by omega)).mono ?_
  rintro e w39 ⟨rfl, b39⟩
  replace b39 := below_trans (a := w38) (by go_grown) b39
  replace h4 := h4.below b39
  replace xb := xb.below b39
  replace Bz := below_trans Bz b39
  clear b39
  clear p0_0 p0_1 p1_0 p1_1
  have p1_1 := (HX1.out.below Bz).cell 1 (.slice B' lb cb) rfl
  go_wp2_with fail
  with_reducible refine (same_n (Nx.below h4 (by go_grown)) (Nx.below xb (by go_grown)) (by omega)).mono ?_
  rintro e w40 ⟨rfl, b40⟩
  replace b40 := below_trans (a := w39) (by go_grown) b40
  replace Bz := below_trans Bz b40
  clear b40
  clear p1_1
  go_wp2_with fail
  with_reducible refine (awake2 _).mono ?_
  rintro e w41 ⟨rfl, b41⟩
  replace b41 := below_trans (a := w40) (by go_grown) b41
  replace Bz := below_trans Bz b41
  clear b41
  go_wp2_with fail
  go_ret
  have hF := below_trans (c := w41) hB Bz
  exact ⟨rfl, below_trans hF (by go_grown)⟩
end Go.Proofs.YtihdaemjabhhkaaDoor
