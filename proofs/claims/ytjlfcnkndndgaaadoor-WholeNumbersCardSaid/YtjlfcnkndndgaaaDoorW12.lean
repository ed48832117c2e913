/-
  The chapter's examples of layer 2, which every statement of the layer asks. Written by wip/gen/w12.py.
-/
import Derived.Test.YtjlfcnkndndgaaaDoorW11
namespace Go.Proofs.YtjlfcnkndndgaaaDoor
open Go.RowKit Tw

theorem is_e {w : World} {b : Bool} {A : Option Addr} {c l : Nat} {z z' : Int} (h : J w b A c l z) (he : z = z') (hz : Hid (isSmall z' = true)) :
    Calls Tryd.prog 41 #[.agg #[.bool b, .slice A l c], .int .i64 z'] w fun e w' => e = .returned (.bool true) ∧ Below w.heap.size w w' := by
  subst he
  exact is_z h hz
set_option maxRecDepth 100000 in
set_option maxHeartbeats 2000000 in
theorem awake2 (w : World) : Calls Tryd.prog 48 #[] w fun e w' => e = .returned (.bool true) ∧ Below w.heap.size w w' := by
  go_enter Tryd.func48, Tryd.ntmps48
  go_wp2_with fail
  with_reducible refine (of_z (5) (small_bd (Lib.hid (by decide)))).mono ?_
  rintro e w1 ⟨s1, A1, c1, l1, rfl, h1, m1, b1⟩
  have hB := b1
  go_wp2_with fail
  with_reducible refine (of_z (-7) (small_bd (Lib.hid (by decide)))).mono ?_
  rintro e w2 ⟨s2, A2, c2, l2, rfl, h2, m2, b2⟩
  replace h1 := h1.below b2
  replace hB := below_trans hB b2
  go_wp2_with fail
  with_reducible refine (add_z h1.i h2.i (by omega)).mono ?_
  rintro e w3 ⟨s3, A3, c3, l3, rfl, h3, m3, b3⟩
  replace hB := below_trans hB b3
  go_wp2_with fail
  with_reducible refine (is_e h3 (by decide) (Lib.hid (by decide))).mono ?_
  rintro e w4 ⟨rfl, b4⟩
  replace hB := below_trans hB b4
  go_wp2_with fail
  with_reducible refine (of_z (-5) (small_bd (Lib.hid (by decide)))).mono ?_
  rintro e w5 ⟨s5, A5, c5, l5, rfl, h5, m5, b5⟩
  replace hB := below_trans hB b5
  go_wp2_with fail
  with_reducible refine (of_z (-5) (small_bd (Lib.hid (by decide)))).mono ?_
  rintro e w6 ⟨s6, A6, c6, l6, rfl, h6, m6, b6⟩
  replace h5 := h5.below b6
  replace hB := below_trans hB b6
  go_wp2_with fail
  with_reducible refine (sub_z h5.i h6.i (by omega)).mono ?_
  rintro e w7 ⟨s7, A7, c7, l7, rfl, h7, m7, b7⟩
  replace hB := below_trans hB b7
  go_wp2_with fail
  with_reducible refine (is_e h7 (by decide) (Lib.hid (by decide))).mono ?_
  rintro e w8 ⟨rfl, b8⟩
  replace hB := below_trans hB b8
  go_wp2_with fail
  with_reducible refine (of_z (-3) (small_bd (Lib.hid (by decide)))).mono ?_
  rintro e w9 ⟨s9, A9, c9, l9, rfl, h9, m9, b9⟩
  replace hB := below_trans hB b9
  go_wp2_with fail
  with_reducible refine (of_z (4) (small_bd (Lib.hid (by decide)))).mono ?_
  rintro e w10 ⟨s10, A10, c10, l10, rfl, h10, m10, b10⟩
  replace h9 := h9.below b10
  replace hB := below_trans hB b10
  go_wp2_with fail
  with_reducible refine (mul_z h9.i h10.i (by omega)).mono ?_
  rintro e w11 ⟨s11, A11, c11, l11, rfl, h11, m11, b11⟩
  replace hB := below_trans hB b11
  go_wp2_with fail
  with_reducible refine (is_e h11 (by decide) (Lib.hid (by decide))).mono ?_
  rintro e w12 ⟨rfl, b12⟩
  replace hB := below_trans hB b12
  go_wp2_with fail
  with_reducible refine (by_z (-7) (2) (-4) (1) (Lib.hid (by decide)) (Lib.hid (by decide)) (Lib.hid (by decide)) (Lib.hid (by decide)) (Lib.hid (by decide)) (Lib.hid (by decide)) (Lib.hid (by decide))).mono ?_
  rintro e w13 ⟨rfl, b13⟩
  replace hB := below_trans hB b13
  go_wp2_with fail
  with_reducible refine (by_z (-7) (-2) (4) (1) (Lib.hid (by decide)) (Lib.hid (by decide)) (Lib.hid (by decide)) (Lib.hid (by decide)) (Lib.hid (by decide)) (Lib.hid (by decide)) (Lib.hid (by decide))).mono ?_
  rintro e w14 ⟨rfl, b14⟩
  replace hB := below_trans hB b14
  go_wp2_with fail
  with_reducible refine (by_z (7) (-2) (-3) (1) (Lib.hid (by decide)) (Lib.hid (by decide)) (Lib.hid (by decide)) (Lib.hid (by decide)) (Lib.hid (by decide)) (Lib.hid (by decide)) (Lib.hid (by decide))).mono ?_
  rintro e w15 ⟨rfl, b15⟩
  replace hB := below_trans hB b15
  go_wp2_with fail
  with_reducible refine (by_z (7) (2) (3) (1) (Lib.hid (by decide)) (Lib.hid (by decide)) (Lib.hid (by decide)) (Lib.hid (by decide)) (Lib.hid (by decide)) (Lib.hid (by decide)) (Lib.hid (by decide))).mono ?_
  rintro e w16 ⟨rfl, b16⟩
  replace hB := below_trans hB b16
  go_wp2_with fail
  go_ret
  exact ⟨rfl, hB⟩
end Go.Proofs.YtjlfcnkndndgaaaDoor
