/-
  The walk of LimbsTells, one of its ways. Written by wip/gen/tells1.py.
-/
import Derived.Test.YtjlfcnkndndgaaaDoorTellsK
namespace Go.Proofs.YtjlfcnkndndgaaaDoor
open Go.RowKit Tw

set_option maxRecDepth 100000 in
set_option maxHeartbeats 8000000 in
theorem tells_z (A B' : Option Addr) (ca cb la lb : Nat) (xs ys : List Nat) (z : Int) (w : World) (ha : Nx w A ca la xs) (hb : Nx w B' cb lb ys) (ha1 : la ≤ 24) (hb1 : lb ≤ 24) (HZ : Hid (-9223372036854775808 ≤ z ∧ z ≤ 9223372036854775807))
    (g1 : decide ((24 : Int) < (la : Int)) = false) (g2 : decide ((24 : Int) < (lb : Int)) = false) (g3 : Hid (¬ (600 < z ∧ z ≤ 1048576))) (HB0 : Hid (val ys = 0)) (na : A = none → ca = 0) (nb : B' = none → cb = 0) (hT : Tab w) :
    Calls Tryd.prog 8 #[.slice A la ca, .slice B' lb cb, .int .i64 z] w (Yes w) := by
  obtain ⟨zc, HC⟩ : ∃ zc, Hid (cmpI (val xs : Int) (val ys : Int) = zc) := ⟨_, Lib.hid rfl⟩
  obtain ⟨zb, HN⟩ : ∃ zb, Hid ((nbits (val xs) : Int) = zb) := ⟨_, Lib.hid rfl⟩
  have HA := Lib.hid ha.v.lt
  have Na := Lib.hid na
  have Nb := Lib.hid nb
  clear na nb
  by_cases g4 : 600 < z
  · have t4 : decide (600 < z) = true := by simpa using g4
    have t5 : decide (z ≤ 1048576) = false := by have := g3.out; simp; omega
    clear g3 g4
    go_enter Tryd.func8, Tryd.ntmps8
    go_wp2_with fail
    with_reducible refine (copy_v ha (by omega) Na.out).mono ?_
    rintro e w1 ⟨A1, c1, rfl, h1, b1⟩
    replace hT := hT.below b1
    replace ha := ha.below b1
    replace hb := hb.below b1
    have hB := b1
    go_wp2_with fail
    with_reducible refine (copy_v hb (by omega) Nb.out).mono ?_
    rintro e w2 ⟨A2, c2, rfl, h2, b2⟩
    replace hT := hT.below b2
    replace ha := ha.below b2
    replace hb := hb.below b2
    replace h1 := h1.below b2
    replace hB := below_trans hB b2
    go_wp2_with fail
    with_reducible refine (divmod_v0 h1.v (by exact h2.v0 HB0.out) (by omega)).mono ?_
    rintro e w3 ⟨A3, c3, l3, A3r, c3r, l3r, rfl, h3, h3r, m3, m3r, b3⟩
    replace hT := hT.below b3
    replace ha := ha.below b3
    replace hb := hb.below b3
    replace h1 := h1.below b3
    replace h2 := h2.below b3
    replace hB := below_trans hB b3
    go_wp2_with fail
    with_reducible refine (divmod_r0 ha.v (by exact hb.v0 HB0.out) (by omega) (by omega)).mono ?_
    rintro e w4 ⟨A4, c4, l4, A4r, c4r, l4r, rfl, h4, h4r, m4, m4r, b4⟩
    replace hT := hT.below b4
    replace ha := ha.below b4
    replace hb := hb.below b4
    replace h3 := h3.below b4
    replace h3r := h3r.below b4
    replace h1 := h1.below b4
    replace h2 := h2.below b4
    replace hB := below_trans hB b4
    go_wp2_with fail
    with_reducible refine (same_v h3 h4 (by omega) rfl).mono ?_
    rintro e w5 ⟨rfl, b5⟩
    replace hT := hT.below b5
    replace ha := ha.below b5
    replace hb := hb.below b5
    replace h3r := h3r.below b5
    replace h4r := h4r.below b5
    replace h1 := h1.below b5
    replace h2 := h2.below b5
    replace hB := below_trans hB b5
    go_wp2_with fail
    with_reducible refine (same_v h3r h4r (by omega) rfl).mono ?_
    rintro e w6 ⟨rfl, b6⟩
    replace hT := hT.below b6
    replace ha := ha.below b6
    replace hb := hb.below b6
    replace h1 := h1.below b6
    replace h2 := h2.below b6
    replace hB := below_trans hB b6
    go_wp2_with fail
    with_reducible refine (add_v h1.v h2.v (by omega)).mono ?_
    rintro e w7 ⟨A7, c7, l7, rfl, h7, m7, b7⟩
    replace hT := hT.below b7
    replace ha := ha.below b7
    replace hb := hb.below b7
    replace h1 := h1.below b7
    replace h2 := h2.below b7
    replace hB := below_trans hB b7
    go_wp2_with fail
    with_reducible refine (add_r ha.v hb.v (by omega) (by omega)).mono ?_
    rintro e w8 ⟨A8, c8, l8, rfl, h8, m8, b8⟩
    replace hT := hT.below b8
    replace ha := ha.below b8
    replace hb := hb.below b8
    replace h7 := h7.below b8
    replace h1 := h1.below b8
    replace h2 := h2.below b8
    replace hB := below_trans hB b8
    go_wp2_with fail
    with_reducible refine (same_v h7 h8 (by omega) rfl).mono ?_
    rintro e w9 ⟨rfl, b9⟩
    replace hT := hT.below b9
    replace ha := ha.below b9
    replace hb := hb.below b9
    replace h1 := h1.below b9
    replace h2 := h2.below b9
    replace hB := below_trans hB b9
    go_wp2_with fail
    with_reducible refine (sub_v h1.v h2.v (by omega)).mono ?_
    rintro e w10 ⟨A10, c10, l10, rfl, h10, m10, b10⟩
    replace hT := hT.below b10
    replace ha := ha.below b10
    replace hb := hb.below b10
    replace h1 := h1.below b10
    replace h2 := h2.below b10
    replace hB := below_trans hB b10
    go_wp2_with fail
    with_reducible refine (sub_r ha.v hb.v (by omega) (by omega)).mono ?_
    rintro e w11 ⟨A11, c11, l11, rfl, h11, m11, b11⟩
    replace hT := hT.below b11
    replace ha := ha.below b11
    replace hb := hb.below b11
    replace h10 := h10.below b11
    replace h1 := h1.below b11
    replace h2 := h2.below b11
    replace hB := below_trans hB b11
    go_wp2_with fail
    with_reducible refine (same_v h10 h11 (by omega) rfl).mono ?_
    rintro e w12 ⟨rfl, b12⟩
    replace hT := hT.below b12
    replace ha := ha.below b12
    replace hb := hb.below b12
    replace h1 := h1.below b12
    replace h2 := h2.below b12
    replace hB := below_trans hB b12
    go_wp2_with fail
    with_reducible refine (mul_v h1.v h2.v (by omega)).mono ?_
    rintro e w13 ⟨A13, c13, l13, rfl, h13, m13, b13⟩
    replace hT := hT.below b13
    replace ha := ha.below b13
    replace hb := hb.below b13
    replace h1 := h1.below b13
    replace h2 := h2.below b13
    replace hB := below_trans hB b13
    go_wp2_with fail
    with_reducible refine (mul_r ha.v hb.v (by omega) (by omega)).mono ?_
    rintro e w14 ⟨A14, c14, l14, rfl, h14, m14, b14⟩
    replace hT := hT.below b14
    replace ha := ha.below b14
    replace hb := hb.below b14
    replace h13 := h13.below b14
    replace h1 := h1.below b14
    replace h2 := h2.below b14
    replace hB := below_trans hB b14
    go_wp2_with fail
    with_reducible refine (same_v h13 h14 (by omega) rfl).mono ?_
    rintro e w15 ⟨rfl, b15⟩
    replace hT := hT.below b15
    replace ha := ha.below b15
    replace hb := hb.below b15
    replace h1 := h1.below b15
    replace h2 := h2.below b15
    replace hB := below_trans hB b15
    go_wp2_with fail
    with_reducible refine (cmp_v zc h1.v h2.v (by omega) HC.out).mono ?_
    rintro e w16 ⟨rfl, b16⟩
    replace hT := hT.below b16
    replace ha := ha.below b16
    replace hb := hb.below b16
    replace h1 := h1.below b16
    replace h2 := h2.below b16
    replace hB := below_trans hB b16
    go_wp2_with fail
    with_reducible refine (cmp_r ha.v hb.v (by omega) (by omega) zc HC.out).mono ?_
    rintro e w17 ⟨rfl, b17⟩
    replace hT := hT.below b17
    replace ha := ha.below b17
    replace hb := hb.below b17
    replace h1 := h1.below b17
    replace h2 := h2.below b17
    replace hB := below_trans hB b17
    go_wp2_with fail
    with_reducible refine (bits_p zb h1.v (by omega) HN.out).mono ?_
    rintro e w18 ⟨rfl, b18⟩
    replace hT := hT.below b18
    replace ha := ha.below b18
    replace hb := hb.below b18
    replace h1 := h1.below b18
    replace h2 := h2.below b18
    replace hB := below_trans hB b18
    go_wp2_with fail
    with_reducible refine (bits_r ha.v (by omega) zb HN.out).mono ?_
    rintro e w19 ⟨rfl, b19⟩
    replace hT := hT.below b19
    replace ha := ha.below b19
    replace hb := hb.below b19
    replace h1 := h1.below b19
    replace h2 := h2.below b19
    replace hB := below_trans hB b19
    go_wp2_with fail
    with_reducible refine (shl_v z h1.v (by omega)).mono ?_
    rintro e w20 ⟨A20, c20, l20, rfl, h20, m20, b20⟩
    replace hT := hT.below b20
    replace ha := ha.below b20
    replace hb := hb.below b20
    replace h1 := h1.below b20
    replace h2 := h2.below b20
    replace hB := below_trans hB b20
    go_wp2_with fail
    with_reducible refine (shl_r z ha.v (by omega) HZ.out.1).mono ?_
    rintro e w21 ⟨A21, c21, l21, rfl, h21, m21, b21⟩
    replace hT := hT.below b21
    replace ha := ha.below b21
    replace hb := hb.below b21
    replace h20 := h20.below b21
    replace h1 := h1.below b21
    replace h2 := h2.below b21
    replace hB := below_trans hB b21
    go_wp2_with fail
    with_reducible refine (same_v h20 h21 (by omega) rfl).mono ?_
    rintro e w22 ⟨rfl, b22⟩
    replace hT := hT.below b22
    replace ha := ha.below b22
    replace hb := hb.below b22
    replace h1 := h1.below b22
    replace h2 := h2.below b22
    replace hB := below_trans hB b22
    go_wp2_with fail
    with_reducible refine (shr_v z h1.v (by omega) HZ.out.2).mono ?_
    rintro e w23 ⟨A23, c23, l23, rfl, h23, m23, b23⟩
    replace hT := hT.below b23
    replace ha := ha.below b23
    replace hb := hb.below b23
    replace h1 := h1.below b23
    replace h2 := h2.below b23
    replace hB := below_trans hB b23
    go_wp2_with fail
    with_reducible refine (shr_r z ha.v (by omega) HZ.out.1 HZ.out.2).mono ?_
    rintro e w24 ⟨A24, c24, l24, rfl, h24, m24, b24⟩
    replace hT := hT.below b24
    replace ha := ha.below b24
    replace hb := hb.below b24
    replace h23 := h23.below b24
    replace h1 := h1.below b24
    replace h2 := h2.below b24
    replace hB := below_trans hB b24
    go_wp2_with fail
    with_reducible refine (same_v h23 h24 (by omega) rfl).mono ?_
    rintro e w25 ⟨rfl, b25⟩
    replace hT := hT.below b25
    replace ha := ha.below b25
    replace hb := hb.below b25
    replace h1 := h1.below b25
    replace h2 := h2.below b25
    replace hB := below_trans hB b25
    go_wp2_with fail
    with_reducible refine (trim_v h1.v (by omega)).mono ?_
    rintro e w26 ⟨A26, c26, l26, rfl, h26, m26, b26⟩
    replace hT := hT.below b26
    replace ha := ha.below b26
    replace hb := hb.below b26
    replace h1 := h1.below b26
    replace h2 := h2.below b26
    replace hB := below_trans hB b26
    go_wp2_with fail
    with_reducible refine (small_v ha.v (by omega)).mono ?_
    rintro e w27 ⟨A27, c27, l27, rfl, h27, b27⟩
    replace hT := hT.below b27
    replace ha := ha.below b27
    replace hb := hb.below b27
    replace h26 := h26.below b27
    replace h1 := h1.below b27
    replace h2 := h2.below b27
    replace hB := below_trans hB b27
    have s27 := h27.small HA.out
    go_wp2_with fail
    with_reducible refine (large_d h27 (by omega)).mono ?_
    rintro e w28 ⟨A28, c28, l28, rfl, h28, m28, b28⟩
    replace hT := hT.below b28
    replace ha := ha.below b28
    replace hb := hb.below b28
    replace h26 := h26.below b28
    replace h1 := h1.below b28
    replace h2 := h2.below b28
    replace hB := below_trans hB b28
    go_wp2_with fail
    with_reducible refine (same_v h26 h28 (by omega) rfl).mono ?_
    rintro e w29 ⟨rfl, b29⟩
    replace hT := hT.below b29
    replace ha := ha.below b29
    replace hb := hb.below b29
    replace h1 := h1.below b29
    replace h2 := h2.below b29
    replace hB := below_trans hB b29
    go_wp2_with fail
    with_reducible refine (same_n h1 ha (by omega)).mono ?_
    rintro e w30 ⟨rfl, b30⟩
    replace hT := hT.below b30
    replace hb := hb.below b30
    replace h2 := h2.below b30
    replace hB := below_trans hB b30
    go_wp2_with fail
    with_reducible refine (same_n h2 hb (by omega)).mono ?_
    rintro e w31 ⟨rfl, b31⟩
    replace hT := hT.below b31
    replace hB := below_trans hB b31
    go_wp2_with fail
    with_reducible refine (awake_any _ (Lib.hid hT)).mono ?_
    rintro e w32 ⟨rfl, b32⟩
    replace hB := below_trans hB b32
    go_wp2_with fail
    go_ret
    exact ⟨rfl, hB⟩
  · have t4 : decide (600 < z) = false := by simpa using g4
    clear g3 g4
    go_enter Tryd.func8, Tryd.ntmps8
    go_wp2_with fail
    with_reducible refine (copy_v ha (by omega) Na.out).mono ?_
    rintro e w1 ⟨A1, c1, rfl, h1, b1⟩
    replace hT := hT.below b1
    replace ha := ha.below b1
    replace hb := hb.below b1
    have hB := b1
    go_wp2_with fail
    with_reducible refine (copy_v hb (by omega) Nb.out).mono ?_
    rintro e w2 ⟨A2, c2, rfl, h2, b2⟩
    replace hT := hT.below b2
    replace ha := ha.below b2
    replace hb := hb.below b2
    replace h1 := h1.below b2
    replace hB := below_trans hB b2
    go_wp2_with fail
    with_reducible refine (divmod_v0 h1.v (by exact h2.v0 HB0.out) (by omega)).mono ?_
    rintro e w3 ⟨A3, c3, l3, A3r, c3r, l3r, rfl, h3, h3r, m3, m3r, b3⟩
    replace hT := hT.below b3
    replace ha := ha.below b3
    replace hb := hb.below b3
    replace h1 := h1.below b3
    replace h2 := h2.below b3
    replace hB := below_trans hB b3
    go_wp2_with fail
    with_reducible refine (divmod_r0 ha.v (by exact hb.v0 HB0.out) (by omega) (by omega)).mono ?_
    rintro e w4 ⟨A4, c4, l4, A4r, c4r, l4r, rfl, h4, h4r, m4, m4r, b4⟩
    replace hT := hT.below b4
    replace ha := ha.below b4
    replace hb := hb.below b4
    replace h3 := h3.below b4
    replace h3r := h3r.below b4
    replace h1 := h1.below b4
    replace h2 := h2.below b4
    replace hB := below_trans hB b4
    go_wp2_with fail
    with_reducible refine (same_v h3 h4 (by omega) rfl).mono ?_
    rintro e w5 ⟨rfl, b5⟩
    replace hT := hT.below b5
    replace ha := ha.below b5
    replace hb := hb.below b5
    replace h3r := h3r.below b5
    replace h4r := h4r.below b5
    replace h1 := h1.below b5
    replace h2 := h2.below b5
    replace hB := below_trans hB b5
    go_wp2_with fail
    with_reducible refine (same_v h3r h4r (by omega) rfl).mono ?_
    rintro e w6 ⟨rfl, b6⟩
    replace hT := hT.below b6
    replace ha := ha.below b6
    replace hb := hb.below b6
    replace h1 := h1.below b6
    replace h2 := h2.below b6
    replace hB := below_trans hB b6
    go_wp2_with fail
    with_reducible refine (add_v h1.v h2.v (by omega)).mono ?_
    rintro e w7 ⟨A7, c7, l7, rfl, h7, m7, b7⟩
    replace hT := hT.below b7
    replace ha := ha.below b7
    replace hb := hb.below b7
    replace h1 := h1.below b7
    replace h2 := h2.below b7
    replace hB := below_trans hB b7
    go_wp2_with fail
    with_reducible refine (add_r ha.v hb.v (by omega) (by omega)).mono ?_
    rintro e w8 ⟨A8, c8, l8, rfl, h8, m8, b8⟩
    replace hT := hT.below b8
    replace ha := ha.below b8
    replace hb := hb.below b8
    replace h7 := h7.below b8
    replace h1 := h1.below b8
    replace h2 := h2.below b8
    replace hB := below_trans hB b8
    go_wp2_with fail
    with_reducible refine (same_v h7 h8 (by omega) rfl).mono ?_
    rintro e w9 ⟨rfl, b9⟩
    replace hT := hT.below b9
    replace ha := ha.below b9
    replace hb := hb.below b9
    replace h1 := h1.below b9
    replace h2 := h2.below b9
    replace hB := below_trans hB b9
    go_wp2_with fail
    with_reducible refine (sub_v h1.v h2.v (by omega)).mono ?_
    rintro e w10 ⟨A10, c10, l10, rfl, h10, m10, b10⟩
    replace hT := hT.below b10
    replace ha := ha.below b10
    replace hb := hb.below b10
    replace h1 := h1.below b10
    replace h2 := h2.below b10
    replace hB := below_trans hB b10
    go_wp2_with fail
    with_reducible refine (sub_r ha.v hb.v (by omega) (by omega)).mono ?_
    rintro e w11 ⟨A11, c11, l11, rfl, h11, m11, b11⟩
    replace hT := hT.below b11
    replace ha := ha.below b11
    replace hb := hb.below b11
    replace h10 := h10.below b11
    replace h1 := h1.below b11
    replace h2 := h2.below b11
    replace hB := below_trans hB b11
    go_wp2_with fail
    with_reducible refine (same_v h10 h11 (by omega) rfl).mono ?_
    rintro e w12 ⟨rfl, b12⟩
    replace hT := hT.below b12
    replace ha := ha.below b12
    replace hb := hb.below b12
    replace h1 := h1.below b12
    replace h2 := h2.below b12
    replace hB := below_trans hB b12
    go_wp2_with fail
    with_reducible refine (mul_v h1.v h2.v (by omega)).mono ?_
    rintro e w13 ⟨A13, c13, l13, rfl, h13, m13, b13⟩
    replace hT := hT.below b13
    replace ha := ha.below b13
    replace hb := hb.below b13
    replace h1 := h1.below b13
    replace h2 := h2.below b13
    replace hB := below_trans hB b13
    go_wp2_with fail
    with_reducible refine (mul_r ha.v hb.v (by omega) (by omega)).mono ?_
    rintro e w14 ⟨A14, c14, l14, rfl, h14, m14, b14⟩
    replace hT := hT.below b14
    replace ha := ha.below b14
    replace hb := hb.below b14
    replace h13 := h13.below b14
    replace h1 := h1.below b14
    replace h2 := h2.below b14
    replace hB := below_trans hB b14
    go_wp2_with fail
    with_reducible refine (same_v h13 h14 (by omega) rfl).mono ?_
    rintro e w15 ⟨rfl, b15⟩
    replace hT := hT.below b15
    replace ha := ha.below b15
    replace hb := hb.below b15
    replace h1 := h1.below b15
    replace h2 := h2.below b15
    replace hB := below_trans hB b15
    go_wp2_with fail
    with_reducible refine (cmp_v zc h1.v h2.v (by omega) HC.out).mono ?_
    rintro e w16 ⟨rfl, b16⟩
    replace hT := hT.below b16
    replace ha := ha.below b16
    replace hb := hb.below b16
    replace h1 := h1.below b16
    replace h2 := h2.below b16
    replace hB := below_trans hB b16
    go_wp2_with fail
    with_reducible refine (cmp_r ha.v hb.v (by omega) (by omega) zc HC.out).mono ?_
    rintro e w17 ⟨rfl, b17⟩
    replace hT := hT.below b17
    replace ha := ha.below b17
    replace hb := hb.below b17
    replace h1 := h1.below b17
    replace h2 := h2.below b17
    replace hB := below_trans hB b17
    go_wp2_with fail
    with_reducible refine (bits_p zb h1.v (by omega) HN.out).mono ?_
    rintro e w18 ⟨rfl, b18⟩
    replace hT := hT.below b18
    replace ha := ha.below b18
    replace hb := hb.below b18
    replace h1 := h1.below b18
    replace h2 := h2.below b18
    replace hB := below_trans hB b18
    go_wp2_with fail
    with_reducible refine (bits_r ha.v (by omega) zb HN.out).mono ?_
    rintro e w19 ⟨rfl, b19⟩
    replace hT := hT.below b19
    replace ha := ha.below b19
    replace hb := hb.below b19
    replace h1 := h1.below b19
    replace h2 := h2.below b19
    replace hB := below_trans hB b19
    go_wp2_with fail
    with_reducible refine (shl_v z h1.v (by omega)).mono ?_
    rintro e w20 ⟨A20, c20, l20, rfl, h20, m20, b20⟩
    replace hT := hT.below b20
    replace ha := ha.below b20
    replace hb := hb.below b20
    replace h1 := h1.below b20
    replace h2 := h2.below b20
    replace hB := below_trans hB b20
    go_wp2_with fail
    with_reducible refine (shl_r z ha.v (by omega) HZ.out.1).mono ?_
    rintro e w21 ⟨A21, c21, l21, rfl, h21, m21, b21⟩
    replace hT := hT.below b21
    replace ha := ha.below b21
    replace hb := hb.below b21
    replace h20 := h20.below b21
    replace h1 := h1.below b21
    replace h2 := h2.below b21
    replace hB := below_trans hB b21
    go_wp2_with fail
    with_reducible refine (same_v h20 h21 (by omega) rfl).mono ?_
    rintro e w22 ⟨rfl, b22⟩
    replace hT := hT.below b22
    replace ha := ha.below b22
    replace hb := hb.below b22
    replace h1 := h1.below b22
    replace h2 := h2.below b22
    replace hB := below_trans hB b22
    go_wp2_with fail
    with_reducible refine (shr_v z h1.v (by omega) HZ.out.2).mono ?_
    rintro e w23 ⟨A23, c23, l23, rfl, h23, m23, b23⟩
    replace hT := hT.below b23
    replace ha := ha.below b23
    replace hb := hb.below b23
    replace h1 := h1.below b23
    replace h2 := h2.below b23
    replace hB := below_trans hB b23
    go_wp2_with fail
    with_reducible refine (shr_r z ha.v (by omega) HZ.out.1 HZ.out.2).mono ?_
    rintro e w24 ⟨A24, c24, l24, rfl, h24, m24, b24⟩
    replace hT := hT.below b24
    replace ha := ha.below b24
    replace hb := hb.below b24
    replace h23 := h23.below b24
    replace h1 := h1.below b24
    replace h2 := h2.below b24
    replace hB := below_trans hB b24
    go_wp2_with fail
    with_reducible refine (same_v h23 h24 (by omega) rfl).mono ?_
    rintro e w25 ⟨rfl, b25⟩
    replace hT := hT.below b25
    replace ha := ha.below b25
    replace hb := hb.below b25
    replace h1 := h1.below b25
    replace h2 := h2.below b25
    replace hB := below_trans hB b25
    go_wp2_with fail
    with_reducible refine (trim_v h1.v (by omega)).mono ?_
    rintro e w26 ⟨A26, c26, l26, rfl, h26, m26, b26⟩
    replace hT := hT.below b26
    replace ha := ha.below b26
    replace hb := hb.below b26
    replace h1 := h1.below b26
    replace h2 := h2.below b26
    replace hB := below_trans hB b26
    go_wp2_with fail
    with_reducible refine (small_v ha.v (by omega)).mono ?_
    rintro e w27 ⟨A27, c27, l27, rfl, h27, b27⟩
    replace hT := hT.below b27
    replace ha := ha.below b27
    replace hb := hb.below b27
    replace h26 := h26.below b27
    replace h1 := h1.below b27
    replace h2 := h2.below b27
    replace hB := below_trans hB b27
    have s27 := h27.small HA.out
    go_wp2_with fail
    with_reducible refine (large_d h27 (by omega)).mono ?_
    rintro e w28 ⟨A28, c28, l28, rfl, h28, m28, b28⟩
    replace hT := hT.below b28
    replace ha := ha.below b28
    replace hb := hb.below b28
    replace h26 := h26.below b28
    replace h1 := h1.below b28
    replace h2 := h2.below b28
    replace hB := below_trans hB b28
    go_wp2_with fail
    with_reducible refine (same_v h26 h28 (by omega) rfl).mono ?_
    rintro e w29 ⟨rfl, b29⟩
    replace hT := hT.below b29
    replace ha := ha.below b29
    replace hb := hb.below b29
    replace h1 := h1.below b29
    replace h2 := h2.below b29
    replace hB := below_trans hB b29
    go_wp2_with fail
    with_reducible refine (same_n h1 ha (by omega)).mono ?_
    rintro e w30 ⟨rfl, b30⟩
    replace hT := hT.below b30
    replace hb := hb.below b30
    replace h2 := h2.below b30
    replace hB := below_trans hB b30
    go_wp2_with fail
    with_reducible refine (same_n h2 hb (by omega)).mono ?_
    rintro e w31 ⟨rfl, b31⟩
    replace hT := hT.below b31
    replace hB := below_trans hB b31
    go_wp2_with fail
    with_reducible refine (awake_any _ (Lib.hid hT)).mono ?_
    rintro e w32 ⟨rfl, b32⟩
    replace hB := below_trans hB b32
    go_wp2_with fail
    go_ret
    exact ⟨rfl, hB⟩
end Go.Proofs.YtjlfcnkndndgaaaDoor
