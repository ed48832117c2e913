/-
  The walk of tripwirelaw01.LimbsRings: it answers true. Written by wip/gen/rings.py.
-/
import Derived.Test.YtjlfcnkndndgaaaDoorKit
namespace Go.Proofs.YtjlfcnkndndgaaaDoor
open Go.RowKit Tw

theorem e1 (a b c : Nat) (h : b ≠ 0) : (b * c + a % b) / b = c := by rw [Nat.mul_add_div (Nat.pos_of_ne_zero h), Nat.div_eq_of_lt (Nat.mod_lt _ (Nat.pos_of_ne_zero h)), Nat.add_zero]
theorem e2 (a b c : Nat) (h : b ≠ 0) : (b * c + a % b) % b = a % b := by rw [Nat.mul_add_mod, Nat.mod_mod]

set_option maxRecDepth 100000 in
set_option maxHeartbeats 4000000 in
theorem rings_small (A B' C' : Option Addr) (ca cb cc la lb lc a b c : Nat) (w : World) (ha : V w A ca la a) (hb : V w B' cb lb b) (hc : V w C' cc lc c) (hb1 : lb ≤ 60) (ha1 : la ≤ 60) (hc1 : lc ≤ 60) (h0 : b ≠ 0) (hT : Hid (Tab w)) :
    Calls Tryd.prog 5 #[.slice A la ca, .slice B' lb cb, .slice C' lc cc] w (Yes w) := by
  go_enter Tryd.func5, Tryd.ntmps5
  go_wp2_with fail
  refine (add_v ha hb (by omega)).mono ?_
  rintro e w1 ⟨A1, c1, l1, rfl, h1, m1, b1⟩
  go_wp2_with fail
  refine (add_v (hb.below b1) (ha.below b1) (by omega)).mono ?_
  rintro e w2 ⟨A2, c2, l2, rfl, h2, m2, b2⟩
  go_wp2_with fail
  refine (same_v (h1.below b2) h2 (by omega) (Nat.add_comm _ _)).mono ?_
  rintro e w3 ⟨rfl, b3⟩
  go_wp2_with fail
  refine (add_v (ha.below (below_trans (below_trans b1 b2) b3)) (hb.below (below_trans (below_trans b1 b2) b3)) (by omega)).mono ?_
  rintro e w4 ⟨A4, c4, l4, rfl, h4, m4, b4⟩
  go_wp2_with fail
  refine (add_v h4.v (hc.below (below_trans (below_trans (below_trans b1 b2) b3) b4)) (by omega)).mono ?_
  rintro e w5 ⟨A5, c5, l5, rfl, h5, m5, b5⟩
  go_wp2_with fail
  refine (add_v (hb.below (below_trans (below_trans (below_trans (below_trans b1 b2) b3) b4) b5)) (hc.below (below_trans (below_trans (below_trans (below_trans b1 b2) b3) b4) b5)) (by omega)).mono ?_
  rintro e w6 ⟨A6, c6, l6, rfl, h6, m6, b6⟩
  go_wp2_with fail
  refine (add_v (ha.below (below_trans (below_trans (below_trans (below_trans (below_trans b1 b2) b3) b4) b5) b6)) h6.v (by omega)).mono ?_
  rintro e w7 ⟨A7, c7, l7, rfl, h7, m7, b7⟩
  go_wp2_with fail
  refine (same_v (h5.below (below_trans b6 b7)) h7 (by omega) (Nat.add_assoc _ _ _)).mono ?_
  rintro e w8 ⟨rfl, b8⟩
  go_wp2_with fail
  refine (add_v (ha.below (below_trans (below_trans (below_trans (below_trans (below_trans (below_trans (below_trans b1 b2) b3) b4) b5) b6) b7) b8)) (hb.below (below_trans (below_trans (below_trans (below_trans (below_trans (below_trans (below_trans b1 b2) b3) b4) b5) b6) b7) b8)) (by omega)).mono ?_
  rintro e w9 ⟨A9, c9, l9, rfl, h9, m9, b9⟩
  go_wp2_with fail
  refine (sub_v h9.v (hb.below (below_trans (below_trans (below_trans (below_trans (below_trans (below_trans (below_trans (below_trans b1 b2) b3) b4) b5) b6) b7) b8) b9)) (by omega)).mono ?_
  rintro e w10 ⟨A10, c10, l10, rfl, h10, m10, b10⟩
  go_wp2_with fail
  refine (trim_v (ha.below (below_trans (below_trans (below_trans (below_trans (below_trans (below_trans (below_trans (below_trans (below_trans b1 b2) b3) b4) b5) b6) b7) b8) b9) b10)) (by omega)).mono ?_
  rintro e w11 ⟨A11, c11, l11, rfl, h11, m11, b11⟩
  go_wp2_with fail
  refine (same_v (h10.below b11) h11 (by omega) (Nat.add_sub_cancel _ _)).mono ?_
  rintro e w12 ⟨rfl, b12⟩
  go_wp2_with fail
  refine (mul_v (ha.below (below_trans (below_trans (below_trans (below_trans (below_trans (below_trans (below_trans (below_trans (below_trans (below_trans (below_trans b1 b2) b3) b4) b5) b6) b7) b8) b9) b10) b11) b12)) (hb.below (below_trans (below_trans (below_trans (below_trans (below_trans (below_trans (below_trans (below_trans (below_trans (below_trans (below_trans b1 b2) b3) b4) b5) b6) b7) b8) b9) b10) b11) b12)) (by omega)).mono ?_
  rintro e w13 ⟨A13, c13, l13, rfl, h13, m13, b13⟩
  go_wp2_with fail
  refine (mul_v (hb.below (below_trans (below_trans (below_trans (below_trans (below_trans (below_trans (below_trans (below_trans (below_trans (below_trans (below_trans (below_trans b1 b2) b3) b4) b5) b6) b7) b8) b9) b10) b11) b12) b13)) (ha.below (below_trans (below_trans (below_trans (below_trans (below_trans (below_trans (below_trans (below_trans (below_trans (below_trans (below_trans (below_trans b1 b2) b3) b4) b5) b6) b7) b8) b9) b10) b11) b12) b13)) (by omega)).mono ?_
  rintro e w14 ⟨A14, c14, l14, rfl, h14, m14, b14⟩
  go_wp2_with fail
  refine (same_v (h13.below b14) h14 (by omega) (Nat.mul_comm _ _)).mono ?_
  rintro e w15 ⟨rfl, b15⟩
  go_wp2_with fail
  refine (mul_v (ha.below (below_trans (below_trans (below_trans (below_trans (below_trans (below_trans (below_trans (below_trans (below_trans (below_trans (below_trans (below_trans (below_trans (below_trans b1 b2) b3) b4) b5) b6) b7) b8) b9) b10) b11) b12) b13) b14) b15)) (hb.below (below_trans (below_trans (below_trans (below_trans (below_trans (below_trans (below_trans (below_trans (below_trans (below_trans (below_trans (below_trans (below_trans (below_trans b1 b2) b3) b4) b5) b6) b7) b8) b9) b10) b11) b12) b13) b14) b15)) (by omega)).mono ?_
  rintro e w16 ⟨A16, c16, l16, rfl, h16, m16, b16⟩
  go_wp2_with fail
  refine (mul_v h16.v (hc.below (below_trans (below_trans (below_trans (below_trans (below_trans (below_trans (below_trans (below_trans (below_trans (below_trans (below_trans (below_trans (below_trans (below_trans (below_trans b1 b2) b3) b4) b5) b6) b7) b8) b9) b10) b11) b12) b13) b14) b15) b16)) (by omega)).mono ?_
  rintro e w17 ⟨A17, c17, l17, rfl, h17, m17, b17⟩
  go_wp2_with fail
  refine (mul_v (hb.below (below_trans (below_trans (below_trans (below_trans (below_trans (below_trans (below_trans (below_trans (below_trans (below_trans (below_trans (below_trans (below_trans (below_trans (below_trans (below_trans b1 b2) b3) b4) b5) b6) b7) b8) b9) b10) b11) b12) b13) b14) b15) b16) b17)) (hc.below (below_trans (below_trans (below_trans (below_trans (below_trans (below_trans (below_trans (below_trans (below_trans (below_trans (below_trans (below_trans (below_trans (below_trans (below_trans (below_trans b1 b2) b3) b4) b5) b6) b7) b8) b9) b10) b11) b12) b13) b14) b15) b16) b17)) (by omega)).mono ?_
  rintro e w18 ⟨A18, c18, l18, rfl, h18, m18, b18⟩
  go_wp2_with fail
  refine (mul_v (ha.below (below_trans (below_trans (below_trans (below_trans (below_trans (below_trans (below_trans (below_trans (below_trans (below_trans (below_trans (below_trans (below_trans (below_trans (below_trans (below_trans (below_trans b1 b2) b3) b4) b5) b6) b7) b8) b9) b10) b11) b12) b13) b14) b15) b16) b17) b18)) h18.v (by omega)).mono ?_
  rintro e w19 ⟨A19, c19, l19, rfl, h19, m19, b19⟩
  go_wp2_with fail
  refine (same_v (h17.below (below_trans b18 b19)) h19 (by omega) (Nat.mul_assoc _ _ _)).mono ?_
  rintro e w20 ⟨rfl, b20⟩
  go_wp2_with fail
  refine (add_v (hb.below (below_trans (below_trans (below_trans (below_trans (below_trans (below_trans (below_trans (below_trans (below_trans (below_trans (below_trans (below_trans (below_trans (below_trans (below_trans (below_trans (below_trans (below_trans (below_trans b1 b2) b3) b4) b5) b6) b7) b8) b9) b10) b11) b12) b13) b14) b15) b16) b17) b18) b19) b20)) (hc.below (below_trans (below_trans (below_trans (below_trans (below_trans (below_trans (below_trans (below_trans (below_trans (below_trans (below_trans (below_trans (below_trans (below_trans (below_trans (below_trans (below_trans (below_trans (below_trans b1 b2) b3) b4) b5) b6) b7) b8) b9) b10) b11) b12) b13) b14) b15) b16) b17) b18) b19) b20)) (by omega)).mono ?_
  rintro e w21 ⟨A21, c21, l21, rfl, h21, m21, b21⟩
  go_wp2_with fail
  refine (mul_v (ha.below (below_trans (below_trans (below_trans (below_trans (below_trans (below_trans (below_trans (below_trans (below_trans (below_trans (below_trans (below_trans (below_trans (below_trans (below_trans (below_trans (below_trans (below_trans (below_trans (below_trans b1 b2) b3) b4) b5) b6) b7) b8) b9) b10) b11) b12) b13) b14) b15) b16) b17) b18) b19) b20) b21)) h21.v (by omega)).mono ?_
  rintro e w22 ⟨A22, c22, l22, rfl, h22, m22, b22⟩
  go_wp2_with fail
  refine (mul_v (ha.below (below_trans (below_trans (below_trans (below_trans (below_trans (below_trans (below_trans (below_trans (below_trans (below_trans (below_trans (below_trans (below_trans (below_trans (below_trans (below_trans (below_trans (below_trans (below_trans (below_trans (below_trans b1 b2) b3) b4) b5) b6) b7) b8) b9) b10) b11) b12) b13) b14) b15) b16) b17) b18) b19) b20) b21) b22)) (hb.below (below_trans (below_trans (below_trans (below_trans (below_trans (below_trans (below_trans (below_trans (below_trans (below_trans (below_trans (below_trans (below_trans (below_trans (below_trans (below_trans (below_trans (below_trans (below_trans (below_trans (below_trans b1 b2) b3) b4) b5) b6) b7) b8) b9) b10) b11) b12) b13) b14) b15) b16) b17) b18) b19) b20) b21) b22)) (by omega)).mono ?_
  rintro e w23 ⟨A23, c23, l23, rfl, h23, m23, b23⟩
  go_wp2_with fail
  refine (mul_v (ha.below (below_trans (below_trans (below_trans (below_trans (below_trans (below_trans (below_trans (below_trans (below_trans (below_trans (below_trans (below_trans (below_trans (below_trans (below_trans (below_trans (below_trans (below_trans (below_trans (below_trans (below_trans (below_trans b1 b2) b3) b4) b5) b6) b7) b8) b9) b10) b11) b12) b13) b14) b15) b16) b17) b18) b19) b20) b21) b22) b23)) (hc.below (below_trans (below_trans (below_trans (below_trans (below_trans (below_trans (below_trans (below_trans (below_trans (below_trans (below_trans (below_trans (below_trans (below_trans (below_trans (below_trans (below_trans (below_trans (below_trans (below_trans (below_trans (below_trans b1 b2) b3) b4) b5) b6) b7) b8) b9) b10) b11) b12) b13) b14) b15) b16) b17) b18) b19) b20) b21) b22) b23)) (by omega)).mono ?_
  rintro e w24 ⟨A24, c24, l24, rfl, h24, m24, b24⟩
  go_wp2_with fail
  refine (add_v (h23.below b24).v h24.v (by omega)).mono ?_
  rintro e w25 ⟨A25, c25, l25, rfl, h25, m25, b25⟩
  go_wp2_with fail
  refine (same_v (h22.below (below_trans (below_trans b23 b24) b25)) h25 (by omega) (Nat.mul_add _ _ _)).mono ?_
  rintro e w26 ⟨rfl, b26⟩
  go_wp2_with fail
  refine (divmod_v (ha.below (below_trans (below_trans (below_trans (below_trans (below_trans (below_trans (below_trans (below_trans (below_trans (below_trans (below_trans (below_trans (below_trans (below_trans (below_trans (below_trans (below_trans (below_trans (below_trans (below_trans (below_trans (below_trans (below_trans (below_trans (below_trans b1 b2) b3) b4) b5) b6) b7) b8) b9) b10) b11) b12) b13) b14) b15) b16) b17) b18) b19) b20) b21) b22) b23) b24) b25) b26)) (hb.below (below_trans (below_trans (below_trans (below_trans (below_trans (below_trans (below_trans (below_trans (below_trans (below_trans (below_trans (below_trans (below_trans (below_trans (below_trans (below_trans (below_trans (below_trans (below_trans (below_trans (below_trans (below_trans (below_trans (below_trans (below_trans b1 b2) b3) b4) b5) b6) b7) b8) b9) b10) b11) b12) b13) b14) b15) b16) b17) b18) b19) b20) b21) b22) b23) b24) b25) b26)) (by omega) h0).mono ?_
  rintro e w27 ⟨A27, c27, l27, A27r, c27r, l27r, rfl, h27, h27r, m27, m27r, b27⟩
  go_wp2_with fail
  refine (trim_v (hb.below (below_trans (below_trans (below_trans (below_trans (below_trans (below_trans (below_trans (below_trans (below_trans (below_trans (below_trans (below_trans (below_trans (below_trans (below_trans (below_trans (below_trans (below_trans (below_trans (below_trans (below_trans (below_trans (below_trans (below_trans (below_trans (below_trans b1 b2) b3) b4) b5) b6) b7) b8) b9) b10) b11) b12) b13) b14) b15) b16) b17) b18) b19) b20) b21) b22) b23) b24) b25) b26) b27)) (by omega)).mono ?_
  rintro e w28 ⟨A28, c28, l28, rfl, h28, m28, b28⟩
  have p1 : ((l28 : Int) == 0) = false := by have := h28.2; have hz : nl b ≠ 0 := fun e => h0 (nl_eq_zero.1 e); simp; omega
  go_wp2_with fail
  refine (mul_v (hb.below (below_trans (below_trans (below_trans (below_trans (below_trans (below_trans (below_trans (below_trans (below_trans (below_trans (below_trans (below_trans (below_trans (below_trans (below_trans (below_trans (below_trans (below_trans (below_trans (below_trans (below_trans (below_trans (below_trans (below_trans (below_trans (below_trans (below_trans b1 b2) b3) b4) b5) b6) b7) b8) b9) b10) b11) b12) b13) b14) b15) b16) b17) b18) b19) b20) b21) b22) b23) b24) b25) b26) b27) b28)) (hc.below (below_trans (below_trans (below_trans (below_trans (below_trans (below_trans (below_trans (below_trans (below_trans (below_trans (below_trans (below_trans (below_trans (below_trans (below_trans (below_trans (below_trans (below_trans (below_trans (below_trans (below_trans (below_trans (below_trans (below_trans (below_trans (below_trans (below_trans b1 b2) b3) b4) b5) b6) b7) b8) b9) b10) b11) b12) b13) b14) b15) b16) b17) b18) b19) b20) b21) b22) b23) b24) b25) b26) b27) b28)) (by omega)).mono ?_
  rintro e w29 ⟨A29, c29, l29, rfl, h29, m29, b29⟩
  go_wp2_with fail
  refine (add_v h29.v (h27r.below (below_trans b28 b29)).v (by omega)).mono ?_
  rintro e w30 ⟨A30, c30, l30, rfl, h30, m30, b30⟩
  go_wp2_with fail
  refine (divmod_v h30.v (hb.below (below_trans (below_trans (below_trans (below_trans (below_trans (below_trans (below_trans (below_trans (below_trans (below_trans (below_trans (below_trans (below_trans (below_trans (below_trans (below_trans (below_trans (below_trans (below_trans (below_trans (below_trans (below_trans (below_trans (below_trans (below_trans (below_trans (below_trans (below_trans (below_trans b1 b2) b3) b4) b5) b6) b7) b8) b9) b10) b11) b12) b13) b14) b15) b16) b17) b18) b19) b20) b21) b22) b23) b24) b25) b26) b27) b28) b29) b30)) (by omega) h0).mono ?_
  rintro e w31 ⟨A31, c31, l31, A31r, c31r, l31r, rfl, h31, h31r, m31, m31r, b31⟩
  go_wp2_with fail
  refine (mul_v (h27.below (below_trans (below_trans (below_trans b28 b29) b30) b31)).v (hb.below (below_trans (below_trans (below_trans (below_trans (below_trans (below_trans (below_trans (below_trans (below_trans (below_trans (below_trans (below_trans (below_trans (below_trans (below_trans (below_trans (below_trans (below_trans (below_trans (below_trans (below_trans (below_trans (below_trans (below_trans (below_trans (below_trans (below_trans (below_trans (below_trans (below_trans b1 b2) b3) b4) b5) b6) b7) b8) b9) b10) b11) b12) b13) b14) b15) b16) b17) b18) b19) b20) b21) b22) b23) b24) b25) b26) b27) b28) b29) b30) b31)) (by omega)).mono ?_
  rintro e w32 ⟨A32, c32, l32, rfl, h32, m32, b32⟩
  go_wp2_with fail
  refine (add_v h32.v (h27r.below (below_trans (below_trans (below_trans (below_trans b28 b29) b30) b31) b32)).v (by omega)).mono ?_
  rintro e w33 ⟨A33, c33, l33, rfl, h33, m33, b33⟩
  go_wp2_with fail
  refine (trim_v (ha.below (below_trans (below_trans (below_trans (below_trans (below_trans (below_trans (below_trans (below_trans (below_trans (below_trans (below_trans (below_trans (below_trans (below_trans (below_trans (below_trans (below_trans (below_trans (below_trans (below_trans (below_trans (below_trans (below_trans (below_trans (below_trans (below_trans (below_trans (below_trans (below_trans (below_trans (below_trans (below_trans b1 b2) b3) b4) b5) b6) b7) b8) b9) b10) b11) b12) b13) b14) b15) b16) b17) b18) b19) b20) b21) b22) b23) b24) b25) b26) b27) b28) b29) b30) b31) b32) b33)) (by omega)).mono ?_
  rintro e w34 ⟨A34, c34, l34, rfl, h34, m34, b34⟩
  go_wp2_with fail
  refine (same_v (h33.below b34) h34 (by omega) (Nat.div_add_mod' _ _)).mono ?_
  rintro e w35 ⟨rfl, b35⟩
  go_wp2_with fail
  refine (cmp_v (-1) (h27r.below (below_trans (below_trans (below_trans (below_trans (below_trans (below_trans (below_trans b28 b29) b30) b31) b32) b33) b34) b35)).v (hb.below (below_trans (below_trans (below_trans (below_trans (below_trans (below_trans (below_trans (below_trans (below_trans (below_trans (below_trans (below_trans (below_trans (below_trans (below_trans (below_trans (below_trans (below_trans (below_trans (below_trans (below_trans (below_trans (below_trans (below_trans (below_trans (below_trans (below_trans (below_trans (below_trans (below_trans (below_trans (below_trans (below_trans (below_trans b1 b2) b3) b4) b5) b6) b7) b8) b9) b10) b11) b12) b13) b14) b15) b16) b17) b18) b19) b20) b21) b22) b23) b24) b25) b26) b27) b28) b29) b30) b31) b32) b33) b34) b35)) (by omega) (cmpI_lt (by have := Nat.mod_lt a (Nat.pos_of_ne_zero h0); omega))).mono ?_
  rintro e w36 ⟨rfl, b36⟩
  go_wp2_with fail
  refine (trim_v (hc.below (below_trans (below_trans (below_trans (below_trans (below_trans (below_trans (below_trans (below_trans (below_trans (below_trans (below_trans (below_trans (below_trans (below_trans (below_trans (below_trans (below_trans (below_trans (below_trans (below_trans (below_trans (below_trans (below_trans (below_trans (below_trans (below_trans (below_trans (below_trans (below_trans (below_trans (below_trans (below_trans (below_trans (below_trans (below_trans b1 b2) b3) b4) b5) b6) b7) b8) b9) b10) b11) b12) b13) b14) b15) b16) b17) b18) b19) b20) b21) b22) b23) b24) b25) b26) b27) b28) b29) b30) b31) b32) b33) b34) b35) b36)) (by omega)).mono ?_
  rintro e w37 ⟨A37, c37, l37, rfl, h37, m37, b37⟩
  go_wp2_with fail
  refine (same_v (h31.below (below_trans (below_trans (below_trans (below_trans (below_trans b32 b33) b34) b35) b36) b37)) h37 (by omega) (e1 a b c h0)).mono ?_
  rintro e w38 ⟨rfl, b38⟩
  go_wp2_with fail
  refine (same_v (h31r.below (below_trans (below_trans (below_trans (below_trans (below_trans (below_trans b32 b33) b34) b35) b36) b37) b38)) (h27r.below (below_trans (below_trans (below_trans (below_trans (below_trans (below_trans (below_trans (below_trans (below_trans (below_trans b28 b29) b30) b31) b32) b33) b34) b35) b36) b37) b38)) (by omega) (e2 a b c h0)).mono ?_
  rintro e w39 ⟨rfl, b39⟩
  go_wp2_with fail
  refine (awake_any _ (hT.out.below (below_trans (below_trans (below_trans (below_trans (below_trans (below_trans (below_trans (below_trans (below_trans (below_trans (below_trans (below_trans (below_trans (below_trans (below_trans (below_trans (below_trans (below_trans (below_trans (below_trans (below_trans (below_trans (below_trans (below_trans (below_trans (below_trans (below_trans (below_trans (below_trans (below_trans (below_trans (below_trans (below_trans (below_trans (below_trans (below_trans (below_trans (below_trans b1 b2) b3) b4) b5) b6) b7) b8) b9) b10) b11) b12) b13) b14) b15) b16) b17) b18) b19) b20) b21) b22) b23) b24) b25) b26) b27) b28) b29) b30) b31) b32) b33) b34) b35) b36) b37) b38) b39))).mono ?_
  rintro e w40 ⟨rfl, b40⟩
  go_wp2_with fail
  go_ret
  exact ⟨rfl, (below_trans (below_trans (below_trans (below_trans (below_trans (below_trans (below_trans (below_trans (below_trans (below_trans (below_trans (below_trans (below_trans (below_trans (below_trans (below_trans (below_trans (below_trans (below_trans (below_trans (below_trans (below_trans (below_trans (below_trans (below_trans (below_trans (below_trans (below_trans (below_trans (below_trans (below_trans (below_trans (below_trans (below_trans (below_trans (below_trans (below_trans (below_trans (below_trans b1 b2) b3) b4) b5) b6) b7) b8) b9) b10) b11) b12) b13) b14) b15) b16) b17) b18) b19) b20) b21) b22) b23) b24) b25) b26) b27) b28) b29) b30) b31) b32) b33) b34) b35) b36) b37) b38) b39) b40)⟩

set_option maxRecDepth 100000 in
set_option maxHeartbeats 4000000 in
theorem rings_zero (A B' C' : Option Addr) (ca cb cc la lb lc a c : Nat) (w : World) (ha : V w A ca la a) (hb : V w B' cb lb 0) (hc : V w C' cc lc c) (hb1 : lb ≤ 60) (ha1 : la ≤ 60) (hc1 : lc ≤ 60) (hT : Hid (Tab w)) :
    Calls Tryd.prog 5 #[.slice A la ca, .slice B' lb cb, .slice C' lc cc] w (Yes w) := by
  go_enter Tryd.func5, Tryd.ntmps5
  go_wp2_with fail
  refine (add_v ha hb (by omega)).mono ?_
  rintro e w1 ⟨A1, c1, l1, rfl, h1, m1, b1⟩
  go_wp2_with fail
  refine (add_v (hb.below b1) (ha.below b1) (by omega)).mono ?_
  rintro e w2 ⟨A2, c2, l2, rfl, h2, m2, b2⟩
  go_wp2_with fail
  refine (same_v (h1.below b2) h2 (by omega) (Nat.add_comm _ _)).mono ?_
  rintro e w3 ⟨rfl, b3⟩
  go_wp2_with fail
  refine (add_v (ha.below (below_trans (below_trans b1 b2) b3)) (hb.below (below_trans (below_trans b1 b2) b3)) (by omega)).mono ?_
  rintro e w4 ⟨A4, c4, l4, rfl, h4, m4, b4⟩
  go_wp2_with fail
  refine (add_v h4.v (hc.below (below_trans (below_trans (below_trans b1 b2) b3) b4)) (by omega)).mono ?_
  rintro e w5 ⟨A5, c5, l5, rfl, h5, m5, b5⟩
  go_wp2_with fail
  refine (add_v (hb.below (below_trans (below_trans (below_trans (below_trans b1 b2) b3) b4) b5)) (hc.below (below_trans (below_trans (below_trans (below_trans b1 b2) b3) b4) b5)) (by omega)).mono ?_
  rintro e w6 ⟨A6, c6, l6, rfl, h6, m6, b6⟩
  go_wp2_with fail
  refine (add_v (ha.below (below_trans (below_trans (below_trans (below_trans (below_trans b1 b2) b3) b4) b5) b6)) h6.v (by omega)).mono ?_
  rintro e w7 ⟨A7, c7, l7, rfl, h7, m7, b7⟩
  go_wp2_with fail
  refine (same_v (h5.below (below_trans b6 b7)) h7 (by omega) (Nat.add_assoc _ _ _)).mono ?_
  rintro e w8 ⟨rfl, b8⟩
  go_wp2_with fail
  refine (add_v (ha.below (below_trans (below_trans (below_trans (below_trans (below_trans (below_trans (below_trans b1 b2) b3) b4) b5) b6) b7) b8)) (hb.below (below_trans (below_trans (below_trans (below_trans (below_trans (below_trans (below_trans b1 b2) b3) b4) b5) b6) b7) b8)) (by omega)).mono ?_
  rintro e w9 ⟨A9, c9, l9, rfl, h9, m9, b9⟩
  go_wp2_with fail
  refine (sub_v h9.v (hb.below (below_trans (below_trans (below_trans (below_trans (below_trans (below_trans (below_trans (below_trans b1 b2) b3) b4) b5) b6) b7) b8) b9)) (by omega)).mono ?_
  rintro e w10 ⟨A10, c10, l10, rfl, h10, m10, b10⟩
  go_wp2_with fail
  refine (trim_v (ha.below (below_trans (below_trans (below_trans (below_trans (below_trans (below_trans (below_trans (below_trans (below_trans b1 b2) b3) b4) b5) b6) b7) b8) b9) b10)) (by omega)).mono ?_
  rintro e w11 ⟨A11, c11, l11, rfl, h11, m11, b11⟩
  go_wp2_with fail
  refine (same_v (h10.below b11) h11 (by omega) (Nat.add_sub_cancel _ _)).mono ?_
  rintro e w12 ⟨rfl, b12⟩
  go_wp2_with fail
  refine (mul_v (ha.below (below_trans (below_trans (below_trans (below_trans (below_trans (below_trans (below_trans (below_trans (below_trans (below_trans (below_trans b1 b2) b3) b4) b5) b6) b7) b8) b9) b10) b11) b12)) (hb.below (below_trans (below_trans (below_trans (below_trans (below_trans (below_trans (below_trans (below_trans (below_trans (below_trans (below_trans b1 b2) b3) b4) b5) b6) b7) b8) b9) b10) b11) b12)) (by omega)).mono ?_
  rintro e w13 ⟨A13, c13, l13, rfl, h13, m13, b13⟩
  go_wp2_with fail
  refine (mul_v (hb.below (below_trans (below_trans (below_trans (below_trans (below_trans (below_trans (below_trans (below_trans (below_trans (below_trans (below_trans (below_trans b1 b2) b3) b4) b5) b6) b7) b8) b9) b10) b11) b12) b13)) (ha.below (below_trans (below_trans (below_trans (below_trans (below_trans (below_trans (below_trans (below_trans (below_trans (below_trans (below_trans (below_trans b1 b2) b3) b4) b5) b6) b7) b8) b9) b10) b11) b12) b13)) (by omega)).mono ?_
  rintro e w14 ⟨A14, c14, l14, rfl, h14, m14, b14⟩
  go_wp2_with fail
  refine (same_v (h13.below b14) h14 (by omega) (Nat.mul_comm _ _)).mono ?_
  rintro e w15 ⟨rfl, b15⟩
  go_wp2_with fail
  refine (mul_v (ha.below (below_trans (below_trans (below_trans (below_trans (below_trans (below_trans (below_trans (below_trans (below_trans (below_trans (below_trans (below_trans (below_trans (below_trans b1 b2) b3) b4) b5) b6) b7) b8) b9) b10) b11) b12) b13) b14) b15)) (hb.below (below_trans (below_trans (below_trans (below_trans (below_trans (below_trans (below_trans (below_trans (below_trans (below_trans (below_trans (below_trans (below_trans (below_trans b1 b2) b3) b4) b5) b6) b7) b8) b9) b10) b11) b12) b13) b14) b15)) (by omega)).mono ?_
  rintro e w16 ⟨A16, c16, l16, rfl, h16, m16, b16⟩
  go_wp2_with fail
  refine (mul_v h16.v (hc.below (below_trans (below_trans (below_trans (below_trans (below_trans (below_trans (below_trans (below_trans (below_trans (below_trans (below_trans (below_trans (below_trans (below_trans (below_trans b1 b2) b3) b4) b5) b6) b7) b8) b9) b10) b11) b12) b13) b14) b15) b16)) (by omega)).mono ?_
  rintro e w17 ⟨A17, c17, l17, rfl, h17, m17, b17⟩
  go_wp2_with fail
  refine (mul_v (hb.below (below_trans (below_trans (below_trans (below_trans (below_trans (below_trans (below_trans (below_trans (below_trans (below_trans (below_trans (below_trans (below_trans (below_trans (below_trans (below_trans b1 b2) b3) b4) b5) b6) b7) b8) b9) b10) b11) b12) b13) b14) b15) b16) b17)) (hc.below (below_trans (below_trans (below_trans (below_trans (below_trans (below_trans (below_trans (below_trans (below_trans (below_trans (below_trans (below_trans (below_trans (below_trans (below_trans (below_trans b1 b2) b3) b4) b5) b6) b7) b8) b9) b10) b11) b12) b13) b14) b15) b16) b17)) (by omega)).mono ?_
  rintro e w18 ⟨A18, c18, l18, rfl, h18, m18, b18⟩
  go_wp2_with fail
  refine (mul_v (ha.below (below_trans (below_trans (below_trans (below_trans (below_trans (below_trans (below_trans (below_trans (below_trans (below_trans (below_trans (below_trans (below_trans (below_trans (below_trans (below_trans (below_trans b1 b2) b3) b4) b5) b6) b7) b8) b9) b10) b11) b12) b13) b14) b15) b16) b17) b18)) h18.v (by omega)).mono ?_
  rintro e w19 ⟨A19, c19, l19, rfl, h19, m19, b19⟩
  go_wp2_with fail
  refine (same_v (h17.below (below_trans b18 b19)) h19 (by omega) (Nat.mul_assoc _ _ _)).mono ?_
  rintro e w20 ⟨rfl, b20⟩
  go_wp2_with fail
  refine (add_v (hb.below (below_trans (below_trans (below_trans (below_trans (below_trans (below_trans (below_trans (below_trans (below_trans (below_trans (below_trans (below_trans (below_trans (below_trans (below_trans (below_trans (below_trans (below_trans (below_trans b1 b2) b3) b4) b5) b6) b7) b8) b9) b10) b11) b12) b13) b14) b15) b16) b17) b18) b19) b20)) (hc.below (below_trans (below_trans (below_trans (below_trans (below_trans (below_trans (below_trans (below_trans (below_trans (below_trans (below_trans (below_trans (below_trans (below_trans (below_trans (below_trans (below_trans (below_trans (below_trans b1 b2) b3) b4) b5) b6) b7) b8) b9) b10) b11) b12) b13) b14) b15) b16) b17) b18) b19) b20)) (by omega)).mono ?_
  rintro e w21 ⟨A21, c21, l21, rfl, h21, m21, b21⟩
  go_wp2_with fail
  refine (mul_v (ha.below (below_trans (below_trans (below_trans (below_trans (below_trans (below_trans (below_trans (below_trans (below_trans (below_trans (below_trans (below_trans (below_trans (below_trans (below_trans (below_trans (below_trans (below_trans (below_trans (below_trans b1 b2) b3) b4) b5) b6) b7) b8) b9) b10) b11) b12) b13) b14) b15) b16) b17) b18) b19) b20) b21)) h21.v (by omega)).mono ?_
  rintro e w22 ⟨A22, c22, l22, rfl, h22, m22, b22⟩
  go_wp2_with fail
  refine (mul_v (ha.below (below_trans (below_trans (below_trans (below_trans (below_trans (below_trans (below_trans (below_trans (below_trans (below_trans (below_trans (below_trans (below_trans (below_trans (below_trans (below_trans (below_trans (below_trans (below_trans (below_trans (below_trans b1 b2) b3) b4) b5) b6) b7) b8) b9) b10) b11) b12) b13) b14) b15) b16) b17) b18) b19) b20) b21) b22)) (hb.below (below_trans (below_trans (below_trans (below_trans (below_trans (below_trans (below_trans (below_trans (below_trans (below_trans (below_trans (below_trans (below_trans (below_trans (below_trans (below_trans (below_trans (below_trans (below_trans (below_trans (below_trans b1 b2) b3) b4) b5) b6) b7) b8) b9) b10) b11) b12) b13) b14) b15) b16) b17) b18) b19) b20) b21) b22)) (by omega)).mono ?_
  rintro e w23 ⟨A23, c23, l23, rfl, h23, m23, b23⟩
  go_wp2_with fail
  refine (mul_v (ha.below (below_trans (below_trans (below_trans (below_trans (below_trans (below_trans (below_trans (below_trans (below_trans (below_trans (below_trans (below_trans (below_trans (below_trans (below_trans (below_trans (below_trans (below_trans (below_trans (below_trans (below_trans (below_trans b1 b2) b3) b4) b5) b6) b7) b8) b9) b10) b11) b12) b13) b14) b15) b16) b17) b18) b19) b20) b21) b22) b23)) (hc.below (below_trans (below_trans (below_trans (below_trans (below_trans (below_trans (below_trans (below_trans (below_trans (below_trans (below_trans (below_trans (below_trans (below_trans (below_trans (below_trans (below_trans (below_trans (below_trans (below_trans (below_trans (below_trans b1 b2) b3) b4) b5) b6) b7) b8) b9) b10) b11) b12) b13) b14) b15) b16) b17) b18) b19) b20) b21) b22) b23)) (by omega)).mono ?_
  rintro e w24 ⟨A24, c24, l24, rfl, h24, m24, b24⟩
  go_wp2_with fail
  refine (add_v (h23.below b24).v h24.v (by omega)).mono ?_
  rintro e w25 ⟨A25, c25, l25, rfl, h25, m25, b25⟩
  go_wp2_with fail
  refine (same_v (h22.below (below_trans (below_trans b23 b24) b25)) h25 (by omega) (Nat.mul_add _ _ _)).mono ?_
  rintro e w26 ⟨rfl, b26⟩
  go_wp2_with fail
  refine (divmod_v0 (ha.below (below_trans (below_trans (below_trans (below_trans (below_trans (below_trans (below_trans (below_trans (below_trans (below_trans (below_trans (below_trans (below_trans (below_trans (below_trans (below_trans (below_trans (below_trans (below_trans (below_trans (below_trans (below_trans (below_trans (below_trans (below_trans b1 b2) b3) b4) b5) b6) b7) b8) b9) b10) b11) b12) b13) b14) b15) b16) b17) b18) b19) b20) b21) b22) b23) b24) b25) b26)) (hb.below (below_trans (below_trans (below_trans (below_trans (below_trans (below_trans (below_trans (below_trans (below_trans (below_trans (below_trans (below_trans (below_trans (below_trans (below_trans (below_trans (below_trans (below_trans (below_trans (below_trans (below_trans (below_trans (below_trans (below_trans (below_trans b1 b2) b3) b4) b5) b6) b7) b8) b9) b10) b11) b12) b13) b14) b15) b16) b17) b18) b19) b20) b21) b22) b23) b24) b25) b26)) (by omega)).mono ?_
  rintro e w27 ⟨A27, c27, l27, A27r, c27r, l27r, rfl, h27, h27r, m27, m27r, b27⟩
  go_wp2_with fail
  refine (trim_v (hb.below (below_trans (below_trans (below_trans (below_trans (below_trans (below_trans (below_trans (below_trans (below_trans (below_trans (below_trans (below_trans (below_trans (below_trans (below_trans (below_trans (below_trans (below_trans (below_trans (below_trans (below_trans (below_trans (below_trans (below_trans (below_trans (below_trans b1 b2) b3) b4) b5) b6) b7) b8) b9) b10) b11) b12) b13) b14) b15) b16) b17) b18) b19) b20) b21) b22) b23) b24) b25) b26) b27)) (by omega)).mono ?_
  rintro e w28 ⟨A28, c28, l28, rfl, h28, m28, b28⟩
  have p1 : ((l28 : Int) == 0) = true := by have := h28.2; rw [nl_zero] at this; simp; omega
  have p2 : ((l27 : Int) == 0) = true := by simp; omega
  have p3 : ((l27r : Int) == 0) = true := by simp; omega
  go_wp2_with fail
  refine (awake_any _ (hT.out.below (below_trans (below_trans (below_trans (below_trans (below_trans (below_trans (below_trans (below_trans (below_trans (below_trans (below_trans (below_trans (below_trans (below_trans (below_trans (below_trans (below_trans (below_trans (below_trans (below_trans (below_trans (below_trans (below_trans (below_trans (below_trans (below_trans (below_trans b1 b2) b3) b4) b5) b6) b7) b8) b9) b10) b11) b12) b13) b14) b15) b16) b17) b18) b19) b20) b21) b22) b23) b24) b25) b26) b27) b28))).mono ?_
  rintro e w29 ⟨rfl, b29⟩
  go_wp2_with fail
  go_ret
  exact ⟨rfl, (below_trans (below_trans (below_trans (below_trans (below_trans (below_trans (below_trans (below_trans (below_trans (below_trans (below_trans (below_trans (below_trans (below_trans (below_trans (below_trans (below_trans (below_trans (below_trans (below_trans (below_trans (below_trans (below_trans (below_trans (below_trans (below_trans (below_trans (below_trans b1 b2) b3) b4) b5) b6) b7) b8) b9) b10) b11) b12) b13) b14) b15) b16) b17) b18) b19) b20) b21) b22) b23) b24) b25) b26) b27) b28) b29)⟩
end Go.Proofs.YtjlfcnkndndgaaaDoor
