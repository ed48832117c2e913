/-
  tripwirelaw01.LimbsNumbers: the walk and the card. Written by wip/gen/numbers.py.
-/
import Derived.Test.YtjlfcnkndndgaaaDoorPick
namespace Go.Proofs.YtjlfcnkndndgaaaDoor
open Go.RowKit Tw

theorem lits2 (W : World) (xs ys : List Nat) (n m : Nat) (hx : Ok xs) (hy : Ok ys) (hn : xs.length = n) (hm : ys.length = m) : V ((W.alloc (L xs)).alloc (L ys)) (some ⟨W.heap.size, 0, none⟩) n n (val xs) ∧ V ((W.alloc (L xs)).alloc (L ys)) (some ⟨W.heap.size + 1, 0, none⟩) m m (val ys) ∧ Below W.heap.size W ((W.alloc (L xs)).alloc (L ys)) := by
  subst hn hm
  exact two_lits W xs ys hx hy
theorem nil_v (w : World) : V w none 0 0 0 := ⟨[], Nums.nil _ _ _, rfl, rfl⟩
theorem nil_c (w : World) : C w none 0 0 0 := ⟨Nums.nil _ _ _, rfl⟩
theorem val_one : val [1] = 1 := rfl
theorem nbits_a : (nbits (val [0, 1]) : Int) = 65 := by rw [← nbits_of (m := 64) (by decide) (by decide) (by decide)]; rfl
theorem nbits_b : (nbits 0 : Int) = 0 := by unfold nbits; simp
theorem nbits_c : (nbits (val [18446744073709551615]) : Int) = 64 := by rw [← nbits_of (m := 63) (by decide) (by decide) (by decide)]; rfl
theorem nl_pow2 (k : Nat) : nl (2 ^ (64 * k)) = k + 1 := by
  have h1 : nl (2 ^ (64 * k)) ≤ k + 1 := nl_le_of_lt (by rw [← pow_B]; exact Nat.pow_lt_pow_right (by omega) (by omega))
  have h2 : ¬ nl (2 ^ (64 * k)) ≤ k := fun h => by
    have := nl_le_iff.1 h
    rw [← pow_B] at this
    omega
  omega
theorem shl_none {w : World} {A : Option Addr} {c l a : Nat} {z : Int} (h : V w A c l a) (hl : l ≤ 800000) (hz : 1048576 < z) : Calls Tryd.prog 22 #[.slice A l c, .int .i64 z] w (Tells w 0 (l + 16385)) := by
  have h1 := shl_v z h hl
  rw [shlv_big hz] at h1
  exact h1

set_option maxRecDepth 100000 in
set_option maxHeartbeats 8000000 in
theorem numbers_at (w : World) (m n : Nat) (hm1 : m ≤ 1048576) (hm2 : 1048576 ≤ m) (hn : Hid (n = 2 ^ m)) (hl : Hid (nl n = 16385)) (hT : Hid (Tab w)) : Calls Tryd.prog 7 #[] w (Yes w) := by
  go_enter Tryd.func7, Tryd.ntmps7
  go_wp2_with fail
  have z1 := lit_v w [1, 0, 0] 3 (val [1, 0, 0]) (ok_dec (by decide)) rfl rfl
  refine (trim_v z1 (by omega)).mono ?_
  rintro e w2 ⟨A2, c2, l2, rfl, h2, m2, b2⟩
  go_wp2_with fail
  have z3 := one_lit w2 [1] (val [1]) (ok_dec (by decide)) (.inr (by decide)) rfl
  refine (is_v (h2.below (lit_below w2 (L [1]))) z3 (by omega) (by decide)).mono ?_
  rintro e w3 ⟨rfl, b3⟩
  go_wp2_with fail
  have z4 := lit_v w3 [0] 1 (val [0]) (ok_dec (by decide)) rfl rfl
  refine (trim_v z4 (by omega)).mono ?_
  rintro e w5 ⟨A5, c5, l5, rfl, h5, m5, b5⟩
  go_wp2_with fail
  refine (is_v h5 (nil_c w5) (by omega) (by decide)).mono ?_
  rintro e w6 ⟨rfl, b6⟩
  go_wp2_with fail
  obtain ⟨x7, y7, t7⟩ := lits2 w6 [5, 0] [5] 2 1 (ok_dec (by decide)) (ok_dec (by decide)) rfl rfl
  refine (cmp_v 0 x7 y7 (by omega) (by decide)).mono ?_
  rintro e w8 ⟨rfl, b8⟩
  go_wp2_with fail
  obtain ⟨x9, y9, t9⟩ := lits2 w8 [0, 1] [18446744073709551615] 2 1 (ok_dec (by decide)) (ok_dec (by decide)) rfl rfl
  refine (cmp_v 1 x9 y9 (by omega) (by decide)).mono ?_
  rintro e w10 ⟨rfl, b10⟩
  go_wp2_with fail
  have z12 := lit_v w10 [1] 1 (val [1]) (ok_dec (by decide)) rfl rfl
  have n13 := nil_v (w10.alloc (L [1]))
  refine (cmp_v (-1) n13 z12 (by omega) (by decide)).mono ?_
  rintro e w14 ⟨rfl, b14⟩
  go_wp2_with fail
  obtain ⟨x15, y15, t15⟩ := lits2 w14 [1] [2] 1 1 (ok_dec (by decide)) (ok_dec (by decide)) rfl rfl
  refine (sub_v x15 y15 (by omega)).mono ?_
  rintro e w16 ⟨A16, c16, l16, rfl, h16, m16, b16⟩
  go_wp2_with fail
  refine (is_v h16 (nil_c w16) (by omega) (by decide)).mono ?_
  rintro e w17 ⟨rfl, b17⟩
  go_wp2_with fail
  obtain ⟨x18, y18, t18⟩ := lits2 w17 [0, 1] [1, 0] 2 2 (ok_dec (by decide)) (ok_dec (by decide)) rfl rfl
  refine (sub_v x18 y18 (by omega)).mono ?_
  rintro e w19 ⟨A19, c19, l19, rfl, h19, m19, b19⟩
  go_wp2_with fail
  have z20 := one_lit w19 [18446744073709551615] (val [18446744073709551615]) (ok_dec (by decide)) (.inr (by decide)) rfl
  refine (is_v (h19.below (lit_below w19 (L [18446744073709551615]))) z20 (by omega) (by decide)).mono ?_
  rintro e w20 ⟨rfl, b20⟩
  go_wp2_with fail
  have z21 := lit_v w20 [1] 1 (val [1]) (ok_dec (by decide)) rfl rfl
  refine (shl_p 64 (val [0, 1]) z21 (by omega) (by decide) (by decide) (by decide)).mono ?_
  rintro e w22 ⟨A22, c22, l22, rfl, h22, m22, b22⟩
  go_wp2_with fail
  have z23 := one_lit w22 [0, 1] (val [0, 1]) (ok_dec (by decide)) (.inr (by decide)) rfl
  refine (is_v (h22.below (lit_below w22 (L [0, 1]))) z23 (by omega) rfl).mono ?_
  rintro e w23 ⟨rfl, b23⟩
  go_wp2_with fail
  have z24 := lit_v w23 [0, 1] 2 (val [0, 1]) (ok_dec (by decide)) rfl rfl
  refine (shr_p 1 (val [9223372036854775808]) z24 (by omega) (by decide) (by decide) (by decide)).mono ?_
  rintro e w25 ⟨A25, c25, l25, rfl, h25, m25, b25⟩
  go_wp2_with fail
  have z26 := one_lit w25 [9223372036854775808] (val [9223372036854775808]) (ok_dec (by decide)) (.inr (by decide)) rfl
  refine (is_v (h25.below (lit_below w25 (L [9223372036854775808]))) z26 (by omega) rfl).mono ?_
  rintro e w26 ⟨rfl, b26⟩
  go_wp2_with fail
  have z27 := lit_v w26 [3] 1 (val [3]) (ok_dec (by decide)) rfl rfl
  refine (shl_p 63 (val [9223372036854775808, 1]) z27 (by omega) (by decide) (by decide) (by decide)).mono ?_
  rintro e w28 ⟨A28, c28, l28, rfl, h28, m28, b28⟩
  go_wp2_with fail
  have z29 := one_lit w28 [9223372036854775808, 1] (val [9223372036854775808, 1]) (ok_dec (by decide)) (.inr (by decide)) rfl
  refine (is_v (h28.below (lit_below w28 (L [9223372036854775808, 1]))) z29 (by omega) rfl).mono ?_
  rintro e w29 ⟨rfl, b29⟩
  go_wp2_with fail
  have z30 := lit_v w29 [1] 1 (val [1]) (ok_dec (by decide)) rfl rfl
  refine (shl_none z30 (by omega) (by decide)).mono ?_
  rintro e w31 ⟨A31, c31, l31, rfl, h31, m31, b31⟩
  go_wp2_with fail
  refine (is_v h31 (nil_c w31) (by omega) (by decide)).mono ?_
  rintro e w32 ⟨rfl, b32⟩
  go_wp2_with fail
  have z33 := lit_v w32 [1] 1 (val [1]) (ok_dec (by decide)) rfl rfl
  refine (shl_p m n z33 (by omega) (by omega) (by omega) (by rw [hn.out, val_one, Nat.one_mul])).mono ?_
  rintro e w34 ⟨A34, c34, l34, rfl, h34, m34, b34⟩
  have p1 : ((l34 : Int) == 16385) = true := by have := h34.2; rw [hl.out] at this; simp; omega
  go_wp2_with fail
  have z35 := lit_v w34 [7, 0] 2 (val [7, 0]) (ok_dec (by decide)) rfl rfl
  refine (shl_p 0 (val [7]) z35 (by omega) (by decide) (by decide) (by decide)).mono ?_
  rintro e w36 ⟨A36, c36, l36, rfl, h36, m36, b36⟩
  go_wp2_with fail
  have z37 := one_lit w36 [7] (val [7]) (ok_dec (by decide)) (.inr (by decide)) rfl
  refine (is_v (h36.below (lit_below w36 (L [7]))) z37 (by omega) rfl).mono ?_
  rintro e w37 ⟨rfl, b37⟩
  go_wp2_with fail
  have z38 := lit_v w37 [7] 1 (val [7]) (ok_dec (by decide)) rfl rfl
  refine (shr_p 3 0 z38 (by omega) (by decide) (by decide) (by decide)).mono ?_
  rintro e w39 ⟨A39, c39, l39, rfl, h39, m39, b39⟩
  go_wp2_with fail
  refine (is_v h39 (nil_c w39) (by omega) (by decide)).mono ?_
  rintro e w40 ⟨rfl, b40⟩
  go_wp2_with fail
  have z41 := lit_v w40 [0, 1] 2 (val [0, 1]) (ok_dec (by decide)) rfl rfl
  refine (bits_p 65 z41 (by omega) nbits_a).mono ?_
  rintro e w42 ⟨rfl, b42⟩
  go_wp2_with fail
  have n43 := nil_v w42
  refine (bits_p 0 n43 (by omega) nbits_b).mono ?_
  rintro e w44 ⟨rfl, b44⟩
  go_wp2_with fail
  have z45 := lit_v w44 [18446744073709551615] 1 (val [18446744073709551615]) (ok_dec (by decide)) rfl rfl
  refine (bits_p 64 z45 (by omega) nbits_c).mono ?_
  rintro e w46 ⟨rfl, b46⟩
  go_wp2_with fail
  have z47 := lit_v w46 [5] 1 (val [5]) (ok_dec (by decide)) rfl rfl
  have n48 := nil_v (w46.alloc (L [5]))
  refine (divmod_v0 z47 n48 (by omega)).mono ?_
  rintro e w49 ⟨A49, c49, l49, A49r, c49r, l49r, rfl, h49, h49r, m49, m49r, b49⟩
  go_wp2_with fail
  obtain ⟨x50, y50, t50⟩ := lits2 w49 [0, 0, 9223372036854775808] [18446744073709551615, 9223372036854775808] 3 2 (ok_dec (by decide)) (ok_dec (by decide)) rfl rfl
  refine (divmod_v x50 y50 (by omega) (by decide)).mono ?_
  rintro e w51 ⟨A51, c51, l51, A51r, c51r, l51r, rfl, h51, h51r, m51, m51r, b51⟩
  go_wp2_with fail
  obtain ⟨x52, y52, t52⟩ := lits2 w51 [3, 0, 9223372036854775808] [1, 0, 2305843009213693952] 3 3 (ok_dec (by decide)) (ok_dec (by decide)) rfl rfl
  refine (divmod_v x52 y52 (by omega) (by decide)).mono ?_
  rintro e w53 ⟨A53, c53, l53, A53r, c53r, l53r, rfl, h53, h53r, m53, m53r, b53⟩
  go_wp2_with fail
  obtain ⟨x54, y54, t54⟩ := lits2 w53 [0, 18446744073709551614, 9223372036854775808] [18446744073709551615, 9223372036854775808] 3 2 (ok_dec (by decide)) (ok_dec (by decide)) rfl rfl
  refine (divmod_v x54 y54 (by omega) (by decide)).mono ?_
  rintro e w55 ⟨A55, c55, l55, A55r, c55r, l55r, rfl, h55, h55r, m55, m55r, b55⟩
  go_wp2_with fail
  refine (is_v (h49.below (below_trans (below_trans (below_trans (below_trans (below_trans t50 b51) t52) b53) t54) b55)) (nil_c w55) (by omega) (by decide)).mono ?_
  rintro e w56 ⟨rfl, b56⟩
  go_wp2_with fail
  refine (is_v (h49r.below (below_trans (below_trans (below_trans (below_trans (below_trans (below_trans t50 b51) t52) b53) t54) b55) b56)) (nil_c w56) (by omega) (by decide)).mono ?_
  rintro e w57 ⟨rfl, b57⟩
  go_wp2_with fail
  have z58 := lit_v w57 [18446744073709551615, 9223372036854775808] 2 (val [18446744073709551615, 9223372036854775808]) (ok_dec (by decide)) rfl rfl
  refine (mul_v (h51.below (below_trans (below_trans (below_trans (below_trans (below_trans (below_trans t52 b53) t54) b55) b56) b57) (lit_below w57 (L [18446744073709551615, 9223372036854775808])))).v z58 (by omega)).mono ?_
  rintro e w59 ⟨A59, c59, l59, rfl, h59, m59, b59⟩
  go_wp2_with fail
  refine (add_v h59.v (h51r.below (below_trans (below_trans (below_trans (below_trans (below_trans (below_trans (below_trans t52 b53) t54) b55) b56) b57) (lit_below w57 (L [18446744073709551615, 9223372036854775808]))) b59)).v (by omega)).mono ?_
  rintro e w60 ⟨A60, c60, l60, rfl, h60, m60, b60⟩
  go_wp2_with fail
  have z61 := one_lit w60 [0, 0, 9223372036854775808] (val [0, 0, 9223372036854775808]) (ok_dec (by decide)) (.inr (by decide)) rfl
  refine (is_v (h60.below (lit_below w60 (L [0, 0, 9223372036854775808]))) z61 (by omega) (by decide)).mono ?_
  rintro e w61 ⟨rfl, b61⟩
  go_wp2_with fail
  have z62 := lit_v w61 [18446744073709551615, 9223372036854775808] 2 (val [18446744073709551615, 9223372036854775808]) (ok_dec (by decide)) rfl rfl
  refine (cmp_v (-1) (h51r.below (below_trans (below_trans (below_trans (below_trans (below_trans (below_trans (below_trans (below_trans (below_trans (below_trans (below_trans t52 b53) t54) b55) b56) b57) (lit_below w57 (L [18446744073709551615, 9223372036854775808]))) b59) b60) (lit_below w60 (L [0, 0, 9223372036854775808]))) b61) (lit_below w61 (L [18446744073709551615, 9223372036854775808])))).v z62 (by omega) (cmpI_lt (Int.ofNat_lt.2 (by decide)))).mono ?_
  rintro e w63 ⟨rfl, b63⟩
  go_wp2_with fail
  have z64 := one_lit w63 [3] (val [3]) (ok_dec (by decide)) (.inr (by decide)) rfl
  refine (is_v (h53.below (below_trans (below_trans (below_trans (below_trans (below_trans (below_trans (below_trans (below_trans (below_trans (below_trans (below_trans t54 b55) b56) b57) (lit_below w57 (L [18446744073709551615, 9223372036854775808]))) b59) b60) (lit_below w60 (L [0, 0, 9223372036854775808]))) b61) (lit_below w61 (L [18446744073709551615, 9223372036854775808]))) b63) (lit_below w63 (L [3])))) z64 (by omega) (by decide)).mono ?_
  rintro e w64 ⟨rfl, b64⟩
  go_wp2_with fail
  have z65 := one_lit w64 [0, 0, 2305843009213693952] (val [0, 0, 2305843009213693952]) (ok_dec (by decide)) (.inr (by decide)) rfl
  refine (is_v (h53r.below (below_trans (below_trans (below_trans (below_trans (below_trans (below_trans (below_trans (below_trans (below_trans (below_trans (below_trans (below_trans (below_trans t54 b55) b56) b57) (lit_below w57 (L [18446744073709551615, 9223372036854775808]))) b59) b60) (lit_below w60 (L [0, 0, 9223372036854775808]))) b61) (lit_below w61 (L [18446744073709551615, 9223372036854775808]))) b63) (lit_below w63 (L [3]))) b64) (lit_below w64 (L [0, 0, 2305843009213693952])))) z65 (by omega) (by decide)).mono ?_
  rintro e w65 ⟨rfl, b65⟩
  go_wp2_with fail
  have z66 := lit_v w65 [18446744073709551615, 9223372036854775808] 2 (val [18446744073709551615, 9223372036854775808]) (ok_dec (by decide)) rfl rfl
  refine (mul_v (h55.below (below_trans (below_trans (below_trans (below_trans (below_trans (below_trans (below_trans (below_trans (below_trans (below_trans (below_trans (below_trans (below_trans b56 b57) (lit_below w57 (L [18446744073709551615, 9223372036854775808]))) b59) b60) (lit_below w60 (L [0, 0, 9223372036854775808]))) b61) (lit_below w61 (L [18446744073709551615, 9223372036854775808]))) b63) (lit_below w63 (L [3]))) b64) (lit_below w64 (L [0, 0, 2305843009213693952]))) b65) (lit_below w65 (L [18446744073709551615, 9223372036854775808])))).v z66 (by omega)).mono ?_
  rintro e w67 ⟨A67, c67, l67, rfl, h67, m67, b67⟩
  go_wp2_with fail
  refine (add_v h67.v (h55r.below (below_trans (below_trans (below_trans (below_trans (below_trans (below_trans (below_trans (below_trans (below_trans (below_trans (below_trans (below_trans (below_trans (below_trans b56 b57) (lit_below w57 (L [18446744073709551615, 9223372036854775808]))) b59) b60) (lit_below w60 (L [0, 0, 9223372036854775808]))) b61) (lit_below w61 (L [18446744073709551615, 9223372036854775808]))) b63) (lit_below w63 (L [3]))) b64) (lit_below w64 (L [0, 0, 2305843009213693952]))) b65) (lit_below w65 (L [18446744073709551615, 9223372036854775808]))) b67)).v (by omega)).mono ?_
  rintro e w68 ⟨A68, c68, l68, rfl, h68, m68, b68⟩
  go_wp2_with fail
  have z69 := one_lit w68 [0, 18446744073709551614, 9223372036854775808] (val [0, 18446744073709551614, 9223372036854775808]) (ok_dec (by decide)) (.inr (by decide)) rfl
  refine (is_v (h68.below (lit_below w68 (L [0, 18446744073709551614, 9223372036854775808]))) z69 (by omega) (by decide)).mono ?_
  rintro e w69 ⟨rfl, b69⟩
  go_wp2_with fail
  have z70 := lit_v w69 [18446744073709551615, 9223372036854775808] 2 (val [18446744073709551615, 9223372036854775808]) (ok_dec (by decide)) rfl rfl
  refine (cmp_v (-1) (h55r.below (below_trans (below_trans (below_trans (below_trans (below_trans (below_trans (below_trans (below_trans (below_trans (below_trans (below_trans (below_trans (below_trans (below_trans (below_trans (below_trans (below_trans (below_trans b56 b57) (lit_below w57 (L [18446744073709551615, 9223372036854775808]))) b59) b60) (lit_below w60 (L [0, 0, 9223372036854775808]))) b61) (lit_below w61 (L [18446744073709551615, 9223372036854775808]))) b63) (lit_below w63 (L [3]))) b64) (lit_below w64 (L [0, 0, 2305843009213693952]))) b65) (lit_below w65 (L [18446744073709551615, 9223372036854775808]))) b67) b68) (lit_below w68 (L [0, 18446744073709551614, 9223372036854775808]))) b69) (lit_below w69 (L [18446744073709551615, 9223372036854775808])))).v z70 (by omega) (cmpI_lt (Int.ofNat_lt.2 (by decide)))).mono ?_
  rintro e w71 ⟨rfl, b71⟩
  go_wp2_with fail
  have z72 := lit_v w71 [4] 1 (val [4]) (ok_dec (by decide)) rfl rfl
  have n73 := nil_v (w71.alloc (L [4]))
  refine (gcd_v n73 z72 (by omega) (hT.out.below (below_trans (below_trans (below_trans (below_trans (below_trans (below_trans (below_trans (below_trans (below_trans (below_trans (below_trans (below_trans (below_trans (below_trans (below_trans (below_trans (below_trans (below_trans (below_trans (below_trans (below_trans (below_trans (below_trans (below_trans (below_trans (below_trans (below_trans (below_trans (below_trans (below_trans (below_trans (below_trans (below_trans (below_trans (below_trans (below_trans (below_trans (below_trans (below_trans (below_trans (below_trans (below_trans (below_trans (below_trans (below_trans (below_trans (below_trans (below_trans (below_trans (below_trans (below_trans (below_trans (below_trans (below_trans (below_trans (below_trans (below_trans (below_trans (below_trans (below_trans (below_trans (below_trans (below_trans (below_trans (below_trans (below_trans (below_trans (below_trans (below_trans (below_trans (below_trans (below_trans (below_trans (below_trans (below_trans (below_trans (below_trans (lit_below w (L [1, 0, 0])) b2) (lit_below w2 (L [1]))) b3) (lit_below w3 (L [0]))) b5) b6) t7) b8) t9) b10) (lit_below w10 (L [1]))) b14) t15) b16) b17) t18) b19) (lit_below w19 (L [18446744073709551615]))) b20) (lit_below w20 (L [1]))) b22) (lit_below w22 (L [0, 1]))) b23) (lit_below w23 (L [0, 1]))) b25) (lit_below w25 (L [9223372036854775808]))) b26) (lit_below w26 (L [3]))) b28) (lit_below w28 (L [9223372036854775808, 1]))) b29) (lit_below w29 (L [1]))) b31) b32) (lit_below w32 (L [1]))) b34) (lit_below w34 (L [7, 0]))) b36) (lit_below w36 (L [7]))) b37) (lit_below w37 (L [7]))) b39) b40) (lit_below w40 (L [0, 1]))) b42) b44) (lit_below w44 (L [18446744073709551615]))) b46) (lit_below w46 (L [5]))) b49) t50) b51) t52) b53) t54) b55) b56) b57) (lit_below w57 (L [18446744073709551615, 9223372036854775808]))) b59) b60) (lit_below w60 (L [0, 0, 9223372036854775808]))) b61) (lit_below w61 (L [18446744073709551615, 9223372036854775808]))) b63) (lit_below w63 (L [3]))) b64) (lit_below w64 (L [0, 0, 2305843009213693952]))) b65) (lit_below w65 (L [18446744073709551615, 9223372036854775808]))) b67) b68) (lit_below w68 (L [0, 18446744073709551614, 9223372036854775808]))) b69) (lit_below w69 (L [18446744073709551615, 9223372036854775808]))) b71) (lit_below w71 (L [4]))))).mono ?_
  rintro e w74 ⟨A74, c74, l74, rfl, h74, m74, b74⟩
  go_wp2_with fail
  have z75 := one_lit w74 [4] (val [4]) (ok_dec (by decide)) (.inr (by decide)) rfl
  refine (is_v (h74.below (lit_below w74 (L [4]))) z75 (by omega) (by decide)).mono ?_
  rintro e w75 ⟨rfl, b75⟩
  go_wp2_with fail
  have n76 := nil_v w75
  have n77 := nil_v w75
  refine (gcd_v n76 n77 (by omega) (hT.out.below (below_trans (below_trans (below_trans (below_trans (below_trans (below_trans (below_trans (below_trans (below_trans (below_trans (below_trans (below_trans (below_trans (below_trans (below_trans (below_trans (below_trans (below_trans (below_trans (below_trans (below_trans (below_trans (below_trans (below_trans (below_trans (below_trans (below_trans (below_trans (below_trans (below_trans (below_trans (below_trans (below_trans (below_trans (below_trans (below_trans (below_trans (below_trans (below_trans (below_trans (below_trans (below_trans (below_trans (below_trans (below_trans (below_trans (below_trans (below_trans (below_trans (below_trans (below_trans (below_trans (below_trans (below_trans (below_trans (below_trans (below_trans (below_trans (below_trans (below_trans (below_trans (below_trans (below_trans (below_trans (below_trans (below_trans (below_trans (below_trans (below_trans (below_trans (below_trans (below_trans (below_trans (below_trans (below_trans (below_trans (below_trans (below_trans (below_trans (below_trans (lit_below w (L [1, 0, 0])) b2) (lit_below w2 (L [1]))) b3) (lit_below w3 (L [0]))) b5) b6) t7) b8) t9) b10) (lit_below w10 (L [1]))) b14) t15) b16) b17) t18) b19) (lit_below w19 (L [18446744073709551615]))) b20) (lit_below w20 (L [1]))) b22) (lit_below w22 (L [0, 1]))) b23) (lit_below w23 (L [0, 1]))) b25) (lit_below w25 (L [9223372036854775808]))) b26) (lit_below w26 (L [3]))) b28) (lit_below w28 (L [9223372036854775808, 1]))) b29) (lit_below w29 (L [1]))) b31) b32) (lit_below w32 (L [1]))) b34) (lit_below w34 (L [7, 0]))) b36) (lit_below w36 (L [7]))) b37) (lit_below w37 (L [7]))) b39) b40) (lit_below w40 (L [0, 1]))) b42) b44) (lit_below w44 (L [18446744073709551615]))) b46) (lit_below w46 (L [5]))) b49) t50) b51) t52) b53) t54) b55) b56) b57) (lit_below w57 (L [18446744073709551615, 9223372036854775808]))) b59) b60) (lit_below w60 (L [0, 0, 9223372036854775808]))) b61) (lit_below w61 (L [18446744073709551615, 9223372036854775808]))) b63) (lit_below w63 (L [3]))) b64) (lit_below w64 (L [0, 0, 2305843009213693952]))) b65) (lit_below w65 (L [18446744073709551615, 9223372036854775808]))) b67) b68) (lit_below w68 (L [0, 18446744073709551614, 9223372036854775808]))) b69) (lit_below w69 (L [18446744073709551615, 9223372036854775808]))) b71) (lit_below w71 (L [4]))) b74) (lit_below w74 (L [4]))) b75))).mono ?_
  rintro e w78 ⟨A78, c78, l78, rfl, h78, m78, b78⟩
  go_wp2_with fail
  refine (is_v h78 (nil_c w78) (by omega) (by decide)).mono ?_
  rintro e w79 ⟨rfl, b79⟩
  go_wp2_with fail
  refine (awake_any _ (hT.out.below (below_trans (below_trans (below_trans (below_trans (below_trans (below_trans (below_trans (below_trans (below_trans (below_trans (below_trans (below_trans (below_trans (below_trans (below_trans (below_trans (below_trans (below_trans (below_trans (below_trans (below_trans (below_trans (below_trans (below_trans (below_trans (below_trans (below_trans (below_trans (below_trans (below_trans (below_trans (below_trans (below_trans (below_trans (below_trans (below_trans (below_trans (below_trans (below_trans (below_trans (below_trans (below_trans (below_trans (below_trans (below_trans (below_trans (below_trans (below_trans (below_trans (below_trans (below_trans (below_trans (below_trans (below_trans (below_trans (below_trans (below_trans (below_trans (below_trans (below_trans (below_trans (below_trans (below_trans (below_trans (below_trans (below_trans (below_trans (below_trans (below_trans (below_trans (below_trans (below_trans (below_trans (below_trans (below_trans (below_trans (below_trans (below_trans (below_trans (below_trans (below_trans (below_trans (lit_below w (L [1, 0, 0])) b2) (lit_below w2 (L [1]))) b3) (lit_below w3 (L [0]))) b5) b6) t7) b8) t9) b10) (lit_below w10 (L [1]))) b14) t15) b16) b17) t18) b19) (lit_below w19 (L [18446744073709551615]))) b20) (lit_below w20 (L [1]))) b22) (lit_below w22 (L [0, 1]))) b23) (lit_below w23 (L [0, 1]))) b25) (lit_below w25 (L [9223372036854775808]))) b26) (lit_below w26 (L [3]))) b28) (lit_below w28 (L [9223372036854775808, 1]))) b29) (lit_below w29 (L [1]))) b31) b32) (lit_below w32 (L [1]))) b34) (lit_below w34 (L [7, 0]))) b36) (lit_below w36 (L [7]))) b37) (lit_below w37 (L [7]))) b39) b40) (lit_below w40 (L [0, 1]))) b42) b44) (lit_below w44 (L [18446744073709551615]))) b46) (lit_below w46 (L [5]))) b49) t50) b51) t52) b53) t54) b55) b56) b57) (lit_below w57 (L [18446744073709551615, 9223372036854775808]))) b59) b60) (lit_below w60 (L [0, 0, 9223372036854775808]))) b61) (lit_below w61 (L [18446744073709551615, 9223372036854775808]))) b63) (lit_below w63 (L [3]))) b64) (lit_below w64 (L [0, 0, 2305843009213693952]))) b65) (lit_below w65 (L [18446744073709551615, 9223372036854775808]))) b67) b68) (lit_below w68 (L [0, 18446744073709551614, 9223372036854775808]))) b69) (lit_below w69 (L [18446744073709551615, 9223372036854775808]))) b71) (lit_below w71 (L [4]))) b74) (lit_below w74 (L [4]))) b75) b78) b79))).mono ?_
  rintro e w80 ⟨rfl, b80⟩
  go_wp2_with fail
  go_ret
  exact ⟨rfl, (below_trans (below_trans (below_trans (below_trans (below_trans (below_trans (below_trans (below_trans (below_trans (below_trans (below_trans (below_trans (below_trans (below_trans (below_trans (below_trans (below_trans (below_trans (below_trans (below_trans (below_trans (below_trans (below_trans (below_trans (below_trans (below_trans (below_trans (below_trans (below_trans (below_trans (below_trans (below_trans (below_trans (below_trans (below_trans (below_trans (below_trans (below_trans (below_trans (below_trans (below_trans (below_trans (below_trans (below_trans (below_trans (below_trans (below_trans (below_trans (below_trans (below_trans (below_trans (below_trans (below_trans (below_trans (below_trans (below_trans (below_trans (below_trans (below_trans (below_trans (below_trans (below_trans (below_trans (below_trans (below_trans (below_trans (below_trans (below_trans (below_trans (below_trans (below_trans (below_trans (below_trans (below_trans (below_trans (below_trans (below_trans (below_trans (below_trans (below_trans (below_trans (below_trans (below_trans (lit_below w (L [1, 0, 0])) b2) (lit_below w2 (L [1]))) b3) (lit_below w3 (L [0]))) b5) b6) t7) b8) t9) b10) (lit_below w10 (L [1]))) b14) t15) b16) b17) t18) b19) (lit_below w19 (L [18446744073709551615]))) b20) (lit_below w20 (L [1]))) b22) (lit_below w22 (L [0, 1]))) b23) (lit_below w23 (L [0, 1]))) b25) (lit_below w25 (L [9223372036854775808]))) b26) (lit_below w26 (L [3]))) b28) (lit_below w28 (L [9223372036854775808, 1]))) b29) (lit_below w29 (L [1]))) b31) b32) (lit_below w32 (L [1]))) b34) (lit_below w34 (L [7, 0]))) b36) (lit_below w36 (L [7]))) b37) (lit_below w37 (L [7]))) b39) b40) (lit_below w40 (L [0, 1]))) b42) b44) (lit_below w44 (L [18446744073709551615]))) b46) (lit_below w46 (L [5]))) b49) t50) b51) t52) b53) t54) b55) b56) b57) (lit_below w57 (L [18446744073709551615, 9223372036854775808]))) b59) b60) (lit_below w60 (L [0, 0, 9223372036854775808]))) b61) (lit_below w61 (L [18446744073709551615, 9223372036854775808]))) b63) (lit_below w63 (L [3]))) b64) (lit_below w64 (L [0, 0, 2305843009213693952]))) b65) (lit_below w65 (L [18446744073709551615, 9223372036854775808]))) b67) b68) (lit_below w68 (L [0, 18446744073709551614, 9223372036854775808]))) b69) (lit_below w69 (L [18446744073709551615, 9223372036854775808]))) b71) (lit_below w71 (L [4]))) b74) (lit_below w74 (L [4]))) b75) b78) b79) b80)⟩

theorem numbers_any {w : World} (hT : Tab w) : Calls Tryd.prog 7 #[] w (Yes w) := by
  obtain ⟨k, hk⟩ : ∃ k, k = 16384 := ⟨_, rfl⟩
  refine numbers_at w (64 * k) (2 ^ (64 * k)) (by omega) (by omega) rfl ?_ (Lib.hid hT)
  have h := nl_pow2 k
  exact h.trans (by omega)

namespace limbsNumbers
open Go.ChangeShapes Go.WideShapes Go.ChangeAt Go.RowKit Tw

theorem contract (H : Type) (enc : TypeId × Value → H) (W : World) (base : Nat) (args : Array Value) (ds gs : List (DataW H)) (before : List MemPlace)
    (hval : ∀ (j : Nat) t v, Tryd.f7.params[j]? = some t → args[j]? = some v → Value.okWide Tryd.prog W .any base t v)
    (hW : DataW.Whole enc Tryd.prog Tryd.f7.params.toList Rows.limbsNumbersSpec.vars false W args.toList ds gs before) (hL : laidMetH Tryd.prog Rows.limbsNumbersRow.laid W) :
    Calls Tryd.prog 7 args W fun e W' => ∃ v, e = .returned v ∧ Rows.limbsNumbersSpec.post enc Tryd.prog Tryd.f7 false true false false W args v W' := by
  have hW' := hW
  obtain ⟨p, q, hA0, hV, rfl, hfz, hnd⟩ := hW
  have hA : DataW.TrodAll enc Tryd.prog W 0 (fun _ => true) true Tryd.f7.params.toList args.toList ds p := hA0
  rw [Tryd.params7] at hA hval
  obtain ⟨hargs, rfl, rfl⟩ := trodAll_nil hA
  obtain rfl : args = #[] := by cases args; simp_all
  obtain ⟨rfl, rfl⟩ := trodVars_none hV
  refine (numbers_any  (tab_of hL)).mono fun e W' ⟨he, bel⟩ => ?_
  subst he
  exact ⟨_, rfl, _, _, _, [], _, [], hW', trodAll_mk1 (shut_bool Tryd.underlying4 _), trodAll_mk0, rfl, bel.frame _, fun h => by cases h⟩

theorem laid_met (os : Os) : laidMet Tryd.prog Rows.limbsNumbersRow.laid ((laidWorld os).forCall (fun _ _ => 0) ⟨#[], #[], []⟩).memory :=
  laidMet_of_run' 8 (by kernel_rfl) (by kernel_rfl)
theorem reads (os : Os) {H : Type} (enc : TypeId × Value → H) : ∃ places, DataW.whole enc Tryd.prog ((laidWorld os).forCall (fun _ _ => 0) ⟨#[], #[], []⟩).memory Tryd.f7.params.toList Rows.limbsNumbersSpec.vars false (#[] : Array Value).toList 8 = some ([], [], places) :=
  ⟨[], by kernel_rfl⟩

set_option maxRecDepth 100000 in
theorem lifted (os : Os) (started : os.Started) (H : Type) (enc : TypeId × Value → H) (F : Stop.Interp) :
    ReturnsInHanded {} Tryd.checked os 7 .any ((OpenSpec.ofChange Rows.limbsNumbersSpec).preRow enc Tryd.prog Tryd.f7 Rows.limbsNumbersRow.domain false Rows.limbsNumbersRow.laid) (((OpenSpec.ofChange Rows.limbsNumbersSpec).at F).post enc Tryd.prog Tryd.f7 false true false false) := by
  obtain ⟨places, hx⟩ := reads os enc
  refine returnsInHanded_of_row (C := Tryd.checked) (s := OpenSpec.ofChange Rows.limbsNumbersSpec) own started (by kernel_rfl) Tryd.func7
    (witness_row_at (enc := enc) (C := Tryd.checked) false (laidWorld os) #[] rfl (by kernel_rfl) (by kernel_rfl) (by kernel_rfl)
      (OpenSpec.preRow_of_cond 8 hx (by kernel_rfl) (fun k hk => by cases hk) (by kernel_rfl) (laid_met os))) ?_
  intro W base args ds gs before hval hW _ _ _ hL _ _
  exact contract H enc W base args ds gs before hval hW hL

theorem said : Rows.LimbsNumbersSaid :=
  OpenClaim.holds_of_cond 7 Tryd.f7 rfl rfl rfl rfl rfl rfl rfl ⟨rfl, rfl, rfl, rfl, rfl⟩ rfl rfl rfl rfl rfl (by kernel_rfl) Tryd.func7 (by kernel_rfl)
    (of_decide_eq_true (by kernel_rfl)) (by unfold Func.isWrapper; first | (rw [if_pos (by decide +kernel)]; kernel_rfl) | (rw [if_neg (by decide +kernel)]; exact ⟨rfl, rfl⟩))
    (fun os started H enc _ F => by rw [OpenClaim.pre_eq_preRow]; exact lifted os started H enc F)

theorem plain (f : FuncId) (fn : Func) (hf : Tryd.pinned.checked.prog.funcNamed "tripwire/tripwirelaw01.LimbsNumbers" = some f) (hfn : Tryd.pinned.checked.prog.funcs[f]? = some fn) :
    false = Tryd.pinned.checked.prog.looks [] ∧ ∀ (j : Nat) t, fn.params[j]? = some t → Tryd.pinned.checked.prog.wantsStandIn t = false := by
  obtain rfl : f = 7 := Option.some.inj ((show Tryd.prog.funcNamed "tripwire/tripwirelaw01.LimbsNumbers" = some 7 by kernel_rfl).symm.trans hf) |>.symm
  obtain rfl : fn = Tryd.f7 := (Option.some.inj (Tryd.func7.symm.trans hfn)).symm
  refine ⟨by kernel_rfl, fun j t ht => ?_⟩
  rw [Tryd.params7] at ht
  simp at ht

/-- The card. -/
theorem card : Rows.LimbsNumbersCardSaid :=
  Claim7.holds_tied_plain_at .later [] _ _ _ _ said (fun _ h => by cases h) (by kernel_rfl) (fun _ h => by cases h) limbsNumbers_row_tie rfl ⟨rfl, rfl⟩ (by kernel_rfl) rfl plain (by kernel_rfl)
end limbsNumbers
end Go.Proofs.YtjlfcnkndndgaaaDoor
