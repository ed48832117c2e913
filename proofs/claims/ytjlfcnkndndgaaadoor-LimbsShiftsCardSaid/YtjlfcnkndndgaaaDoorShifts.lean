/-
  tripwirelaw01.LimbsShifts: the walk and the card. Written by wip/gen/shifts.py.
-/
import Derived.Test.YtjlfcnkndndgaaaDoorPick
namespace Go.Proofs.YtjlfcnkndndgaaaDoor
open Go.RowKit Tw

set_option maxRecDepth 100000 in
set_option maxHeartbeats 4000000 in
theorem shifts_pos (A : Option Addr) (ca la a k : Nat) (x : Int) (w : World) (ha : V w A ca la a) (ha1 : la ≤ 60) (hx : -9223372036854775808 ≤ x ∧ x ≤ 9223372036854775807) (hk : Hid (nbits a = k)) (hk2 : k ≤ 3840) (h0 : 1 ≤ k) (r : Int) (hr : cmpI (a : Int) ((2 ^ (k - 1) : Nat) : Int) = r) (hr0 : 0 ≤ r) (hT : Hid (Tab w)) :
    Calls Tryd.prog 6 #[.slice A la ca, .int .i64 x] w (Yes w) := by
  have p1 : decide ((0 : Int) ≤ r) = true := by simp; omega
  have p2 : ((k : Int) == 0) = false := by simp; omega
  go_enter Tryd.func6, Tryd.ntmps6
  go_wp2_with fail
  refine (pick_any x 301 _ hx (by omega) (by omega)).mono ?_
  rintro e _ ⟨⟨m, hm, rfl⟩, rfl⟩
  have t0 : 2 ^ m ≠ 0 := Nat.pos_iff_ne_zero.1 (Nat.two_pow_pos m)
  go_wp2_with fail
  have z1 : C (w.alloc (L [1])) (some ⟨w.heap.size, 0, none⟩) 1 1 1 := one_lit w [1] 1 (ok_dec (by decide)) (.inr (by decide)) (by decide)
  refine (shl_p m (2 ^ m) z1.v (by omega) (by omega) (by omega) (Nat.one_mul _)).mono ?_
  rintro e w2 ⟨A2, c2, l2, rfl, h2, m2, b2⟩
  go_wp2_with fail
  refine (divmod_v (ha.below (below_trans (lit_below w (L [1])) b2)) h2.v (by omega) t0).mono ?_
  rintro e w3 ⟨A3, c3, l3, A3r, c3r, l3r, rfl, h3, h3r, m3, m3r, b3⟩
  go_wp2_with fail
  refine (bits_p (k : Int) (ha.below (below_trans (below_trans (lit_below w (L [1])) b2) b3)) (by omega) (by rw [hk.out])).mono ?_
  rintro e w4 ⟨rfl, b4⟩
  go_wp2_with fail
  have z5 : C (w4.alloc (L [1])) (some ⟨w4.heap.size, 0, none⟩) 1 1 1 := one_lit w4 [1] 1 (ok_dec (by decide)) (.inr (by decide)) (by decide)
  refine (shl_p k (2 ^ k) z5.v (by omega) (by omega) (by omega) (Nat.one_mul _)).mono ?_
  rintro e w6 ⟨A6, c6, l6, rfl, h6, m6, b6⟩
  go_wp2_with fail
  refine (cmp_v (-1) (ha.below (below_trans (below_trans (below_trans (below_trans (below_trans (lit_below w (L [1])) b2) b3) b4) (lit_below w4 (L [1]))) b6)) h6.v (by omega) (cmpI_lt (by have := nbits_lt a; rw [hk.out] at this; omega))).mono ?_
  rintro e w7 ⟨rfl, b7⟩
  go_wp2_with fail
  have z8 : C (w7.alloc (L [1])) (some ⟨w7.heap.size, 0, none⟩) 1 1 1 := one_lit w7 [1] 1 (ok_dec (by decide)) (.inr (by decide)) (by decide)
  refine (shl_p (k - 1) (2 ^ (k - 1)) z8.v (by omega) (by omega) (by omega) (Nat.one_mul _)).mono ?_
  rintro e w9 ⟨A9, c9, l9, rfl, h9, m9, b9⟩
  go_wp2_with fail
  refine (cmp_v r (ha.below (below_trans (below_trans (below_trans (below_trans (below_trans (below_trans (below_trans (below_trans (lit_below w (L [1])) b2) b3) b4) (lit_below w4 (L [1]))) b6) b7) (lit_below w7 (L [1]))) b9)) h9.v (by omega) hr).mono ?_
  rintro e w10 ⟨rfl, b10⟩
  go_wp2_with fail
  refine (shl_p m (a * 2 ^ m) (ha.below (below_trans (below_trans (below_trans (below_trans (below_trans (below_trans (below_trans (below_trans (below_trans (lit_below w (L [1])) b2) b3) b4) (lit_below w4 (L [1]))) b6) b7) (lit_below w7 (L [1]))) b9) b10)) (by omega) (by omega) (by omega) rfl).mono ?_
  rintro e w11 ⟨A11, c11, l11, rfl, h11, m11, b11⟩
  go_wp2_with fail
  refine (mul_v (ha.below (below_trans (below_trans (below_trans (below_trans (below_trans (below_trans (below_trans (below_trans (below_trans (below_trans (lit_below w (L [1])) b2) b3) b4) (lit_below w4 (L [1]))) b6) b7) (lit_below w7 (L [1]))) b9) b10) b11)) (h2.below (below_trans (below_trans (below_trans (below_trans (below_trans (below_trans (below_trans (below_trans b3 b4) (lit_below w4 (L [1]))) b6) b7) (lit_below w7 (L [1]))) b9) b10) b11)).v (by omega)).mono ?_
  rintro e w12 ⟨A12, c12, l12, rfl, h12, m12, b12⟩
  go_wp2_with fail
  refine (same_v (h11.below b12) h12 (by omega) rfl).mono ?_
  rintro e w13 ⟨rfl, b13⟩
  go_wp2_with fail
  refine (shr_p m (a / 2 ^ m) (ha.below (below_trans (below_trans (below_trans (below_trans (below_trans (below_trans (below_trans (below_trans (below_trans (below_trans (below_trans (below_trans (lit_below w (L [1])) b2) b3) b4) (lit_below w4 (L [1]))) b6) b7) (lit_below w7 (L [1]))) b9) b10) b11) b12) b13)) (by omega) (by omega) (by omega) rfl).mono ?_
  rintro e w14 ⟨A14, c14, l14, rfl, h14, m14, b14⟩
  go_wp2_with fail
  refine (same_v h14 (h3.below (below_trans (below_trans (below_trans (below_trans (below_trans (below_trans (below_trans (below_trans (below_trans (below_trans b4 (lit_below w4 (L [1]))) b6) b7) (lit_below w7 (L [1]))) b9) b10) b11) b12) b13) b14)) (by omega) rfl).mono ?_
  rintro e w15 ⟨rfl, b15⟩
  go_wp2_with fail
  refine (shl_p m (a * 2 ^ m) (ha.below (below_trans (below_trans (below_trans (below_trans (below_trans (below_trans (below_trans (below_trans (below_trans (below_trans (below_trans (below_trans (below_trans (below_trans (lit_below w (L [1])) b2) b3) b4) (lit_below w4 (L [1]))) b6) b7) (lit_below w7 (L [1]))) b9) b10) b11) b12) b13) b14) b15)) (by omega) (by omega) (by omega) rfl).mono ?_
  rintro e w16 ⟨A16, c16, l16, rfl, h16, m16, b16⟩
  go_wp2_with fail
  refine (shr_p m a h16.v (by omega) (by omega) (by omega) (Nat.mul_div_cancel _ (Nat.two_pow_pos m))).mono ?_
  rintro e w17 ⟨A17, c17, l17, rfl, h17, m17, b17⟩
  go_wp2_with fail
  refine (trim_v (ha.below (below_trans (below_trans (below_trans (below_trans (below_trans (below_trans (below_trans (below_trans (below_trans (below_trans (below_trans (below_trans (below_trans (below_trans (below_trans (below_trans (lit_below w (L [1])) b2) b3) b4) (lit_below w4 (L [1]))) b6) b7) (lit_below w7 (L [1]))) b9) b10) b11) b12) b13) b14) b15) b16) b17)) (by omega)).mono ?_
  rintro e w18 ⟨A18, c18, l18, rfl, h18, m18, b18⟩
  go_wp2_with fail
  refine (same_v (h17.below b18) h18 (by omega) rfl).mono ?_
  rintro e w19 ⟨rfl, b19⟩
  go_wp2_with fail
  refine (bits_p ((m : Int) + 1) (h2.below (below_trans (below_trans (below_trans (below_trans (below_trans (below_trans (below_trans (below_trans (below_trans (below_trans (below_trans (below_trans (below_trans (below_trans (below_trans (below_trans b3 b4) (lit_below w4 (L [1]))) b6) b7) (lit_below w7 (L [1]))) b9) b10) b11) b12) b13) b14) b15) b16) b17) b18) b19)).v (by omega) (by rw [nbits_pow]; omega)).mono ?_
  rintro e w20 ⟨rfl, b20⟩
  go_wp2_with fail
  refine (awake_any _ (hT.out.below (below_trans (below_trans (below_trans (below_trans (below_trans (below_trans (below_trans (below_trans (below_trans (below_trans (below_trans (below_trans (below_trans (below_trans (below_trans (below_trans (below_trans (below_trans (below_trans (lit_below w (L [1])) b2) b3) b4) (lit_below w4 (L [1]))) b6) b7) (lit_below w7 (L [1]))) b9) b10) b11) b12) b13) b14) b15) b16) b17) b18) b19) b20))).mono ?_
  rintro e w21 ⟨rfl, b21⟩
  go_wp2_with fail
  go_ret
  exact ⟨rfl, (below_trans (below_trans (below_trans (below_trans (below_trans (below_trans (below_trans (below_trans (below_trans (below_trans (below_trans (below_trans (below_trans (below_trans (below_trans (below_trans (below_trans (below_trans (below_trans (below_trans (lit_below w (L [1])) b2) b3) b4) (lit_below w4 (L [1]))) b6) b7) (lit_below w7 (L [1]))) b9) b10) b11) b12) b13) b14) b15) b16) b17) b18) b19) b20) b21)⟩

set_option maxRecDepth 100000 in
set_option maxHeartbeats 4000000 in
theorem shifts_zero (A : Option Addr) (ca la a k : Nat) (x : Int) (w : World) (ha : V w A ca la a) (ha1 : la ≤ 60) (hx : -9223372036854775808 ≤ x ∧ x ≤ 9223372036854775807) (hk : Hid (nbits a = k)) (hk2 : k ≤ 3840) (h0 : k = 0) (hT : Hid (Tab w)) :
    Calls Tryd.prog 6 #[.slice A la ca, .int .i64 x] w (Yes w) := by
  have p2 : ((k : Int) == 0) = true := by simp; omega
  clear h0
  go_enter Tryd.func6, Tryd.ntmps6
  go_wp2_with fail
  refine (pick_any x 301 _ hx (by omega) (by omega)).mono ?_
  rintro e _ ⟨⟨m, hm, rfl⟩, rfl⟩
  have t0 : 2 ^ m ≠ 0 := Nat.pos_iff_ne_zero.1 (Nat.two_pow_pos m)
  go_wp2_with fail
  have z1 : C (w.alloc (L [1])) (some ⟨w.heap.size, 0, none⟩) 1 1 1 := one_lit w [1] 1 (ok_dec (by decide)) (.inr (by decide)) (by decide)
  refine (shl_p m (2 ^ m) z1.v (by omega) (by omega) (by omega) (Nat.one_mul _)).mono ?_
  rintro e w2 ⟨A2, c2, l2, rfl, h2, m2, b2⟩
  go_wp2_with fail
  refine (divmod_v (ha.below (below_trans (lit_below w (L [1])) b2)) h2.v (by omega) t0).mono ?_
  rintro e w3 ⟨A3, c3, l3, A3r, c3r, l3r, rfl, h3, h3r, m3, m3r, b3⟩
  go_wp2_with fail
  refine (bits_p (k : Int) (ha.below (below_trans (below_trans (lit_below w (L [1])) b2) b3)) (by omega) (by rw [hk.out])).mono ?_
  rintro e w4 ⟨rfl, b4⟩
  go_wp2_with fail
  have z5 : C (w4.alloc (L [1])) (some ⟨w4.heap.size, 0, none⟩) 1 1 1 := one_lit w4 [1] 1 (ok_dec (by decide)) (.inr (by decide)) (by decide)
  refine (shl_p k (2 ^ k) z5.v (by omega) (by omega) (by omega) (Nat.one_mul _)).mono ?_
  rintro e w6 ⟨A6, c6, l6, rfl, h6, m6, b6⟩
  go_wp2_with fail
  refine (cmp_v (-1) (ha.below (below_trans (below_trans (below_trans (below_trans (below_trans (lit_below w (L [1])) b2) b3) b4) (lit_below w4 (L [1]))) b6)) h6.v (by omega) (cmpI_lt (by have := nbits_lt a; rw [hk.out] at this; omega))).mono ?_
  rintro e w7 ⟨rfl, b7⟩
  go_wp2_with fail
  refine (shl_p m (a * 2 ^ m) (ha.below (below_trans (below_trans (below_trans (below_trans (below_trans (below_trans (lit_below w (L [1])) b2) b3) b4) (lit_below w4 (L [1]))) b6) b7)) (by omega) (by omega) (by omega) rfl).mono ?_
  rintro e w8 ⟨A8, c8, l8, rfl, h8, m8, b8⟩
  go_wp2_with fail
  refine (mul_v (ha.below (below_trans (below_trans (below_trans (below_trans (below_trans (below_trans (below_trans (lit_below w (L [1])) b2) b3) b4) (lit_below w4 (L [1]))) b6) b7) b8)) (h2.below (below_trans (below_trans (below_trans (below_trans (below_trans b3 b4) (lit_below w4 (L [1]))) b6) b7) b8)).v (by omega)).mono ?_
  rintro e w9 ⟨A9, c9, l9, rfl, h9, m9, b9⟩
  go_wp2_with fail
  refine (same_v (h8.below b9) h9 (by omega) rfl).mono ?_
  rintro e w10 ⟨rfl, b10⟩
  go_wp2_with fail
  refine (shr_p m (a / 2 ^ m) (ha.below (below_trans (below_trans (below_trans (below_trans (below_trans (below_trans (below_trans (below_trans (below_trans (lit_below w (L [1])) b2) b3) b4) (lit_below w4 (L [1]))) b6) b7) b8) b9) b10)) (by omega) (by omega) (by omega) rfl).mono ?_
  rintro e w11 ⟨A11, c11, l11, rfl, h11, m11, b11⟩
  go_wp2_with fail
  refine (same_v h11 (h3.below (below_trans (below_trans (below_trans (below_trans (below_trans (below_trans (below_trans b4 (lit_below w4 (L [1]))) b6) b7) b8) b9) b10) b11)) (by omega) rfl).mono ?_
  rintro e w12 ⟨rfl, b12⟩
  go_wp2_with fail
  refine (shl_p m (a * 2 ^ m) (ha.below (below_trans (below_trans (below_trans (below_trans (below_trans (below_trans (below_trans (below_trans (below_trans (below_trans (below_trans (lit_below w (L [1])) b2) b3) b4) (lit_below w4 (L [1]))) b6) b7) b8) b9) b10) b11) b12)) (by omega) (by omega) (by omega) rfl).mono ?_
  rintro e w13 ⟨A13, c13, l13, rfl, h13, m13, b13⟩
  go_wp2_with fail
  refine (shr_p m a h13.v (by omega) (by omega) (by omega) (Nat.mul_div_cancel _ (Nat.two_pow_pos m))).mono ?_
  rintro e w14 ⟨A14, c14, l14, rfl, h14, m14, b14⟩
  go_wp2_with fail
  refine (trim_v (ha.below (below_trans (below_trans (below_trans (below_trans (below_trans (below_trans (below_trans (below_trans (below_trans (below_trans (below_trans (below_trans (below_trans (lit_below w (L [1])) b2) b3) b4) (lit_below w4 (L [1]))) b6) b7) b8) b9) b10) b11) b12) b13) b14)) (by omega)).mono ?_
  rintro e w15 ⟨A15, c15, l15, rfl, h15, m15, b15⟩
  go_wp2_with fail
  refine (same_v (h14.below b15) h15 (by omega) rfl).mono ?_
  rintro e w16 ⟨rfl, b16⟩
  go_wp2_with fail
  refine (bits_p ((m : Int) + 1) (h2.below (below_trans (below_trans (below_trans (below_trans (below_trans (below_trans (below_trans (below_trans (below_trans (below_trans (below_trans (below_trans (below_trans b3 b4) (lit_below w4 (L [1]))) b6) b7) b8) b9) b10) b11) b12) b13) b14) b15) b16)).v (by omega) (by rw [nbits_pow]; omega)).mono ?_
  rintro e w17 ⟨rfl, b17⟩
  go_wp2_with fail
  refine (awake_any _ (hT.out.below (below_trans (below_trans (below_trans (below_trans (below_trans (below_trans (below_trans (below_trans (below_trans (below_trans (below_trans (below_trans (below_trans (below_trans (below_trans (below_trans (lit_below w (L [1])) b2) b3) b4) (lit_below w4 (L [1]))) b6) b7) b8) b9) b10) b11) b12) b13) b14) b15) b16) b17))).mono ?_
  rintro e w18 ⟨rfl, b18⟩
  go_wp2_with fail
  go_ret
  exact ⟨rfl, (below_trans (below_trans (below_trans (below_trans (below_trans (below_trans (below_trans (below_trans (below_trans (below_trans (below_trans (below_trans (below_trans (below_trans (below_trans (below_trans (below_trans (lit_below w (L [1])) b2) b3) b4) (lit_below w4 (L [1]))) b6) b7) b8) b9) b10) b11) b12) b13) b14) b15) b16) b17) b18)⟩

set_option maxRecDepth 100000 in
theorem shifts_long (A : Option Addr) (ca la : Nat) (x : Int) (w : World) (h : 60 < la) (ha : la ≤ 9223372036854775807) (hT : Hid (Tab w)) :
    Calls Tryd.prog 6 #[.slice A la ca, .int .i64 x] w (Yes w) := by
  have p1 : decide ((60 : Int) < (la : Int)) = true := by simp; omega
  go_enter Tryd.func6, Tryd.ntmps6
  go_wp2_with fail
  refine (awake_any _ hT).mono ?_
  rintro e w1 ⟨rfl, b1⟩
  go_wp2_with fail
  go_ret
  exact ⟨rfl, b1⟩

theorem shifts_any {A : Option Addr} {ca la : Nat} {x : Int} {w : World} (ha : In w A la ca) (hx : -9223372036854775808 ≤ x ∧ x ≤ 9223372036854775807) (hT : Tab w) :
    Calls Tryd.prog 6 #[.slice A la ca, .int .i64 x] w (Yes w) := by
  obtain ⟨⟨a, va⟩, ma⟩ := ha
  by_cases h : 60 < la
  · exact shifts_long A ca la x w h ma (Lib.hid hT)
  · have hk := nbits_le va
    by_cases hz : nbits a = 0
    · exact shifts_zero A ca la a _ x w va (by omega) hx rfl (by omega) hz (Lib.hid hT)
    · refine shifts_pos A ca la a _ x w va (by omega) hx rfl (by omega) (by omega) _ rfl ?_ (Lib.hid hT)
      have h1 : 2 ^ (nbits a - 1) ≤ a := nbits_ge fun e => hz (nbits_zero.2 e)
      generalize 2 ^ (nbits a - 1) = p at h1 ⊢
      unfold cmpI
      split
      · omega
      · split <;> omega

namespace limbsShifts
open Go.ChangeShapes Go.WideShapes Go.ChangeAt Go.RowKit Tw

theorem contract (H : Type) (enc : TypeId × Value → H) (W : World) (base : Nat) (args : Array Value) (ds gs : List (DataW H)) (before : List MemPlace)
    (hval : ∀ (j : Nat) t v, Tryd.f6.params[j]? = some t → args[j]? = some v → Value.okWide Tryd.prog W .any base t v)
    (hW : DataW.Whole enc Tryd.prog Tryd.f6.params.toList Rows.limbsShiftsSpec.vars false W args.toList ds gs before) (hL : laidMetH Tryd.prog Rows.limbsShiftsRow.laid W) :
    Calls Tryd.prog 6 args W fun e W' => ∃ v, e = .returned v ∧ Rows.limbsShiftsSpec.post enc Tryd.prog Tryd.f6 false true false false W args v W' := by
  have hW' := hW
  obtain ⟨p, q, hA0, hV, rfl, hfz, hnd⟩ := hW
  have hA : DataW.TrodAll enc Tryd.prog W 0 (fun _ => true) true Tryd.f6.params.toList args.toList ds p := hA0
  rw [Tryd.params6] at hA hval
  obtain ⟨v0, vs0, d0, ds0, p0, q0, hargs, rfl, rfl, h0, r0⟩ := trodAll_cons hA
  obtain ⟨v1, vs1, d1, ds1, p1, q1, rfl, rfl, rfl, h1, r1⟩ := trodAll_cons r0
  obtain ⟨rfl, rfl, rfl⟩ := trodAll_nil r1
  obtain rfl : args = #[v0, v1] := by cases args; simp_all
  obtain ⟨rfl, rfl⟩ := trodVars_none hV
  obtain ⟨a0, l0, c0, rfl⟩ := okWide_slice Tryd.underlying22 (hval 0 22 v0 rfl rfl)
  have lt0 : ∀ x ∈ p0, x.block < W.heap.size := by obtain ⟨m, hm⟩ := h0; exact DataW.trod_lt m _ _ _ hm
  obtain ⟨a1, rfl, rfl, rfl, w1⟩ := open_int Tryd.underlying3 (hval 1 3 v1 rfl rfl) h1
  refine (shifts_any (in_of h0) (bounds_i64 w1) (tab_of hL)).mono fun e W' ⟨he, bel⟩ => ?_
  subst he
  exact ⟨_, rfl, _, _, _, [], _, [], hW', trodAll_mk1 (shut_bool Tryd.underlying4 _), (trodAll_cons_mk (Below.trod laidOut (by kernel_rfl) (of_decide_eq_true (by kernel_rfl)) h0 bel lt0) (trodAll_cons_mk (shut_int Tryd.underlying3 w1) trodAll_mk0)), rfl, bel.frame _, fun h => by cases h⟩

theorem laid_met (os : Os) : laidMet Tryd.prog Rows.limbsShiftsRow.laid ((laidWorld os).forCall (fun _ _ => 0) ⟨#[], #[.slice none 0 0, .int .i64 0], []⟩).memory :=
  laidMet_of_run' 8 (by kernel_rfl) (by kernel_rfl)
theorem reads (os : Os) {H : Type} (enc : TypeId × Value → H) : ∃ places, DataW.whole enc Tryd.prog ((laidWorld os).forCall (fun _ _ => 0) ⟨#[], #[.slice none 0 0, .int .i64 0], []⟩).memory Tryd.f6.params.toList Rows.limbsShiftsSpec.vars false (#[.slice none 0 0, .int .i64 0] : Array Value).toList 8 = some ([.nil, .lit (.int .i64 0)], [], places) :=
  ⟨[], by kernel_rfl⟩

set_option maxRecDepth 100000 in
theorem lifted (os : Os) (started : os.Started) (H : Type) (enc : TypeId × Value → H) (F : Stop.Interp) :
    ReturnsInHanded {} Tryd.checked os 6 .any ((OpenSpec.ofChange Rows.limbsShiftsSpec).preRow enc Tryd.prog Tryd.f6 Rows.limbsShiftsRow.domain false Rows.limbsShiftsRow.laid) (((OpenSpec.ofChange Rows.limbsShiftsSpec).at F).post enc Tryd.prog Tryd.f6 false true false false) := by
  obtain ⟨places, hx⟩ := reads os enc
  refine returnsInHanded_of_row (C := Tryd.checked) (s := OpenSpec.ofChange Rows.limbsShiftsSpec) own started (by kernel_rfl) Tryd.func6
    (witness_row_at (enc := enc) (C := Tryd.checked) false (laidWorld os) #[.slice none 0 0, .int .i64 0] rfl (by kernel_rfl) (by kernel_rfl) (by kernel_rfl)
      (OpenSpec.preRow_of_cond 8 hx (by kernel_rfl) (fun k hk => by cases hk) (by kernel_rfl) (laid_met os))) ?_
  intro W base args ds gs before hval hW _ _ _ hL _ _
  exact contract H enc W base args ds gs before hval hW hL

theorem said : Rows.LimbsShiftsSaid :=
  OpenClaim.holds_of_cond 6 Tryd.f6 rfl rfl rfl rfl rfl rfl rfl ⟨rfl, rfl, rfl, rfl, rfl⟩ rfl rfl rfl rfl rfl (by kernel_rfl) Tryd.func6 (by kernel_rfl)
    (of_decide_eq_true (by kernel_rfl)) (by unfold Func.isWrapper; first | (rw [if_pos (by decide +kernel)]; kernel_rfl) | (rw [if_neg (by decide +kernel)]; exact ⟨rfl, rfl⟩))
    (fun os started H enc _ F => by rw [OpenClaim.pre_eq_preRow]; exact lifted os started H enc F)

theorem plain (f : FuncId) (fn : Func) (hf : Tryd.pinned.checked.prog.funcNamed "tripwire/tripwirelaw01.LimbsShifts" = some f) (hfn : Tryd.pinned.checked.prog.funcs[f]? = some fn) :
    false = Tryd.pinned.checked.prog.looks [] ∧ ∀ (j : Nat) t, fn.params[j]? = some t → Tryd.pinned.checked.prog.wantsStandIn t = false := by
  obtain rfl : f = 6 := Option.some.inj ((show Tryd.prog.funcNamed "tripwire/tripwirelaw01.LimbsShifts" = some 6 by kernel_rfl).symm.trans hf) |>.symm
  obtain rfl : fn = Tryd.f6 := (Option.some.inj (Tryd.func6.symm.trans hfn)).symm
  refine ⟨by kernel_rfl, fun j t ht => ?_⟩
  rw [Tryd.params6] at ht
  have hm := Array.mem_of_getElem? ht
  simp at hm
  rcases hm with rfl | rfl
  · exact (show Tryd.prog.wantsStandIn 22 = false by kernel_rfl)
  · exact (show Tryd.prog.wantsStandIn 3 = false by kernel_rfl)

/-- The card. -/
theorem card : Rows.LimbsShiftsCardSaid :=
  Claim7.holds_tied_plain_at .later [] _ _ _ _ said (fun _ h => by cases h) (by kernel_rfl) (fun _ h => by cases h) limbsShifts_row_tie rfl ⟨rfl, rfl⟩ (by kernel_rfl) rfl plain (by kernel_rfl)
end limbsShifts
end Go.Proofs.YtjlfcnkndndgaaaDoor
