/-
  tripwirelaw01.LimbsDivides: the walk and the card. Written by wip/gen/divides.py.
-/
import Derived.Test.YtjlfcnkndndgaaaDoorKit
namespace Go.Proofs.YtjlfcnkndndgaaaDoor
open Go.RowKit Tw

set_option maxRecDepth 100000 in
set_option maxHeartbeats 4000000 in
theorem divides_small (A B' C' : Option Addr) (ca cb cc la lb lc a b c : Nat) (w : World) (ha : V w A ca la a) (hb : V w B' cb lb b) (hc : V w C' cc lc c) (hb1 : lb ≤ 12) (ha1 : la ≤ 12) (hc1 : lc ≤ 12) (h0 : Nat.gcd a b ≠ 0) (hT : Hid (Tab w)) :
    Calls Tryd.prog 4 #[.slice A la ca, .slice B' lb cb, .slice C' lc cc] w (Yes w) := by
  go_enter Tryd.func4, Tryd.ntmps4
  go_wp2_with fail
  refine (gcd_v ha hb (by omega) hT).mono ?_
  rintro e w1 ⟨A1, c1, l1, rfl, h1, m1, b1⟩
  have p1 : ((l1 : Int) == 0) = false := by have := h1.2; have hz : nl (Nat.gcd a b) ≠ 0 := fun e => h0 (nl_eq_zero.1 e); simp; omega
  go_wp2_with fail
  refine (divmod_v (ha.below b1) h1.v (by omega) h0).mono ?_
  rintro e w2 ⟨A2, c2, l2, A2r, c2r, l2r, rfl, h2, h2r, m2, m2r, b2⟩
  have p2 : ((l2r : Int) == 0) = true := by have := h2r.2; rw [Nat.mod_eq_zero_of_dvd (Nat.gcd_dvd_left a b), nl_zero] at this; simp; omega
  go_wp2_with fail
  refine (divmod_v (hb.below (below_trans b1 b2)) (h1.below b2).v (by omega) h0).mono ?_
  rintro e w3 ⟨A3, c3, l3, A3r, c3r, l3r, rfl, h3, h3r, m3, m3r, b3⟩
  have p3 : ((l3r : Int) == 0) = true := by have := h3r.2; rw [Nat.mod_eq_zero_of_dvd (Nat.gcd_dvd_right a b), nl_zero] at this; simp; omega
  go_wp2_with fail
  refine (gcd_v (h2.below b3).v h3.v (by omega) (hT.out.below (below_trans (below_trans b1 b2) b3))).mono ?_
  rintro e w4 ⟨A4, c4, l4, rfl, h4, m4, b4⟩
  go_wp2_with fail
  have z5 := one_lit w4 [1] 1 (ok_dec (by decide)) (.inr (by decide)) (by decide)
  refine (same_v (h4.below (lit_below w4 (L [1]))) z5 (by omega) (Nat.coprime_div_gcd_div_gcd (Nat.pos_of_ne_zero h0))).mono ?_
  rintro e w6 ⟨rfl, b6⟩
  go_wp2_with fail
  refine (mul_v (ha.below (below_trans (below_trans (below_trans (below_trans (below_trans b1 b2) b3) b4) (lit_below w4 (L [1]))) b6)) (hc.below (below_trans (below_trans (below_trans (below_trans (below_trans b1 b2) b3) b4) (lit_below w4 (L [1]))) b6)) (by omega)).mono ?_
  rintro e w7 ⟨A7, c7, l7, rfl, h7, m7, b7⟩
  go_wp2_with fail
  refine (mul_v (hb.below (below_trans (below_trans (below_trans (below_trans (below_trans (below_trans b1 b2) b3) b4) (lit_below w4 (L [1]))) b6) b7)) (hc.below (below_trans (below_trans (below_trans (below_trans (below_trans (below_trans b1 b2) b3) b4) (lit_below w4 (L [1]))) b6) b7)) (by omega)).mono ?_
  rintro e w8 ⟨A8, c8, l8, rfl, h8, m8, b8⟩
  go_wp2_with fail
  refine (gcd_v (h7.below b8).v h8.v (by omega) (hT.out.below (below_trans (below_trans (below_trans (below_trans (below_trans (below_trans (below_trans b1 b2) b3) b4) (lit_below w4 (L [1]))) b6) b7) b8))).mono ?_
  rintro e w9 ⟨A9, c9, l9, rfl, h9, m9, b9⟩
  go_wp2_with fail
  refine (mul_v (h1.below (below_trans (below_trans (below_trans (below_trans (below_trans (below_trans (below_trans b2 b3) b4) (lit_below w4 (L [1]))) b6) b7) b8) b9)).v (hc.below (below_trans (below_trans (below_trans (below_trans (below_trans (below_trans (below_trans (below_trans b1 b2) b3) b4) (lit_below w4 (L [1]))) b6) b7) b8) b9)) (by omega)).mono ?_
  rintro e w10 ⟨A10, c10, l10, rfl, h10, m10, b10⟩
  go_wp2_with fail
  refine (same_v (h9.below b10) h10 (by omega) (Nat.gcd_mul_right _ _ _)).mono ?_
  rintro e w11 ⟨rfl, b11⟩
  go_wp2_with fail
  refine (gcd_v (hb.below (below_trans (below_trans (below_trans (below_trans (below_trans (below_trans (below_trans (below_trans (below_trans (below_trans b1 b2) b3) b4) (lit_below w4 (L [1]))) b6) b7) b8) b9) b10) b11)) (ha.below (below_trans (below_trans (below_trans (below_trans (below_trans (below_trans (below_trans (below_trans (below_trans (below_trans b1 b2) b3) b4) (lit_below w4 (L [1]))) b6) b7) b8) b9) b10) b11)) (by omega) (hT.out.below (below_trans (below_trans (below_trans (below_trans (below_trans (below_trans (below_trans (below_trans (below_trans (below_trans b1 b2) b3) b4) (lit_below w4 (L [1]))) b6) b7) b8) b9) b10) b11))).mono ?_
  rintro e w12 ⟨A12, c12, l12, rfl, h12, m12, b12⟩
  go_wp2_with fail
  refine (same_v h12 (h1.below (below_trans (below_trans (below_trans (below_trans (below_trans (below_trans (below_trans (below_trans (below_trans (below_trans b2 b3) b4) (lit_below w4 (L [1]))) b6) b7) b8) b9) b10) b11) b12)) (by omega) (Nat.gcd_comm _ _)).mono ?_
  rintro e w13 ⟨rfl, b13⟩
  go_wp2_with fail
  refine (awake_any _ (hT.out.below (below_trans (below_trans (below_trans (below_trans (below_trans (below_trans (below_trans (below_trans (below_trans (below_trans (below_trans (below_trans b1 b2) b3) b4) (lit_below w4 (L [1]))) b6) b7) b8) b9) b10) b11) b12) b13))).mono ?_
  rintro e w14 ⟨rfl, b14⟩
  go_wp2_with fail
  go_ret
  exact ⟨rfl, (below_trans (below_trans (below_trans (below_trans (below_trans (below_trans (below_trans (below_trans (below_trans (below_trans (below_trans (below_trans (below_trans b1 b2) b3) b4) (lit_below w4 (L [1]))) b6) b7) b8) b9) b10) b11) b12) b13) b14)⟩

set_option maxRecDepth 100000 in
set_option maxHeartbeats 4000000 in
theorem divides_zero (A B' C' : Option Addr) (ca cb cc la lb lc c : Nat) (w : World) (ha : V w A ca la 0) (hb : V w B' cb lb 0) (hc : V w C' cc lc c) (hb1 : lb ≤ 12) (ha1 : la ≤ 12) (hc1 : lc ≤ 12) (hT : Hid (Tab w)) :
    Calls Tryd.prog 4 #[.slice A la ca, .slice B' lb cb, .slice C' lc cc] w (Yes w) := by
  go_enter Tryd.func4, Tryd.ntmps4
  go_wp2_with fail
  refine (gcd_v ha hb (by omega) hT).mono ?_
  rintro e w1 ⟨A1, c1, l1, rfl, h1, m1, b1⟩
  have p1 : ((l1 : Int) == 0) = true := by have := h1.2; rw [Nat.gcd_zero_left, nl_zero] at this; simp; omega
  go_wp2_with fail
  refine (trim_v (ha.below b1) (by omega)).mono ?_
  rintro e w2 ⟨A2, c2, l2, rfl, h2, m2, b2⟩
  have p2 : ((l2 : Int) == 0) = true := by have := h2.2; rw [nl_zero] at this; simp; omega
  go_wp2_with fail
  refine (trim_v (hb.below (below_trans b1 b2)) (by omega)).mono ?_
  rintro e w3 ⟨A3, c3, l3, rfl, h3, m3, b3⟩
  have p3 : ((l3 : Int) == 0) = true := by have := h3.2; rw [nl_zero] at this; simp; omega
  go_wp2_with fail
  refine (awake_any _ (hT.out.below (below_trans (below_trans b1 b2) b3))).mono ?_
  rintro e w4 ⟨rfl, b4⟩
  go_wp2_with fail
  go_ret
  exact ⟨rfl, (below_trans (below_trans (below_trans b1 b2) b3) b4)⟩

set_option maxRecDepth 100000 in
theorem divides_long (A B' C' : Option Addr) (ca cb cc la lb lc : Nat) (w : World) (h : (12 < la ∨ 12 < lb) ∨ 12 < lc) (ha : la ≤ 9223372036854775807) (hb : lb ≤ 9223372036854775807) (hc : lc ≤ 9223372036854775807) (hT : Hid (Tab w)) :
    Calls Tryd.prog 4 #[.slice A la ca, .slice B' lb cb, .slice C' lc cc] w (Yes w) := by
  by_cases h1 : 12 < la
  · have p1 : decide ((12 : Int) < (la : Int)) = true := by simp; omega
    go_enter Tryd.func4, Tryd.ntmps4
    go_wp2_with fail
    refine (awake_any _ hT).mono ?_
    rintro e w1 ⟨rfl, b1⟩
    go_wp2_with fail
    go_ret
    exact ⟨rfl, b1⟩
  · have p1 : decide ((12 : Int) < (la : Int)) = false := by simp; omega
    by_cases h2 : 12 < lb
    · have p2 : decide ((12 : Int) < (lb : Int)) = true := by simp; omega
      go_enter Tryd.func4, Tryd.ntmps4
      go_wp2_with fail
      refine (awake_any _ hT).mono ?_
      rintro e w1 ⟨rfl, b1⟩
      go_wp2_with fail
      go_ret
      exact ⟨rfl, b1⟩
    · have p2 : decide ((12 : Int) < (lb : Int)) = false := by simp; omega
      have p3 : decide ((12 : Int) < (lc : Int)) = true := by simp; omega
      go_enter Tryd.func4, Tryd.ntmps4
      go_wp2_with fail
      refine (awake_any _ hT).mono ?_
      rintro e w1 ⟨rfl, b1⟩
      go_wp2_with fail
      go_ret
      exact ⟨rfl, b1⟩

theorem divides_any {A B' C' : Option Addr} {ca cb cc la lb lc : Nat} {w : World} (ha : In w A la ca) (hb : In w B' lb cb) (hc : In w C' lc cc) (hT : Tab w) :
    Calls Tryd.prog 4 #[.slice A la ca, .slice B' lb cb, .slice C' lc cc] w (Yes w) := by
  obtain ⟨⟨a, va⟩, ma⟩ := ha
  obtain ⟨⟨b, vb⟩, mb⟩ := hb
  obtain ⟨⟨c, vc⟩, mc⟩ := hc
  by_cases h : (12 < la ∨ 12 < lb) ∨ 12 < lc
  · exact divides_long A B' C' ca cb cc la lb lc w h ma mb mc (Lib.hid hT)
  · by_cases hz : Nat.gcd a b = 0
    · obtain ⟨rfl, rfl⟩ := Nat.gcd_eq_zero_iff.1 hz
      exact divides_zero A B' C' ca cb cc la lb lc c w va vb vc (by omega) (by omega) (by omega) (Lib.hid hT)
    · exact divides_small A B' C' ca cb cc la lb lc a b c w va vb vc (by omega) (by omega) (by omega) hz (Lib.hid hT)

namespace limbsDivides
open Go.ChangeShapes Go.WideShapes Go.ChangeAt Go.RowKit Tw

theorem contract (H : Type) (enc : TypeId × Value → H) (W : World) (base : Nat) (args : Array Value) (ds gs : List (DataW H)) (before : List MemPlace)
    (hval : ∀ (j : Nat) t v, Tryd.f4.params[j]? = some t → args[j]? = some v → Value.okWide Tryd.prog W .any base t v)
    (hW : DataW.Whole enc Tryd.prog Tryd.f4.params.toList Rows.limbsDividesSpec.vars false W args.toList ds gs before) (hL : laidMetH Tryd.prog Rows.limbsDividesRow.laid W) :
    Calls Tryd.prog 4 args W fun e W' => ∃ v, e = .returned v ∧ Rows.limbsDividesSpec.post enc Tryd.prog Tryd.f4 false true false false W args v W' := by
  have hW' := hW
  obtain ⟨p, q, hA0, hV, rfl, hfz, hnd⟩ := hW
  have hA : DataW.TrodAll enc Tryd.prog W 0 (fun _ => true) true Tryd.f4.params.toList args.toList ds p := hA0
  rw [Tryd.params4] at hA hval
  obtain ⟨v0, vs0, d0, ds0, p0, q0, hargs, rfl, rfl, h0, r0⟩ := trodAll_cons hA
  obtain ⟨v1, vs1, d1, ds1, p1, q1, rfl, rfl, rfl, h1, r1⟩ := trodAll_cons r0
  obtain ⟨v2, vs2, d2, ds2, p2, q2, rfl, rfl, rfl, h2, r2⟩ := trodAll_cons r1
  obtain ⟨rfl, rfl, rfl⟩ := trodAll_nil r2
  obtain rfl : args = #[v0, v1, v2] := by cases args; simp_all
  obtain ⟨rfl, rfl⟩ := trodVars_none hV
  obtain ⟨a0, l0, c0, rfl⟩ := okWide_slice Tryd.underlying22 (hval 0 22 v0 rfl rfl)
  have lt0 : ∀ x ∈ p0, x.block < W.heap.size := by obtain ⟨m, hm⟩ := h0; exact DataW.trod_lt m _ _ _ hm
  obtain ⟨a1, l1, c1, rfl⟩ := okWide_slice Tryd.underlying22 (hval 1 22 v1 rfl rfl)
  have lt1 : ∀ x ∈ p1, x.block < W.heap.size := by obtain ⟨m, hm⟩ := h1; exact DataW.trod_lt m _ _ _ hm
  obtain ⟨a2, l2, c2, rfl⟩ := okWide_slice Tryd.underlying22 (hval 2 22 v2 rfl rfl)
  have lt2 : ∀ x ∈ p2, x.block < W.heap.size := by obtain ⟨m, hm⟩ := h2; exact DataW.trod_lt m _ _ _ hm
  refine (divides_any (in_of h0) (in_of h1) (in_of h2) (tab_of hL)).mono fun e W' ⟨he, bel⟩ => ?_
  subst he
  exact ⟨_, rfl, _, _, _, [], _, [], hW', trodAll_mk1 (shut_bool Tryd.underlying4 _), (trodAll_cons_mk (Below.trod laidOut (by kernel_rfl) (of_decide_eq_true (by kernel_rfl)) h0 bel lt0) (trodAll_cons_mk (Below.trod laidOut (by kernel_rfl) (of_decide_eq_true (by kernel_rfl)) h1 bel lt1) (trodAll_cons_mk (Below.trod laidOut (by kernel_rfl) (of_decide_eq_true (by kernel_rfl)) h2 bel lt2) trodAll_mk0))), rfl, bel.frame _, fun h => by cases h⟩

theorem laid_met (os : Os) : laidMet Tryd.prog Rows.limbsDividesRow.laid ((laidWorld os).forCall (fun _ _ => 0) ⟨#[], #[.slice none 0 0, .slice none 0 0, .slice none 0 0], []⟩).memory :=
  laidMet_of_run' 8 (by kernel_rfl) (by kernel_rfl)
theorem reads (os : Os) {H : Type} (enc : TypeId × Value → H) : ∃ places, DataW.whole enc Tryd.prog ((laidWorld os).forCall (fun _ _ => 0) ⟨#[], #[.slice none 0 0, .slice none 0 0, .slice none 0 0], []⟩).memory Tryd.f4.params.toList Rows.limbsDividesSpec.vars false (#[.slice none 0 0, .slice none 0 0, .slice none 0 0] : Array Value).toList 8 = some ([.nil, .nil, .nil], [], places) :=
  ⟨[], by kernel_rfl⟩

set_option maxRecDepth 100000 in
theorem lifted (os : Os) (started : os.Started) (H : Type) (enc : TypeId × Value → H) (F : Stop.Interp) :
    ReturnsInHanded {} Tryd.checked os 4 .any ((OpenSpec.ofChange Rows.limbsDividesSpec).preRow enc Tryd.prog Tryd.f4 Rows.limbsDividesRow.domain false Rows.limbsDividesRow.laid) (((OpenSpec.ofChange Rows.limbsDividesSpec).at F).post enc Tryd.prog Tryd.f4 false true false false) := by
  obtain ⟨places, hx⟩ := reads os enc
  refine returnsInHanded_of_row (C := Tryd.checked) (s := OpenSpec.ofChange Rows.limbsDividesSpec) own started (by kernel_rfl) Tryd.func4
    (witness_row_at (enc := enc) (C := Tryd.checked) false (laidWorld os) #[.slice none 0 0, .slice none 0 0, .slice none 0 0] rfl (by kernel_rfl) (by kernel_rfl) (by kernel_rfl)
      (OpenSpec.preRow_of_cond 8 hx (by kernel_rfl) (fun k hk => by cases hk) (by kernel_rfl) (laid_met os))) ?_
  intro W base args ds gs before hval hW _ _ _ hL _ _
  exact contract H enc W base args ds gs before hval hW hL

theorem said : Rows.LimbsDividesSaid :=
  OpenClaim.holds_of_cond 4 Tryd.f4 rfl rfl rfl rfl rfl rfl rfl ⟨rfl, rfl, rfl, rfl, rfl⟩ rfl rfl rfl rfl rfl (by kernel_rfl) Tryd.func4 (by kernel_rfl)
    (of_decide_eq_true (by kernel_rfl)) (by unfold Func.isWrapper; first | (rw [if_pos (by decide +kernel)]; kernel_rfl) | (rw [if_neg (by decide +kernel)]; exact ⟨rfl, rfl⟩))
    (fun os started H enc _ F => by rw [OpenClaim.pre_eq_preRow]; exact lifted os started H enc F)

theorem plain (f : FuncId) (fn : Func) (hf : Tryd.pinned.checked.prog.funcNamed "tripwire/tripwirelaw01.LimbsDivides" = some f) (hfn : Tryd.pinned.checked.prog.funcs[f]? = some fn) :
    false = Tryd.pinned.checked.prog.looks [] ∧ ∀ (j : Nat) t, fn.params[j]? = some t → Tryd.pinned.checked.prog.wantsStandIn t = false := by
  obtain rfl : f = 4 := Option.some.inj ((show Tryd.prog.funcNamed "tripwire/tripwirelaw01.LimbsDivides" = some 4 by kernel_rfl).symm.trans hf) |>.symm
  obtain rfl : fn = Tryd.f4 := (Option.some.inj (Tryd.func4.symm.trans hfn)).symm
  refine ⟨by kernel_rfl, fun j t ht => ?_⟩
  rw [Tryd.params4] at ht
  obtain rfl : t = 22 := by simpa using Array.mem_of_getElem? ht
  exact (show Tryd.prog.wantsStandIn 22 = false by kernel_rfl)

/-- The card. -/
theorem card : Rows.LimbsDividesCardSaid :=
  Claim7.holds_tied_plain_at .later [] _ _ _ _ said (fun _ h => by cases h) (by kernel_rfl) (fun _ h => by cases h) limbsDivides_row_tie rfl ⟨rfl, rfl⟩ (by kernel_rfl) rfl plain (by kernel_rfl)
end limbsDivides
end Go.Proofs.YtjlfcnkndndgaaaDoor
