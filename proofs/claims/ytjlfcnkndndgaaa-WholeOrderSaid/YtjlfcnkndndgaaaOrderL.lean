/-
  WholeOrder: for any three whole numbers the law answers true, and leaves what is handed in. No condition.
-/
import Derived.Test.YtjlfcnkndndgaaaOrder1n
import Derived.Test.YtjlfcnkndndgaaaOrder1z
import Derived.Test.YtjlfcnkndndgaaaOrder2n
import Derived.Test.YtjlfcnkndndgaaaOrder2z
import Derived.Test.YtjlfcnkndndgaaaOrder3n
import Derived.Test.YtjlfcnkndndgaaaOrder3z
namespace Go.Proofs.Ytjlfcnkndndgaaa
open Go.RowKit Tw

theorem order_small (sa sb sc : Bool) (A B' C' : Option Addr) (ca cb cc la lb lc : Nat) (a b c : Int) (w : World) (ha : I w sa A ca la a) (hb : I w sb B' cb lb b) (hc : I w sc C' cc lc c) (ha1 : la ≤ 40) (hb1 : lb ≤ 40) (hc1 : lc ≤ 40) :
    Calls Try.prog 4 #[.agg #[.bool sa, .slice A la ca], .agg #[.bool sb, .slice B' lb cb], .agg #[.bool sc, .slice C' lc cc]] w fun e w' => e = .returned (.bool true) ∧ Below w.heap.size w w' := by
  by_cases g1 : 0 < cmpI a b
  · by_cases h0 : b = 0
    · exact order_1z sa sb sc A B' C' ca cb cc la lb lc a b c w ha hb hc ha1 hb1 hc1 (Lib.hid h0) _ (Lib.hid rfl) (by simpa using g1)
    · exact order_1n sa sb sc A B' C' ca cb cc la lb lc a b c w ha hb hc ha1 hb1 hc1 h0 _ (Lib.hid rfl) (by simpa using g1)
  · by_cases g2 : 0 < cmpI b c
    · by_cases h0 : b = 0
      · exact order_2z sa sb sc A B' C' ca cb cc la lb lc a b c w ha hb hc ha1 hb1 hc1 (Lib.hid h0) _ (Lib.hid rfl) (by simpa using g1) _ (Lib.hid rfl) (by simpa using g2)
      · exact order_2n sa sb sc A B' C' ca cb cc la lb lc a b c w ha hb hc ha1 hb1 hc1 h0 _ (Lib.hid rfl) (by simpa using g1) _ (Lib.hid rfl) (by simpa using g2)
    · have g3 := cmpI_trans g1 g2
      by_cases h0 : b = 0
      · exact order_3z sa sb sc A B' C' ca cb cc la lb lc a b c w ha hb hc ha1 hb1 hc1 (Lib.hid h0) _ (Lib.hid rfl) (by simpa using g1) _ (Lib.hid rfl) (by simpa using g2) _ (Lib.hid rfl) (by simpa using g3)
      · exact order_3n sa sb sc A B' C' ca cb cc la lb lc a b c w ha hb hc ha1 hb1 hc1 h0 _ (Lib.hid rfl) (by simpa using g1) _ (Lib.hid rfl) (by simpa using g2) _ (Lib.hid rfl) (by simpa using g3)
theorem order_law {sa sb sc : Bool} {A B' C' : Option Addr} {ca cb cc la lb lc : Nat} {w : World} (ha : InI w sa A la ca) (hb : InI w sb B' lb cb) (hc : InI w sc C' lc cc) :
    Calls Try.prog 4 #[.agg #[.bool sa, .slice A la ca], .agg #[.bool sb, .slice B' lb cb], .agg #[.bool sc, .slice C' lc cc]] w fun e w' => e = .returned (.bool true) ∧ Below w.heap.size w w' := by
  obtain ⟨⟨a, ha⟩, ha1⟩ := ha
  obtain ⟨⟨b, hb⟩, hb1⟩ := hb
  obtain ⟨⟨c, hc⟩, hc1⟩ := hc
  by_cases g1 : la ≤ 40 ∧ lb ≤ 40 ∧ lc ≤ 40
  · exact order_small sa sb sc A B' C' ca cb cc la lb lc a b c w ha hb hc g1.1 g1.2.1 g1.2.2
  · obtain ⟨t1, e1⟩ : ∃ t, decide ((la : Int) ≤ 40) = t := ⟨_, rfl⟩
    obtain ⟨t2, e2⟩ : ∃ t, decide ((lb : Int) ≤ 40) = t := ⟨_, rfl⟩
    obtain ⟨t3, e3⟩ : ∃ t, decide ((lc : Int) ≤ 40) = t := ⟨_, rfl⟩
    have H1 := Lib.hid e1
    have H2 := Lib.hid e2
    have H3 := Lib.hid e3
    have HG : Hid (¬ (t1 = true ∧ t2 = true ∧ t3 = true)) := by
      show ¬ _
      rw [← e1, ← e2, ← e3]
      simp only [decide_eq_true_eq]
      omega
    clear e1 e2 e3 g1 ha hb hc ha1 hb1 hc1
    obtain ⟨W, hW, x0, x1, x2, hB⟩ := box2 w (.bool sa) (.slice A la ca) (.bool sb) (.slice B' lb cb) (.bool sc) (.slice C' lc cc)
    have HX := Lib.hid x0
    have HY := Lib.hid x1
    have HZ := Lib.hid x2
    have Bz := Below.refl W.heap.size W
    clear x0 x1 x2
    cases t1 <;> cases t2 <;> cases t3
    case true.true.true => exact absurd ⟨rfl, rfl, rfl⟩ HG.out
    all_goals
      clear HG
      go_enter Try.func4, Try.ntmps4
      go_wp2_with fail
      rw [← hW]
      clear hW
      repeat'
        first
        | (with_reducible refine (short_z 40 _ H1.out).mono ?_; rintro e wz ⟨rfl, bz⟩; replace Bz := below_trans Bz bz; clear bz H1; obtain ⟨⟨p1, p2⟩, _, _⟩ := (HX.out.below Bz).look; obtain ⟨⟨q1, q2⟩, _, _⟩ := (HY.out.below Bz).look; obtain ⟨⟨r1, r2⟩, _, _⟩ := (HZ.out.below Bz).look; go_wp2_with fail)
        | (with_reducible refine (short_z 40 _ H2.out).mono ?_; rintro e wz ⟨rfl, bz⟩; replace Bz := below_trans Bz bz; clear bz H2; obtain ⟨⟨p1, p2⟩, _, _⟩ := (HX.out.below Bz).look; obtain ⟨⟨q1, q2⟩, _, _⟩ := (HY.out.below Bz).look; obtain ⟨⟨r1, r2⟩, _, _⟩ := (HZ.out.below Bz).look; go_wp2_with fail)
        | (with_reducible refine (short_z 40 _ H3.out).mono ?_; rintro e wz ⟨rfl, bz⟩; replace Bz := below_trans Bz bz; clear bz H3; obtain ⟨⟨p1, p2⟩, _, _⟩ := (HX.out.below Bz).look; obtain ⟨⟨q1, q2⟩, _, _⟩ := (HY.out.below Bz).look; obtain ⟨⟨r1, r2⟩, _, _⟩ := (HZ.out.below Bz).look; go_wp2_with fail)
        | (with_reducible refine (awake2 _).mono ?_; rintro e wz ⟨rfl, bz⟩; replace Bz := below_trans Bz bz; clear bz; go_wp2_with fail)
      go_ret
      exact ⟨rfl, below_trans hB Bz⟩

namespace wholeOrder
open Go.ChangeShapes Go.WideShapes Go.ChangeAt Go.RowKit Tw

theorem contract (H : Type) (enc : TypeId × Value → H) (W : World) (base : Nat) (args : Array Value) (ds gs : List (DataW H)) (before : List MemPlace)
    (hval : ∀ (j : Nat) t v, Try.f4.params[j]? = some t → args[j]? = some v → Value.okWide Try.prog W .any base t v)
    (hW : DataW.Whole enc Try.prog Try.f4.params.toList Rows.wholeOrderSpec.vars false W args.toList ds gs before) :
    Calls Try.prog 4 args W fun e W' => ∃ v, e = .returned v ∧ Rows.wholeOrderSpec.post enc Try.prog Try.f4 false true false false W args v W' := by
  have hW' := hW
  obtain ⟨p, q, hA0, hV, rfl, hfz, hnd⟩ := hW
  have hA : DataW.TrodAll enc Try.prog W 0 (fun _ => true) true Try.f4.params.toList args.toList ds p := hA0
  rw [Try.params4] at hA hval
  obtain ⟨v0, vs0, d0, ds0, p0, q0, hargs, rfl, rfl, h0, r0⟩ := trodAll_cons hA
  obtain ⟨v1, vs1, d1, ds1, p1, q1, rfl, rfl, rfl, h1, r1⟩ := trodAll_cons r0
  obtain ⟨v2, vs2, d2, ds2, p2, q2, rfl, rfl, rfl, h2, r2⟩ := trodAll_cons r1
  obtain ⟨rfl, rfl, rfl⟩ := trodAll_nil r2
  obtain rfl : args = #[v0, v1, v2] := by cases args; simp_all
  obtain ⟨rfl, rfl⟩ := trodVars_none hV
  have lt0 : ∀ x ∈ p0, x.block < W.heap.size := by obtain ⟨m, hm⟩ := h0; exact DataW.trod_lt m _ _ _ hm
  obtain ⟨s0, a0, l0, c0, rfl, i0⟩ := int_of h0 (agg_of (hval 0 24 v0 rfl rfl))
  have lt1 : ∀ x ∈ p1, x.block < W.heap.size := by obtain ⟨m, hm⟩ := h1; exact DataW.trod_lt m _ _ _ hm
  obtain ⟨s1, a1, l1, c1, rfl, i1⟩ := int_of h1 (agg_of (hval 1 24 v1 rfl rfl))
  have lt2 : ∀ x ∈ p2, x.block < W.heap.size := by obtain ⟨m, hm⟩ := h2; exact DataW.trod_lt m _ _ _ hm
  obtain ⟨s2, a2, l2, c2, rfl, i2⟩ := int_of h2 (agg_of (hval 2 24 v2 rfl rfl))
  refine (order_law i0 i1 i2).mono fun e W' ⟨he, bel⟩ => ?_
  subst he
  exact ⟨_, rfl, _, _, _, [], _, [], hW', trodAll_mk1 (shut_bool Try.underlying4 _), (trodAll_cons_mk (Below.trod laidOut (by kernel_rfl) (of_decide_eq_true (by kernel_rfl)) h0 bel lt0) (trodAll_cons_mk (Below.trod laidOut (by kernel_rfl) (of_decide_eq_true (by kernel_rfl)) h1 bel lt1) (trodAll_cons_mk (Below.trod laidOut (by kernel_rfl) (of_decide_eq_true (by kernel_rfl)) h2 bel lt2) trodAll_mk0))), rfl, bel.frame _, fun h => by cases h⟩

theorem reads (os : Os) {H : Type} (enc : TypeId × Value → H) : ∃ places, DataW.whole enc Try.prog ((World.holding Try.prog os ⟨#[], #[], []⟩).forCall (fun _ _ => 0) ⟨#[], #[.agg #[.bool false, .slice none 0 0], .agg #[.bool false, .slice none 0 0], .agg #[.bool false, .slice none 0 0]], []⟩).memory Try.f4.params.toList Rows.wholeOrderSpec.vars false (#[.agg #[.bool false, .slice none 0 0], .agg #[.bool false, .slice none 0 0], .agg #[.bool false, .slice none 0 0]] : Array Value).toList 8 = some ([.agg [.lit (.bool false), .nil], .agg [.lit (.bool false), .nil], .agg [.lit (.bool false), .nil]], [], places) :=
  ⟨[], by kernel_rfl⟩

set_option maxRecDepth 100000 in
theorem lifted (os : Os) (started : os.Started) (H : Type) (enc : TypeId × Value → H) (F : Stop.Interp) :
    ReturnsInHanded {} Try.checked os 4 .any ((OpenSpec.ofChange Rows.wholeOrderSpec).preRow enc Try.prog Try.f4 Rows.wholeOrderRow.domain false Rows.wholeOrderRow.laid) (((OpenSpec.ofChange Rows.wholeOrderSpec).at F).post enc Try.prog Try.f4 false true false false) := by
  obtain ⟨places, hx⟩ := reads os enc
  refine returnsInHanded_of_row (C := Try.checked) (s := OpenSpec.ofChange Rows.wholeOrderSpec) own started (by kernel_rfl) Try.func4
    (witness_row_at (enc := enc) (C := Try.checked) false (World.holding Try.prog os ⟨#[], #[], []⟩) #[.agg #[.bool false, .slice none 0 0], .agg #[.bool false, .slice none 0 0], .agg #[.bool false, .slice none 0 0]] rfl (by kernel_rfl) (by kernel_rfl) (by kernel_rfl)
      (OpenSpec.preRow_of_cond 8 hx (by kernel_rfl) (fun k hk => by cases hk) (by kernel_rfl) (laidMet_nil _ _))) ?_
  intro W base args ds gs before hval hW _ _ _ _ _ _
  exact contract H enc W base args ds gs before hval hW

theorem said : Rows.WholeOrderSaid :=
  OpenClaim.holds_of_cond 4 Try.f4 rfl rfl rfl rfl rfl rfl rfl ⟨rfl, rfl, rfl, rfl, rfl⟩ rfl rfl rfl rfl rfl (by kernel_rfl) Try.func4 (by kernel_rfl)
    (of_decide_eq_true (by kernel_rfl)) (by unfold Func.isWrapper; first | (rw [if_pos (by decide +kernel)]; kernel_rfl) | (rw [if_neg (by decide +kernel)]; exact ⟨rfl, rfl⟩))
    (fun os started H enc _ F => by rw [OpenClaim.pre_eq_preRow]; exact lifted os started H enc F)
end wholeOrder
end Go.Proofs.Ytjlfcnkndndgaaa
