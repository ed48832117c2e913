/-
  QueueNone: missing queues are refused, and tell nothing; for any node the law answers true. No condition. Written by wip/gen/qu13.py.
-/
import Derived.Test.YtihdaemjabhhkaaDoorQu12
import Derived.Test.YtihdaemjabhhkaaDoorZTab
namespace Go.Proofs.YtihdaemjabhhkaaDoor
open Go.RowKit Tw Hp

theorem noq_nil (w : World) : NoQ w (.pointer none) := Or.inl rfl
theorem noq_zero {w : World} {zb : Nat} {v1 v2 : Value} (h : Bx w zb #[.pointer none, v1, v2] 49) : NoQ w (.pointer (some ⟨zb, 0, none⟩)) := Or.inr ⟨zb, v1, v2, rfl, h⟩
theorem len_nb {w : World} {v : Value} (h : NoQ w v) : Calls Tryd.prog 44 #[v] w fun e w' => e = .returned (.int .i64 0) ∧ Below w.heap.size w w' :=
  (len_no h).mono fun e w' ⟨he, hw⟩ => ⟨he, by rw [← hw]; exact Below.refl _ _⟩
theorem r_zero (w : World) : R w false none 0 0 false none 0 0 0 1 := ⟨0, 0, i_none w false, i_none w false, by rw [if_pos rfl, qof_one]; rfl, by omega, by omega⟩
set_option maxRecDepth 100000 in
theorem same_zero {w : World} : Calls Tryd.prog 43 #[.agg #[.bool false, .slice none 0 0, .bool false, .slice none 0 0, .int .i64 0, .int .i64 0, .slice none 0 0], .agg #[.bool false, .slice none 0 0, .bool false, .slice none 0 0, .int .i64 0, .int .i64 0, .slice none 0 0]] w fun e w' => e = .returned (.bool true) ∧ Below w.heap.size w w' := by
  obtain ⟨W, hW, x0, x1, hB⟩ := boxes2 w #[.bool false, .slice none 0 0, .bool false, .slice none 0 0, .int .i64 0, .int .i64 0, .slice none 0 0] 44 #[.bool false, .slice none 0 0, .bool false, .slice none 0 0, .int .i64 0, .int .i64 0, .slice none 0 0] 44
  have HX0 := Lib.hid x0
  have HX1 := Lib.hid x1
  clear x0 x1
  have Bz := Below.refl W.heap.size W
  have p0_0 := (HX0.out.below Bz).cell 0 (.bool false) rfl
  have p0_1 := (HX0.out.below Bz).cell 1 (.slice none 0 0) rfl
  have p0_2 := (HX0.out.below Bz).cell 2 (.bool false) rfl
  have p0_3 := (HX0.out.below Bz).cell 3 (.slice none 0 0) rfl
  have p1_0 := (HX1.out.below Bz).cell 0 (.bool false) rfl
  have p1_1 := (HX1.out.below Bz).cell 1 (.slice none 0 0) rfl
  have p1_2 := (HX1.out.below Bz).cell 2 (.bool false) rfl
  have p1_3 := (HX1.out.below Bz).cell 3 (.slice none 0 0) rfl
  go_enter Tryd.func43, Tryd.ntmps43
  go_wp2_with fail
  rw [← hW]
  clear hW
  go_wp2_with fail
  with_reducible refine (same_q (r_zero _) (r_zero _) (by omega) true (Lib.hid (by simp))).mono ?_
  rintro e w1 ⟨rfl, b1⟩
  replace b1 := below_trans (a := W) (by go_grown) b1
  replace Bz := below_trans Bz b1
  clear b1
  clear p0_0 p0_1 p0_2 p0_3 p1_0 p1_1 p1_2 p1_3
  have p0_4 := (HX0.out.below Bz).cell 4 (.int .i64 0) rfl
  have p0_5 := (HX0.out.below Bz).cell 5 (.int .i64 0) rfl
  have p0_6 := (HX0.out.below Bz).cell 6 (.slice none 0 0) rfl
  have p1_4 := (HX1.out.below Bz).cell 4 (.int .i64 0) rfl
  have p1_5 := (HX1.out.below Bz).cell 5 (.int .i64 0) rfl
  have p1_6 := (HX1.out.below Bz).cell 6 (.slice none 0 0) rfl
  go_wp2_with fail
  go_loopg [38] 0 (fun gk i wr => gk = 0 ∧ i = .int .i64 0 ∧ Below w.heap.size w wr)
  case atStart => exact ⟨rfl, rfl, below_trans (below_trans hB Bz) (by go_grown)⟩
  case round =>
    obtain ⟨rfl, rfl, hb⟩ := hrel
    have HB := Lib.hid hb
    clear hb
    go_wp2_with fail
    go_ret
    exact ⟨rfl, HB.out⟩
set_option maxRecDepth 100000 in
set_option maxHeartbeats 4000000 in
theorem none_any {w : World} {c0 c1 c2 c3 c4 c5 c6 : Value} (hT' : Tab w) : Calls Tryd.prog 4 #[.agg #[c0, c1, c2, c3, c4, c5, c6]] w (Yes w) := by
  have hT := Lib.hid hT'
  clear hT'
  obtain ⟨W, hW, x0, x1, hB⟩ := boxes2 w #[c0, c1, c2, c3, c4, c5, c6] 44 #[.pointer none, .slice none 0 0, .int .i64 0] 49
  have HX0 := Lib.hid x0
  have HX1 := Lib.hid x1
  clear x0 x1
  have Bz := Below.refl W.heap.size W
  go_enter Tryd.func4, Tryd.ntmps4
  go_wp2_with fail
  rw [← hW]
  clear hW
  go_wp2_with fail
  with_reducible refine (pop_no (noq_nil _)).mono ?_
  rintro e w1 ⟨rfl, b1⟩
  replace b1 := below_trans (a := W) (by go_grown) b1
  replace Bz := below_trans Bz b1
  clear b1
  go_upto_region 4 with (fail)
  obtain ⟨V1, hW, x2, hN⟩ := boxes1 w1 #[.bool false, .slice none 0 0, .bool false, .slice none 0 0, .int .i64 0, .int .i64 0, .slice none 0 0] 44
  rw [← hW]
  clear hW
  obtain ⟨v2, hb2⟩ : ∃ b, b = w1.heap.size := ⟨_, rfl⟩
  rw [← hb2] at x2 ⊢
  have o0_2 : w.heap.size < v2 := by have := (HX0.out.below Bz).lt; omega
  have o1_2 : w.heap.size + 1 < v2 := by have := (HX1.out.below Bz).lt; omega
  have ow_2 : w.heap.size ≤ v2 := by have := hB.size; have := Bz.size; omega
  replace hB := below_trans (below_trans hB Bz) hN
  replace HX0 := Lib.hid ((HX0.out.below Bz).below hN)
  replace HX1 := Lib.hid ((HX1.out.below Bz).below hN)
  have HX2 := Lib.hid x2
  clear x2 hN Bz hb2
  have Bz := Below.refl V1.heap.size V1
  go_wp2_with fail
  with_reducible refine (pop_no (noq_zero (Bx.below (HX1.out.below Bz) (by go_grown)))).mono ?_
  rintro e w2 ⟨rfl, b2⟩
  replace b2 := below_trans (a := V1) (by go_grown) b2
  replace Bz := below_trans Bz b2
  clear b2
  go_upto_region 5 with (fail)
  obtain ⟨V2, hW, x3, hN⟩ := boxes1 w2 #[.bool false, .slice none 0 0, .bool false, .slice none 0 0, .int .i64 0, .int .i64 0, .slice none 0 0] 44
  rw [← hW]
  clear hW
  obtain ⟨v3, hb3⟩ : ∃ b, b = w2.heap.size := ⟨_, rfl⟩
  rw [← hb3] at x3 ⊢
  have o0_3 : w.heap.size < v3 := by have := (HX0.out.below Bz).lt; omega
  have o1_3 : w.heap.size + 1 < v3 := by have := (HX1.out.below Bz).lt; omega
  have o2_3 : v2 < v3 := by have := (HX2.out.below Bz).lt; omega
  have ow_3 : w.heap.size ≤ v3 := by have := hB.size; have := Bz.size; omega
  replace hB := below_trans (below_trans hB Bz) hN
  replace HX0 := Lib.hid ((HX0.out.below Bz).below hN)
  replace HX1 := Lib.hid ((HX1.out.below Bz).below hN)
  replace HX2 := Lib.hid ((HX2.out.below Bz).below hN)
  have HX3 := Lib.hid x3
  clear x3 hN Bz hb3
  have Bz := Below.refl V2.heap.size V2
  go_wp2_with fail
  with_reducible refine (least_no (noq_nil _)).mono ?_
  rintro e w3 ⟨rfl, b3⟩
  replace b3 := below_trans (a := V2) (by go_grown) b3
  replace Bz := below_trans Bz b3
  clear b3
  go_upto_region 6 with (fail)
  obtain ⟨V3, hW, x4, hN⟩ := boxes1 w3 #[.bool false, .slice none 0 0, .bool false, .slice none 0 0] 41
  rw [← hW]
  clear hW
  obtain ⟨v4, hb4⟩ : ∃ b, b = w3.heap.size := ⟨_, rfl⟩
  rw [← hb4] at x4 ⊢
  have o0_4 : w.heap.size < v4 := by have := (HX0.out.below Bz).lt; omega
  have o1_4 : w.heap.size + 1 < v4 := by have := (HX1.out.below Bz).lt; omega
  have o2_4 : v2 < v4 := by have := (HX2.out.below Bz).lt; omega
  have o3_4 : v3 < v4 := by have := (HX3.out.below Bz).lt; omega
  have ow_4 : w.heap.size ≤ v4 := by have := hB.size; have := Bz.size; omega
  replace hB := below_trans (below_trans hB Bz) hN
  replace HX0 := Lib.hid ((HX0.out.below Bz).below hN)
  replace HX1 := Lib.hid ((HX1.out.below Bz).below hN)
  replace HX2 := Lib.hid ((HX2.out.below Bz).below hN)
  replace HX3 := Lib.hid ((HX3.out.below Bz).below hN)
  have HX4 := Lib.hid x4
  clear x4 hN Bz hb4
  have Bz := Below.refl V3.heap.size V3
  go_wp2_with fail
  with_reducible refine (least_no (noq_zero (Bx.below (HX1.out.below Bz) (by go_grown)))).mono ?_
  rintro e w4 ⟨rfl, b4⟩
  replace b4 := below_trans (a := V3) (by go_grown) b4
  replace Bz := below_trans Bz b4
  clear b4
  go_upto_region 7 with (fail)
  obtain ⟨V4, hW, x5, hN⟩ := boxes1 w4 #[.bool false, .slice none 0 0, .bool false, .slice none 0 0] 41
  rw [← hW]
  clear hW
  obtain ⟨v5, hb5⟩ : ∃ b, b = w4.heap.size := ⟨_, rfl⟩
  rw [← hb5] at x5 ⊢
  have o0_5 : w.heap.size < v5 := by have := (HX0.out.below Bz).lt; omega
  have o1_5 : w.heap.size + 1 < v5 := by have := (HX1.out.below Bz).lt; omega
  have o2_5 : v2 < v5 := by have := (HX2.out.below Bz).lt; omega
  have o3_5 : v3 < v5 := by have := (HX3.out.below Bz).lt; omega
  have o4_5 : v4 < v5 := by have := (HX4.out.below Bz).lt; omega
  have ow_5 : w.heap.size ≤ v5 := by have := hB.size; have := Bz.size; omega
  replace hB := below_trans (below_trans hB Bz) hN
  replace HX0 := Lib.hid ((HX0.out.below Bz).below hN)
  replace HX1 := Lib.hid ((HX1.out.below Bz).below hN)
  replace HX2 := Lib.hid ((HX2.out.below Bz).below hN)
  replace HX3 := Lib.hid ((HX3.out.below Bz).below hN)
  replace HX4 := Lib.hid ((HX4.out.below Bz).below hN)
  have HX5 := Lib.hid x5
  clear x5 hN Bz hb5
  have Bz := Below.refl V4.heap.size V4
  have p0_0 := (HX0.out.below Bz).cell 0 (c0) rfl
  have p0_1 := (HX0.out.below Bz).cell 1 (c1) rfl
  have p0_2 := (HX0.out.below Bz).cell 2 (c2) rfl
  have p0_3 := (HX0.out.below Bz).cell 3 (c3) rfl
  have p0_4 := (HX0.out.below Bz).cell 4 (c4) rfl
  have p0_5 := (HX0.out.below Bz).cell 5 (c5) rfl
  have p0_6 := (HX0.out.below Bz).cell 6 (c6) rfl
  go_wp2_with fail
  with_reducible refine (push_no (noq_nil _)).mono ?_
  rintro e w5 ⟨rfl, b5⟩
  replace b5 := below_trans (a := V4) (by go_grown) b5
  replace Bz := below_trans Bz b5
  clear b5
  clear p0_0 p0_1 p0_2 p0_3 p0_4 p0_5 p0_6
  have p0_0 := (HX0.out.below Bz).cell 0 (c0) rfl
  have p0_1 := (HX0.out.below Bz).cell 1 (c1) rfl
  have p0_2 := (HX0.out.below Bz).cell 2 (c2) rfl
  have p0_3 := (HX0.out.below Bz).cell 3 (c3) rfl
  have p0_4 := (HX0.out.below Bz).cell 4 (c4) rfl
  have p0_5 := (HX0.out.below Bz).cell 5 (c5) rfl
  have p0_6 := (HX0.out.below Bz).cell 6 (c6) rfl
  go_wp2_with fail
  with_reducible refine (push_no (noq_zero (Bx.below (HX1.out.below Bz) (by go_grown)))).mono ?_
  rintro e w6 ⟨rfl, b6⟩
  replace b6 := below_trans (a := w5) (by go_grown) b6
  replace Bz := below_trans Bz b6
  clear b6
  clear p0_0 p0_1 p0_2 p0_3 p0_4 p0_5 p0_6
  have p2_0 := (HX2.out.below Bz).cell 0 (.bool false) rfl
  have p2_1 := (HX2.out.below Bz).cell 1 (.slice none 0 0) rfl
  have p2_2 := (HX2.out.below Bz).cell 2 (.bool false) rfl
  have p2_3 := (HX2.out.below Bz).cell 3 (.slice none 0 0) rfl
  have p2_4 := (HX2.out.below Bz).cell 4 (.int .i64 0) rfl
  have p2_5 := (HX2.out.below Bz).cell 5 (.int .i64 0) rfl
  have p2_6 := (HX2.out.below Bz).cell 6 (.slice none 0 0) rfl
  go_wp2_with fail
  with_reducible refine (same_zero).mono ?_
  rintro e w7 ⟨rfl, b7⟩
  replace b7 := below_trans (a := w6) (by go_grown) b7
  replace Bz := below_trans Bz b7
  clear b7
  clear p2_0 p2_1 p2_2 p2_3 p2_4 p2_5 p2_6
  have p3_0 := (HX3.out.below Bz).cell 0 (.bool false) rfl
  have p3_1 := (HX3.out.below Bz).cell 1 (.slice none 0 0) rfl
  have p3_2 := (HX3.out.below Bz).cell 2 (.bool false) rfl
  have p3_3 := (HX3.out.below Bz).cell 3 (.slice none 0 0) rfl
  have p3_4 := (HX3.out.below Bz).cell 4 (.int .i64 0) rfl
  have p3_5 := (HX3.out.below Bz).cell 5 (.int .i64 0) rfl
  have p3_6 := (HX3.out.below Bz).cell 6 (.slice none 0 0) rfl
  go_wp2_with fail
  with_reducible refine (same_zero).mono ?_
  rintro e w8 ⟨rfl, b8⟩
  replace b8 := below_trans (a := w7) (by go_grown) b8
  replace Bz := below_trans Bz b8
  clear b8
  clear p3_0 p3_1 p3_2 p3_3 p3_4 p3_5 p3_6
  go_wp2_with fail
  with_reducible refine (len_nb (noq_nil _)).mono ?_
  rintro e w9 ⟨rfl, b9⟩
  replace b9 := below_trans (a := w8) (by go_grown) b9
  replace Bz := below_trans Bz b9
  clear b9
  go_wp2_with fail
  with_reducible refine (len_nb (noq_zero (Bx.below (HX1.out.below Bz) (by go_grown)))).mono ?_
  rintro e w10 ⟨rfl, b10⟩
  replace b10 := below_trans (a := w9) (by go_grown) b10
  replace Bz := below_trans Bz b10
  clear b10
  go_wp2_with fail
  with_reducible refine (awake24 (Lib.hid (Tab.below hT.out (below_trans hB (below_trans (b := w10) Bz (by go_grown)))))).mono ?_
  rintro e w11 ⟨rfl, b11⟩
  replace b11 := below_trans (a := w10) (by go_grown) b11
  replace Bz := below_trans Bz b11
  clear b11
  go_wp2_with fail
  go_ret
  have hF := below_trans (c := w11) hB Bz
  exact ⟨rfl, below_trans hF (by go_grown)⟩

open Go.ChangeShapes Go.WideShapes Go.ChangeAt in
set_option maxRecDepth 100000 in
theorem node_of {W : World} {r : Reach} {b : Nat} {v : Value} (h : Value.okWide Tryd.prog W r b 44 v) : ∃ c0 c1 c2 c3 c4 c5 c6, v = .agg #[c0, c1, c2, c3, c4, c5, c6] := by
  obtain ⟨cs, rfl, hs⟩ := okWide_struct Tryd.underlying44 h
  have hC : Tryd.prog.cellsOf 44 = 7 := by kernel_rfl
  rw [hC] at hs
  obtain ⟨l⟩ := cs
  match l, hs with
  | [c0, c1, c2, c3, c4, c5, c6], _ => exact ⟨c0, c1, c2, c3, c4, c5, c6, rfl⟩

namespace queueNone
open Go.ChangeShapes Go.WideShapes Go.ChangeAt Go.RowKit Tw

set_option maxRecDepth 100000 in
theorem contract (H : Type) (enc : TypeId × Value → H) (W : World) (base : Nat) (args : Array Value) (ds gs : List (DataW H)) (before : List MemPlace)
    (hval : ∀ (j : Nat) t v, Tryd.f4.params[j]? = some t → args[j]? = some v → Value.okWide Tryd.prog W .any base t v)
    (hW : DataW.Whole enc Tryd.prog Tryd.f4.params.toList Rows.queueNoneSpec.vars false W args.toList ds gs before) (hL : laidMetH Tryd.prog Rows.queueNoneRow.laid W) :
    Calls Tryd.prog 4 args W fun e W' => ∃ v, e = .returned v ∧ Rows.queueNoneSpec.post enc Tryd.prog Tryd.f4 false true false false W args v W' := by
  have hW' := hW
  obtain ⟨p, q, hA0, hV, rfl, hfz, hnd⟩ := hW
  have hA : DataW.TrodAll enc Tryd.prog W 0 (fun _ => true) true Tryd.f4.params.toList args.toList ds p := hA0
  rw [Tryd.params4] at hA hval
  obtain ⟨v0, vs0, d0, ds0, p0, q0, hargs, rfl, rfl, h0, r0⟩ := trodAll_cons hA
  obtain ⟨rfl, rfl, rfl⟩ := trodAll_nil r0
  obtain rfl : args = #[v0] := by cases args; simp_all
  obtain ⟨rfl, rfl⟩ := trodVars_none hV
  have lt0 : ∀ x ∈ p0, x.block < W.heap.size := by obtain ⟨m, hm⟩ := h0; exact DataW.trod_lt m _ _ _ hm
  obtain ⟨n00, n01, n02, n03, n04, n05, n06, rfl⟩ := node_of (hval 0 44 v0 rfl rfl)
  refine (none_any  (tab_of hL)).mono fun e W' ⟨he, bel⟩ => ?_
  subst he
  exact ⟨_, rfl, _, _, _, [], _, [], hW', trodAll_mk1 (shut_bool Tryd.underlying4 _), (trodAll_cons_mk (Below.trod laidOut (by kernel_rfl) (of_decide_eq_true (by kernel_rfl)) h0 bel lt0) trodAll_mk0), rfl, bel.frame _, fun h => by cases h⟩

theorem laid_met (os : Os) : laidMet Tryd.prog Rows.queueNoneRow.laid ((laidWorld os).forCall (fun _ _ => 0) ⟨#[], #[.agg #[.bool false, .slice none 0 0, .bool false, .slice none 0 0, .int .i64 0, .int .i64 0, .slice none 0 0]], []⟩).memory :=
  laidMet_of_run' 8 (by kernel_rfl) (by kernel_rfl)
set_option maxRecDepth 100000 in
theorem reads (os : Os) {H : Type} (enc : TypeId × Value → H) : ∃ places, DataW.whole enc Tryd.prog ((laidWorld os).forCall (fun _ _ => 0) ⟨#[], #[.agg #[.bool false, .slice none 0 0, .bool false, .slice none 0 0, .int .i64 0, .int .i64 0, .slice none 0 0]], []⟩).memory Tryd.f4.params.toList Rows.queueNoneSpec.vars false (#[.agg #[.bool false, .slice none 0 0, .bool false, .slice none 0 0, .int .i64 0, .int .i64 0, .slice none 0 0]] : Array Value).toList 8 = some ([.agg [.agg [.agg [.lit (.bool false), .nil], .agg [.lit (.bool false), .nil]], .lit (.int .i64 0), .lit (.int .i64 0), .nil]], [], places) :=
  ⟨[], by kernel_rfl⟩

set_option maxRecDepth 100000 in
theorem lifted (os : Os) (started : os.Started) (H : Type) (enc : TypeId × Value → H) (F : Stop.Interp) :
    ReturnsInHanded {} Tryd.checked os 4 .any ((OpenSpec.ofChange Rows.queueNoneSpec).preRow enc Tryd.prog Tryd.f4 Rows.queueNoneRow.domain false Rows.queueNoneRow.laid) (((OpenSpec.ofChange Rows.queueNoneSpec).at F).post enc Tryd.prog Tryd.f4 false true false false) := by
  obtain ⟨places, hx⟩ := reads os enc
  refine returnsInHanded_of_row (C := Tryd.checked) (s := OpenSpec.ofChange Rows.queueNoneSpec) own started (by kernel_rfl) Tryd.func4
    (witness_row_at (enc := enc) (C := Tryd.checked) false (laidWorld os) #[.agg #[.bool false, .slice none 0 0, .bool false, .slice none 0 0, .int .i64 0, .int .i64 0, .slice none 0 0]] rfl (by kernel_rfl) (by kernel_rfl) (by kernel_rfl)
      (OpenSpec.preRow_of_cond 8 hx (by kernel_rfl) (fun k hk => by cases hk) (by kernel_rfl) (laid_met os))) ?_
  intro W base args ds gs before hval hW _ _ _ hL _ _
  exact contract H enc W base args ds gs before hval hW hL

theorem said : Rows.QueueNoneSaid :=
  OpenClaim.holds_of_cond 4 Tryd.f4 rfl rfl rfl rfl rfl rfl rfl ⟨rfl, rfl, rfl, rfl, rfl⟩ rfl rfl rfl rfl rfl (by kernel_rfl) Tryd.func4 (by kernel_rfl)
    (of_decide_eq_true (by kernel_rfl)) (by unfold Func.isWrapper; first | (rw [if_pos (by decide +kernel)]; kernel_rfl) | (rw [if_neg (by decide +kernel)]; exact ⟨rfl, rfl⟩))
    (fun os started H enc _ F => by rw [OpenClaim.pre_eq_preRow]; exact lifted os started H enc F)

theorem plain (f : FuncId) (fn : Func) (hf : Tryd.pinned.checked.prog.funcNamed "tripwire/tripwirelaw24.QueueNone" = some f) (hfn : Tryd.pinned.checked.prog.funcs[f]? = some fn) :
    true = Tryd.pinned.checked.prog.looks [] ∧ ∀ (j : Nat) t, fn.params[j]? = some t → Tryd.pinned.checked.prog.wantsStandIn t = false := by
  obtain rfl : f = 4 := Option.some.inj ((show Tryd.prog.funcNamed "tripwire/tripwirelaw24.QueueNone" = some 4 by kernel_rfl).symm.trans hf) |>.symm
  obtain rfl : fn = Tryd.f4 := (Option.some.inj (Tryd.func4.symm.trans hfn)).symm
  refine ⟨by kernel_rfl, fun j t ht => ?_⟩
  rw [Tryd.params4] at ht
  obtain rfl : t = 44 := by simpa using Array.mem_of_getElem? ht
  exact (show Tryd.prog.wantsStandIn 44 = false by kernel_rfl)

/-- The card. -/
theorem card : Rows.QueueNoneCardSaid :=
  Claim7.holds_tied_plain_at .later [] _ _ _ _ said (fun _ h => by cases h) (by kernel_rfl) (fun _ h => by cases h) queueNone_row_tie rfl ⟨rfl, rfl⟩ (by kernel_rfl) rfl plain (by kernel_rfl)
end queueNone
end Go.Proofs.YtihdaemjabhhkaaDoor
