/-
  The reference of layer 24: Pop of nothing. Are two nodes the same? Written by wip/gen/qt4.py.
-/
import Derived.Test.YtihdaemjabhhkaaGreatDoorQt3
namespace Go.Proofs.YtihdaemjabhhkaaGreatDoor
open Go.RowKit Tw Hp
set_option maxRecDepth 100000 in
set_option maxHeartbeats 4000000 in
theorem pop_rn {w : World} {rb B : Nat} {v : Value} {N : List Itm} (h : RQ w rb B v N) (h0 : N.length = 0) :
    Calls Tryz.prog 10 #[.pointer (some ⟨rb, 0, none⟩)] w fun e w' => e = .returned (.tuple #[.agg #[.bool false, .slice none 0 0, .bool false, .slice none 0 0, .int .i64 0, .int .i64 0, .slice none 0 0], .bool false]) ∧ Below w.heap.size w w' := by
  have HQ := Lib.hid h
  clear h
  obtain ⟨W, hW, x0, hB⟩ := boxes1 w #[.bool false, .slice none 0 0, .bool false, .slice none 0 0, .int .i64 0, .int .i64 0, .slice none 0 0] 36
  have HX0 := Lib.hid x0
  clear x0
  have Bz := Below.refl W.heap.size W
  have HX90 := Lib.hid (HQ.out.at_.below hB)
  have hrb : rb < w.heap.size := HQ.out.at_.lt
  go_enter Tryz.func10, Tryz.ntmps10
  go_wp2_with fail
  rw [← hW]
  clear hW
  go_wp2_with fail
  with_reducible refine (first_none (RQ.below HQ.out (below_trans hB (below_trans Bz (by go_grown)))) h0).mono ?_
  rintro e w1 ⟨rfl, b1⟩
  replace b1 := below_trans (a := W) (by go_grown) b1
  replace Bz := below_trans Bz b1
  clear b1
  have p0_0 := (HX0.out.below Bz).cell 0 (.bool false) rfl
  have p0_1 := (HX0.out.below Bz).cell 1 (.slice none 0 0) rfl
  have p0_2 := (HX0.out.below Bz).cell 2 (.bool false) rfl
  have p0_3 := (HX0.out.below Bz).cell 3 (.slice none 0 0) rfl
  have p0_4 := (HX0.out.below Bz).cell 4 (.int .i64 0) rfl
  have p0_5 := (HX0.out.below Bz).cell 5 (.int .i64 0) rfl
  have p0_6 := (HX0.out.below Bz).cell 6 (.slice none 0 0) rfl
  have f0_0 := (HX0.out.below Bz).frozen 0
  have f0_1 := (HX0.out.below Bz).frozen 1
  have f0_2 := (HX0.out.below Bz).frozen 2
  have f0_3 := (HX0.out.below Bz).frozen 3
  have f0_4 := (HX0.out.below Bz).frozen 4
  have f0_5 := (HX0.out.below Bz).frozen 5
  have f0_6 := (HX0.out.below Bz).frozen 6
  have y0 := (HX0.out.below Bz).lt
  go_wp2_with fail
  (try simp only [Exit.inBlock, Exit.then])
  refine bodyPost_ret (by simp [results, Tryz.results10, go_sem, p0_0, p0_1, p0_2, p0_3, p0_4, p0_5, p0_6]; try rfl) rfl ?_
  obtain ⟨V1, hW, x, kk, far, bel⟩ := store7 (.bool false) (.slice none 0 0) (.bool false) (.slice none 0 0) (.int .i64 0) (.int .i64 0) (.slice none 0 0) (HX0.out.below Bz) (fun _ e => by cases e) (fun _ e => by cases e) (fun _ e => by cases e) (fun _ e => by cases e) (fun _ e => by cases e) (fun _ e => by cases e) (fun _ e => by cases e)
  rw [← hW]
  clear hW
  replace hB := bel w.heap.size w (by omega) (below_trans hB Bz)
  replace HX90 := Lib.hid (far _ _ _ (by omega) (HX90.out.below Bz))
  replace HX0 := Lib.hid x
  clear x kk far bel Bz
  have Bz := Below.refl V1.heap.size V1
  have hF := below_trans (c := V1) hB Bz
  exact ⟨rfl, below_trans hF (by go_grown)⟩
theorem eqPair (a b c d : Int) (w : World) : (Op.equalIn 10000 47 (.agg #[.int .i64 a, .int .i64 b]) (.agg #[.int .i64 c, .int .i64 d])).run Tryz.prog w = .ok (a == c && b == d) w := by
  have u3 := Tryz.underlying3
  have a3 := Tryz.isAgg3
  have z3 := Tryz.sizeOf3
  rw [show (10000 : Nat) = 9999 + 1 from rfl, Op.equalIn]
  simp only [Sem.run_bind, run_underlying Tryz.underlying47, Result.andThen_ok]
  simp only [Std.Legacy.Range.forIn_eq_forIn_range', Std.Legacy.Range.size, Nat.sub_zero, Nat.add_sub_cancel, Nat.div_one, List.range'_succ, List.range'_zero, List.forIn_cons, List.forIn_nil]
  go_simp
  by_cases h1 : a = c <;> by_cases h2 : b = d <;> simp [h1, h2]
theorem Fx.at {w : World} {F : Option Addr} {fl fc : Nat} {ps : List Int} (h : Fx w F fl fc ps) (hl : 0 < fl) : ∃ b off, F = some ⟨b, off, none⟩ ∧ ∀ i, i < fl → w.cell? ⟨b, off + i * 2, none⟩ = some (.int .i64 (ix ps (i * 2))) ∧ w.cell? ⟨b, off + i * 2 + 1, none⟩ = some (.int .i64 (ix ps (i * 2 + 1))) := by
  cases F with
  | none => have := (h.2.1 rfl).1; omega
  | some ad =>
    obtain ⟨b, off, spot⟩ := ad
    have hp : ∀ j, j < ps.length → (ps.map (Value.int .i64))[j]? = some (.int .i64 (ix ps j)) := fun j hj => by rw [List.getElem?_map, List.getElem?_eq_getElem hj, ix_get hj]; rfl
    have hc := h.2.2 _ rfl 0 _ (hp 0 (by rw [h.1]; omega))
    have hs : spot = none := by simpa [Addr.add] using World.cell?_spot hc
    subst hs
    refine ⟨b, off, rfl, fun i hi => ⟨?_, ?_⟩⟩
    · have := h.2.2 _ rfl (i * 2) _ (hp (i * 2) (by rw [h.1]; omega))
      rw [Go.WideShapes.add_plain] at this
      exact this
    · have := h.2.2 _ rfl (i * 2 + 1) _ (hp (i * 2 + 1) (by rw [h.1]; omega))
      rw [Go.WideShapes.add_plain] at this
      rw [Nat.add_assoc]
      exact this
/-- A state of the loop of same. -/
def SM1 (w : World) (n1 n2 : Array Value) (fl gk : Nat) (s : Value) (wr : World) : Prop :=
  ∃ i : Nat, i ≤ fl ∧ gk = fl - i ∧ s = .int .i64 (i : Int) ∧ Below w.heap.size w wr ∧ Bx wr w.heap.size n1 36 ∧ Bx wr (w.heap.size + 1) n2 36
set_option maxRecDepth 100000 in
set_option maxHeartbeats 8000000 in
theorem same_n7 {w : World} {s1 s1' s2 s2' : Bool} {A1 A1' A2 A2' F1 F2 : Option Addr} {c1 c1' l1 l1' c2 c2' l2 l2' fl fc1 fc2 : Nat} {q q' : Rat} {dep num : Int} {ps : List Int} (h1 : R w s1 A1 c1 l1 s1' A1' c1' l1' q 20) (h2 : R w s2 A2 c2 l2 s2' A2' c2' l2' q' 20) (HQ : Hid (q = q')) (f1 : Fx w F1 fl fc1 ps) (f2 : Fx w F2 fl fc2 ps) (hfl : fl ≤ 1000000) :
    Calls Tryz.prog 11 #[.agg #[.bool s1, .slice A1 l1 c1, .bool s1', .slice A1' l1' c1', .int .i64 dep, .int .i64 num, .slice F1 fl fc1], .agg #[.bool s2, .slice A2 l2 c2, .bool s2', .slice A2' l2' c2', .int .i64 dep, .int .i64 num, .slice F2 fl fc2]] w fun e w' => e = .returned (.bool true) ∧ Below w.heap.size w w' := by
  have HS : Hid (decide (q = q') = true) := Lib.hid (by simpa using HQ.out)
  obtain ⟨W, hW, x0, x1, hB⟩ := boxes2 w #[.bool s1, .slice A1 l1 c1, .bool s1', .slice A1' l1' c1', .int .i64 dep, .int .i64 num, .slice F1 fl fc1] 36 #[.bool s2, .slice A2 l2 c2, .bool s2', .slice A2' l2' c2', .int .i64 dep, .int .i64 num, .slice F2 fl fc2] 36
  replace h1 := h1.below hB
  replace h2 := h2.below hB
  have HX0 := Lib.hid x0
  have HX1 := Lib.hid x1
  clear x0 x1
  have Bz := Below.refl W.heap.size W
  have p0_0 := (HX0.out.below Bz).cell 0 (.bool s1) rfl
  have p0_1 := (HX0.out.below Bz).cell 1 (.slice A1 l1 c1) rfl
  have p0_2 := (HX0.out.below Bz).cell 2 (.bool s1') rfl
  have p0_3 := (HX0.out.below Bz).cell 3 (.slice A1' l1' c1') rfl
  have p1_0 := (HX1.out.below Bz).cell 0 (.bool s2) rfl
  have p1_1 := (HX1.out.below Bz).cell 1 (.slice A2 l2 c2) rfl
  have p1_2 := (HX1.out.below Bz).cell 2 (.bool s2') rfl
  have p1_3 := (HX1.out.below Bz).cell 3 (.slice A2' l2' c2') rfl
  go_enter Tryz.func11, Tryz.ntmps11
  go_wp2_with fail
  rw [← hW]
  clear hW
  go_wp2_with fail
  with_reducible refine (same_q (R.below h1 (by go_grown)) (R.below h2 (by go_grown)) (by omega) true HS).mono ?_
  rintro e w1 ⟨rfl, b1⟩
  replace b1 := below_trans (a := W) (by go_grown) b1
  replace Bz := below_trans Bz b1
  clear b1
  clear p0_0 p0_1 p0_2 p0_3 p1_0 p1_1 p1_2 p1_3
  have p0_4 := (HX0.out.below Bz).cell 4 (.int .i64 dep) rfl
  have p0_5 := (HX0.out.below Bz).cell 5 (.int .i64 num) rfl
  have p0_6 := (HX0.out.below Bz).cell 6 (.slice F1 fl fc1) rfl
  have p1_4 := (HX1.out.below Bz).cell 4 (.int .i64 dep) rfl
  have p1_5 := (HX1.out.below Bz).cell 5 (.int .i64 num) rfl
  have p1_6 := (HX1.out.below Bz).cell 6 (.slice F2 fl fc2) rfl
  go_wp2_with fail
  have hst : SM1 w #[.bool s1, .slice A1 l1 c1, .bool s1', .slice A1' l1' c1', .int .i64 dep, .int .i64 num, .slice F1 fl fc1] #[.bool s2, .slice A2 l2 c2, .bool s2', .slice A2' l2' c2', .int .i64 dep, .int .i64 num, .slice F2 fl fc2] fl fl (.int .i64 ((0 : Nat) : Int)) w1 := ⟨0, Nat.zero_le _, rfl, rfl, below_trans hB Bz, HX0.out.below Bz, HX1.out.below Bz⟩
  have HST := Lib.hid hst
  clear hst
  go_loopg [38] fl (fun gk s wr => SM1 w #[.bool s1, .slice A1 l1 c1, .bool s1', .slice A1' l1' c1', .int .i64 dep, .int .i64 num, .slice F1 fl fc1] #[.bool s2, .slice A2 l2 c2, .bool s2', .slice A2' l2' c2', .int .i64 dep, .int .i64 num, .slice F2 fl fc2] fl gk s wr)
  case atStart => exact HST.out
  case round =>
    clear HST HX0 HX1 hB Bz
    obtain ⟨i, hi, hgk, rfl, hB, x0, x1⟩ := hrel
    have HGK := Lib.hid hgk
    have HX0 := Lib.hid x0
    have HX1 := Lib.hid x1
    clear hgk x0 x1
    by_cases hlt : i < fl
    · obtain ⟨u1, o1, rfl, e1⟩ := f1.at (by omega)
      obtain ⟨u2, o2, rfl, e2⟩ := f2.at (by omega)
      have i1 : (i : Int) < (fl : Int) := by omega
      have i2 : (0 : Int) ≤ (i : Int) := by omega
      obtain ⟨x0, hx0⟩ : ∃ x, ix ps (i * 2) = x := ⟨_, rfl⟩
      obtain ⟨x1, hx1⟩ : ∃ x, ix ps (i * 2 + 1) = x := ⟨_, rfl⟩
      have E1 : Hid (∀ w', Below w.heap.size w w' → w'.cell? ⟨u1, o1 + i * 2, none⟩ = some (.int .i64 x0) ∧ w'.cell? ⟨u1, o1 + i * 2 + 1, none⟩ = some (.int .i64 x1)) := Lib.hid fun w' hb => by
        have h := e1 i hlt
        rw [hx0, hx1] at h
        exact ⟨(hb.cell (World.block_lt_of_cell? w _ h.1)).trans h.1, (hb.cell (World.block_lt_of_cell? w _ h.2)).trans h.2⟩
      have E2 : Hid (∀ w', Below w.heap.size w w' → w'.cell? ⟨u2, o2 + i * 2, none⟩ = some (.int .i64 x0) ∧ w'.cell? ⟨u2, o2 + i * 2 + 1, none⟩ = some (.int .i64 x1)) := Lib.hid fun w' hb => by
        have h := e2 i hlt
        rw [hx0, hx1] at h
        exact ⟨(hb.cell (World.block_lt_of_cell? w _ h.1)).trans h.1, (hb.cell (World.block_lt_of_cell? w _ h.2)).trans h.2⟩
      clear e1 e2 hx0 hx1 f1 f2
      have eqp := eqPair x0 x1 x0 x1
      have Bz := Below.refl wr.heap.size wr
      have p0_6 := (HX0.out.below Bz).cell 6 (.slice (some ⟨u1, o1, none⟩) fl fc1) rfl
      have p1_6 := (HX1.out.below Bz).cell 6 (.slice (some ⟨u2, o2, none⟩) fl fc2) rfl
      have p50_0 := (E1.out wr (below_trans hB Bz)).1
      have p50_1 := (E1.out wr (below_trans hB Bz)).2
      have p51_0 := (E2.out wr (below_trans hB Bz)).1
      have p51_1 := (E2.out wr (below_trans hB Bz)).2
      go_wp2_with fail
      (try simp only [List.append_eq, List.cons_append, List.nil_append])
      refine wp_region_plan (.pure 0 (.take 1 (.pure 2 (.pure 3 (.take 4 (.pure 5 (.take 6 (.pure 7 (.pure 8 (.take 9 (.pure 10 .done))))))))))) [] (fun w' => w'.cell? ⟨w.heap.size, 6, none⟩ = some (.slice (some ⟨u1, o1, none⟩) fl fc1) ∧ w'.cell? ⟨w.heap.size + 1, 6, none⟩ = some (.slice (some ⟨u2, o2, none⟩) fl fc2) ∧ w'.cell? ⟨u1, o1 + i * 2, none⟩ = some (.int .i64 x0) ∧ w'.cell? ⟨u1, o1 + i * 2 + 1, none⟩ = some (.int .i64 x1) ∧ w'.cell? ⟨u2, o2 + i * 2, none⟩ = some (.int .i64 x0) ∧ w'.cell? ⟨u2, o2 + i * 2 + 1, none⟩ = some (.int .i64 x1)) (by kernel_rfl) (by kernel_rfl) ⟨p0_6, p1_6, p50_0, p50_1, p51_0, p51_1⟩ ?_
      refine wpPlan_pure (o := ⟨some 41, _, _, _, _, _⟩) (v := ?_) rfl rfl (fun w' => ?_) ?_
      rotate_left
      · go_simp <;> with_reducible rfl
      try simp only [Act.put, List.setIfInBounds_toArray, List.set_cons_zero, List.set_cons_succ]
      refine wpPlan_take (o := ⟨some 42, _, _, _, _, _⟩) (v := ?_) rfl rfl (fun w' hS => ?_) ?_
      rotate_left
      · obtain ⟨p0_6, p1_6, p50_0, p50_1, p51_0, p51_1⟩ := hS; go_simp <;> with_reducible rfl
      try simp only [Act.put, List.setIfInBounds_toArray, List.set_cons_zero, List.set_cons_succ]
      refine wpPlan_pure (o := ⟨some 43, _, _, _, _, _⟩) (v := ?_) rfl rfl (fun w' => ?_) ?_
      rotate_left
      · go_simp <;> with_reducible rfl
      try simp only [Act.put, List.setIfInBounds_toArray, List.set_cons_zero, List.set_cons_succ]
      refine wpPlan_pure (o := ⟨some 44, _, _, _, _, _⟩) (v := ?_) rfl rfl (fun w' => ?_) ?_
      rotate_left
      · go_simp <;> with_reducible rfl
      try simp only [Act.put, List.setIfInBounds_toArray, List.set_cons_zero, List.set_cons_succ]
      refine wpPlan_take (o := ⟨some 45, _, _, _, _, _⟩) (v := ?_) rfl rfl (fun w' hS => ?_) ?_
      rotate_left
      · obtain ⟨p0_6, p1_6, p50_0, p50_1, p51_0, p51_1⟩ := hS; go_simp <;> with_reducible rfl
      try simp only [Act.put, List.setIfInBounds_toArray, List.set_cons_zero, List.set_cons_succ]
      refine wpPlan_pure (o := ⟨some 46, _, _, _, _, _⟩) (v := ?_) rfl rfl (fun w' => ?_) ?_
      rotate_left
      · go_simp <;> with_reducible rfl
      try simp only [Act.put, List.setIfInBounds_toArray, List.set_cons_zero, List.set_cons_succ]
      refine wpPlan_take (o := ⟨some 47, _, _, _, _, _⟩) (v := ?_) rfl rfl (fun w' hS => ?_) ?_
      rotate_left
      · obtain ⟨p0_6, p1_6, p50_0, p50_1, p51_0, p51_1⟩ := hS; go_simp <;> with_reducible rfl
      try simp only [Act.put, List.setIfInBounds_toArray, List.set_cons_zero, List.set_cons_succ]
      refine wpPlan_pure (o := ⟨some 48, _, _, _, _, _⟩) (v := ?_) rfl rfl (fun w' => ?_) ?_
      rotate_left
      · go_simp <;> with_reducible rfl
      try simp only [Act.put, List.setIfInBounds_toArray, List.set_cons_zero, List.set_cons_succ]
      refine wpPlan_pure (o := ⟨some 49, _, _, _, _, _⟩) (v := ?_) rfl rfl (fun w' => ?_) ?_
      rotate_left
      · go_simp <;> with_reducible rfl
      try simp only [Act.put, List.setIfInBounds_toArray, List.set_cons_zero, List.set_cons_succ]
      refine wpPlan_take (o := ⟨some 50, _, _, _, _, _⟩) (v := ?_) rfl rfl (fun w' hS => ?_) ?_
      rotate_left
      · obtain ⟨p0_6, p1_6, p50_0, p50_1, p51_0, p51_1⟩ := hS; go_simp <;> with_reducible rfl
      try simp only [Act.put, List.setIfInBounds_toArray, List.set_cons_zero, List.set_cons_succ]
      refine wpPlan_pure (o := ⟨some 51, _, _, _, _, _⟩) (v := ?_) rfl rfl (fun w' => ?_) ?_
      rotate_left
      · go_simp <;> with_reducible rfl
      try simp only [Act.put, List.setIfInBounds_toArray, List.set_cons_zero, List.set_cons_succ]
      refine wpPlan_done ?_
      go_wp2_with fail
      go_roundg (fl - (i + 1))
      case measure => have := HGK.out; omega
      case rel => exact ⟨i + 1, by omega, rfl, by go_num, below_trans (below_trans hB Bz) (by go_grown), HX0.out.below (below_trans Bz (by go_grown)), HX1.out.below (below_trans Bz (by go_grown))⟩
    · obtain rfl : i = fl := by omega
      have i1 : ¬ (i : Int) < (i : Int) := by omega
      go_wp2_with fail
      go_ret
      exact ⟨rfl, hB⟩
end Go.Proofs.YtihdaemjabhhkaaGreatDoor
