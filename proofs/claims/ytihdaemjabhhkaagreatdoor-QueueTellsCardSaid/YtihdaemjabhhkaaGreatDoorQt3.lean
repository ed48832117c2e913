/-
  The reference of layer 24: Push, Pop, Least. Written by wip/gen/qt3.py.
-/
import Derived.Test.YtihdaemjabhhkaaGreatDoorQt2
namespace Go.Proofs.YtihdaemjabhhkaaGreatDoor
open Go.RowKit Tw Hp

theorem first_none {w : World} {rb B : Nat} {v : Value} {N : List Itm} (h : RQ w rb B v N) (h0 : N.length = 0) :
    Calls Tryz.prog 67 #[.pointer (some ⟨rb, 0, none⟩)] w fun e w' => e = .returned (.int .i64 (-1)) ∧ Below w.heap.size w w' :=
  (first_r h).mono fun e w' ⟨hb, h1⟩ => by
    rcases h1 with ⟨_, rfl⟩ | ⟨a, ha, _⟩
    · exact ⟨rfl, hb⟩
    · omega
theorem first_some {w : World} {rb B : Nat} {v : Value} {N : List Itm} (h : RQ w rb B v N) (h0 : 0 < N.length) :
    Calls Tryz.prog 67 #[.pointer (some ⟨rb, 0, none⟩)] w fun e w' => ∃ a : Nat, e = .returned (.int .i64 (a : Int)) ∧ a < N.length ∧ FirstOf N N.length a ∧ Below w.heap.size w w' :=
  (first_r h).mono fun e w' ⟨hb, h1⟩ => by
    rcases h1 with ⟨h2, rfl⟩ | ⟨a, ha, rfl, hf⟩
    · omega
    · exact ⟨a, rfl, ha, hf, hb⟩
set_option maxRecDepth 100000 in
set_option maxHeartbeats 4000000 in
theorem least_rn {w : World} {rb B : Nat} {v : Value} {N : List Itm} (h : RQ w rb B v N) (h0 : N.length = 0) :
    Calls Tryz.prog 16 #[.pointer (some ⟨rb, 0, none⟩)] w fun e w' => e = .returned (.tuple #[.agg #[.bool false, .slice none 0 0, .bool false, .slice none 0 0], .bool false]) ∧ Below w.heap.size w w' := by
  have HQ := Lib.hid h
  clear h
  obtain ⟨W, hW, x0, hB⟩ := boxes1 w #[.bool false, .slice none 0 0, .bool false, .slice none 0 0] 33
  have HX0 := Lib.hid x0
  clear x0
  have Bz := Below.refl W.heap.size W
  have HX90 := Lib.hid (HQ.out.at_.below hB)
  have hrb : rb < w.heap.size := HQ.out.at_.lt
  go_enter Tryz.func16, Tryz.ntmps16
  go_wp2_with fail
  rw [← hW]
  clear hW
  go_wp2_with fail
  with_reducible refine (first_none (RQ.below HQ.out (below_trans hB (below_trans Bz (by go_grown)))) h0).mono ?_
  rintro e w1 ⟨rfl, b1⟩
  replace b1 := below_trans (a := W) (by go_grown) b1
  replace Bz := below_trans Bz b1
  clear b1
  have p0_0 := (HX0.out.below Bz).cell 0 (.bool false) rfl
  have p0_1 := (HX0.out.below Bz).cell 1 (.slice none 0 0) rfl
  have p0_2 := (HX0.out.below Bz).cell 2 (.bool false) rfl
  have p0_3 := (HX0.out.below Bz).cell 3 (.slice none 0 0) rfl
  have f0_0 := (HX0.out.below Bz).frozen 0
  have f0_1 := (HX0.out.below Bz).frozen 1
  have f0_2 := (HX0.out.below Bz).frozen 2
  have f0_3 := (HX0.out.below Bz).frozen 3
  have y0 := (HX0.out.below Bz).lt
  go_wp2_with fail
  (try simp only [Exit.inBlock, Exit.then])
  refine bodyPost_ret (by simp [results, Tryz.results16, go_sem, p0_0, p0_1, p0_2, p0_3]; try rfl) rfl ?_
  obtain ⟨V1, hW, x, kk, far, bel⟩ := store4 (.bool false) (.slice none 0 0) (.bool false) (.slice none 0 0) (HX0.out.below Bz) (fun _ e => by cases e) (fun _ e => by cases e) (fun _ e => by cases e) (fun _ e => by cases e)
  rw [← hW]
  clear hW
  replace hB := bel w.heap.size w (by omega) (below_trans hB Bz)
  replace HX90 := Lib.hid (far _ _ _ (by omega) (HX90.out.below Bz))
  replace HX0 := Lib.hid x
  clear x kk far bel Bz
  have Bz := Below.refl V1.heap.size V1
  have hF := below_trans (c := V1) hB Bz
  exact ⟨rfl, below_trans hF (by go_grown)⟩
set_option maxRecDepth 100000 in
set_option maxHeartbeats 4000000 in
theorem least_rs {w : World} {rb B : Nat} {v : Value} {N : List Itm} (h : RQ w rb B v N) (h0 : 0 < N.length) :
    Calls Tryz.prog 16 #[.pointer (some ⟨rb, 0, none⟩)] w (fun e w' => Below w.heap.size w w' ∧ ∃ a, a < N.length ∧ FirstOf N N.length a ∧ e = .returned (.tuple #[.agg #[.bool (ix N a).s, .slice (ix N a).A (ix N a).l (ix N a).c, .bool (ix N a).s', .slice (ix N a).A' (ix N a).l' (ix N a).c'], .bool true])) := by
  obtain ⟨g, cap, rfl⟩ := h.form h0
  have HQ := Lib.hid h
  obtain ⟨n, hn⟩ : ∃ n, n = N.length := ⟨_, rfl⟩
  clear h
  obtain ⟨W, hW, x0, hB⟩ := boxes1 w #[.bool false, .slice none 0 0, .bool false, .slice none 0 0] 33
  have HX0 := Lib.hid x0
  clear x0
  have Bz := Below.refl W.heap.size W
  have HX90 : Hid (Bx W rb #[.slice (some ⟨g, 0, none⟩) n cap] 28) := Lib.hid (by rw [hn]; exact HQ.out.at_.below hB)
  have hrb : rb < w.heap.size := HQ.out.at_.lt
  go_enter Tryz.func16, Tryz.ntmps16
  go_wp2_with fail
  rw [← hW]
  clear hW
  go_wp2_with fail
  with_reducible refine (first_some (RQ.below HQ.out (below_trans hB (below_trans Bz (by go_grown)))) h0).mono ?_
  rintro e w1 ⟨a, rfl, ha, hFo, b1⟩
  replace b1 := below_trans (a := W) (by go_grown) b1
  replace Bz := below_trans Bz b1
  clear b1
  have hnd := HQ.out.nd a ha
  obtain ⟨x, hx⟩ : ∃ x, x = ix N a := ⟨_, rfl⟩
  rw [← hx] at hnd
  have HXE := Lib.hid hx
  have HFO := Lib.hid hFo
  have HHA := Lib.hid ha
  have a1 : (a : Int) < (n : Int) := by omega
  have a2 : (0 : Int) ≤ (a : Int) := by omega
  have a3 : decide ((a : Int) < 0) = false := by simp
  clear hx hFo ha
  have p90_0 := (HX90.out.below Bz).cell 0 (.slice (some ⟨g, 0, none⟩) n cap) rfl
  have p0_0 := (HX0.out.below Bz).cell 0 (.bool false) rfl
  have p0_1 := (HX0.out.below Bz).cell 1 (.slice none 0 0) rfl
  have p0_2 := (HX0.out.below Bz).cell 2 (.bool false) rfl
  have p0_3 := (HX0.out.below Bz).cell 3 (.slice none 0 0) rfl
  have f0_0 := (HX0.out.below Bz).frozen 0
  have f0_1 := (HX0.out.below Bz).frozen 1
  have f0_2 := (HX0.out.below Bz).frozen 2
  have f0_3 := (HX0.out.below Bz).frozen 3
  have y0 := (HX0.out.below Bz).lt
  have p50_0 := (hnd.below (below_trans hB Bz)).c0
  have p50_1 := (hnd.below (below_trans hB Bz)).at 1 (.slice x.A x.l x.c) rfl
  have p50_2 := (hnd.below (below_trans hB Bz)).at 2 (.bool x.s') rfl
  have p50_3 := (hnd.below (below_trans hB Bz)).at 3 (.slice x.A' x.l' x.c') rfl
  go_wp2_with fail
  (try simp only [Exit.inBlock, Exit.then])
  refine bodyPost_ret (by simp [results, Tryz.results16, go_sem, p0_0, p0_1, p0_2, p0_3]; try rfl) rfl ?_
  obtain ⟨V1, hW, x, kk, far, bel⟩ := store4 (.bool x.s) (.slice x.A x.l x.c) (.bool x.s') (.slice x.A' x.l' x.c') (HX0.out.below Bz) (fun _ e => by cases e) (fun _ e => by cases e) (fun _ e => by cases e) (fun _ e => by cases e)
  rw [← hW]
  clear hW
  replace hB := bel w.heap.size w (by omega) (below_trans hB Bz)
  replace HX90 := Lib.hid (far _ _ _ (by omega) (HX90.out.below Bz))
  replace HX0 := Lib.hid x
  clear x kk far bel Bz
  have Bz := Below.refl V1.heap.size V1
  have hF := below_trans (c := V1) hB Bz
  exact ⟨below_trans hF (by go_grown), a, HHA.out, HFO.out, by rw [← HXE.out]⟩
theorem OwnR.from_take {w : World} {B n size g cap a : Nat} {e : TypeId} {xs : List Value} (ho : OwnR w B e size (.slice (some ⟨g, 0, none⟩) n cap) n xs) (ha : a ≤ n) : From w size (.slice (some ⟨g, 0, none⟩) a cap) a (xs.take (a * size)) := by
  have hl := ho.1
  refine ⟨by rw [List.length_take, hl]; exact Nat.min_eq_left (Nat.mul_le_mul_right _ ha), _, cap, rfl, (fun h => (by cases h)), fun ad h j u hu => ?_⟩
  cases h
  have e : (⟨g, 0, none⟩ : Addr).add j = ⟨g, j, none⟩ := by unfold Addr.add; split <;> simp_all
  rw [e]
  refine ho.cell ?_
  rw [List.getElem?_take] at hu
  split at hu
  · exact hu
  · cases hu
theorem OwnR.from_drop {w : World} {B n size g cap a : Nat} {e : TypeId} {xs : List Value} (ho : OwnR w B e size (.slice (some ⟨g, 0, none⟩) n cap) n xs) (ha : a ≤ n) : From w size (.slice (if cap = a then some ⟨g, 0, none⟩ else some ⟨g, a * size, none⟩) (n - a) (cap - a)) (n - a) (xs.drop (a * size)) := by
  have hl := ho.1
  refine ⟨by rw [List.length_drop, hl, Nat.sub_mul], _, cap - a, rfl, (fun h => (by split at h <;> cases h)), fun ad h j u hu => ?_⟩
  by_cases hc : cap = a
  · exfalso
    have hn : n ≤ cap := by obtain ⟨H, c', e, _, _, h5, _⟩ := ho.slice; cases e; exact h5
    rw [List.getElem?_drop, List.getElem?_eq_none (by rw [hl]; have : n = a := by omega
                                                      subst this; omega)] at hu
    cases hu
  · rw [if_neg hc] at h
    cases h
    have e : (⟨g, a * size, none⟩ : Addr).add j = ⟨g, a * size + j, none⟩ := by unfold Addr.add; split <;> simp_all
    rw [e]
    refine ho.cell ?_
    rw [List.getElem?_drop] at hu
    exact hu
theorem Grew.new_some {w w' : World} {v v' : Value} (h : Grew w w' v v') (hv : v.ownBlock ≠ none) : v'.ownBlock ≠ none := by
  rcases h.new with e | ⟨g, e, _⟩
  · rw [e]; exact hv
  · rw [e]; simp
theorem infoNode : (Tryz.prog.info? 36).map (fun i => (i.zero, i.size, i.bytes)) = some (some (.agg #[.bool false, .slice none 0 0, .bool false, .slice none 0 0, .int .i64 0, .int .i64 0, .slice none 0 0]), 7, 104) := by kernel_rfl
theorem zero7_nou : NoU (Value.cells (.agg #[.bool false, .slice none 0 0, .bool false, .slice none 0 0, .int .i64 0, .int .i64 0, .slice none 0 0])) := by
  intro u hu n
  simp [Value.cells] at hu
  rcases hu with rfl | rfl | rfl | rfl | rfl | rfl | rfl <;> (intro e; cases e)
/-- What a change of the reference's queue leaves. -/
structure RK (w w' : World) (rb B : Nat) (v v' : Value) : Prop where
  far : ∀ b cs t, b ≠ rb → some b ≠ v.ownBlock → Bx w b cs t → Bx w' b cs t
  k64 : K64 w w'
  below : Below B w w'
  new : v'.ownBlock = v.ownBlock ∨ ∃ g, v'.ownBlock = some g ∧ w.heap.size ≤ g
theorem RQ.ne {w : World} {rb B : Nat} {v : Value} {N : List Itm} (h : RQ w rb B v N) : some rb ≠ v.ownBlock := Ne.symm (own_ne h.own (by decide) h.at_)
/-- A node is pushed. -/
def RPush (w : World) (rb B : Nat) (v : Value) (N : List Itm) (q : Rat) (dep num tn : Int) (fl : Nat) (ps : List Int) (e : Ending) (w' : World) : Prop :=
  e = .returned (.tuple #[]) ∧ ∃ (x : Itm) (v' : Value), (x.q = q ∧ x.dep = dep ∧ x.num = num ∧ x.turn = tn) ∧ (x.fl = fl ∧ Fb w' w.heap.size x.F x.fl x.fc ps) ∧ RQ w' rb B v' (N ++ [x]) ∧ RK w w' rb B v v'
set_option maxRecDepth 100000 in
set_option maxHeartbeats 8000000 in
theorem push_r {w : World} {rb B : Nat} {v : Value} {N : List Itm} {s s' : Bool} {A A' F : Option Addr} {c c' l l' fl fc : Nat} {q : Rat} {dep num : Int} {ps : List Int} (tn : Int) (h : RQ w rb B v N) (hr : R w s A c l s' A' c' l' q 8) (hsz : sz q ≤ 20) (hf : Fx w F fl fc ps) (hfl : fl ≤ 1000000) (hlen : N.length < 1000) :
    Calls Tryz.prog 14 #[.pointer (some ⟨rb, 0, none⟩), .agg #[.bool s, .slice A l c, .bool s', .slice A' l' c', .int .i64 dep, .int .i64 num, .slice F fl fc]] w (RPush w rb B v N q dep num tn fl ps) := by
  obtain ⟨i0, hi, hz0, hz1, hz2⟩ := info_parts infoNode
  obtain ⟨W, hW, x0, hB⟩ := boxes1 w #[.bool s, .slice A l c, .bool s', .slice A' l' c', .int .i64 dep, .int .i64 num, .slice F fl fc] 36
  have hBw : B ≤ w.heap.size := Nat.le_trans h.base (Nat.le_of_lt h.at_.lt)
  have hrb : rb < w.heap.size := h.at_.lt
  have hWs : w.heap.size ≤ W.heap.size := hB.size
  have HQ := Lib.hid (h.below hB)
  have HR := Lib.hid (hr.below hB)
  have HF := Lib.hid (hf.below hB)
  have p90 := HQ.out.at_.cell 0 v rfl
  have p0 := x0.cell 0 (.bool s) rfl
  have p1 := x0.cell 1 (.slice A l c) rfl
  have p2 := x0.cell 2 (.bool s') rfl
  have p3 := x0.cell 3 (.slice A' l' c') rfl
  have p4 := x0.cell 4 (.int .i64 dep) rfl
  have p5 := x0.cell 5 (.int .i64 num) rfl
  have p6 := x0.cell 6 (.slice F fl fc) rfl
  clear h hr hf x0
  go_enter Tryz.func14, Tryz.ntmps14
  go_wp2_with fail
  rw [← hW]
  clear hW
  (try simp only [List.append_eq, List.cons_append, List.nil_append])
  refine wp_region_plan (.pure 0 (.pure 1 (.pure 2 (.pure 3 (.take 4 (.take 5 (.only 6 (.only 7 (.only 8 (.pure 9 (.pure 10 (.only 11 .done)))))))))))) [8, 11] (fun w' => w'.cell? ⟨rb, 0, none⟩ = some v ∧ w'.cell? ⟨w.heap.size, 0, none⟩ = some (.bool s) ∧ w'.cell? ⟨w.heap.size, 1, none⟩ = some (.slice A l c) ∧ w'.cell? ⟨w.heap.size, 2, none⟩ = some (.bool s') ∧ w'.cell? ⟨w.heap.size, 3, none⟩ = some (.slice A' l' c') ∧ w'.cell? ⟨w.heap.size, 4, none⟩ = some (.int .i64 dep) ∧ w'.cell? ⟨w.heap.size, 5, none⟩ = some (.int .i64 num) ∧ w'.cell? ⟨w.heap.size, 6, none⟩ = some (.slice F fl fc)) (by kernel_rfl) (by kernel_rfl) ⟨p90, p0, p1, p2, p3, p4, p5, p6⟩ ?_
  refine wpPlan_pure (o := ⟨some 4, _, _, _, _, _⟩) (v := ?_) rfl rfl (fun w' => ?_) ?_
  rotate_left
  · go_simp <;> with_reducible rfl
  try simp only [Act.put, List.setIfInBounds_toArray, List.set_cons_zero, List.set_cons_succ]
  refine wpPlan_pure (o := ⟨some 5, _, _, _, _, _⟩) (v := ?_) rfl rfl (fun w' => ?_) ?_
  rotate_left
  · go_simp <;> with_reducible rfl
  try simp only [Act.put, List.setIfInBounds_toArray, List.set_cons_zero, List.set_cons_succ]
  refine wpPlan_pure (o := ⟨some 6, _, _, _, _, _⟩) (v := ?_) rfl rfl (fun w' => ?_) ?_
  rotate_left
  · go_simp <;> with_reducible rfl
  try simp only [Act.put, List.setIfInBounds_toArray, List.set_cons_zero, List.set_cons_succ]
  refine wpPlan_pure (o := ⟨some 7, _, _, _, _, _⟩) (v := ?_) rfl rfl (fun w' => ?_) ?_
  rotate_left
  · go_simp <;> with_reducible rfl
  try simp only [Act.put, List.setIfInBounds_toArray, List.set_cons_zero, List.set_cons_succ]
  refine wpPlan_take (o := ⟨some 8, _, _, _, _, _⟩) (v := ?_) rfl rfl (fun w' hS => ?_) ?_
  rotate_left
  · obtain ⟨p90, p0, p1, p2, p3, p4, p5, p6⟩ := hS; go_simp <;> with_reducible rfl
  try simp only [Act.put, List.setIfInBounds_toArray, List.set_cons_zero, List.set_cons_succ]
  refine wpPlan_take (o := ⟨some 9, _, _, _, _, _⟩) (v := ?_) rfl rfl (fun w' hS => ?_) ?_
  rotate_left
  · obtain ⟨p90, p0, p1, p2, p3, p4, p5, p6⟩ := hS; go_simp <;> with_reducible rfl
  try simp only [Act.put, List.setIfInBounds_toArray, List.set_cons_zero, List.set_cons_succ]
  refine wpPlan_call (o := ⟨some 10, _, _, _, _, _⟩) rfl rfl (fun K hK => ?_)
  go_simp
  with_reducible refine (copy_r (HR.out.below (by go_grown)) (HF.out.below (by go_grown)) (by omega) hfl).mono ?_
  rintro e w1 ⟨s1, A1, c1, l1, s1r, A1r, c1r, l1r, F1, fc1, rfl, h1, f1, b1⟩
  replace b1 := below_trans (a := W) (by go_grown) b1
  refine hK.out _ _ ⟨(b1.cell (World.block_lt_of_cell? W _ p90)).trans p90, (b1.cell (World.block_lt_of_cell? W _ p0)).trans p0, (b1.cell (World.block_lt_of_cell? W _ p1)).trans p1, (b1.cell (World.block_lt_of_cell? W _ p2)).trans p2, (b1.cell (World.block_lt_of_cell? W _ p3)).trans p3, (b1.cell (World.block_lt_of_cell? W _ p4)).trans p4, (b1.cell (World.block_lt_of_cell? W _ p5)).trans p5, (b1.cell (World.block_lt_of_cell? W _ p6)).trans p6⟩ (fun _ => ?_)
  try simp only [Act.put, List.setIfInBounds_toArray, List.set_cons_zero, List.set_cons_succ]
  clear hK K
  replace p90 := (b1.cell (World.block_lt_of_cell? W _ p90)).trans p90
  replace p0 := (b1.cell (World.block_lt_of_cell? W _ p0)).trans p0
  replace p1 := (b1.cell (World.block_lt_of_cell? W _ p1)).trans p1
  replace p2 := (b1.cell (World.block_lt_of_cell? W _ p2)).trans p2
  replace p3 := (b1.cell (World.block_lt_of_cell? W _ p3)).trans p3
  replace p4 := (b1.cell (World.block_lt_of_cell? W _ p4)).trans p4
  replace p5 := (b1.cell (World.block_lt_of_cell? W _ p5)).trans p5
  replace p6 := (b1.cell (World.block_lt_of_cell? W _ p6)).trans p6
  replace HQ := Lib.hid (HQ.out.below b1)
  have hB1 := below_trans hB b1
  clear HR HF b1 hB
  refine wpPlan_call (o := ⟨some 11, _, _, _, _, _⟩) rfl rfl (fun K hK => ?_)
  go_simp
  refine hK.out _ _ ⟨cell_al p90, cell_al p0, cell_al p1, cell_al p2, cell_al p3, cell_al p4, cell_al p5, cell_al p6⟩ (fun _ => ?_)
  try simp only [Act.put, List.setIfInBounds_toArray, List.set_cons_zero, List.set_cons_succ]
  clear hK K p90 p0 p1 p2 p3 p4 p5 p6
  obtain ⟨x, hx⟩ : ∃ x : Itm, x = ⟨s1, A1, c1, l1, s1r, A1r, c1r, l1r, q, dep, num, F1, fl, fc1, tn⟩ := ⟨_, rfl⟩
  have hcs : ncs x = [.bool s1, .slice A1 l1 c1, .bool s1r, .slice A1r l1r c1r, .int .i64 dep, .int .i64 num, .slice F1 fl fc1] := by rw [hx]; rfl
  obtain ⟨W2, hW2⟩ : ∃ W2, W2 = w1.alloc (.cells [.bool s1, .slice A1 l1 c1, .bool s1r, .slice A1r l1r c1r, .int .i64 dep, .int .i64 num, .slice F1 fl fc1].toArray 36) := ⟨_, rfl⟩
  have bw : Below w1.heap.size w1 W2 := by rw [hW2]; go_grown
  have hfr : From W2 7 (.slice (some ⟨w1.heap.size, 0, none⟩) 1 1) 1 (ncs x) := by rw [hW2, hcs]; exact From.lit w1 _ _ 7 rfl
  rw [← hW2]
  replace HQ := Lib.hid (HQ.out.below bw)
  have hBw2 : B ≤ W2.heap.size := by have := bw.size; have := hB1.size; omega
  have hlen2 : N.length + 1 ≤ 1000 := by omega
  refine wpPlan_late (o := ⟨some 12, _, _, _, _, _⟩) rfl rfl (by decide) (fun K hK => ?_)
  refine wp_append_all (w := W2) (.tmp 8) (.tmp 11) 26 rfl B 36 i0 _ 7 104 Tryz.underlying26 hi hz0 hz1 hz2 rfl zero7_nou v N.length (flat ncs N) rfl HQ.out.own (.slice (some ⟨w1.heap.size, 0, none⟩) 1 1) 1 (ncs x) rfl hfr ncs_one ncs_nou (by unfold maxLen; omega) (by omega) hBw2 ?_
  intro v' w2 ho2 hg2
  refine hK.out _ _ ?_
  try simp only [Act.put, List.setIfInBounds_toArray, List.set_cons_zero, List.set_cons_succ]
  clear hK K
  obtain ⟨H2, cap2, rfl, _⟩ := ho2.slice
  have q2 : Bx w2 rb #[v] 28 := hg2.bx HQ.out.at_ HQ.out.ne
  have c2 := q2.cell 0 v rfl
  have g2 := q2.frozen 0
  have y2 := q2.lt
  have HO2 := Lib.hid ho2
  have HG2 := Lib.hid hg2
  have H1 := Lib.hid h1
  have HF1 := Lib.hid f1
  have HX := Lib.hid hx
  have HW2 := Lib.hid hW2
  have hsl : (.slice H2 (N.length + 1) cap2 : Value) = .slice H2 (N.length + 1) cap2 := rfl
  clear ho2 hg2 h1 f1 hx hcs hW2 hfr hsl
  refine wpPlan_pure (o := ⟨some 13, _, _, _, _, _⟩) (v := ?_) rfl rfl (fun w' => ?_) ?_
  rotate_left
  · go_simp <;> with_reducible rfl
  try simp only [Act.put, List.setIfInBounds_toArray, List.set_cons_zero, List.set_cons_succ]
  refine wpPlan_pure (o := ⟨some 14, _, _, _, _, _⟩) (v := ?_) rfl rfl (fun w' => ?_) ?_
  rotate_left
  · go_simp <;> with_reducible rfl
  try simp only [Act.put, List.setIfInBounds_toArray, List.set_cons_zero, List.set_cons_succ]
  refine wpPlan_late (o := ⟨none, _, _, _, _, _⟩) rfl rfl (by decide) (fun K hK => ?_)
  go_simp
  refine hK.out _ _ ?_
  try simp only [Act.put, List.setIfInBounds_toArray, List.set_cons_zero, List.set_cons_succ]
  clear hK K
  refine wpPlan_done ?_
  go_wp2_with fail
  go_end0
  have kk : K64 w2 (w2.setCell ⟨rb, 0, none⟩ (.slice H2 (N.length + 1) cap2)) := K64.set c2 (by intro n e; obtain ⟨H, cap, e2, _⟩ := HQ.out.own.slice; rw [e2] at e; cases e) _
  have k1 : K64 w1 (w2.setCell ⟨rb, 0, none⟩ (.slice H2 (N.length + 1) cap2)) := ((K64.below bw).trans HG2.out.k).trans kk
  have ne2 : some rb ≠ (Value.slice H2 (N.length + 1) cap2).ownBlock := HG2.out.ne HQ.out.at_.lt HQ.out.ne
  refine ⟨rfl, x, .slice H2 (N.length + 1) cap2, by rw [HX.out]; exact ⟨rfl, rfl, rfl, rfl⟩, ⟨by rw [HX.out], ?_⟩, ⟨?_, ?_, ?_, HQ.out.base, by simp; omega⟩, ⟨?_, ?_, ?_, ?_⟩⟩
  · rw [HX.out]; exact (((HF1.out.below bw).keep fun g cur _ hb => HG2.out.bx hb (Ne.symm (own_ne HQ.out.own (by decide) hb))).keep fun g cur _ hb => hb.far (bx_ne (by decide) hb q2) _).mono hWs
  · exact q2.set 0 _
  · rw [flat_append, flat_one, List.length_append]; exact HO2.out.kept (grown_set (grownBy_refl w2 (some rb)) (.inl rfl) _) (.inr (Ne.symm ne2))
  · intro y hy; rcases List.mem_append.1 hy with h1 | h1
    · exact (HQ.out.ok y h1).k (HG2.out.k.trans kk)
    · obtain rfl : y = x := by simpa using h1
      have := (H1.out.k k1).r' hsz; rw [HX.out]; exact this
  · intro b cs t h1 h2 hb; exact (HG2.out.bx ((hb.below hB1).below bw) h2).far h1 _
  · exact (K64.below hB1).trans k1
  · exact (((hB1.mono hBw).trans (bw.mono (by have := hB1.size; omega))).trans (HG2.out.below hBw2 HQ.out.own.base)).setCell HQ.out.base _
  · rcases HG2.out.new with e | ⟨g, e, hg⟩
    · exact .inl e
    · exact .inr ⟨g, e, by have := hB1.size; have := bw.size; omega⟩
/-- The next node is taken. -/
def RPop (w : World) (rb B : Nat) (v : Value) (N : List Itm) (e : Ending) (w' : World) : Prop :=
  ∃ (a : Nat) (x : Itm) (v' : Value), a < N.length ∧ FirstOf N N.length a ∧ x = ix N a ∧ e = .returned (.tuple #[.agg #[.bool x.s, .slice x.A x.l x.c, .bool x.s', .slice x.A' x.l' x.c', .int .i64 x.dep, .int .i64 x.num, .slice x.F x.fl x.fc], .bool true]) ∧ RQ w' rb B v' (N.eraseIdx a) ∧ RK w w' rb B v v'
set_option maxRecDepth 100000 in
set_option maxHeartbeats 8000000 in
theorem pop_rs {w : World} {rb B : Nat} {v : Value} {N : List Itm} (h : RQ w rb B v N) (h0 : 0 < N.length) :
    Calls Tryz.prog 10 #[.pointer (some ⟨rb, 0, none⟩)] w (RPop w rb B v N) := by
  obtain ⟨i0, hi, hz0, hz1, hz2⟩ := info_parts infoNode
  obtain ⟨g, cap, rfl⟩ := h.form h0
  obtain ⟨n, hn⟩ : ∃ n, n = N.length := ⟨_, rfl⟩
  have hnc : n ≤ cap ∧ cap ≤ maxLen := by obtain ⟨H, c', e, _, _, h5, h6⟩ := h.own.slice; cases e; rw [hn]; exact ⟨h5, h6⟩
  have hsm := h.small
  rw [← hn] at hsm
  unfold maxLen at hnc
  obtain ⟨hnc, hcm⟩ := hnc
  obtain ⟨W, hW, x2, hB⟩ := boxes1 w #[.bool false, .slice none 0 0, .bool false, .slice none 0 0, .int .i64 0, .int .i64 0, .slice none 0 0] 36
  have hBw : B ≤ w.heap.size := Nat.le_trans h.base (Nat.le_of_lt h.at_.lt)
  have hrb : rb < w.heap.size := h.at_.lt
  have HQ := Lib.hid (h.below hB)
  have HX2 := Lib.hid x2
  have HNN := Lib.hid hn
  clear h x2
  go_enter Tryz.func10, Tryz.ntmps10
  go_wp2_with fail
  rw [← hW]
  clear hW
  with_reducible refine (first_some HQ.out h0).mono ?_
  rintro e w1 ⟨a, rfl, ha, hFo, b1⟩
  replace HQ := Lib.hid (HQ.out.below b1)
  replace HX2 := Lib.hid (HX2.out.below b1)
  have hB1 := below_trans hB b1
  have hnd := HQ.out.nd a ha
  obtain ⟨x, hx⟩ : ∃ x, x = ix N a := ⟨_, rfl⟩
  rw [← hx] at hnd
  have HXE := Lib.hid hx
  have HFO := Lib.hid hFo
  rw [← hn] at ha
  have a1 : (a : Int) < (n : Int) := by omega
  have a2 : (0 : Int) ≤ (a : Int) := by omega
  have a3 : decide ((a : Int) < 0) = false := by simp
  have HND := Lib.hid hnd
  have p90 : w1.cell? ⟨rb, 0, none⟩ = some (.slice (some ⟨g, 0, none⟩) n cap) := by rw [hn]; exact HQ.out.at_.cell 0 _ rfl
  have p0 := hnd.c0
  have p1 := hnd.at 1 (.slice x.A x.l x.c) rfl
  have p2 := hnd.at 2 (.bool x.s') rfl
  have p3 := hnd.at 3 (.slice x.A' x.l' x.c') rfl
  have p4 := hnd.at 4 (.int .i64 x.dep) rfl
  have p5 := hnd.at 5 (.int .i64 x.num) rfl
  have p6 := hnd.at 6 (.slice x.F x.fl x.fc) rfl
  clear hx hFo hnd b1 hB hn
  go_upto_region 5 with (fail)
  obtain ⟨V, hV, x5, hB5⟩ := boxes1 w1 #[.bool x.s, .slice x.A x.l x.c, .bool x.s', .slice x.A' x.l' x.c', .int .i64 x.dep, .int .i64 x.num, .slice x.F x.fl x.fc] 36
  rw [← hV]
  clear hV
  obtain ⟨b5, hb5⟩ : ∃ b, b = w1.heap.size := ⟨_, rfl⟩
  rw [← hb5] at x5 ⊢
  have hb5w : w.heap.size < b5 := by have := HX2.out.lt; omega
  replace HQ := Lib.hid (HQ.out.below hB5)
  replace HX2 := Lib.hid (HX2.out.below hB5)
  have HX5 := Lib.hid x5
  replace HND := Lib.hid (HND.out.below hB5)
  replace hB1 := below_trans hB1 hB5
  clear x5 hB5 hb5 p0 p1 p2 p3 p4 p5 p6 p90
  have p90 : V.cell? ⟨rb, 0, none⟩ = some (.slice (some ⟨g, 0, none⟩) n cap) := by rw [HNN.out]; exact HQ.out.at_.cell 0 _ rfl
  have b3 : (a : Int) ≤ (cap : Int) := by omega
  have b4 : (a : Int) + 1 ≤ (n : Int) := by omega
  have b2 : (0 : Int) ≤ (a : Int) + 1 := by omega
  have u1 : IntKind.i64.wrap ((a : Int) + 1) = ((a + 1 : Nat) : Int) := by rw [IntWalk.i64_in _ (by omega)]; omega
  (try simp only [List.append_eq, List.cons_append, List.nil_append])
  refine wp_region_plan (.pure 0 (.pure 2 (.pure 3 (.pure 4 (.take 5 (.pure 6 (.pure 7 (.pure 9 (.pure 10 (.pure 11 (.take 12 (.pure 13 (.pure 14 (.pure 15 (.only 1 (.only 8 (.only 16 (.pure 17 (.pure 18 (.only 19 .done)))))))))))))))))))) [19] (fun w' => w'.cell? ⟨rb, 0, none⟩ = some (.slice (some ⟨g, 0, none⟩) n cap)) (by kernel_rfl) (by kernel_rfl) p90 ?_
  refine wpPlan_pure (o := ⟨some 18, _, _, _, _, _⟩) (v := ?_) rfl rfl (fun w' => ?_) ?_
  rotate_left
  · go_simp <;> with_reducible rfl
  try simp only [Act.put, List.setIfInBounds_toArray, List.set_cons_zero, List.set_cons_succ]
  refine wpPlan_pure (o := ⟨some 20, _, _, _, _, _⟩) (v := ?_) rfl rfl (fun w' => ?_) ?_
  rotate_left
  · go_simp <;> with_reducible rfl
  try simp only [Act.put, List.setIfInBounds_toArray, List.set_cons_zero, List.set_cons_succ]
  refine wpPlan_pure (o := ⟨some 21, _, _, _, _, _⟩) (v := ?_) rfl rfl (fun w' => ?_) ?_
  rotate_left
  · go_simp <;> with_reducible rfl
  try simp only [Act.put, List.setIfInBounds_toArray, List.set_cons_zero, List.set_cons_succ]
  refine wpPlan_pure (o := ⟨some 22, _, _, _, _, _⟩) (v := ?_) rfl rfl (fun w' => ?_) ?_
  rotate_left
  · go_simp <;> with_reducible rfl
  try simp only [Act.put, List.setIfInBounds_toArray, List.set_cons_zero, List.set_cons_succ]
  refine wpPlan_take (o := ⟨some 23, _, _, _, _, _⟩) (v := ?_) rfl rfl (fun w' hS => ?_) ?_
  rotate_left
  · obtain p90 := hS; go_simp <;> with_reducible rfl
  try simp only [Act.put, List.setIfInBounds_toArray, List.set_cons_zero, List.set_cons_succ]
  refine wpPlan_pure (o := ⟨some 24, _, _, _, _, _⟩) (v := ?_) rfl rfl (fun w' => ?_) ?_
  rotate_left
  · go_simp <;> with_reducible rfl
  try simp only [Act.put, List.setIfInBounds_toArray, List.set_cons_zero, List.set_cons_succ]
  refine wpPlan_pure (o := ⟨some 25, _, _, _, _, _⟩) (v := ?_) rfl rfl (fun w' => ?_) ?_
  rotate_left
  · go_simp <;> with_reducible rfl
  try simp only [Act.put, List.setIfInBounds_toArray, List.set_cons_zero, List.set_cons_succ]
  refine wpPlan_pure (o := ⟨some 27, _, _, _, _, _⟩) (v := ?_) rfl rfl (fun w' => ?_) ?_
  rotate_left
  · go_simp <;> with_reducible rfl
  try simp only [Act.put, List.setIfInBounds_toArray, List.set_cons_zero, List.set_cons_succ]
  refine wpPlan_pure (o := ⟨some 28, _, _, _, _, _⟩) (v := ?_) rfl rfl (fun w' => ?_) ?_
  rotate_left
  · go_simp <;> with_reducible rfl
  try simp only [Act.put, List.setIfInBounds_toArray, List.set_cons_zero, List.set_cons_succ]
  refine wpPlan_pure (o := ⟨some 29, _, _, _, _, _⟩) (v := ?_) rfl rfl (fun w' => ?_) ?_
  rotate_left
  · go_simp <;> with_reducible rfl
  try simp only [Act.put, List.setIfInBounds_toArray, List.set_cons_zero, List.set_cons_succ]
  refine wpPlan_take (o := ⟨some 30, _, _, _, _, _⟩) (v := ?_) rfl rfl (fun w' hS => ?_) ?_
  rotate_left
  · obtain p90 := hS; go_simp <;> with_reducible rfl
  try simp only [Act.put, List.setIfInBounds_toArray, List.set_cons_zero, List.set_cons_succ]
  refine wpPlan_pure (o := ⟨some 31, _, _, _, _, _⟩) (v := ?_) rfl rfl (fun w' => ?_) ?_
  rotate_left
  · go_simp <;> with_reducible rfl
  try simp only [Act.put, List.setIfInBounds_toArray, List.set_cons_zero, List.set_cons_succ]
  refine wpPlan_pure (o := ⟨some 32, _, _, _, _, _⟩) (v := ?_) rfl rfl (fun w' => ?_) ?_
  rotate_left
  · go_simp <;> with_reducible rfl
  try simp only [Act.put, List.setIfInBounds_toArray, List.set_cons_zero, List.set_cons_succ]
  refine wpPlan_pure (o := ⟨some 33, _, _, _, _, _⟩) (v := ?_) rfl rfl (fun w' => ?_) ?_
  rotate_left
  · go_simp <;> with_reducible rfl
  try simp only [Act.put, List.setIfInBounds_toArray, List.set_cons_zero, List.set_cons_succ]
  refine wpPlan_call (o := ⟨some 19, _, _, _, _, _⟩) rfl rfl (fun K hK => ?_)
  go_simp
  refine hK.out _ _ (show (V.alloc (.cells #[] 36)).cell? _ = _ from cell_al p90) (fun _ => ?_)
  try simp only [Act.put, List.setIfInBounds_toArray, List.set_cons_zero, List.set_cons_succ]
  clear hK K
  obtain ⟨V2, hV2⟩ : ∃ V2, V2 = (V.alloc (.cells #[] 36)).drew := ⟨_, rfl⟩
  rw [← hV2]
  have o2 : OwnR V2 V.heap.size 36 7 (.slice (some ⟨V.heap.size, 0, none⟩) 0 0) 0 (flat ncs []) := by rw [hV2]; exact (OwnR.lit0 V _ _).below (Below.drew (Below.refl _ _))
  have bb : Below V.heap.size V V2 := by rw [hV2]; go_grown
  have hsV2 : V.heap.size ≤ V2.heap.size := bb.size
  have HO := HQ.out.own
  rw [← HNN.out] at HO
  have f2 : From V2 7 (.slice (some ⟨g, 0, none⟩) a cap) a (flat ncs (N.take a)) := by rw [← flat_take ncs_len]; exact (HO.from_take (by omega)).below bb
  refine wpPlan_call (o := ⟨some 26, _, _, _, _, _⟩) rfl rfl (fun K hK => ?_)
  refine wp_append_all (w := V2) (.tmp 19) (.tmp 25) 26 rfl V.heap.size 36 i0 _ 7 104 Tryz.underlying26 hi hz0 hz1 hz2 rfl zero7_nou (.slice (some ⟨V.heap.size, 0, none⟩) 0 0) 0 (flat ncs []) rfl o2 (.slice (some ⟨g, 0, none⟩) a cap) a (flat ncs (N.take a)) rfl f2 flat_one7 flat_nou7 (by unfold maxLen; omega) (by omega) hsV2 ?_
  intro v3 w3 o3 g3
  have b3' : Below V.heap.size V w3 := bb.trans (g3.below hsV2 o2.base)
  refine hK.out _ _ ((b3'.cell (World.block_lt_of_cell? V _ p90)).trans p90) (fun _ => ?_)
  try simp only [Act.put, List.setIfInBounds_toArray, List.set_cons_zero, List.set_cons_succ]
  clear hK K
  rw [Nat.zero_add, ← flat_append, List.nil_append] at o3
  have hsw3 : V.heap.size ≤ w3.heap.size := b3'.size
  have f3 : From w3 7 (.slice (if cap = a + 1 then some ⟨g, 0, none⟩ else some ⟨g, (a + 1) * 7, none⟩) (n - (a + 1)) (cap - (a + 1))) (n - (a + 1)) (flat ncs (N.drop (a + 1))) := by rw [← flat_drop ncs_len]; exact (HO.from_drop (by omega)).below b3'
  refine wpPlan_call (o := ⟨some 34, _, _, _, _, _⟩) rfl rfl (fun K hK => ?_)
  refine wp_append_all (w := w3) (.tmp 26) (.tmp 33) 26 rfl V.heap.size 36 i0 _ 7 104 Tryz.underlying26 hi hz0 hz1 hz2 rfl zero7_nou v3 a (flat ncs (N.take a)) rfl o3 (.slice (if cap = a + 1 then some ⟨g, 0, none⟩ else some ⟨g, (a + 1) * 7, none⟩) (n - (a + 1)) (cap - (a + 1))) (n - (a + 1)) (flat ncs (N.drop (a + 1))) rfl f3 flat_one7 flat_nou7 (by unfold maxLen; omega) (by omega) hsw3 ?_
  intro v4 w4 o4 g4
  have b4' : Below V.heap.size V w4 := b3'.trans (g4.below hsw3 o3.base)
  refine hK.out _ _ ((b4'.cell (World.block_lt_of_cell? V _ p90)).trans p90) (fun _ => ?_)
  try simp only [Act.put, List.setIfInBounds_toArray, List.set_cons_zero, List.set_cons_succ]
  clear hK K
  have hlen : a + (n - (a + 1)) = (N.eraseIdx a).length := by rw [List.length_eraseIdx, ← HNN.out, if_pos ha]; omega
  rw [← flat_append, ← List.eraseIdx_eq_take_drop_succ, hlen] at o4
  obtain ⟨H4, cap4, rfl, _⟩ := o4.slice
  obtain ⟨m, hm⟩ : ∃ m, m = (N.eraseIdx a).length := ⟨_, rfl⟩
  rw [← hm] at o4 ⊢
  have q4 : Bx w4 rb #[.slice (some ⟨g, 0, none⟩) n cap] 28 := by have := HQ.out.at_.below b4'; rw [← HNN.out] at this; exact this
  have c4 := q4.cell 0 _ rfl
  have g4' := q4.frozen 0
  have y4 := q4.lt
  have hwV : w.heap.size < V.heap.size := HX2.out.lt
  have HB5 : Hid (∀ g', (Value.slice H4 m cap4).ownBlock = some g' → V.heap.size ≤ g') := Lib.hid o4.base
  have HN4 : Hid ((Value.slice H4 m cap4).ownBlock ≠ none) := Lib.hid (by rw [hm]; exact g4.new_some (g3.new_some (by simp [Value.ownBlock])))
  have HO4 := Lib.hid o4
  have HB4 := Lib.hid b4'
  have HM := Lib.hid hm
  clear o2 f2 o3 g3 b3' f3 o4 g4 b4' hm hlen bb hV2 HO
  obtain ⟨z33, h33⟩ : ∃ z : Value, z = (.slice (if cap = a + 1 then some ⟨g, 0, none⟩ else some ⟨g, (a + 1) * 7, none⟩) (n - (a + 1)) (cap - (a + 1))) := ⟨_, rfl⟩
  rw [← h33]
  clear h33
  refine wpPlan_pure (o := ⟨some 35, _, _, _, _, _⟩) (v := ?_) rfl rfl (fun w' => ?_) ?_
  rotate_left
  · go_simp <;> with_reducible rfl
  try simp only [Act.put, List.setIfInBounds_toArray, List.set_cons_zero, List.set_cons_succ]
  refine wpPlan_pure (o := ⟨some 36, _, _, _, _, _⟩) (v := ?_) rfl rfl (fun w' => ?_) ?_
  rotate_left
  · go_simp <;> with_reducible rfl
  try simp only [Act.put, List.setIfInBounds_toArray, List.set_cons_zero, List.set_cons_succ]
  refine wpPlan_late (o := ⟨none, _, _, _, _, _⟩) rfl rfl (by decide) (fun K hK => ?_)
  go_simp
  refine hK.out _ _ ?_
  try simp only [Act.put, List.setIfInBounds_toArray, List.set_cons_zero, List.set_cons_succ]
  clear hK K
  refine wpPlan_done ?_
  obtain ⟨V5, hV5⟩ : ∃ V5, V5 = (w4.setCell ⟨rb, 0, none⟩ (.slice H4 m cap4)) := ⟨_, rfl⟩
  rw [← hV5]
  have kk : K64 V V5 := by rw [hV5]; exact (K64.below HB4.out).trans (K64.set c4 (fun _ e => by cases e) _)
  have HX5b : Hid (Bx V5 b5 #[.bool x.s, .slice x.A x.l x.c, .bool x.s', .slice x.A' x.l' x.c', .int .i64 x.dep, .int .i64 x.num, .slice x.F x.fl x.fc] 36) := Lib.hid (by rw [hV5]; exact (HX5.out.below HB4.out).far (by show b5 ≠ rb; omega) _)
  have HX2b : Hid (Bx V5 w.heap.size #[.bool false, .slice none 0 0, .bool false, .slice none 0 0, .int .i64 0, .int .i64 0, .slice none 0 0] 36) := Lib.hid (by rw [hV5]; exact (HX2.out.below HB4.out).far (by show w.heap.size ≠ rb; omega) _)
  have HQ5 : Hid (RQ V5 rb B (.slice H4 m cap4) (N.eraseIdx a)) := Lib.hid ⟨by rw [hV5]; exact q4.set 0 _, by rw [hV5, ← HM.out]; exact (HO4.out.rebase (by have := hB1.size; omega)).kept (grown_set (grownBy_refl w4 (some rb)) (.inl rfl) _) (.inr (by intro e; have := HO4.out.base rb e; have := hB1.size; omega)), fun y hy => (HQ.out.ok y (List.mem_of_mem_eraseIdx hy)).k kk, HQ.out.base, by rw [← HM.out, HM.out, List.length_eraseIdx, ← HNN.out]; split <;> omega⟩
  have HK5 : Hid (RK w V5 rb B (.slice (some ⟨g, 0, none⟩) N.length cap) (.slice H4 m cap4)) := Lib.hid ⟨fun b cs t h1 _ hb => by rw [hV5]; exact ((hb.below hB1).below HB4.out).far h1 _, (K64.below hB1).trans kk, by rw [hV5]; exact ((hB1.mono hBw).trans (HB4.out.mono (by have := hB1.size; omega))).setCell HQ.out.base _, by
    by_cases hH : (Value.slice H4 m cap4).ownBlock = none
    · exact absurd hH HN4.out
    · obtain ⟨g', hg'⟩ := Option.ne_none_iff_exists'.1 hH
      exact .inr ⟨g', hg', Nat.le_trans hB1.size (HO4.out.base g' hg')⟩⟩
  have y2 := HX2b.out.lt
  have p5_0 := HX5b.out.cell 0 (.bool x.s) rfl
  have p5_1 := HX5b.out.cell 1 (.slice x.A x.l x.c) rfl
  have p5_2 := HX5b.out.cell 2 (.bool x.s') rfl
  have p5_3 := HX5b.out.cell 3 (.slice x.A' x.l' x.c') rfl
  have p5_4 := HX5b.out.cell 4 (.int .i64 x.dep) rfl
  have p5_5 := HX5b.out.cell 5 (.int .i64 x.num) rfl
  have p5_6 := HX5b.out.cell 6 (.slice x.F x.fl x.fc) rfl
  have p2_0 := HX2b.out.cell 0 (.bool false) rfl
  have p2_1 := HX2b.out.cell 1 (.slice none 0 0) rfl
  have p2_2 := HX2b.out.cell 2 (.bool false) rfl
  have p2_3 := HX2b.out.cell 3 (.slice none 0 0) rfl
  have p2_4 := HX2b.out.cell 4 (.int .i64 0) rfl
  have p2_5 := HX2b.out.cell 5 (.int .i64 0) rfl
  have p2_6 := HX2b.out.cell 6 (.slice none 0 0) rfl
  have f2_0 := HX2b.out.frozen 0
  have f2_1 := HX2b.out.frozen 1
  have f2_2 := HX2b.out.frozen 2
  have f2_3 := HX2b.out.frozen 3
  have f2_4 := HX2b.out.frozen 4
  have f2_5 := HX2b.out.frozen 5
  have f2_6 := HX2b.out.frozen 6
  clear hV5 kk c4 g4' y4 q4 HO4 HX5 HX2 p90 HND
  go_wp2_with fail
  (try simp only [Exit.inBlock, Exit.then])
  refine bodyPost_ret (by simp [results, Tryz.results10, go_sem, p2_0, p2_1, p2_2, p2_3, p2_4, p2_5, p2_6]; try rfl) rfl ?_
  obtain ⟨V6, hW, x6, k6, far6, bel6⟩ := store7 (.bool x.s) (.slice x.A x.l x.c) (.bool x.s') (.slice x.A' x.l' x.c') (.int .i64 x.dep) (.int .i64 x.num) (.slice x.F x.fl x.fc) HX2b.out (fun _ e => by cases e) (fun _ e => by cases e) (fun _ e => by cases e) (fun _ e => by cases e) (fun _ e => by cases e) (fun _ e => by cases e) (fun _ e => by cases e)
  rw [← hW]
  refine ⟨a, x, .slice H4 m cap4, by rw [← HNN.out]; exact ha, HFO.out, HXE.out, rfl, ⟨far6 _ _ _ (by omega) HQ5.out.at_, ?_, fun y hy => (HQ5.out.ok y hy).k k6, HQ5.out.base, HQ5.out.small⟩, ⟨fun b cs t h1 h2 hb => far6 _ _ _ (by have := hb.lt; omega) (HK5.out.far b cs t h1 h2 hb), HK5.out.k64.trans k6, bel6 _ _ hBw HK5.out.below, HK5.out.new⟩⟩
  refine HQ5.out.own.kept (row := some w.heap.size) ?_ ?_
  · rw [hW]; exact grown_set (grown_set (grown_set (grown_set (grown_set (grown_set (grown_set (grownBy_refl V5 (some w.heap.size)) (.inl rfl) _) (.inl rfl) _) (.inl rfl) _) (.inl rfl) _) (.inl rfl) _) (.inl rfl) _) (.inl rfl) _
  · right; intro e; have := HB5.out _ e; omega
end Go.Proofs.YtihdaemjabhhkaaGreatDoor
