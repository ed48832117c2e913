/-
  A queue's items in memory: rows of structs of eight cells; which one is ahead. Written by wip/gen/qu1.py.
-/
import Derived.Test.YtihdaemjabhhkaaGreatDoorZRat
import Derived.Test.YtihdaemjabhhkaaGreatDoorHeapNum
namespace Go.Proofs.YtihdaemjabhhkaaGreatDoor
open Go.RowKit Tw Hp

/-- An item: its bound's fields and what it counts, its depth, its number, what was decided, its turn. -/
structure Itm where
  s : Bool
  A : Option Addr
  c : Nat
  l : Nat
  s' : Bool
  A' : Option Addr
  c' : Nat
  l' : Nat
  q : Rat
  dep : Int
  num : Int
  F : Option Addr
  fl : Nat
  fc : Nat
  turn : Int
instance : Inhabited Itm := ⟨⟨false, none, 0, 0, false, none, 0, 0, 0, 0, 0, none, 0, 0, 0⟩⟩
def Itm.cs (x : Itm) : List Value := [.bool x.s, .slice x.A x.l x.c, .bool x.s', .slice x.A' x.l' x.c', .int .i64 x.dep, .int .i64 x.num, .slice x.F x.fl x.fc, .int .i64 x.turn]
/-- Item number i of the row in block g is a. -/
def ItAt (w : World) (g i : Nat) (a : Itm) : Prop := ∀ j x, a.cs[j]? = some x → w.cell? ⟨g, i * 8 + j, none⟩ = some x
theorem ItAt.below {w w' : World} {g i : Nat} {a : Itm} (h : ItAt w g i a) (hb : Below w.heap.size w w') : ItAt w' g i a := fun j x hx => (hb.cell (World.block_lt_of_cell? w _ (h j x hx))).trans (h j x hx)
theorem ItAt.c0 {w : World} {g i : Nat} {a : Itm} (h : ItAt w g i a) : w.cell? ⟨g, i * 8, none⟩ = some (.bool a.s) := h 0 _ rfl
theorem ItAt.at {w : World} {g i : Nat} {a : Itm} (h : ItAt w g i a) (j : Nat) (x : Value) (hx : a.cs[j]? = some x) : w.cell? ⟨g, i * 8 + j, none⟩ = some x := h j x hx
theorem cell_al {w : World} {o : Obj} {p : Addr} {v : Value} (h : w.cell? p = some v) : (w.alloc o).cell? p = some v := (Below.cell (lit_below w o) (World.block_lt_of_cell? w p h)).trans h
/-- Is a ahead of b? -/
def itLt (a b : Itm) : Bool := if cmpQ a.q b.q ≠ 0 then decide (cmpQ a.q b.q < 0) else if a.dep ≠ b.dep then decide (b.dep < a.dep) else if a.num ≠ b.num then decide (a.num < b.num) else decide (a.turn < b.turn)
section
variable {w : World} {g i j n cp m m' : Nat} {a b : Itm}
set_option maxRecDepth 100000 in
set_option maxHeartbeats 4000000 in
theorem less_1 (ha : ItAt w g i a) (hb : ItAt w g j b) (ra : R w a.s a.A a.c a.l a.s' a.A' a.c' a.l' a.q m) (rb : R w b.s b.A b.c b.l b.s' b.A' b.c' b.l' b.q m') (hm : m + m' ≤ 40000) (i1 : (i : Int) < n) (j1 : (j : Int) < n) (z : Int) (HZ : Hid (cmpQ a.q b.q = z)) (t : Bool) (g1 : (z != 0) = true) (gt : decide (z < 0) = t) :
    Calls Tryz.prog 246 #[.slice (some ⟨g, 0, none⟩) n cp, .int .i64 (i : Int), .int .i64 (j : Int)] w fun e w' => e = .returned (.bool t) ∧ Below w.heap.size w w' := by
  have i2 : (0 : Int) ≤ i := by omega
  have j2 : (0 : Int) ≤ j := by omega
  have hB := Below.refl w.heap.size w
  have Bz := Below.refl w.heap.size w
  have p50_0 := (ha.below (below_trans hB Bz)).c0
  have p50_1 := (ha.below (below_trans hB Bz)).at 1 (.slice a.A a.l a.c) rfl
  have p50_2 := (ha.below (below_trans hB Bz)).at 2 (.bool a.s') rfl
  have p50_3 := (ha.below (below_trans hB Bz)).at 3 (.slice a.A' a.l' a.c') rfl
  have p50_4 := (ha.below (below_trans hB Bz)).at 4 (.int .i64 a.dep) rfl
  have p50_5 := (ha.below (below_trans hB Bz)).at 5 (.int .i64 a.num) rfl
  have p50_6 := (ha.below (below_trans hB Bz)).at 6 (.slice a.F a.fl a.fc) rfl
  have p50_7 := (ha.below (below_trans hB Bz)).at 7 (.int .i64 a.turn) rfl
  have p51_0 := (hb.below (below_trans hB Bz)).c0
  have p51_1 := (hb.below (below_trans hB Bz)).at 1 (.slice b.A b.l b.c) rfl
  have p51_2 := (hb.below (below_trans hB Bz)).at 2 (.bool b.s') rfl
  have p51_3 := (hb.below (below_trans hB Bz)).at 3 (.slice b.A' b.l' b.c') rfl
  have p51_4 := (hb.below (below_trans hB Bz)).at 4 (.int .i64 b.dep) rfl
  have p51_5 := (hb.below (below_trans hB Bz)).at 5 (.int .i64 b.num) rfl
  have p51_6 := (hb.below (below_trans hB Bz)).at 6 (.slice b.F b.fl b.fc) rfl
  have p51_7 := (hb.below (below_trans hB Bz)).at 7 (.int .i64 b.turn) rfl
  go_enter Tryz.func246, Tryz.ntmps246
  go_wp2_with fail
  (try simp only [List.append_eq, List.cons_append, List.nil_append])
  refine wp_region_plan (.pure 0 (.pure 1 (.pure 2 (.take 3 (.pure 4 (.pure 5 (.pure 6 (.take 7 (.two 8 (.only 9 (.only 10 (.only 11 .done))) 9 (.only 8 (.only 10 (.only 11 .done)))))))))))) [11] (fun w' => w'.cell? ⟨g, i * 8, none⟩ = some (.bool a.s) ∧ w'.cell? ⟨g, i * 8 + 1, none⟩ = some (.slice a.A a.l a.c) ∧ w'.cell? ⟨g, i * 8 + 2, none⟩ = some (.bool a.s') ∧ w'.cell? ⟨g, i * 8 + 3, none⟩ = some (.slice a.A' a.l' a.c') ∧ w'.cell? ⟨g, i * 8 + 4, none⟩ = some (.int .i64 a.dep) ∧ w'.cell? ⟨g, i * 8 + 5, none⟩ = some (.int .i64 a.num) ∧ w'.cell? ⟨g, i * 8 + 6, none⟩ = some (.slice a.F a.fl a.fc) ∧ w'.cell? ⟨g, i * 8 + 7, none⟩ = some (.int .i64 a.turn) ∧ w'.cell? ⟨g, j * 8, none⟩ = some (.bool b.s) ∧ w'.cell? ⟨g, j * 8 + 1, none⟩ = some (.slice b.A b.l b.c) ∧ w'.cell? ⟨g, j * 8 + 2, none⟩ = some (.bool b.s') ∧ w'.cell? ⟨g, j * 8 + 3, none⟩ = some (.slice b.A' b.l' b.c') ∧ w'.cell? ⟨g, j * 8 + 4, none⟩ = some (.int .i64 b.dep) ∧ w'.cell? ⟨g, j * 8 + 5, none⟩ = some (.int .i64 b.num) ∧ w'.cell? ⟨g, j * 8 + 6, none⟩ = some (.slice b.F b.fl b.fc) ∧ w'.cell? ⟨g, j * 8 + 7, none⟩ = some (.int .i64 b.turn)) (by kernel_rfl) (by kernel_rfl) ⟨p50_0, p50_1, p50_2, p50_3, p50_4, p50_5, p50_6, p50_7, p51_0, p51_1, p51_2, p51_3, p51_4, p51_5, p51_6, p51_7⟩ ?_
  refine wpPlan_pure (o := ⟨some 10, _, _, _, _, _⟩) (v := ?_) rfl rfl (fun w' => ?_) ?_
  rotate_left
  · go_simp <;> with_reducible rfl
  try simp only [Act.put, List.setIfInBounds_toArray, List.set_cons_zero, List.set_cons_succ]
  refine wpPlan_pure (o := ⟨some 11, _, _, _, _, _⟩) (v := ?_) rfl rfl (fun w' => ?_) ?_
  rotate_left
  · go_simp <;> with_reducible rfl
  try simp only [Act.put, List.setIfInBounds_toArray, List.set_cons_zero, List.set_cons_succ]
  refine wpPlan_pure (o := ⟨some 12, _, _, _, _, _⟩) (v := ?_) rfl rfl (fun w' => ?_) ?_
  rotate_left
  · go_simp <;> with_reducible rfl
  try simp only [Act.put, List.setIfInBounds_toArray, List.set_cons_zero, List.set_cons_succ]
  refine wpPlan_take (o := ⟨some 13, _, _, _, _, _⟩) (v := ?_) rfl rfl (fun w' hS => ?_) ?_
  rotate_left
  · obtain ⟨p50_0, p50_1, p50_2, p50_3, p50_4, p50_5, p50_6, p50_7, p51_0, p51_1, p51_2, p51_3, p51_4, p51_5, p51_6, p51_7⟩ := hS; go_simp <;> with_reducible rfl
  try simp only [Act.put, List.setIfInBounds_toArray, List.set_cons_zero, List.set_cons_succ]
  refine wpPlan_pure (o := ⟨some 14, _, _, _, _, _⟩) (v := ?_) rfl rfl (fun w' => ?_) ?_
  rotate_left
  · go_simp <;> with_reducible rfl
  try simp only [Act.put, List.setIfInBounds_toArray, List.set_cons_zero, List.set_cons_succ]
  refine wpPlan_pure (o := ⟨some 15, _, _, _, _, _⟩) (v := ?_) rfl rfl (fun w' => ?_) ?_
  rotate_left
  · go_simp <;> with_reducible rfl
  try simp only [Act.put, List.setIfInBounds_toArray, List.set_cons_zero, List.set_cons_succ]
  refine wpPlan_pure (o := ⟨some 16, _, _, _, _, _⟩) (v := ?_) rfl rfl (fun w' => ?_) ?_
  rotate_left
  · go_simp <;> with_reducible rfl
  try simp only [Act.put, List.setIfInBounds_toArray, List.set_cons_zero, List.set_cons_succ]
  refine wpPlan_take (o := ⟨some 17, _, _, _, _, _⟩) (v := ?_) rfl rfl (fun w' hS => ?_) ?_
  rotate_left
  · obtain ⟨p50_0, p50_1, p50_2, p50_3, p50_4, p50_5, p50_6, p50_7, p51_0, p51_1, p51_2, p51_3, p51_4, p51_5, p51_6, p51_7⟩ := hS; go_simp <;> with_reducible rfl
  try simp only [Act.put, List.setIfInBounds_toArray, List.set_cons_zero, List.set_cons_succ]
  refine wpPlan_two (o := ⟨some 7, _, _, _, _, _⟩) (o' := ⟨some 8, _, _, _, _, _⟩) rfl rfl rfl rfl (fun K hK => ?_) (fun K hK => ?_)
  · go_simp
    refine hK.out _ _ ⟨(cell_al p50_0), (cell_al p50_1), (cell_al p50_2), (cell_al p50_3), (cell_al p50_4), (cell_al p50_5), (cell_al p50_6), (cell_al p50_7), (cell_al p51_0), (cell_al p51_1), (cell_al p51_2), (cell_al p51_3), (cell_al p51_4), (cell_al p51_5), (cell_al p51_6), (cell_al p51_7)⟩ (fun _ => ?_)
    try simp only [Act.put, List.setIfInBounds_toArray, List.set_cons_zero, List.set_cons_succ]
    clear hK K
    refine wpPlan_call (o := ⟨some 8, _, _, _, _, _⟩) rfl rfl (fun K hK => ?_)
    go_simp
    refine hK.out _ _ ⟨(cell_al (cell_al p50_0)), (cell_al (cell_al p50_1)), (cell_al (cell_al p50_2)), (cell_al (cell_al p50_3)), (cell_al (cell_al p50_4)), (cell_al (cell_al p50_5)), (cell_al (cell_al p50_6)), (cell_al (cell_al p50_7)), (cell_al (cell_al p51_0)), (cell_al (cell_al p51_1)), (cell_al (cell_al p51_2)), (cell_al (cell_al p51_3)), (cell_al (cell_al p51_4)), (cell_al (cell_al p51_5)), (cell_al (cell_al p51_6)), (cell_al (cell_al p51_7))⟩ (fun _ => ?_)
    try simp only [Act.put, List.setIfInBounds_toArray, List.set_cons_zero, List.set_cons_succ]
    clear hK K
    refine wpPlan_call (o := ⟨none, _, _, _, _, _⟩) rfl rfl (fun K hK => ?_)
    go_simp
    refine hK.out _ _ ⟨(cell_al (cell_al p50_0)), (cell_al (cell_al p50_1)), (cell_al (cell_al p50_2)), (cell_al (cell_al p50_3)), (cell_al (cell_al p50_4)), (cell_al (cell_al p50_5)), (cell_al (cell_al p50_6)), (cell_al (cell_al p50_7)), (cell_al (cell_al p51_0)), (cell_al (cell_al p51_1)), (cell_al (cell_al p51_2)), (cell_al (cell_al p51_3)), (cell_al (cell_al p51_4)), (cell_al (cell_al p51_5)), (cell_al (cell_al p51_6)), (cell_al (cell_al p51_7))⟩ (fun _ => ?_)
    try simp only [Act.put, List.setIfInBounds_toArray, List.set_cons_zero, List.set_cons_succ]
    clear hK K
    refine wpPlan_late (o := ⟨none, _, _, _, _, _⟩) rfl rfl (by decide) (fun K hK => ?_)
    go_simp
    refine hK.out _ _ ?_
    try simp only [Act.put, List.setIfInBounds_toArray, List.set_cons_zero, List.set_cons_succ]
    clear hK K
    refine wpPlan_done ?_
    obtain ⟨V1, hW, x0, x1, hN⟩ := boxes2 w #[.bool a.s, .slice a.A a.l a.c, .bool a.s', .slice a.A' a.l' a.c', .int .i64 a.dep, .int .i64 a.num, .slice a.F a.fl a.fc, .int .i64 a.turn] 110 #[.bool b.s, .slice b.A b.l b.c, .bool b.s', .slice b.A' b.l' b.c', .int .i64 b.dep, .int .i64 b.num, .slice b.F b.fl b.fc, .int .i64 b.turn] 110
    rw [← hW]
    clear hW
    obtain ⟨v1, hb1⟩ : ∃ b, b = w.heap.size + 1 := ⟨_, rfl⟩
    rw [← hb1] at x1 ⊢
    obtain ⟨v0, hb0⟩ : ∃ b, b = w.heap.size := ⟨_, rfl⟩
    rw [← hb0] at x0 ⊢
    have ow_0 : w.heap.size ≤ v0 := by have := hB.size; have := Bz.size; omega
    have o0_1 : v0 < v1 := by omega
    have ow_1 : w.heap.size ≤ v1 := by have := hB.size; have := Bz.size; omega
    replace ra := ra.below hN
    replace rb := rb.below hN
    replace hB := below_trans (below_trans hB Bz) hN
    have HX0 := Lib.hid x0
    have HX1 := Lib.hid x1
    clear x0 x1 hN Bz hb0 hb1
    have Bz := Below.refl V1.heap.size V1
    clear p50_0 p50_1 p50_2 p50_3 p50_4 p50_5 p50_6 p50_7 p51_0 p51_1 p51_2 p51_3 p51_4 p51_5 p51_6 p51_7
    have p0_0 := (HX0.out.below Bz).cell 0 (.bool a.s) rfl
    have p0_1 := (HX0.out.below Bz).cell 1 (.slice a.A a.l a.c) rfl
    have p0_2 := (HX0.out.below Bz).cell 2 (.bool a.s') rfl
    have p0_3 := (HX0.out.below Bz).cell 3 (.slice a.A' a.l' a.c') rfl
    have p1_0 := (HX1.out.below Bz).cell 0 (.bool b.s) rfl
    have p1_1 := (HX1.out.below Bz).cell 1 (.slice b.A b.l b.c) rfl
    have p1_2 := (HX1.out.below Bz).cell 2 (.bool b.s') rfl
    have p1_3 := (HX1.out.below Bz).cell 3 (.slice b.A' b.l' b.c') rfl
    go_wp2_with fail
    with_reducible refine (cmp_q (R.below ra (by go_grown)) (R.below rb (by go_grown)) (by omega) z HZ).mono ?_
    rintro e w1 ⟨rfl, b1⟩
    replace b1 := below_trans (a := V1) (by go_grown) b1
    replace Bz := below_trans Bz b1
    clear b1
    clear p0_0 p0_1 p0_2 p0_3 p1_0 p1_1 p1_2 p1_3
    go_wp2_with fail
    go_ret
    have hF := below_trans (c := w1) hB Bz
    exact ⟨rfl, below_trans hF (by go_grown)⟩
  · go_simp
    refine hK.out _ _ ⟨(cell_al p50_0), (cell_al p50_1), (cell_al p50_2), (cell_al p50_3), (cell_al p50_4), (cell_al p50_5), (cell_al p50_6), (cell_al p50_7), (cell_al p51_0), (cell_al p51_1), (cell_al p51_2), (cell_al p51_3), (cell_al p51_4), (cell_al p51_5), (cell_al p51_6), (cell_al p51_7)⟩ (fun _ => ?_)
    try simp only [Act.put, List.setIfInBounds_toArray, List.set_cons_zero, List.set_cons_succ]
    clear hK K
    refine wpPlan_call (o := ⟨some 7, _, _, _, _, _⟩) rfl rfl (fun K hK => ?_)
    go_simp
    refine hK.out _ _ ⟨(cell_al (cell_al p50_0)), (cell_al (cell_al p50_1)), (cell_al (cell_al p50_2)), (cell_al (cell_al p50_3)), (cell_al (cell_al p50_4)), (cell_al (cell_al p50_5)), (cell_al (cell_al p50_6)), (cell_al (cell_al p50_7)), (cell_al (cell_al p51_0)), (cell_al (cell_al p51_1)), (cell_al (cell_al p51_2)), (cell_al (cell_al p51_3)), (cell_al (cell_al p51_4)), (cell_al (cell_al p51_5)), (cell_al (cell_al p51_6)), (cell_al (cell_al p51_7))⟩ (fun _ => ?_)
    try simp only [Act.put, List.setIfInBounds_toArray, List.set_cons_zero, List.set_cons_succ]
    clear hK K
    refine wpPlan_call (o := ⟨none, _, _, _, _, _⟩) rfl rfl (fun K hK => ?_)
    go_simp
    refine hK.out _ _ ⟨(cell_al (cell_al p50_0)), (cell_al (cell_al p50_1)), (cell_al (cell_al p50_2)), (cell_al (cell_al p50_3)), (cell_al (cell_al p50_4)), (cell_al (cell_al p50_5)), (cell_al (cell_al p50_6)), (cell_al (cell_al p50_7)), (cell_al (cell_al p51_0)), (cell_al (cell_al p51_1)), (cell_al (cell_al p51_2)), (cell_al (cell_al p51_3)), (cell_al (cell_al p51_4)), (cell_al (cell_al p51_5)), (cell_al (cell_al p51_6)), (cell_al (cell_al p51_7))⟩ (fun _ => ?_)
    try simp only [Act.put, List.setIfInBounds_toArray, List.set_cons_zero, List.set_cons_succ]
    clear hK K
    refine wpPlan_late (o := ⟨none, _, _, _, _, _⟩) rfl rfl (by decide) (fun K hK => ?_)
    go_simp
    refine hK.out _ _ ?_
    try simp only [Act.put, List.setIfInBounds_toArray, List.set_cons_zero, List.set_cons_succ]
    clear hK K
    refine wpPlan_done ?_
    obtain ⟨V1, hW, x0, x1, hN⟩ := boxes2 w #[.bool b.s, .slice b.A b.l b.c, .bool b.s', .slice b.A' b.l' b.c', .int .i64 b.dep, .int .i64 b.num, .slice b.F b.fl b.fc, .int .i64 b.turn] 110 #[.bool a.s, .slice a.A a.l a.c, .bool a.s', .slice a.A' a.l' a.c', .int .i64 a.dep, .int .i64 a.num, .slice a.F a.fl a.fc, .int .i64 a.turn] 110
    rw [← hW]
    clear hW
    obtain ⟨v1, hb1⟩ : ∃ b, b = w.heap.size + 1 := ⟨_, rfl⟩
    rw [← hb1] at x1 ⊢
    obtain ⟨v0, hb0⟩ : ∃ b, b = w.heap.size := ⟨_, rfl⟩
    rw [← hb0] at x0 ⊢
    have ow_0 : w.heap.size ≤ v0 := by have := hB.size; have := Bz.size; omega
    have o0_1 : v0 < v1 := by omega
    have ow_1 : w.heap.size ≤ v1 := by have := hB.size; have := Bz.size; omega
    replace ra := ra.below hN
    replace rb := rb.below hN
    replace hB := below_trans (below_trans hB Bz) hN
    have HX0 := Lib.hid x0
    have HX1 := Lib.hid x1
    clear x0 x1 hN Bz hb0 hb1
    have Bz := Below.refl V1.heap.size V1
    clear p50_0 p50_1 p50_2 p50_3 p50_4 p50_5 p50_6 p50_7 p51_0 p51_1 p51_2 p51_3 p51_4 p51_5 p51_6 p51_7
    have p0_0 := (HX0.out.below Bz).cell 0 (.bool b.s) rfl
    have p0_1 := (HX0.out.below Bz).cell 1 (.slice b.A b.l b.c) rfl
    have p0_2 := (HX0.out.below Bz).cell 2 (.bool b.s') rfl
    have p0_3 := (HX0.out.below Bz).cell 3 (.slice b.A' b.l' b.c') rfl
    have p1_0 := (HX1.out.below Bz).cell 0 (.bool a.s) rfl
    have p1_1 := (HX1.out.below Bz).cell 1 (.slice a.A a.l a.c) rfl
    have p1_2 := (HX1.out.below Bz).cell 2 (.bool a.s') rfl
    have p1_3 := (HX1.out.below Bz).cell 3 (.slice a.A' a.l' a.c') rfl
    go_wp2_with fail
    with_reducible refine (cmp_q (R.below ra (by go_grown)) (R.below rb (by go_grown)) (by omega) z HZ).mono ?_
    rintro e w1 ⟨rfl, b1⟩
    replace b1 := below_trans (a := V1) (by go_grown) b1
    replace Bz := below_trans Bz b1
    clear b1
    clear p0_0 p0_1 p0_2 p0_3 p1_0 p1_1 p1_2 p1_3
    go_wp2_with fail
    go_ret
    have hF := below_trans (c := w1) hB Bz
    exact ⟨rfl, below_trans hF (by go_grown)⟩
set_option maxRecDepth 100000 in
set_option maxHeartbeats 4000000 in
theorem less_2 (ha : ItAt w g i a) (hb : ItAt w g j b) (ra : R w a.s a.A a.c a.l a.s' a.A' a.c' a.l' a.q m) (rb : R w b.s b.A b.c b.l b.s' b.A' b.c' b.l' b.q m') (hm : m + m' ≤ 40000) (i1 : (i : Int) < n) (j1 : (j : Int) < n) (z : Int) (HZ : Hid (cmpQ a.q b.q = z)) (t : Bool) (g1 : (z != 0) = false) (g2 : (a.dep != b.dep) = true) (gt : decide (b.dep < a.dep) = t) :
    Calls Tryz.prog 246 #[.slice (some ⟨g, 0, none⟩) n cp, .int .i64 (i : Int), .int .i64 (j : Int)] w fun e w' => e = .returned (.bool t) ∧ Below w.heap.size w w' := by
  have i2 : (0 : Int) ≤ i := by omega
  have j2 : (0 : Int) ≤ j := by omega
  have hB := Below.refl w.heap.size w
  have Bz := Below.refl w.heap.size w
  have p50_0 := (ha.below (below_trans hB Bz)).c0
  have p50_1 := (ha.below (below_trans hB Bz)).at 1 (.slice a.A a.l a.c) rfl
  have p50_2 := (ha.below (below_trans hB Bz)).at 2 (.bool a.s') rfl
  have p50_3 := (ha.below (below_trans hB Bz)).at 3 (.slice a.A' a.l' a.c') rfl
  have p50_4 := (ha.below (below_trans hB Bz)).at 4 (.int .i64 a.dep) rfl
  have p50_5 := (ha.below (below_trans hB Bz)).at 5 (.int .i64 a.num) rfl
  have p50_6 := (ha.below (below_trans hB Bz)).at 6 (.slice a.F a.fl a.fc) rfl
  have p50_7 := (ha.below (below_trans hB Bz)).at 7 (.int .i64 a.turn) rfl
  have p51_0 := (hb.below (below_trans hB Bz)).c0
  have p51_1 := (hb.below (below_trans hB Bz)).at 1 (.slice b.A b.l b.c) rfl
  have p51_2 := (hb.below (below_trans hB Bz)).at 2 (.bool b.s') rfl
  have p51_3 := (hb.below (below_trans hB Bz)).at 3 (.slice b.A' b.l' b.c') rfl
  have p51_4 := (hb.below (below_trans hB Bz)).at 4 (.int .i64 b.dep) rfl
  have p51_5 := (hb.below (below_trans hB Bz)).at 5 (.int .i64 b.num) rfl
  have p51_6 := (hb.below (below_trans hB Bz)).at 6 (.slice b.F b.fl b.fc) rfl
  have p51_7 := (hb.below (below_trans hB Bz)).at 7 (.int .i64 b.turn) rfl
  go_enter Tryz.func246, Tryz.ntmps246
  go_wp2_with fail
  (try simp only [List.append_eq, List.cons_append, List.nil_append])
  refine wp_region_plan (.pure 0 (.pure 1 (.pure 2 (.take 3 (.pure 4 (.pure 5 (.pure 6 (.take 7 (.two 8 (.only 9 (.only 10 (.only 11 .done))) 9 (.only 8 (.only 10 (.only 11 .done)))))))))))) [11] (fun w' => w'.cell? ⟨g, i * 8, none⟩ = some (.bool a.s) ∧ w'.cell? ⟨g, i * 8 + 1, none⟩ = some (.slice a.A a.l a.c) ∧ w'.cell? ⟨g, i * 8 + 2, none⟩ = some (.bool a.s') ∧ w'.cell? ⟨g, i * 8 + 3, none⟩ = some (.slice a.A' a.l' a.c') ∧ w'.cell? ⟨g, i * 8 + 4, none⟩ = some (.int .i64 a.dep) ∧ w'.cell? ⟨g, i * 8 + 5, none⟩ = some (.int .i64 a.num) ∧ w'.cell? ⟨g, i * 8 + 6, none⟩ = some (.slice a.F a.fl a.fc) ∧ w'.cell? ⟨g, i * 8 + 7, none⟩ = some (.int .i64 a.turn) ∧ w'.cell? ⟨g, j * 8, none⟩ = some (.bool b.s) ∧ w'.cell? ⟨g, j * 8 + 1, none⟩ = some (.slice b.A b.l b.c) ∧ w'.cell? ⟨g, j * 8 + 2, none⟩ = some (.bool b.s') ∧ w'.cell? ⟨g, j * 8 + 3, none⟩ = some (.slice b.A' b.l' b.c') ∧ w'.cell? ⟨g, j * 8 + 4, none⟩ = some (.int .i64 b.dep) ∧ w'.cell? ⟨g, j * 8 + 5, none⟩ = some (.int .i64 b.num) ∧ w'.cell? ⟨g, j * 8 + 6, none⟩ = some (.slice b.F b.fl b.fc) ∧ w'.cell? ⟨g, j * 8 + 7, none⟩ = some (.int .i64 b.turn)) (by kernel_rfl) (by kernel_rfl) ⟨p50_0, p50_1, p50_2, p50_3, p50_4, p50_5, p50_6, p50_7, p51_0, p51_1, p51_2, p51_3, p51_4, p51_5, p51_6, p51_7⟩ ?_
  refine wpPlan_pure (o := ⟨some 10, _, _, _, _, _⟩) (v := ?_) rfl rfl (fun w' => ?_) ?_
  rotate_left
  · go_simp <;> with_reducible rfl
  try simp only [Act.put, List.setIfInBounds_toArray, List.set_cons_zero, List.set_cons_succ]
  refine wpPlan_pure (o := ⟨some 11, _, _, _, _, _⟩) (v := ?_) rfl rfl (fun w' => ?_) ?_
  rotate_left
  · go_simp <;> with_reducible rfl
  try simp only [Act.put, List.setIfInBounds_toArray, List.set_cons_zero, List.set_cons_succ]
  refine wpPlan_pure (o := ⟨some 12, _, _, _, _, _⟩) (v := ?_) rfl rfl (fun w' => ?_) ?_
  rotate_left
  · go_simp <;> with_reducible rfl
  try simp only [Act.put, List.setIfInBounds_toArray, List.set_cons_zero, List.set_cons_succ]
  refine wpPlan_take (o := ⟨some 13, _, _, _, _, _⟩) (v := ?_) rfl rfl (fun w' hS => ?_) ?_
  rotate_left
  · obtain ⟨p50_0, p50_1, p50_2, p50_3, p50_4, p50_5, p50_6, p50_7, p51_0, p51_1, p51_2, p51_3, p51_4, p51_5, p51_6, p51_7⟩ := hS; go_simp <;> with_reducible rfl
  try simp only [Act.put, List.setIfInBounds_toArray, List.set_cons_zero, List.set_cons_succ]
  refine wpPlan_pure (o := ⟨some 14, _, _, _, _, _⟩) (v := ?_) rfl rfl (fun w' => ?_) ?_
  rotate_left
  · go_simp <;> with_reducible rfl
  try simp only [Act.put, List.setIfInBounds_toArray, List.set_cons_zero, List.set_cons_succ]
  refine wpPlan_pure (o := ⟨some 15, _, _, _, _, _⟩) (v := ?_) rfl rfl (fun w' => ?_) ?_
  rotate_left
  · go_simp <;> with_reducible rfl
  try simp only [Act.put, List.setIfInBounds_toArray, List.set_cons_zero, List.set_cons_succ]
  refine wpPlan_pure (o := ⟨some 16, _, _, _, _, _⟩) (v := ?_) rfl rfl (fun w' => ?_) ?_
  rotate_left
  · go_simp <;> with_reducible rfl
  try simp only [Act.put, List.setIfInBounds_toArray, List.set_cons_zero, List.set_cons_succ]
  refine wpPlan_take (o := ⟨some 17, _, _, _, _, _⟩) (v := ?_) rfl rfl (fun w' hS => ?_) ?_
  rotate_left
  · obtain ⟨p50_0, p50_1, p50_2, p50_3, p50_4, p50_5, p50_6, p50_7, p51_0, p51_1, p51_2, p51_3, p51_4, p51_5, p51_6, p51_7⟩ := hS; go_simp <;> with_reducible rfl
  try simp only [Act.put, List.setIfInBounds_toArray, List.set_cons_zero, List.set_cons_succ]
  refine wpPlan_two (o := ⟨some 7, _, _, _, _, _⟩) (o' := ⟨some 8, _, _, _, _, _⟩) rfl rfl rfl rfl (fun K hK => ?_) (fun K hK => ?_)
  · go_simp
    refine hK.out _ _ ⟨(cell_al p50_0), (cell_al p50_1), (cell_al p50_2), (cell_al p50_3), (cell_al p50_4), (cell_al p50_5), (cell_al p50_6), (cell_al p50_7), (cell_al p51_0), (cell_al p51_1), (cell_al p51_2), (cell_al p51_3), (cell_al p51_4), (cell_al p51_5), (cell_al p51_6), (cell_al p51_7)⟩ (fun _ => ?_)
    try simp only [Act.put, List.setIfInBounds_toArray, List.set_cons_zero, List.set_cons_succ]
    clear hK K
    refine wpPlan_call (o := ⟨some 8, _, _, _, _, _⟩) rfl rfl (fun K hK => ?_)
    go_simp
    refine hK.out _ _ ⟨(cell_al (cell_al p50_0)), (cell_al (cell_al p50_1)), (cell_al (cell_al p50_2)), (cell_al (cell_al p50_3)), (cell_al (cell_al p50_4)), (cell_al (cell_al p50_5)), (cell_al (cell_al p50_6)), (cell_al (cell_al p50_7)), (cell_al (cell_al p51_0)), (cell_al (cell_al p51_1)), (cell_al (cell_al p51_2)), (cell_al (cell_al p51_3)), (cell_al (cell_al p51_4)), (cell_al (cell_al p51_5)), (cell_al (cell_al p51_6)), (cell_al (cell_al p51_7))⟩ (fun _ => ?_)
    try simp only [Act.put, List.setIfInBounds_toArray, List.set_cons_zero, List.set_cons_succ]
    clear hK K
    refine wpPlan_call (o := ⟨none, _, _, _, _, _⟩) rfl rfl (fun K hK => ?_)
    go_simp
    refine hK.out _ _ ⟨(cell_al (cell_al p50_0)), (cell_al (cell_al p50_1)), (cell_al (cell_al p50_2)), (cell_al (cell_al p50_3)), (cell_al (cell_al p50_4)), (cell_al (cell_al p50_5)), (cell_al (cell_al p50_6)), (cell_al (cell_al p50_7)), (cell_al (cell_al p51_0)), (cell_al (cell_al p51_1)), (cell_al (cell_al p51_2)), (cell_al (cell_al p51_3)), (cell_al (cell_al p51_4)), (cell_al (cell_al p51_5)), (cell_al (cell_al p51_6)), (cell_al (cell_al p51_7))⟩ (fun _ => ?_)
    try simp only [Act.put, List.setIfInBounds_toArray, List.set_cons_zero, List.set_cons_succ]
    clear hK K
    refine wpPlan_late (o := ⟨none, _, _, _, _, _⟩) rfl rfl (by decide) (fun K hK => ?_)
    go_simp
    refine hK.out _ _ ?_
    try simp only [Act.put, List.setIfInBounds_toArray, List.set_cons_zero, List.set_cons_succ]
    clear hK K
    refine wpPlan_done ?_
    obtain ⟨V1, hW, x0, x1, hN⟩ := boxes2 w #[.bool a.s, .slice a.A a.l a.c, .bool a.s', .slice a.A' a.l' a.c', .int .i64 a.dep, .int .i64 a.num, .slice a.F a.fl a.fc, .int .i64 a.turn] 110 #[.bool b.s, .slice b.A b.l b.c, .bool b.s', .slice b.A' b.l' b.c', .int .i64 b.dep, .int .i64 b.num, .slice b.F b.fl b.fc, .int .i64 b.turn] 110
    rw [← hW]
    clear hW
    obtain ⟨v1, hb1⟩ : ∃ b, b = w.heap.size + 1 := ⟨_, rfl⟩
    rw [← hb1] at x1 ⊢
    obtain ⟨v0, hb0⟩ : ∃ b, b = w.heap.size := ⟨_, rfl⟩
    rw [← hb0] at x0 ⊢
    have ow_0 : w.heap.size ≤ v0 := by have := hB.size; have := Bz.size; omega
    have o0_1 : v0 < v1 := by omega
    have ow_1 : w.heap.size ≤ v1 := by have := hB.size; have := Bz.size; omega
    replace ra := ra.below hN
    replace rb := rb.below hN
    replace hB := below_trans (below_trans hB Bz) hN
    have HX0 := Lib.hid x0
    have HX1 := Lib.hid x1
    clear x0 x1 hN Bz hb0 hb1
    have Bz := Below.refl V1.heap.size V1
    clear p50_0 p50_1 p50_2 p50_3 p50_4 p50_5 p50_6 p50_7 p51_0 p51_1 p51_2 p51_3 p51_4 p51_5 p51_6 p51_7
    have p0_0 := (HX0.out.below Bz).cell 0 (.bool a.s) rfl
    have p0_1 := (HX0.out.below Bz).cell 1 (.slice a.A a.l a.c) rfl
    have p0_2 := (HX0.out.below Bz).cell 2 (.bool a.s') rfl
    have p0_3 := (HX0.out.below Bz).cell 3 (.slice a.A' a.l' a.c') rfl
    have p1_0 := (HX1.out.below Bz).cell 0 (.bool b.s) rfl
    have p1_1 := (HX1.out.below Bz).cell 1 (.slice b.A b.l b.c) rfl
    have p1_2 := (HX1.out.below Bz).cell 2 (.bool b.s') rfl
    have p1_3 := (HX1.out.below Bz).cell 3 (.slice b.A' b.l' b.c') rfl
    go_wp2_with fail
    with_reducible refine (cmp_q (R.below ra (by go_grown)) (R.below rb (by go_grown)) (by omega) z HZ).mono ?_
    rintro e w1 ⟨rfl, b1⟩
    replace b1 := below_trans (a := V1) (by go_grown) b1
    replace Bz := below_trans Bz b1
    clear b1
    clear p0_0 p0_1 p0_2 p0_3 p1_0 p1_1 p1_2 p1_3
    have p0_4 := (HX0.out.below Bz).cell 4 (.int .i64 a.dep) rfl
    have p1_4 := (HX1.out.below Bz).cell 4 (.int .i64 b.dep) rfl
    go_wp2_with fail
    go_ret
    have hF := below_trans (c := w1) hB Bz
    exact ⟨rfl, below_trans hF (by go_grown)⟩
  · go_simp
    refine hK.out _ _ ⟨(cell_al p50_0), (cell_al p50_1), (cell_al p50_2), (cell_al p50_3), (cell_al p50_4), (cell_al p50_5), (cell_al p50_6), (cell_al p50_7), (cell_al p51_0), (cell_al p51_1), (cell_al p51_2), (cell_al p51_3), (cell_al p51_4), (cell_al p51_5), (cell_al p51_6), (cell_al p51_7)⟩ (fun _ => ?_)
    try simp only [Act.put, List.setIfInBounds_toArray, List.set_cons_zero, List.set_cons_succ]
    clear hK K
    refine wpPlan_call (o := ⟨some 7, _, _, _, _, _⟩) rfl rfl (fun K hK => ?_)
    go_simp
    refine hK.out _ _ ⟨(cell_al (cell_al p50_0)), (cell_al (cell_al p50_1)), (cell_al (cell_al p50_2)), (cell_al (cell_al p50_3)), (cell_al (cell_al p50_4)), (cell_al (cell_al p50_5)), (cell_al (cell_al p50_6)), (cell_al (cell_al p50_7)), (cell_al (cell_al p51_0)), (cell_al (cell_al p51_1)), (cell_al (cell_al p51_2)), (cell_al (cell_al p51_3)), (cell_al (cell_al p51_4)), (cell_al (cell_al p51_5)), (cell_al (cell_al p51_6)), (cell_al (cell_al p51_7))⟩ (fun _ => ?_)
    try simp only [Act.put, List.setIfInBounds_toArray, List.set_cons_zero, List.set_cons_succ]
    clear hK K
    refine wpPlan_call (o := ⟨none, _, _, _, _, _⟩) rfl rfl (fun K hK => ?_)
    go_simp
    refine hK.out _ _ ⟨(cell_al (cell_al p50_0)), (cell_al (cell_al p50_1)), (cell_al (cell_al p50_2)), (cell_al (cell_al p50_3)), (cell_al (cell_al p50_4)), (cell_al (cell_al p50_5)), (cell_al (cell_al p50_6)), (cell_al (cell_al p50_7)), (cell_al (cell_al p51_0)), (cell_al (cell_al p51_1)), (cell_al (cell_al p51_2)), (cell_al (cell_al p51_3)), (cell_al (cell_al p51_4)), (cell_al (cell_al p51_5)), (cell_al (cell_al p51_6)), (cell_al (cell_al p51_7))⟩ (fun _ => ?_)
    try simp only [Act.put, List.setIfInBounds_toArray, List.set_cons_zero, List.set_cons_succ]
    clear hK K
    refine wpPlan_late (o := ⟨none, _, _, _, _, _⟩) rfl rfl (by decide) (fun K hK => ?_)
    go_simp
    refine hK.out _ _ ?_
    try simp only [Act.put, List.setIfInBounds_toArray, List.set_cons_zero, List.set_cons_succ]
    clear hK K
    refine wpPlan_done ?_
    obtain ⟨V1, hW, x0, x1, hN⟩ := boxes2 w #[.bool b.s, .slice b.A b.l b.c, .bool b.s', .slice b.A' b.l' b.c', .int .i64 b.dep, .int .i64 b.num, .slice b.F b.fl b.fc, .int .i64 b.turn] 110 #[.bool a.s, .slice a.A a.l a.c, .bool a.s', .slice a.A' a.l' a.c', .int .i64 a.dep, .int .i64 a.num, .slice a.F a.fl a.fc, .int .i64 a.turn] 110
    rw [← hW]
    clear hW
    obtain ⟨v1, hb1⟩ : ∃ b, b = w.heap.size + 1 := ⟨_, rfl⟩
    rw [← hb1] at x1 ⊢
    obtain ⟨v0, hb0⟩ : ∃ b, b = w.heap.size := ⟨_, rfl⟩
    rw [← hb0] at x0 ⊢
    have ow_0 : w.heap.size ≤ v0 := by have := hB.size; have := Bz.size; omega
    have o0_1 : v0 < v1 := by omega
    have ow_1 : w.heap.size ≤ v1 := by have := hB.size; have := Bz.size; omega
    replace ra := ra.below hN
    replace rb := rb.below hN
    replace hB := below_trans (below_trans hB Bz) hN
    have HX0 := Lib.hid x0
    have HX1 := Lib.hid x1
    clear x0 x1 hN Bz hb0 hb1
    have Bz := Below.refl V1.heap.size V1
    clear p50_0 p50_1 p50_2 p50_3 p50_4 p50_5 p50_6 p50_7 p51_0 p51_1 p51_2 p51_3 p51_4 p51_5 p51_6 p51_7
    have p0_0 := (HX0.out.below Bz).cell 0 (.bool b.s) rfl
    have p0_1 := (HX0.out.below Bz).cell 1 (.slice b.A b.l b.c) rfl
    have p0_2 := (HX0.out.below Bz).cell 2 (.bool b.s') rfl
    have p0_3 := (HX0.out.below Bz).cell 3 (.slice b.A' b.l' b.c') rfl
    have p1_0 := (HX1.out.below Bz).cell 0 (.bool a.s) rfl
    have p1_1 := (HX1.out.below Bz).cell 1 (.slice a.A a.l a.c) rfl
    have p1_2 := (HX1.out.below Bz).cell 2 (.bool a.s') rfl
    have p1_3 := (HX1.out.below Bz).cell 3 (.slice a.A' a.l' a.c') rfl
    go_wp2_with fail
    with_reducible refine (cmp_q (R.below ra (by go_grown)) (R.below rb (by go_grown)) (by omega) z HZ).mono ?_
    rintro e w1 ⟨rfl, b1⟩
    replace b1 := below_trans (a := V1) (by go_grown) b1
    replace Bz := below_trans Bz b1
    clear b1
    clear p0_0 p0_1 p0_2 p0_3 p1_0 p1_1 p1_2 p1_3
    have p0_4 := (HX0.out.below Bz).cell 4 (.int .i64 b.dep) rfl
    have p1_4 := (HX1.out.below Bz).cell 4 (.int .i64 a.dep) rfl
    go_wp2_with fail
    go_ret
    have hF := below_trans (c := w1) hB Bz
    exact ⟨rfl, below_trans hF (by go_grown)⟩
set_option maxRecDepth 100000 in
set_option maxHeartbeats 4000000 in
theorem less_3 (ha : ItAt w g i a) (hb : ItAt w g j b) (ra : R w a.s a.A a.c a.l a.s' a.A' a.c' a.l' a.q m) (rb : R w b.s b.A b.c b.l b.s' b.A' b.c' b.l' b.q m') (hm : m + m' ≤ 40000) (i1 : (i : Int) < n) (j1 : (j : Int) < n) (z : Int) (HZ : Hid (cmpQ a.q b.q = z)) (t : Bool) (g1 : (z != 0) = false) (g2 : (a.dep != b.dep) = false) (g3 : (a.num != b.num) = true) (gt : decide (a.num < b.num) = t) :
    Calls Tryz.prog 246 #[.slice (some ⟨g, 0, none⟩) n cp, .int .i64 (i : Int), .int .i64 (j : Int)] w fun e w' => e = .returned (.bool t) ∧ Below w.heap.size w w' := by
  have i2 : (0 : Int) ≤ i := by omega
  have j2 : (0 : Int) ≤ j := by omega
  have hB := Below.refl w.heap.size w
  have Bz := Below.refl w.heap.size w
  have p50_0 := (ha.below (below_trans hB Bz)).c0
  have p50_1 := (ha.below (below_trans hB Bz)).at 1 (.slice a.A a.l a.c) rfl
  have p50_2 := (ha.below (below_trans hB Bz)).at 2 (.bool a.s') rfl
  have p50_3 := (ha.below (below_trans hB Bz)).at 3 (.slice a.A' a.l' a.c') rfl
  have p50_4 := (ha.below (below_trans hB Bz)).at 4 (.int .i64 a.dep) rfl
  have p50_5 := (ha.below (below_trans hB Bz)).at 5 (.int .i64 a.num) rfl
  have p50_6 := (ha.below (below_trans hB Bz)).at 6 (.slice a.F a.fl a.fc) rfl
  have p50_7 := (ha.below (below_trans hB Bz)).at 7 (.int .i64 a.turn) rfl
  have p51_0 := (hb.below (below_trans hB Bz)).c0
  have p51_1 := (hb.below (below_trans hB Bz)).at 1 (.slice b.A b.l b.c) rfl
  have p51_2 := (hb.below (below_trans hB Bz)).at 2 (.bool b.s') rfl
  have p51_3 := (hb.below (below_trans hB Bz)).at 3 (.slice b.A' b.l' b.c') rfl
  have p51_4 := (hb.below (below_trans hB Bz)).at 4 (.int .i64 b.dep) rfl
  have p51_5 := (hb.below (below_trans hB Bz)).at 5 (.int .i64 b.num) rfl
  have p51_6 := (hb.below (below_trans hB Bz)).at 6 (.slice b.F b.fl b.fc) rfl
  have p51_7 := (hb.below (below_trans hB Bz)).at 7 (.int .i64 b.turn) rfl
  go_enter Tryz.func246, Tryz.ntmps246
  go_wp2_with fail
  (try simp only [List.append_eq, List.cons_append, List.nil_append])
  refine wp_region_plan (.pure 0 (.pure 1 (.pure 2 (.take 3 (.pure 4 (.pure 5 (.pure 6 (.take 7 (.two 8 (.only 9 (.only 10 (.only 11 .done))) 9 (.only 8 (.only 10 (.only 11 .done)))))))))))) [11] (fun w' => w'.cell? ⟨g, i * 8, none⟩ = some (.bool a.s) ∧ w'.cell? ⟨g, i * 8 + 1, none⟩ = some (.slice a.A a.l a.c) ∧ w'.cell? ⟨g, i * 8 + 2, none⟩ = some (.bool a.s') ∧ w'.cell? ⟨g, i * 8 + 3, none⟩ = some (.slice a.A' a.l' a.c') ∧ w'.cell? ⟨g, i * 8 + 4, none⟩ = some (.int .i64 a.dep) ∧ w'.cell? ⟨g, i * 8 + 5, none⟩ = some (.int .i64 a.num) ∧ w'.cell? ⟨g, i * 8 + 6, none⟩ = some (.slice a.F a.fl a.fc) ∧ w'.cell? ⟨g, i * 8 + 7, none⟩ = some (.int .i64 a.turn) ∧ w'.cell? ⟨g, j * 8, none⟩ = some (.bool b.s) ∧ w'.cell? ⟨g, j * 8 + 1, none⟩ = some (.slice b.A b.l b.c) ∧ w'.cell? ⟨g, j * 8 + 2, none⟩ = some (.bool b.s') ∧ w'.cell? ⟨g, j * 8 + 3, none⟩ = some (.slice b.A' b.l' b.c') ∧ w'.cell? ⟨g, j * 8 + 4, none⟩ = some (.int .i64 b.dep) ∧ w'.cell? ⟨g, j * 8 + 5, none⟩ = some (.int .i64 b.num) ∧ w'.cell? ⟨g, j * 8 + 6, none⟩ = some (.slice b.F b.fl b.fc) ∧ w'.cell? ⟨g, j * 8 + 7, none⟩ = some (.int .i64 b.turn)) (by kernel_rfl) (by kernel_rfl) ⟨p50_0, p50_1, p50_2, p50_3, p50_4, p50_5, p50_6, p50_7, p51_0, p51_1, p51_2, p51_3, p51_4, p51_5, p51_6, p51_7⟩ ?_
  refine wpPlan_pure (o := ⟨some 10, _, _, _, _, _⟩) (v := ?_) rfl rfl (fun w' => ?_) ?_
  rotate_left
  · go_simp <;> with_reducible rfl
  try simp only [Act.put, List.setIfInBounds_toArray, List.set_cons_zero, List.set_cons_succ]
  refine wpPlan_pure (o := ⟨some 11, _, _, _, _, _⟩) (v := ?_) rfl rfl (fun w' => ?_) ?_
  rotate_left
  · go_simp <;> with_reducible rfl
  try simp only [Act.put, List.setIfInBounds_toArray, List.set_cons_zero, List.set_cons_succ]
  refine wpPlan_pure (o := ⟨some 12, _, _, _, _, _⟩) (v := ?_) rfl rfl (fun w' => ?_) ?_
  rotate_left
  · go_simp <;> with_reducible rfl
  try simp only [Act.put, List.setIfInBounds_toArray, List.set_cons_zero, List.set_cons_succ]
  refine wpPlan_take (o := ⟨some 13, _, _, _, _, _⟩) (v := ?_) rfl rfl (fun w' hS => ?_) ?_
  rotate_left
  · obtain ⟨p50_0, p50_1, p50_2, p50_3, p50_4, p50_5, p50_6, p50_7, p51_0, p51_1, p51_2, p51_3, p51_4, p51_5, p51_6, p51_7⟩ := hS; go_simp <;> with_reducible rfl
  try simp only [Act.put, List.setIfInBounds_toArray, List.set_cons_zero, List.set_cons_succ]
  refine wpPlan_pure (o := ⟨some 14, _, _, _, _, _⟩) (v := ?_) rfl rfl (fun w' => ?_) ?_
  rotate_left
  · go_simp <;> with_reducible rfl
  try simp only [Act.put, List.setIfInBounds_toArray, List.set_cons_zero, List.set_cons_succ]
  refine wpPlan_pure (o := ⟨some 15, _, _, _, _, _⟩) (v := ?_) rfl rfl (fun w' => ?_) ?_
  rotate_left
  · go_simp <;> with_reducible rfl
  try simp only [Act.put, List.setIfInBounds_toArray, List.set_cons_zero, List.set_cons_succ]
  refine wpPlan_pure (o := ⟨some 16, _, _, _, _, _⟩) (v := ?_) rfl rfl (fun w' => ?_) ?_
  rotate_left
  · go_simp <;> with_reducible rfl
  try simp only [Act.put, List.setIfInBounds_toArray, List.set_cons_zero, List.set_cons_succ]
  refine wpPlan_take (o := ⟨some 17, _, _, _, _, _⟩) (v := ?_) rfl rfl (fun w' hS => ?_) ?_
  rotate_left
  · obtain ⟨p50_0, p50_1, p50_2, p50_3, p50_4, p50_5, p50_6, p50_7, p51_0, p51_1, p51_2, p51_3, p51_4, p51_5, p51_6, p51_7⟩ := hS; go_simp <;> with_reducible rfl
  try simp only [Act.put, List.setIfInBounds_toArray, List.set_cons_zero, List.set_cons_succ]
  refine wpPlan_two (o := ⟨some 7, _, _, _, _, _⟩) (o' := ⟨some 8, _, _, _, _, _⟩) rfl rfl rfl rfl (fun K hK => ?_) (fun K hK => ?_)
  · go_simp
    refine hK.out _ _ ⟨(cell_al p50_0), (cell_al p50_1), (cell_al p50_2), (cell_al p50_3), (cell_al p50_4), (cell_al p50_5), (cell_al p50_6), (cell_al p50_7), (cell_al p51_0), (cell_al p51_1), (cell_al p51_2), (cell_al p51_3), (cell_al p51_4), (cell_al p51_5), (cell_al p51_6), (cell_al p51_7)⟩ (fun _ => ?_)
    try simp only [Act.put, List.setIfInBounds_toArray, List.set_cons_zero, List.set_cons_succ]
    clear hK K
    refine wpPlan_call (o := ⟨some 8, _, _, _, _, _⟩) rfl rfl (fun K hK => ?_)
    go_simp
    refine hK.out _ _ ⟨(cell_al (cell_al p50_0)), (cell_al (cell_al p50_1)), (cell_al (cell_al p50_2)), (cell_al (cell_al p50_3)), (cell_al (cell_al p50_4)), (cell_al (cell_al p50_5)), (cell_al (cell_al p50_6)), (cell_al (cell_al p50_7)), (cell_al (cell_al p51_0)), (cell_al (cell_al p51_1)), (cell_al (cell_al p51_2)), (cell_al (cell_al p51_3)), (cell_al (cell_al p51_4)), (cell_al (cell_al p51_5)), (cell_al (cell_al p51_6)), (cell_al (cell_al p51_7))⟩ (fun _ => ?_)
    try simp only [Act.put, List.setIfInBounds_toArray, List.set_cons_zero, List.set_cons_succ]
    clear hK K
    refine wpPlan_call (o := ⟨none, _, _, _, _, _⟩) rfl rfl (fun K hK => ?_)
    go_simp
    refine hK.out _ _ ⟨(cell_al (cell_al p50_0)), (cell_al (cell_al p50_1)), (cell_al (cell_al p50_2)), (cell_al (cell_al p50_3)), (cell_al (cell_al p50_4)), (cell_al (cell_al p50_5)), (cell_al (cell_al p50_6)), (cell_al (cell_al p50_7)), (cell_al (cell_al p51_0)), (cell_al (cell_al p51_1)), (cell_al (cell_al p51_2)), (cell_al (cell_al p51_3)), (cell_al (cell_al p51_4)), (cell_al (cell_al p51_5)), (cell_al (cell_al p51_6)), (cell_al (cell_al p51_7))⟩ (fun _ => ?_)
    try simp only [Act.put, List.setIfInBounds_toArray, List.set_cons_zero, List.set_cons_succ]
    clear hK K
    refine wpPlan_late (o := ⟨none, _, _, _, _, _⟩) rfl rfl (by decide) (fun K hK => ?_)
    go_simp
    refine hK.out _ _ ?_
    try simp only [Act.put, List.setIfInBounds_toArray, List.set_cons_zero, List.set_cons_succ]
    clear hK K
    refine wpPlan_done ?_
    obtain ⟨V1, hW, x0, x1, hN⟩ := boxes2 w #[.bool a.s, .slice a.A a.l a.c, .bool a.s', .slice a.A' a.l' a.c', .int .i64 a.dep, .int .i64 a.num, .slice a.F a.fl a.fc, .int .i64 a.turn] 110 #[.bool b.s, .slice b.A b.l b.c, .bool b.s', .slice b.A' b.l' b.c', .int .i64 b.dep, .int .i64 b.num, .slice b.F b.fl b.fc, .int .i64 b.turn] 110
    rw [← hW]
    clear hW
    obtain ⟨v1, hb1⟩ : ∃ b, b = w.heap.size + 1 := ⟨_, rfl⟩
    rw [← hb1] at x1 ⊢
    obtain ⟨v0, hb0⟩ : ∃ b, b = w.heap.size := ⟨_, rfl⟩
    rw [← hb0] at x0 ⊢
    have ow_0 : w.heap.size ≤ v0 := by have := hB.size; have := Bz.size; omega
    have o0_1 : v0 < v1 := by omega
    have ow_1 : w.heap.size ≤ v1 := by have := hB.size; have := Bz.size; omega
    replace ra := ra.below hN
    replace rb := rb.below hN
    replace hB := below_trans (below_trans hB Bz) hN
    have HX0 := Lib.hid x0
    have HX1 := Lib.hid x1
    clear x0 x1 hN Bz hb0 hb1
    have Bz := Below.refl V1.heap.size V1
    clear p50_0 p50_1 p50_2 p50_3 p50_4 p50_5 p50_6 p50_7 p51_0 p51_1 p51_2 p51_3 p51_4 p51_5 p51_6 p51_7
    have p0_0 := (HX0.out.below Bz).cell 0 (.bool a.s) rfl
    have p0_1 := (HX0.out.below Bz).cell 1 (.slice a.A a.l a.c) rfl
    have p0_2 := (HX0.out.below Bz).cell 2 (.bool a.s') rfl
    have p0_3 := (HX0.out.below Bz).cell 3 (.slice a.A' a.l' a.c') rfl
    have p1_0 := (HX1.out.below Bz).cell 0 (.bool b.s) rfl
    have p1_1 := (HX1.out.below Bz).cell 1 (.slice b.A b.l b.c) rfl
    have p1_2 := (HX1.out.below Bz).cell 2 (.bool b.s') rfl
    have p1_3 := (HX1.out.below Bz).cell 3 (.slice b.A' b.l' b.c') rfl
    go_wp2_with fail
    with_reducible refine (cmp_q (R.below ra (by go_grown)) (R.below rb (by go_grown)) (by omega) z HZ).mono ?_
    rintro e w1 ⟨rfl, b1⟩
    replace b1 := below_trans (a := V1) (by go_grown) b1
    replace Bz := below_trans Bz b1
    clear b1
    clear p0_0 p0_1 p0_2 p0_3 p1_0 p1_1 p1_2 p1_3
    have p0_4 := (HX0.out.below Bz).cell 4 (.int .i64 a.dep) rfl
    have p0_5 := (HX0.out.below Bz).cell 5 (.int .i64 a.num) rfl
    have p1_4 := (HX1.out.below Bz).cell 4 (.int .i64 b.dep) rfl
    have p1_5 := (HX1.out.below Bz).cell 5 (.int .i64 b.num) rfl
    go_wp2_with fail
    go_ret
    have hF := below_trans (c := w1) hB Bz
    exact ⟨rfl, below_trans hF (by go_grown)⟩
  · go_simp
    refine hK.out _ _ ⟨(cell_al p50_0), (cell_al p50_1), (cell_al p50_2), (cell_al p50_3), (cell_al p50_4), (cell_al p50_5), (cell_al p50_6), (cell_al p50_7), (cell_al p51_0), (cell_al p51_1), (cell_al p51_2), (cell_al p51_3), (cell_al p51_4), (cell_al p51_5), (cell_al p51_6), (cell_al p51_7)⟩ (fun _ => ?_)
    try simp only [Act.put, List.setIfInBounds_toArray, List.set_cons_zero, List.set_cons_succ]
    clear hK K
    refine wpPlan_call (o := ⟨some 7, _, _, _, _, _⟩) rfl rfl (fun K hK => ?_)
    go_simp
    refine hK.out _ _ ⟨(cell_al (cell_al p50_0)), (cell_al (cell_al p50_1)), (cell_al (cell_al p50_2)), (cell_al (cell_al p50_3)), (cell_al (cell_al p50_4)), (cell_al (cell_al p50_5)), (cell_al (cell_al p50_6)), (cell_al (cell_al p50_7)), (cell_al (cell_al p51_0)), (cell_al (cell_al p51_1)), (cell_al (cell_al p51_2)), (cell_al (cell_al p51_3)), (cell_al (cell_al p51_4)), (cell_al (cell_al p51_5)), (cell_al (cell_al p51_6)), (cell_al (cell_al p51_7))⟩ (fun _ => ?_)
    try simp only [Act.put, List.setIfInBounds_toArray, List.set_cons_zero, List.set_cons_succ]
    clear hK K
    refine wpPlan_call (o := ⟨none, _, _, _, _, _⟩) rfl rfl (fun K hK => ?_)
    go_simp
    refine hK.out _ _ ⟨(cell_al (cell_al p50_0)), (cell_al (cell_al p50_1)), (cell_al (cell_al p50_2)), (cell_al (cell_al p50_3)), (cell_al (cell_al p50_4)), (cell_al (cell_al p50_5)), (cell_al (cell_al p50_6)), (cell_al (cell_al p50_7)), (cell_al (cell_al p51_0)), (cell_al (cell_al p51_1)), (cell_al (cell_al p51_2)), (cell_al (cell_al p51_3)), (cell_al (cell_al p51_4)), (cell_al (cell_al p51_5)), (cell_al (cell_al p51_6)), (cell_al (cell_al p51_7))⟩ (fun _ => ?_)
    try simp only [Act.put, List.setIfInBounds_toArray, List.set_cons_zero, List.set_cons_succ]
    clear hK K
    refine wpPlan_late (o := ⟨none, _, _, _, _, _⟩) rfl rfl (by decide) (fun K hK => ?_)
    go_simp
    refine hK.out _ _ ?_
    try simp only [Act.put, List.setIfInBounds_toArray, List.set_cons_zero, List.set_cons_succ]
    clear hK K
    refine wpPlan_done ?_
    obtain ⟨V1, hW, x0, x1, hN⟩ := boxes2 w #[.bool b.s, .slice b.A b.l b.c, .bool b.s', .slice b.A' b.l' b.c', .int .i64 b.dep, .int .i64 b.num, .slice b.F b.fl b.fc, .int .i64 b.turn] 110 #[.bool a.s, .slice a.A a.l a.c, .bool a.s', .slice a.A' a.l' a.c', .int .i64 a.dep, .int .i64 a.num, .slice a.F a.fl a.fc, .int .i64 a.turn] 110
    rw [← hW]
    clear hW
    obtain ⟨v1, hb1⟩ : ∃ b, b = w.heap.size + 1 := ⟨_, rfl⟩
    rw [← hb1] at x1 ⊢
    obtain ⟨v0, hb0⟩ : ∃ b, b = w.heap.size := ⟨_, rfl⟩
    rw [← hb0] at x0 ⊢
    have ow_0 : w.heap.size ≤ v0 := by have := hB.size; have := Bz.size; omega
    have o0_1 : v0 < v1 := by omega
    have ow_1 : w.heap.size ≤ v1 := by have := hB.size; have := Bz.size; omega
    replace ra := ra.below hN
    replace rb := rb.below hN
    replace hB := below_trans (below_trans hB Bz) hN
    have HX0 := Lib.hid x0
    have HX1 := Lib.hid x1
    clear x0 x1 hN Bz hb0 hb1
    have Bz := Below.refl V1.heap.size V1
    clear p50_0 p50_1 p50_2 p50_3 p50_4 p50_5 p50_6 p50_7 p51_0 p51_1 p51_2 p51_3 p51_4 p51_5 p51_6 p51_7
    have p0_0 := (HX0.out.below Bz).cell 0 (.bool b.s) rfl
    have p0_1 := (HX0.out.below Bz).cell 1 (.slice b.A b.l b.c) rfl
    have p0_2 := (HX0.out.below Bz).cell 2 (.bool b.s') rfl
    have p0_3 := (HX0.out.below Bz).cell 3 (.slice b.A' b.l' b.c') rfl
    have p1_0 := (HX1.out.below Bz).cell 0 (.bool a.s) rfl
    have p1_1 := (HX1.out.below Bz).cell 1 (.slice a.A a.l a.c) rfl
    have p1_2 := (HX1.out.below Bz).cell 2 (.bool a.s') rfl
    have p1_3 := (HX1.out.below Bz).cell 3 (.slice a.A' a.l' a.c') rfl
    go_wp2_with fail
    with_reducible refine (cmp_q (R.below ra (by go_grown)) (R.below rb (by go_grown)) (by omega) z HZ).mono ?_
    rintro e w1 ⟨rfl, b1⟩
    replace b1 := below_trans (a := V1) (by go_grown) b1
    replace Bz := below_trans Bz b1
    clear b1
    clear p0_0 p0_1 p0_2 p0_3 p1_0 p1_1 p1_2 p1_3
    have p0_4 := (HX0.out.below Bz).cell 4 (.int .i64 b.dep) rfl
    have p0_5 := (HX0.out.below Bz).cell 5 (.int .i64 b.num) rfl
    have p1_4 := (HX1.out.below Bz).cell 4 (.int .i64 a.dep) rfl
    have p1_5 := (HX1.out.below Bz).cell 5 (.int .i64 a.num) rfl
    go_wp2_with fail
    go_ret
    have hF := below_trans (c := w1) hB Bz
    exact ⟨rfl, below_trans hF (by go_grown)⟩
set_option maxRecDepth 100000 in
set_option maxHeartbeats 4000000 in
theorem less_4 (ha : ItAt w g i a) (hb : ItAt w g j b) (ra : R w a.s a.A a.c a.l a.s' a.A' a.c' a.l' a.q m) (rb : R w b.s b.A b.c b.l b.s' b.A' b.c' b.l' b.q m') (hm : m + m' ≤ 40000) (i1 : (i : Int) < n) (j1 : (j : Int) < n) (z : Int) (HZ : Hid (cmpQ a.q b.q = z)) (t : Bool) (g1 : (z != 0) = false) (g2 : (a.dep != b.dep) = false) (g3 : (a.num != b.num) = false) (gt : decide (a.turn < b.turn) = t) :
    Calls Tryz.prog 246 #[.slice (some ⟨g, 0, none⟩) n cp, .int .i64 (i : Int), .int .i64 (j : Int)] w fun e w' => e = .returned (.bool t) ∧ Below w.heap.size w w' := by
  have i2 : (0 : Int) ≤ i := by omega
  have j2 : (0 : Int) ≤ j := by omega
  have hB := Below.refl w.heap.size w
  have Bz := Below.refl w.heap.size w
  have p50_0 := (ha.below (below_trans hB Bz)).c0
  have p50_1 := (ha.below (below_trans hB Bz)).at 1 (.slice a.A a.l a.c) rfl
  have p50_2 := (ha.below (below_trans hB Bz)).at 2 (.bool a.s') rfl
  have p50_3 := (ha.below (below_trans hB Bz)).at 3 (.slice a.A' a.l' a.c') rfl
  have p50_4 := (ha.below (below_trans hB Bz)).at 4 (.int .i64 a.dep) rfl
  have p50_5 := (ha.below (below_trans hB Bz)).at 5 (.int .i64 a.num) rfl
  have p50_6 := (ha.below (below_trans hB Bz)).at 6 (.slice a.F a.fl a.fc) rfl
  have p50_7 := (ha.below (below_trans hB Bz)).at 7 (.int .i64 a.turn) rfl
  have p51_0 := (hb.below (below_trans hB Bz)).c0
  have p51_1 := (hb.below (below_trans hB Bz)).at 1 (.slice b.A b.l b.c) rfl
  have p51_2 := (hb.below (below_trans hB Bz)).at 2 (.bool b.s') rfl
  have p51_3 := (hb.below (below_trans hB Bz)).at 3 (.slice b.A' b.l' b.c') rfl
  have p51_4 := (hb.below (below_trans hB Bz)).at 4 (.int .i64 b.dep) rfl
  have p51_5 := (hb.below (below_trans hB Bz)).at 5 (.int .i64 b.num) rfl
  have p51_6 := (hb.below (below_trans hB Bz)).at 6 (.slice b.F b.fl b.fc) rfl
  have p51_7 := (hb.below (below_trans hB Bz)).at 7 (.int .i64 b.turn) rfl
  go_enter Tryz.func246, Tryz.ntmps246
  go_wp2_with fail
  (try simp only [List.append_eq, List.cons_append, List.nil_append])
  refine wp_region_plan (.pure 0 (.pure 1 (.pure 2 (.take 3 (.pure 4 (.pure 5 (.pure 6 (.take 7 (.two 8 (.only 9 (.only 10 (.only 11 .done))) 9 (.only 8 (.only 10 (.only 11 .done)))))))))))) [11] (fun w' => w'.cell? ⟨g, i * 8, none⟩ = some (.bool a.s) ∧ w'.cell? ⟨g, i * 8 + 1, none⟩ = some (.slice a.A a.l a.c) ∧ w'.cell? ⟨g, i * 8 + 2, none⟩ = some (.bool a.s') ∧ w'.cell? ⟨g, i * 8 + 3, none⟩ = some (.slice a.A' a.l' a.c') ∧ w'.cell? ⟨g, i * 8 + 4, none⟩ = some (.int .i64 a.dep) ∧ w'.cell? ⟨g, i * 8 + 5, none⟩ = some (.int .i64 a.num) ∧ w'.cell? ⟨g, i * 8 + 6, none⟩ = some (.slice a.F a.fl a.fc) ∧ w'.cell? ⟨g, i * 8 + 7, none⟩ = some (.int .i64 a.turn) ∧ w'.cell? ⟨g, j * 8, none⟩ = some (.bool b.s) ∧ w'.cell? ⟨g, j * 8 + 1, none⟩ = some (.slice b.A b.l b.c) ∧ w'.cell? ⟨g, j * 8 + 2, none⟩ = some (.bool b.s') ∧ w'.cell? ⟨g, j * 8 + 3, none⟩ = some (.slice b.A' b.l' b.c') ∧ w'.cell? ⟨g, j * 8 + 4, none⟩ = some (.int .i64 b.dep) ∧ w'.cell? ⟨g, j * 8 + 5, none⟩ = some (.int .i64 b.num) ∧ w'.cell? ⟨g, j * 8 + 6, none⟩ = some (.slice b.F b.fl b.fc) ∧ w'.cell? ⟨g, j * 8 + 7, none⟩ = some (.int .i64 b.turn)) (by kernel_rfl) (by kernel_rfl) ⟨p50_0, p50_1, p50_2, p50_3, p50_4, p50_5, p50_6, p50_7, p51_0, p51_1, p51_2, p51_3, p51_4, p51_5, p51_6, p51_7⟩ ?_
  refine wpPlan_pure (o := ⟨some 10, _, _, _, _, _⟩) (v := ?_) rfl rfl (fun w' => ?_) ?_
  rotate_left
  · go_simp <;> with_reducible rfl
  try simp only [Act.put, List.setIfInBounds_toArray, List.set_cons_zero, List.set_cons_succ]
  refine wpPlan_pure (o := ⟨some 11, _, _, _, _, _⟩) (v := ?_) rfl rfl (fun w' => ?_) ?_
  rotate_left
  · go_simp <;> with_reducible rfl
  try simp only [Act.put, List.setIfInBounds_toArray, List.set_cons_zero, List.set_cons_succ]
  refine wpPlan_pure (o := ⟨some 12, _, _, _, _, _⟩) (v := ?_) rfl rfl (fun w' => ?_) ?_
  rotate_left
  · go_simp <;> with_reducible rfl
  try simp only [Act.put, List.setIfInBounds_toArray, List.set_cons_zero, List.set_cons_succ]
  refine wpPlan_take (o := ⟨some 13, _, _, _, _, _⟩) (v := ?_) rfl rfl (fun w' hS => ?_) ?_
  rotate_left
  · obtain ⟨p50_0, p50_1, p50_2, p50_3, p50_4, p50_5, p50_6, p50_7, p51_0, p51_1, p51_2, p51_3, p51_4, p51_5, p51_6, p51_7⟩ := hS; go_simp <;> with_reducible rfl
  try simp only [Act.put, List.setIfInBounds_toArray, List.set_cons_zero, List.set_cons_succ]
  refine wpPlan_pure (o := ⟨some 14, _, _, _, _, _⟩) (v := ?_) rfl rfl (fun w' => ?_) ?_
  rotate_left
  · go_simp <;> with_reducible rfl
  try simp only [Act.put, List.setIfInBounds_toArray, List.set_cons_zero, List.set_cons_succ]
  refine wpPlan_pure (o := ⟨some 15, _, _, _, _, _⟩) (v := ?_) rfl rfl (fun w' => ?_) ?_
  rotate_left
  · go_simp <;> with_reducible rfl
  try simp only [Act.put, List.setIfInBounds_toArray, List.set_cons_zero, List.set_cons_succ]
  refine wpPlan_pure (o := ⟨some 16, _, _, _, _, _⟩) (v := ?_) rfl rfl (fun w' => ?_) ?_
  rotate_left
  · go_simp <;> with_reducible rfl
  try simp only [Act.put, List.setIfInBounds_toArray, List.set_cons_zero, List.set_cons_succ]
  refine wpPlan_take (o := ⟨some 17, _, _, _, _, _⟩) (v := ?_) rfl rfl (fun w' hS => ?_) ?_
  rotate_left
  · obtain ⟨p50_0, p50_1, p50_2, p50_3, p50_4, p50_5, p50_6, p50_7, p51_0, p51_1, p51_2, p51_3, p51_4, p51_5, p51_6, p51_7⟩ := hS; go_simp <;> with_reducible rfl
  try simp only [Act.put, List.setIfInBounds_toArray, List.set_cons_zero, List.set_cons_succ]
  refine wpPlan_two (o := ⟨some 7, _, _, _, _, _⟩) (o' := ⟨some 8, _, _, _, _, _⟩) rfl rfl rfl rfl (fun K hK => ?_) (fun K hK => ?_)
  · go_simp
    refine hK.out _ _ ⟨(cell_al p50_0), (cell_al p50_1), (cell_al p50_2), (cell_al p50_3), (cell_al p50_4), (cell_al p50_5), (cell_al p50_6), (cell_al p50_7), (cell_al p51_0), (cell_al p51_1), (cell_al p51_2), (cell_al p51_3), (cell_al p51_4), (cell_al p51_5), (cell_al p51_6), (cell_al p51_7)⟩ (fun _ => ?_)
    try simp only [Act.put, List.setIfInBounds_toArray, List.set_cons_zero, List.set_cons_succ]
    clear hK K
    refine wpPlan_call (o := ⟨some 8, _, _, _, _, _⟩) rfl rfl (fun K hK => ?_)
    go_simp
    refine hK.out _ _ ⟨(cell_al (cell_al p50_0)), (cell_al (cell_al p50_1)), (cell_al (cell_al p50_2)), (cell_al (cell_al p50_3)), (cell_al (cell_al p50_4)), (cell_al (cell_al p50_5)), (cell_al (cell_al p50_6)), (cell_al (cell_al p50_7)), (cell_al (cell_al p51_0)), (cell_al (cell_al p51_1)), (cell_al (cell_al p51_2)), (cell_al (cell_al p51_3)), (cell_al (cell_al p51_4)), (cell_al (cell_al p51_5)), (cell_al (cell_al p51_6)), (cell_al (cell_al p51_7))⟩ (fun _ => ?_)
    try simp only [Act.put, List.setIfInBounds_toArray, List.set_cons_zero, List.set_cons_succ]
    clear hK K
    refine wpPlan_call (o := ⟨none, _, _, _, _, _⟩) rfl rfl (fun K hK => ?_)
    go_simp
    refine hK.out _ _ ⟨(cell_al (cell_al p50_0)), (cell_al (cell_al p50_1)), (cell_al (cell_al p50_2)), (cell_al (cell_al p50_3)), (cell_al (cell_al p50_4)), (cell_al (cell_al p50_5)), (cell_al (cell_al p50_6)), (cell_al (cell_al p50_7)), (cell_al (cell_al p51_0)), (cell_al (cell_al p51_1)), (cell_al (cell_al p51_2)), (cell_al (cell_al p51_3)), (cell_al (cell_al p51_4)), (cell_al (cell_al p51_5)), (cell_al (cell_al p51_6)), (cell_al (cell_al p51_7))⟩ (fun _ => ?_)
    try simp only [Act.put, List.setIfInBounds_toArray, List.set_cons_zero, List.set_cons_succ]
    clear hK K
    refine wpPlan_late (o := ⟨none, _, _, _, _, _⟩) rfl rfl (by decide) (fun K hK => ?_)
    go_simp
    refine hK.out _ _ ?_
    try simp only [Act.put, List.setIfInBounds_toArray, List.set_cons_zero, List.set_cons_succ]
    clear hK K
    refine wpPlan_done ?_
    obtain ⟨V1, hW, x0, x1, hN⟩ := boxes2 w #[.bool a.s, .slice a.A a.l a.c, .bool a.s', .slice a.A' a.l' a.c', .int .i64 a.dep, .int .i64 a.num, .slice a.F a.fl a.fc, .int .i64 a.turn] 110 #[.bool b.s, .slice b.A b.l b.c, .bool b.s', .slice b.A' b.l' b.c', .int .i64 b.dep, .int .i64 b.num, .slice b.F b.fl b.fc, .int .i64 b.turn] 110
    rw [← hW]
    clear hW
    obtain ⟨v1, hb1⟩ : ∃ b, b = w.heap.size + 1 := ⟨_, rfl⟩
    rw [← hb1] at x1 ⊢
    obtain ⟨v0, hb0⟩ : ∃ b, b = w.heap.size := ⟨_, rfl⟩
    rw [← hb0] at x0 ⊢
    have ow_0 : w.heap.size ≤ v0 := by have := hB.size; have := Bz.size; omega
    have o0_1 : v0 < v1 := by omega
    have ow_1 : w.heap.size ≤ v1 := by have := hB.size; have := Bz.size; omega
    replace ra := ra.below hN
    replace rb := rb.below hN
    replace hB := below_trans (below_trans hB Bz) hN
    have HX0 := Lib.hid x0
    have HX1 := Lib.hid x1
    clear x0 x1 hN Bz hb0 hb1
    have Bz := Below.refl V1.heap.size V1
    clear p50_0 p50_1 p50_2 p50_3 p50_4 p50_5 p50_6 p50_7 p51_0 p51_1 p51_2 p51_3 p51_4 p51_5 p51_6 p51_7
    have p0_0 := (HX0.out.below Bz).cell 0 (.bool a.s) rfl
    have p0_1 := (HX0.out.below Bz).cell 1 (.slice a.A a.l a.c) rfl
    have p0_2 := (HX0.out.below Bz).cell 2 (.bool a.s') rfl
    have p0_3 := (HX0.out.below Bz).cell 3 (.slice a.A' a.l' a.c') rfl
    have p1_0 := (HX1.out.below Bz).cell 0 (.bool b.s) rfl
    have p1_1 := (HX1.out.below Bz).cell 1 (.slice b.A b.l b.c) rfl
    have p1_2 := (HX1.out.below Bz).cell 2 (.bool b.s') rfl
    have p1_3 := (HX1.out.below Bz).cell 3 (.slice b.A' b.l' b.c') rfl
    go_wp2_with fail
    with_reducible refine (cmp_q (R.below ra (by go_grown)) (R.below rb (by go_grown)) (by omega) z HZ).mono ?_
    rintro e w1 ⟨rfl, b1⟩
    replace b1 := below_trans (a := V1) (by go_grown) b1
    replace Bz := below_trans Bz b1
    clear b1
    clear p0_0 p0_1 p0_2 p0_3 p1_0 p1_1 p1_2 p1_3
    have p0_4 := (HX0.out.below Bz).cell 4 (.int .i64 a.dep) rfl
    have p0_5 := (HX0.out.below Bz).cell 5 (.int .i64 a.num) rfl
    have p0_7 := (HX0.out.below Bz).cell 7 (.int .i64 a.turn) rfl
    have p1_4 := (HX1.out.below Bz).cell 4 (.int .i64 b.dep) rfl
    have p1_5 := (HX1.out.below Bz).cell 5 (.int .i64 b.num) rfl
    have p1_7 := (HX1.out.below Bz).cell 7 (.int .i64 b.turn) rfl
    go_wp2_with fail
    go_ret
    have hF := below_trans (c := w1) hB Bz
    exact ⟨rfl, below_trans hF (by go_grown)⟩
  · go_simp
    refine hK.out _ _ ⟨(cell_al p50_0), (cell_al p50_1), (cell_al p50_2), (cell_al p50_3), (cell_al p50_4), (cell_al p50_5), (cell_al p50_6), (cell_al p50_7), (cell_al p51_0), (cell_al p51_1), (cell_al p51_2), (cell_al p51_3), (cell_al p51_4), (cell_al p51_5), (cell_al p51_6), (cell_al p51_7)⟩ (fun _ => ?_)
    try simp only [Act.put, List.setIfInBounds_toArray, List.set_cons_zero, List.set_cons_succ]
    clear hK K
    refine wpPlan_call (o := ⟨some 7, _, _, _, _, _⟩) rfl rfl (fun K hK => ?_)
    go_simp
    refine hK.out _ _ ⟨(cell_al (cell_al p50_0)), (cell_al (cell_al p50_1)), (cell_al (cell_al p50_2)), (cell_al (cell_al p50_3)), (cell_al (cell_al p50_4)), (cell_al (cell_al p50_5)), (cell_al (cell_al p50_6)), (cell_al (cell_al p50_7)), (cell_al (cell_al p51_0)), (cell_al (cell_al p51_1)), (cell_al (cell_al p51_2)), (cell_al (cell_al p51_3)), (cell_al (cell_al p51_4)), (cell_al (cell_al p51_5)), (cell_al (cell_al p51_6)), (cell_al (cell_al p51_7))⟩ (fun _ => ?_)
    try simp only [Act.put, List.setIfInBounds_toArray, List.set_cons_zero, List.set_cons_succ]
    clear hK K
    refine wpPlan_call (o := ⟨none, _, _, _, _, _⟩) rfl rfl (fun K hK => ?_)
    go_simp
    refine hK.out _ _ ⟨(cell_al (cell_al p50_0)), (cell_al (cell_al p50_1)), (cell_al (cell_al p50_2)), (cell_al (cell_al p50_3)), (cell_al (cell_al p50_4)), (cell_al (cell_al p50_5)), (cell_al (cell_al p50_6)), (cell_al (cell_al p50_7)), (cell_al (cell_al p51_0)), (cell_al (cell_al p51_1)), (cell_al (cell_al p51_2)), (cell_al (cell_al p51_3)), (cell_al (cell_al p51_4)), (cell_al (cell_al p51_5)), (cell_al (cell_al p51_6)), (cell_al (cell_al p51_7))⟩ (fun _ => ?_)
    try simp only [Act.put, List.setIfInBounds_toArray, List.set_cons_zero, List.set_cons_succ]
    clear hK K
    refine wpPlan_late (o := ⟨none, _, _, _, _, _⟩) rfl rfl (by decide) (fun K hK => ?_)
    go_simp
    refine hK.out _ _ ?_
    try simp only [Act.put, List.setIfInBounds_toArray, List.set_cons_zero, List.set_cons_succ]
    clear hK K
    refine wpPlan_done ?_
    obtain ⟨V1, hW, x0, x1, hN⟩ := boxes2 w #[.bool b.s, .slice b.A b.l b.c, .bool b.s', .slice b.A' b.l' b.c', .int .i64 b.dep, .int .i64 b.num, .slice b.F b.fl b.fc, .int .i64 b.turn] 110 #[.bool a.s, .slice a.A a.l a.c, .bool a.s', .slice a.A' a.l' a.c', .int .i64 a.dep, .int .i64 a.num, .slice a.F a.fl a.fc, .int .i64 a.turn] 110
    rw [← hW]
    clear hW
    obtain ⟨v1, hb1⟩ : ∃ b, b = w.heap.size + 1 := ⟨_, rfl⟩
    rw [← hb1] at x1 ⊢
    obtain ⟨v0, hb0⟩ : ∃ b, b = w.heap.size := ⟨_, rfl⟩
    rw [← hb0] at x0 ⊢
    have ow_0 : w.heap.size ≤ v0 := by have := hB.size; have := Bz.size; omega
    have o0_1 : v0 < v1 := by omega
    have ow_1 : w.heap.size ≤ v1 := by have := hB.size; have := Bz.size; omega
    replace ra := ra.below hN
    replace rb := rb.below hN
    replace hB := below_trans (below_trans hB Bz) hN
    have HX0 := Lib.hid x0
    have HX1 := Lib.hid x1
    clear x0 x1 hN Bz hb0 hb1
    have Bz := Below.refl V1.heap.size V1
    clear p50_0 p50_1 p50_2 p50_3 p50_4 p50_5 p50_6 p50_7 p51_0 p51_1 p51_2 p51_3 p51_4 p51_5 p51_6 p51_7
    have p0_0 := (HX0.out.below Bz).cell 0 (.bool b.s) rfl
    have p0_1 := (HX0.out.below Bz).cell 1 (.slice b.A b.l b.c) rfl
    have p0_2 := (HX0.out.below Bz).cell 2 (.bool b.s') rfl
    have p0_3 := (HX0.out.below Bz).cell 3 (.slice b.A' b.l' b.c') rfl
    have p1_0 := (HX1.out.below Bz).cell 0 (.bool a.s) rfl
    have p1_1 := (HX1.out.below Bz).cell 1 (.slice a.A a.l a.c) rfl
    have p1_2 := (HX1.out.below Bz).cell 2 (.bool a.s') rfl
    have p1_3 := (HX1.out.below Bz).cell 3 (.slice a.A' a.l' a.c') rfl
    go_wp2_with fail
    with_reducible refine (cmp_q (R.below ra (by go_grown)) (R.below rb (by go_grown)) (by omega) z HZ).mono ?_
    rintro e w1 ⟨rfl, b1⟩
    replace b1 := below_trans (a := V1) (by go_grown) b1
    replace Bz := below_trans Bz b1
    clear b1
    clear p0_0 p0_1 p0_2 p0_3 p1_0 p1_1 p1_2 p1_3
    have p0_4 := (HX0.out.below Bz).cell 4 (.int .i64 b.dep) rfl
    have p0_5 := (HX0.out.below Bz).cell 5 (.int .i64 b.num) rfl
    have p0_7 := (HX0.out.below Bz).cell 7 (.int .i64 b.turn) rfl
    have p1_4 := (HX1.out.below Bz).cell 4 (.int .i64 a.dep) rfl
    have p1_5 := (HX1.out.below Bz).cell 5 (.int .i64 a.num) rfl
    have p1_7 := (HX1.out.below Bz).cell 7 (.int .i64 a.turn) rfl
    go_wp2_with fail
    go_ret
    have hF := below_trans (c := w1) hB Bz
    exact ⟨rfl, below_trans hF (by go_grown)⟩
theorem less_q (ha : ItAt w g i a) (hb : ItAt w g j b) (ra : R w a.s a.A a.c a.l a.s' a.A' a.c' a.l' a.q m) (rb : R w b.s b.A b.c b.l b.s' b.A' b.c' b.l' b.q m') (hm : m + m' ≤ 40000) (i1 : i < n) (j1 : j < n) (t : Bool) (ht : itLt a b = t) :
    Calls Tryz.prog 246 #[.slice (some ⟨g, 0, none⟩) n cp, .int .i64 (i : Int), .int .i64 (j : Int)] w fun e w' => e = .returned (.bool t) ∧ Below w.heap.size w w' := by
  unfold itLt at ht
  have k1 : (i : Int) < n := by omega
  have k2 : (j : Int) < n := by omega
  by_cases h1 : cmpQ a.q b.q = 0
  · rw [if_neg (by simpa using h1)] at ht
    by_cases h2 : a.dep = b.dep
    · rw [if_neg (by simpa using h2)] at ht
      by_cases h3 : a.num = b.num
      · rw [if_neg (by simpa using h3)] at ht
        exact less_4 ha hb ra rb hm k1 k2 _ (Lib.hid rfl) t (by simp [h1]) (by simp [h2]) (by simp [h3]) ht
      · rw [if_pos h3] at ht
        exact less_3 ha hb ra rb hm k1 k2 _ (Lib.hid rfl) t (by simp [h1]) (by simp [h2]) (by simp [h3]) ht
    · rw [if_pos h2] at ht
      exact less_2 ha hb ra rb hm k1 k2 _ (Lib.hid rfl) t (by simp [h1]) (by simp [h2]) ht
  · rw [if_pos h1] at ht
    exact less_1 ha hb ra rb hm k1 k2 _ (Lib.hid rfl) t (by simp [h1]) ht
end
end Go.Proofs.YtihdaemjabhhkaaGreatDoor
