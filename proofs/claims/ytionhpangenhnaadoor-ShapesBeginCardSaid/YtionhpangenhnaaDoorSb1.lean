/-
  ShapesBegin: the walk. Written by wip/gen/sb1.py.
-/
import Derived.Test.YtionhpangenhnaaDoorSb0
import Derived.Test.YtionhpangenhnaaDoorSx3
import Derived.Test.YtionhpangenhnaaDoorPk
namespace Go.Proofs.YtionhpangenhnaaDoor
open Go.RowKit Tw

/-- A beginning of a slice. -/
theorem Sl.take {α : Type} {f : α → List Value} {k : Nat} {w : World} {A : Option Addr} {n c : Nat} {L : List α} (h : Sl f k w A n c L) (hk : ∀ x, (f x).length = k) {q : Nat} (hq : q ≤ n) : Sl f k w A q c (L.take q) := by
  obtain ⟨h1, h2, A', c', e, h3, h4⟩ := h
  cases e
  refine ⟨by rw [List.length_take, h1]; omega, by rw [flat_len hk, List.length_take, h1, Nat.min_eq_left hq], A, c, rfl, fun e => by have := h3 e; omega, fun a ha j u hu => h4 a ha j u ?_⟩
  rw [← flat_take hk] at hu
  rw [List.getElem?_take] at hu
  split at hu
  · exact hu
  · cases hu
theorem LysOk.take {w : World} {m : Nat} {L : List Ly} (h : LysOk w m L) (q : Nat) : LysOk w m (L.take q) := fun y hy => h y (List.mem_of_mem_take hy)
/-- A state of the loop of ShapesBegin. -/
def SB1 (w : World) (cs : Array Value) (n gk : Nat) (s : Value) (wr : World) : Prop := ∃ i : Nat, i ≤ n ∧ n - i = gk ∧ s = .int .i64 (i : Int) ∧ Below w.heap.size w wr ∧ Bx wr w.heap.size cs 30
set_option maxRecDepth 100000 in
set_option maxHeartbeats 4000000 in
theorem begin_small {w : World} {inp k : Int} {lA : Option Addr} {ln lc : Nat} {L : List Ly} (h : Sl Ly.cs 13 w lA ln lc L) (hln : ln ≤ 9223372036854775807) (hin : Hid (∀ y ∈ L, LyIn w y)) (_hk : -9223372036854775808 ≤ k ∧ k ≤ 9223372036854775807) (HS : Hid (smallNet 20 300 20 ln L = false)) (hT : Hid (Tab w)) :
    Calls Tryd.prog 4 #[.agg #[.int .i64 inp, .slice lA ln lc], .int .i64 k] w fun e w' => e = .returned (.bool true) ∧ Below w.heap.size w w' := by
  obtain ⟨W, hW, x0, hB⟩ := boxes1 w #[.int .i64 inp, .slice lA ln lc] 30
  have HX0 := Lib.hid x0
  clear x0
  have Bz := Below.refl W.heap.size W
  have p0_0 := (HX0.out.below Bz).cell 0 (.int .i64 inp) rfl
  have p0_1 := (HX0.out.below Bz).cell 1 (.slice lA ln lc) rfl
  go_enter Tryd.func4, Tryd.ntmps4
  go_wp2_with fail
  rw [← hW]
  clear hW
  go_wp2_with fail
  with_reducible refine (smallNet_q (h.below (below_trans hB (below_trans (b := W) Bz (by go_grown)))) (Lib.hid fun y hy => (hin.out y hy).below (below_trans hB (below_trans (b := W) Bz (by go_grown)))) hln 20 300 20 (by omega) false HS).mono ?_
  rintro e w1 ⟨rfl, b1⟩
  replace b1 := below_trans (a := W) (by go_grown) b1
  replace Bz := below_trans Bz b1
  clear b1
  clear p0_0 p0_1
  go_wp2_with fail
  with_reducible refine (awake10_q (Lib.hid (Tab.below hT.out (below_trans hB (below_trans (b := w1) Bz (by go_grown)))))).mono ?_
  rintro e w2 ⟨rfl, b2⟩
  replace b2 := below_trans (a := w1) (by go_grown) b2
  replace Bz := below_trans Bz b2
  clear b2
  go_wp2_with fail
  go_ret
  have hF := below_trans (c := w2) hB Bz
  exact ⟨rfl, below_trans hF (by go_grown)⟩
set_option maxRecDepth 100000 in
set_option maxHeartbeats 4000000 in
theorem begin_err22 {w : World} {inp k : Int} {lA : Option Addr} {ln lc : Nat} {L : List Ly} (h : Sl Ly.cs 13 w lA ln lc L) (hln : ln ≤ 9223372036854775807) (hin : Hid (∀ y ∈ L, LyIn w y)) (_hk : -9223372036854775808 ≤ k ∧ k ≤ 9223372036854775807) (HS : Hid (smallNet 20 300 20 ln L = true)) (hok : Hid (LysOk w 20 L)) (HL : Hid (listF inp L = [])) (HC : Hid (checkF inp L = 22)) (hT : Hid (Tab w)) :
    Calls Tryd.prog 4 #[.agg #[.int .i64 inp, .slice lA ln lc], .int .i64 k] w fun e w' => e = .returned (.bool true) ∧ Below w.heap.size w w' := by
  obtain ⟨W, hW, x0, hB⟩ := boxes1 w #[.int .i64 inp, .slice lA ln lc] 30
  have HX0 := Lib.hid x0
  clear x0
  have Bz := Below.refl W.heap.size W
  have p0_0 := (HX0.out.below Bz).cell 0 (.int .i64 inp) rfl
  have p0_1 := (HX0.out.below Bz).cell 1 (.slice lA ln lc) rfl
  go_enter Tryd.func4, Tryd.ntmps4
  go_wp2_with fail
  rw [← hW]
  clear hW
  go_wp2_with fail
  with_reducible refine (smallNet_q (h.below (below_trans hB (below_trans (b := W) Bz (by go_grown)))) (Lib.hid fun y hy => (hin.out y hy).below (below_trans hB (below_trans (b := W) Bz (by go_grown)))) hln 20 300 20 (by omega) true HS).mono ?_
  rintro e w1 ⟨rfl, b1⟩
  replace b1 := below_trans (a := W) (by go_grown) b1
  replace Bz := below_trans Bz b1
  clear b1
  clear p0_0 p0_1
  have p0_0 := (HX0.out.below Bz).cell 0 (.int .i64 inp) rfl
  have p0_1 := (HX0.out.below Bz).cell 1 (.slice lA ln lc) rfl
  go_wp2_with fail
  with_reducible refine (sizes_is (h.below (below_trans hB (below_trans (b := w1) Bz (by go_grown)))) (hok.out.below (below_trans hB (below_trans (b := w1) Bz (by go_grown)))) (m := 20) (by omega) hln (Lib.hid (Tab.below hT.out (below_trans hB (below_trans (b := w1) Bz (by go_grown))))) [] HL).mono ?_
  rintro e w2 ⟨A2, n2, c2, rfl, hl2, hc2, b2⟩
  obtain rfl : n2 = 0 := hl2.len.symm
  replace b2 := below_trans (a := w1) (by go_grown) b2
  replace Bz := below_trans Bz b2
  clear hl2
  clear b2
  clear p0_0 p0_1
  have p0_0 := (HX0.out.below Bz).cell 0 (.int .i64 inp) rfl
  have p0_1 := (HX0.out.below Bz).cell 1 (.slice lA ln lc) rfl
  go_wp2_with fail
  with_reducible refine (check_is (h.below (below_trans hB (below_trans (b := w2) Bz (by go_grown)))) (hok.out.below (below_trans hB (below_trans (b := w2) Bz (by go_grown)))) (m := 20) (by omega) hln (Lib.hid (Tab.below hT.out (below_trans hB (below_trans (b := w2) Bz (by go_grown))))) 22 HC).mono ?_
  rintro e w3 ⟨rfl, b3⟩
  replace b3 := below_trans (a := w2) (by go_grown) b3
  replace Bz := below_trans Bz b3
  clear b3
  clear p0_0 p0_1
  go_wp2_with fail
  with_reducible refine (awake10_q (Lib.hid (Tab.below hT.out (below_trans hB (below_trans (b := w3) Bz (by go_grown)))))).mono ?_
  rintro e w4 ⟨rfl, b4⟩
  replace b4 := below_trans (a := w3) (by go_grown) b4
  replace Bz := below_trans Bz b4
  clear b4
  go_wp2_with fail
  go_ret
  have hF := below_trans (c := w4) hB Bz
  exact ⟨rfl, below_trans hF (by go_grown)⟩
set_option maxRecDepth 100000 in
set_option maxHeartbeats 4000000 in
theorem begin_err25 {w : World} {inp k : Int} {lA : Option Addr} {ln lc : Nat} {L : List Ly} (h : Sl Ly.cs 13 w lA ln lc L) (hln : ln ≤ 9223372036854775807) (hin : Hid (∀ y ∈ L, LyIn w y)) (_hk : -9223372036854775808 ≤ k ∧ k ≤ 9223372036854775807) (HS : Hid (smallNet 20 300 20 ln L = true)) (hok : Hid (LysOk w 20 L)) (HL : Hid (listF inp L = [])) (HC : Hid (checkF inp L = 25)) (hT : Hid (Tab w)) :
    Calls Tryd.prog 4 #[.agg #[.int .i64 inp, .slice lA ln lc], .int .i64 k] w fun e w' => e = .returned (.bool true) ∧ Below w.heap.size w w' := by
  obtain ⟨W, hW, x0, hB⟩ := boxes1 w #[.int .i64 inp, .slice lA ln lc] 30
  have HX0 := Lib.hid x0
  clear x0
  have Bz := Below.refl W.heap.size W
  have p0_0 := (HX0.out.below Bz).cell 0 (.int .i64 inp) rfl
  have p0_1 := (HX0.out.below Bz).cell 1 (.slice lA ln lc) rfl
  go_enter Tryd.func4, Tryd.ntmps4
  go_wp2_with fail
  rw [← hW]
  clear hW
  go_wp2_with fail
  with_reducible refine (smallNet_q (h.below (below_trans hB (below_trans (b := W) Bz (by go_grown)))) (Lib.hid fun y hy => (hin.out y hy).below (below_trans hB (below_trans (b := W) Bz (by go_grown)))) hln 20 300 20 (by omega) true HS).mono ?_
  rintro e w1 ⟨rfl, b1⟩
  replace b1 := below_trans (a := W) (by go_grown) b1
  replace Bz := below_trans Bz b1
  clear b1
  clear p0_0 p0_1
  have p0_0 := (HX0.out.below Bz).cell 0 (.int .i64 inp) rfl
  have p0_1 := (HX0.out.below Bz).cell 1 (.slice lA ln lc) rfl
  go_wp2_with fail
  with_reducible refine (sizes_is (h.below (below_trans hB (below_trans (b := w1) Bz (by go_grown)))) (hok.out.below (below_trans hB (below_trans (b := w1) Bz (by go_grown)))) (m := 20) (by omega) hln (Lib.hid (Tab.below hT.out (below_trans hB (below_trans (b := w1) Bz (by go_grown))))) [] HL).mono ?_
  rintro e w2 ⟨A2, n2, c2, rfl, hl2, hc2, b2⟩
  obtain rfl : n2 = 0 := hl2.len.symm
  replace b2 := below_trans (a := w1) (by go_grown) b2
  replace Bz := below_trans Bz b2
  clear hl2
  clear b2
  clear p0_0 p0_1
  have p0_0 := (HX0.out.below Bz).cell 0 (.int .i64 inp) rfl
  have p0_1 := (HX0.out.below Bz).cell 1 (.slice lA ln lc) rfl
  go_wp2_with fail
  with_reducible refine (check_is (h.below (below_trans hB (below_trans (b := w2) Bz (by go_grown)))) (hok.out.below (below_trans hB (below_trans (b := w2) Bz (by go_grown)))) (m := 20) (by omega) hln (Lib.hid (Tab.below hT.out (below_trans hB (below_trans (b := w2) Bz (by go_grown))))) 25 HC).mono ?_
  rintro e w3 ⟨rfl, b3⟩
  replace b3 := below_trans (a := w2) (by go_grown) b3
  replace Bz := below_trans Bz b3
  clear b3
  clear p0_0 p0_1
  go_wp2_with fail
  with_reducible refine (awake10_q (Lib.hid (Tab.below hT.out (below_trans hB (below_trans (b := w3) Bz (by go_grown)))))).mono ?_
  rintro e w4 ⟨rfl, b4⟩
  replace b4 := below_trans (a := w3) (by go_grown) b4
  replace Bz := below_trans Bz b4
  clear b4
  go_wp2_with fail
  go_ret
  have hF := below_trans (c := w4) hB Bz
  exact ⟨rfl, below_trans hF (by go_grown)⟩
theorem Sl.el {w : World} {b off n c i : Nat} {L : List Int} {x : Int} (h : Sl ics 1 w (some ⟨b, off, none⟩) n c L) (hx : L[i]? = some x) (hi : i < n) : w.cell? ⟨b, off + i, none⟩ = some (.int .i64 x) := by
  obtain ⟨b', off', e, hel⟩ := h.at ics_len (by omega) (by omega)
  cases e
  have := hel i x hx 0 (.int .i64 x) rfl
  simpa using this
theorem pickT {w w' : World} {n : Nat} {e : Ending} (h : (∃ m : Nat, m < n ∧ e = .returned (.int .i64 (m : Int))) ∧ w = w') : ∃ p : Nat, e = .returned (.int .i64 (p : Int)) ∧ p < n ∧ Below w.heap.size w w' := by
  obtain ⟨⟨m, h1, h2⟩, rfl⟩ := h
  exact ⟨m, h2, h1, Below.refl _ _⟩
theorem pick_z {w : World} (x : Int) (n : Nat) (z : Int) (hz : (n : Int) = z) (hx : -9223372036854775808 ≤ x ∧ x ≤ 9223372036854775807) (hn : 1 ≤ n) (hn2 : n ≤ 1000000000) : Calls Tryd.prog 18 #[.int .i64 x, .int .i64 z] w fun e w' => ∃ p : Nat, e = .returned (.int .i64 (p : Int)) ∧ p < n ∧ Below w.heap.size w w' := by
  subst hz
  exact (pick_q x n w hx hn hn2).mono fun _ _ h => pickT h
set_option maxRecDepth 100000 in
set_option maxHeartbeats 4000000 in
theorem begin_ok {w : World} {inp k : Int} {lA : Option Addr} {ln lc : Nat} {L : List Ly} (h : Sl Ly.cs 13 w lA ln lc L) (hln : ln ≤ 9223372036854775807) (hin : Hid (∀ y ∈ L, LyIn w y)) (hk : -9223372036854775808 ≤ k ∧ k ≤ 9223372036854775807) {l : List Int} (HS : Hid (smallNet 20 300 20 ln L = true)) (hok : Hid (LysOk w 20 L)) (HL : Hid (listF inp L = l)) (HC : Hid (checkF inp L = 0)) (HLEN : Hid (l.length = ln + 1)) (H0L : Hid (l[0]? = some inp)) (HRG : Hid (∀ x ∈ l, 1 ≤ x ∧ x ≤ 256)) (HCT : Hid (∀ p, checkF inp (L.take p) = 0 ∧ listF inp (L.take p) = l.take (p + 1))) (hl16 : ln ≤ 16) (hlc : ln ≤ lc) (hT : Hid (Tab w)) :
    Calls Tryd.prog 4 #[.agg #[.int .i64 inp, .slice lA ln lc], .int .i64 k] w fun e w' => e = .returned (.bool true) ∧ Below w.heap.size w w' := by
  have g7 : ((ln : Int) + 1 != (ln : Int) + 1) = false := by simp
  have g8 : (inp != inp) = false := by simp
  obtain ⟨W, hW, x0, hB⟩ := boxes1 w #[.int .i64 inp, .slice lA ln lc] 30
  have HX0 := Lib.hid x0
  clear x0
  have Bz := Below.refl W.heap.size W
  have p0_0 := (HX0.out.below Bz).cell 0 (.int .i64 inp) rfl
  have p0_1 := (HX0.out.below Bz).cell 1 (.slice lA ln lc) rfl
  go_enter Tryd.func4, Tryd.ntmps4
  go_wp2_with fail
  rw [← hW]
  clear hW
  go_wp2_with fail
  with_reducible refine (smallNet_q (h.below (below_trans hB (below_trans (b := W) Bz (by go_grown)))) (Lib.hid fun y hy => (hin.out y hy).below (below_trans hB (below_trans (b := W) Bz (by go_grown)))) hln 20 300 20 (by omega) true HS).mono ?_
  rintro e w1 ⟨rfl, b1⟩
  replace b1 := below_trans (a := W) (by go_grown) b1
  replace Bz := below_trans Bz b1
  clear b1
  clear p0_0 p0_1
  have p0_0 := (HX0.out.below Bz).cell 0 (.int .i64 inp) rfl
  have p0_1 := (HX0.out.below Bz).cell 1 (.slice lA ln lc) rfl
  go_wp2_with fail
  with_reducible refine (sizes_is (h.below (below_trans hB (below_trans (b := w1) Bz (by go_grown)))) (hok.out.below (below_trans hB (below_trans (b := w1) Bz (by go_grown)))) (m := 20) (by omega) hln (Lib.hid (Tab.below hT.out (below_trans hB (below_trans (b := w1) Bz (by go_grown))))) l HL).mono ?_
  rintro e w2 ⟨A2, n2, c2, rfl, hl2, hc2, b2⟩
  obtain rfl : n2 = ln + 1 := hl2.len.symm.trans HLEN.out
  obtain ⟨ub, uo, rfl, _⟩ := hl2.at ics_len (by omega) (by omega)
  replace b2 := below_trans (a := w1) (by go_grown) b2
  replace Bz := below_trans Bz b2
  clear b2
  clear p0_0 p0_1
  have p0_0 := (HX0.out.below Bz).cell 0 (.int .i64 inp) rfl
  have p0_1 := (HX0.out.below Bz).cell 1 (.slice lA ln lc) rfl
  go_wp2_with fail
  with_reducible refine (check_is (h.below (below_trans hB (below_trans (b := w2) Bz (by go_grown)))) (hok.out.below (below_trans hB (below_trans (b := w2) Bz (by go_grown)))) (m := 20) (by omega) hln (Lib.hid (Tab.below hT.out (below_trans hB (below_trans (b := w2) Bz (by go_grown))))) 0 HC).mono ?_
  rintro e w3 ⟨rfl, b3⟩
  replace b3 := below_trans (a := w2) (by go_grown) b3
  replace hl2 := hl2.below b3
  replace Bz := below_trans Bz b3
  clear b3
  clear p0_0 p0_1
  have p0_0 := (HX0.out.below Bz).cell 0 (.int .i64 inp) rfl
  have p0_1 := (HX0.out.below Bz).cell 1 (.slice lA ln lc) rfl
  have p50_0 := (by simpa using hl2.el (i := 0) H0L.out (by omega))
  go_wp2_with fail
  have w7 : IntKind.i64.wrap ((ln : Int) + 1) = (ln : Int) + 1 := IntWalk.i64_in _ (by omega)
  (try simp only [List.append_eq, List.cons_append, List.nil_append])
  refine wp_region_plan (.pure 0 (.pure 1 (.pure 2 (.take 3 (.pure 4 (.pure 5 (.pure 6 (.pure 7 (.pure 8 (.pure 9 (.take 10 (.pure 11 (.take 12 (.pure 13 (.pure 14 .done))))))))))))))) [] (fun w' => w'.cell? ⟨w.heap.size, 0, none⟩ = some (.int .i64 inp) ∧ w'.cell? ⟨w.heap.size, 1, none⟩ = some (.slice lA ln lc) ∧ w'.cell? ⟨ub, uo, none⟩ = some (.int .i64 inp)) (by kernel_rfl) (by kernel_rfl) ⟨p0_0, p0_1, p50_0⟩ ?_
  refine wpPlan_pure (o := ⟨some 33, _, _, _, _, _⟩) (v := ?_) rfl rfl (fun w' => ?_) ?_
  rotate_left
  · go_simp <;> with_reducible rfl
  try simp only [Act.put, List.setIfInBounds_toArray, List.set_cons_zero, List.set_cons_succ]
  refine wpPlan_pure (o := ⟨some 34, _, _, _, _, _⟩) (v := ?_) rfl rfl (fun w' => ?_) ?_
  rotate_left
  · go_simp <;> with_reducible rfl
  try simp only [Act.put, List.setIfInBounds_toArray, List.set_cons_zero, List.set_cons_succ]
  refine wpPlan_pure (o := ⟨some 35, _, _, _, _, _⟩) (v := ?_) rfl rfl (fun w' => ?_) ?_
  rotate_left
  · go_simp <;> with_reducible rfl
  try simp only [Act.put, List.setIfInBounds_toArray, List.set_cons_zero, List.set_cons_succ]
  refine wpPlan_take (o := ⟨some 36, _, _, _, _, _⟩) (v := ?_) rfl rfl (fun w' hS => ?_) ?_
  rotate_left
  · obtain ⟨p0_0, p0_1, p50_0⟩ := hS; go_simp <;> with_reducible rfl
  try simp only [Act.put, List.setIfInBounds_toArray, List.set_cons_zero, List.set_cons_succ]
  refine wpPlan_pure (o := ⟨some 37, _, _, _, _, _⟩) (v := ?_) rfl rfl (fun w' => ?_) ?_
  rotate_left
  · go_simp <;> with_reducible rfl
  try simp only [Act.put, List.setIfInBounds_toArray, List.set_cons_zero, List.set_cons_succ]
  refine wpPlan_pure (o := ⟨some 38, _, _, _, _, _⟩) (v := ?_) rfl rfl (fun w' => ?_) ?_
  rotate_left
  · go_simp <;> with_reducible rfl
  try simp only [Act.put, List.setIfInBounds_toArray, List.set_cons_zero, List.set_cons_succ]
  refine wpPlan_pure (o := ⟨some 39, _, _, _, _, _⟩) (v := ?_) rfl rfl (fun w' => ?_) ?_
  rotate_left
  · go_simp <;> with_reducible rfl
  try simp only [Act.put, List.setIfInBounds_toArray, List.set_cons_zero, List.set_cons_succ]
  refine wpPlan_pure (o := ⟨some 40, _, _, _, _, _⟩) (v := ?_) rfl rfl (fun w' => ?_) ?_
  rotate_left
  · go_simp <;> with_reducible rfl
  try simp only [Act.put, List.setIfInBounds_toArray, List.set_cons_zero, List.set_cons_succ]
  refine wpPlan_pure (o := ⟨some 41, _, _, _, _, _⟩) (v := ?_) rfl rfl (fun w' => ?_) ?_
  rotate_left
  · go_simp <;> with_reducible rfl
  try simp only [Act.put, List.setIfInBounds_toArray, List.set_cons_zero, List.set_cons_succ]
  refine wpPlan_pure (o := ⟨some 42, _, _, _, _, _⟩) (v := ?_) rfl rfl (fun w' => ?_) ?_
  rotate_left
  · go_simp <;> with_reducible rfl
  try simp only [Act.put, List.setIfInBounds_toArray, List.set_cons_zero, List.set_cons_succ]
  refine wpPlan_take (o := ⟨some 43, _, _, _, _, _⟩) (v := ?_) rfl rfl (fun w' hS => ?_) ?_
  rotate_left
  · obtain ⟨p0_0, p0_1, p50_0⟩ := hS; go_simp <;> with_reducible rfl
  try simp only [Act.put, List.setIfInBounds_toArray, List.set_cons_zero, List.set_cons_succ]
  refine wpPlan_pure (o := ⟨some 44, _, _, _, _, _⟩) (v := ?_) rfl rfl (fun w' => ?_) ?_
  rotate_left
  · go_simp <;> with_reducible rfl
  try simp only [Act.put, List.setIfInBounds_toArray, List.set_cons_zero, List.set_cons_succ]
  refine wpPlan_take (o := ⟨some 45, _, _, _, _, _⟩) (v := ?_) rfl rfl (fun w' hS => ?_) ?_
  rotate_left
  · obtain ⟨p0_0, p0_1, p50_0⟩ := hS; go_simp <;> with_reducible rfl
  try simp only [Act.put, List.setIfInBounds_toArray, List.set_cons_zero, List.set_cons_succ]
  refine wpPlan_pure (o := ⟨some 46, _, _, _, _, _⟩) (v := ?_) rfl rfl (fun w' => ?_) ?_
  rotate_left
  · go_simp <;> with_reducible rfl
  try simp only [Act.put, List.setIfInBounds_toArray, List.set_cons_zero, List.set_cons_succ]
  refine wpPlan_pure (o := ⟨some 47, _, _, _, _, _⟩) (v := ?_) rfl rfl (fun w' => ?_) ?_
  rotate_left
  · go_simp <;> with_reducible rfl
  try simp only [Act.put, List.setIfInBounds_toArray, List.set_cons_zero, List.set_cons_succ]
  refine wpPlan_done ?_
  clear w7
  go_wp2_with fail
  have hW : Below w.heap.size w w3 := below_trans hB Bz
  have HB1 := Lib.hid hW
  have XX0 := Lib.hid (HX0.out.below Bz)
  have hSL := hl2
  clear hB Bz HX0 hW
  go_loopg [7] (ln + 1) (fun gk s wr => SB1 w #[.int .i64 inp, .slice lA ln lc] (ln + 1) gk s wr ∧ Below w3.heap.size w3 wr)
  case atStart => exact ⟨⟨0, Nat.zero_le _, rfl, rfl, Below.drew HB1.out, XX0.out.drew⟩, Below.drew (Below.refl _ _)⟩
  case round =>
    clear HB1 XX0
    obtain ⟨⟨i, hi, hgk, rfl, hB, hx0⟩, hBW⟩ := hrel
    have HGK := Lib.hid hgk
    have HX0 := Lib.hid hx0
    clear hgk hx0
    by_cases hlt : i < ln + 1
    · obtain ⟨x, hx⟩ : ∃ x, l[i]? = some x := ⟨l[i]'(by rw [HLEN.out]; exact hlt), List.getElem?_eq_getElem _⟩
      have hxr := HRG.out x (List.mem_of_getElem? hx)
      have HXI := Lib.hid hx
      have i1 : (i : Int) < (ln : Int) + 1 := by omega
      have i2 : (0 : Int) ≤ (i : Int) := by omega
      have i3 : decide (x < 1) = false := decide_eq_false (by omega)
      have i4 : ¬ x < 1 := by omega
      have i5 : ¬ 256 < x := by omega
      clear hx
      have Bz := Below.refl wr.heap.size wr
      have p50_0 := ((hSL.below (below_trans hBW Bz)).el HXI.out (by omega))
      go_wp2_with fail
      go_roundg (ln + 1 - (i + 1))
      case measure => have := HGK.out; omega
      case rel => exact ⟨⟨i + 1, by omega, rfl, by go_num, below_trans (below_trans hB Bz) (by go_grown), HX0.out.below (below_trans Bz (by go_grown))⟩, below_trans (below_trans hBW Bz) (by go_grown)⟩
    · obtain rfl : i = ln + 1 := by omega
      have i1 : ¬ (ln : Int) + 1 < (ln : Int) + 1 := by omega
      have Bz := Below.refl wr.heap.size wr
      have hSLr := hSL.below hBW
      go_wp2_with fail
      with_reducible refine (pick_z k (ln + 1) ((ln : Int) + 1) rfl hk (by omega) (by omega)).mono ?_
      rintro e w1 ⟨p, rfl, hp, b1⟩
      have HC2 := Lib.hid (HCT.out p).1
      have HL2 := Lib.hid (HCT.out p).2
      replace b1 := below_trans (a := wr) (by go_grown) b1
      replace hSLr := hSLr.below b1
      replace Bz := below_trans Bz b1
      clear b1
      have p0_0 := (HX0.out.below Bz).cell 0 (.int .i64 inp) rfl
      have p0_1 := (HX0.out.below Bz).cell 1 (.slice lA ln lc) rfl
      go_wp2_with fail
      have w8 : IntKind.i64.wrap ((p : Int) + 1) = (p : Int) + 1 := IntWalk.i64_in _ (by omega)
      have w9 : (0 : Int) ≤ (p : Int) := by omega
      have w10 : (p : Int) ≤ (lc : Int) := by omega
      have w11 : (p : Int) + 1 ≤ (c2 : Int) := by omega
      have w12 : (0 : Int) ≤ (p : Int) + 1 := by omega
      have w13 : ((p : Int) + 1).toNat = p + 1 := by omega
      (try simp only [List.append_eq, List.cons_append, List.nil_append])
      refine wp_region_plan (.pure 0 (.take 1 (.pure 2 (.take 3 (.pure 4 (.pure 5 (.pure 6 (.only 7 (.only 8 .done))))))))) [8] (fun w' => w'.cell? ⟨w.heap.size, 0, none⟩ = some (.int .i64 inp) ∧ w'.cell? ⟨w.heap.size, 1, none⟩ = some (.slice lA ln lc)) (by kernel_rfl) (by kernel_rfl) ⟨p0_0, p0_1⟩ ?_
      refine wpPlan_pure (o := ⟨some 70, _, _, _, _, _⟩) (v := ?_) rfl rfl (fun w' => ?_) ?_
      rotate_left
      · go_simp <;> with_reducible rfl
      try simp only [Act.put, List.setIfInBounds_toArray, List.set_cons_zero, List.set_cons_succ]
      refine wpPlan_take (o := ⟨some 71, _, _, _, _, _⟩) (v := ?_) rfl rfl (fun w' hS => ?_) ?_
      rotate_left
      · obtain ⟨p0_0, p0_1⟩ := hS; go_simp <;> with_reducible rfl
      try simp only [Act.put, List.setIfInBounds_toArray, List.set_cons_zero, List.set_cons_succ]
      refine wpPlan_pure (o := ⟨some 72, _, _, _, _, _⟩) (v := ?_) rfl rfl (fun w' => ?_) ?_
      rotate_left
      · go_simp <;> with_reducible rfl
      try simp only [Act.put, List.setIfInBounds_toArray, List.set_cons_zero, List.set_cons_succ]
      refine wpPlan_take (o := ⟨some 73, _, _, _, _, _⟩) (v := ?_) rfl rfl (fun w' hS => ?_) ?_
      rotate_left
      · obtain ⟨p0_0, p0_1⟩ := hS; go_simp <;> with_reducible rfl
      try simp only [Act.put, List.setIfInBounds_toArray, List.set_cons_zero, List.set_cons_succ]
      refine wpPlan_pure (o := ⟨some 74, _, _, _, _, _⟩) (v := ?_) rfl rfl (fun w' => ?_) ?_
      rotate_left
      · go_simp <;> with_reducible rfl
      try simp only [Act.put, List.setIfInBounds_toArray, List.set_cons_zero, List.set_cons_succ]
      refine wpPlan_pure (o := ⟨some 75, _, _, _, _, _⟩) (v := ?_) rfl rfl (fun w' => ?_) ?_
      rotate_left
      · go_simp <;> with_reducible rfl
      try simp only [Act.put, List.setIfInBounds_toArray, List.set_cons_zero, List.set_cons_succ]
      refine wpPlan_pure (o := ⟨some 76, _, _, _, _, _⟩) (v := ?_) rfl rfl (fun w' => ?_) ?_
      rotate_left
      · go_simp <;> with_reducible rfl
      try simp only [Act.put, List.setIfInBounds_toArray, List.set_cons_zero, List.set_cons_succ]
      refine wpPlan_call (o := ⟨some 8, _, _, _, _, _⟩) rfl rfl (fun K hK => ?_)
      go_simp
      refine hK.out _ _ ⟨(cell_al p0_0), (cell_al p0_1)⟩ (fun _ => ?_)
      try simp only [Act.put, List.setIfInBounds_toArray, List.set_cons_zero, List.set_cons_succ]
      clear hK K
      refine wpPlan_late (o := ⟨none, _, _, _, _, _⟩) rfl rfl (by decide) (fun K hK => ?_)
      go_simp
      refine hK.out _ _ ?_
      try simp only [Act.put, List.setIfInBounds_toArray, List.set_cons_zero, List.set_cons_succ]
      clear hK K
      refine wpPlan_done ?_
      clear w8 w9 w10 w11 w12 w13
      obtain ⟨V1, hW, x1, hN⟩ := boxes1 w1 #[.int .i64 inp, .slice lA (p) lc] 30
      rw [← hW]
      clear hW
      obtain ⟨v1, hb1⟩ : ∃ b, b = w1.heap.size := ⟨_, rfl⟩
      rw [← hb1] at x1 ⊢
      have o0_1 : w.heap.size < v1 := by have := (HX0.out.below Bz).lt; omega
      have ow_1 : w.heap.size ≤ v1 := by have := hB.size; have := Bz.size; omega
      replace hSLr := hSLr.below hN
      replace hB := below_trans (below_trans hB Bz) hN
      replace HX0 := Lib.hid ((HX0.out.below Bz).below hN)
      have HX1 := Lib.hid x1
      clear x1 hN Bz hb1
      have Bz := Below.refl V1.heap.size V1
      clear p0_0 p0_1
      have p1_0 := (HX1.out.below Bz).cell 0 (.int .i64 inp) rfl
      have p1_1 := (HX1.out.below Bz).cell 1 (.slice lA (p) lc) rfl
      go_wp2_with fail
      have w8 : IntKind.i64.wrap ((p : Int) + 1) = (p : Int) + 1 := IntWalk.i64_in _ (by omega)
      have w9 : (0 : Int) ≤ (p : Int) := by omega
      have w10 : (p : Int) ≤ (lc : Int) := by omega
      have w11 : (p : Int) + 1 ≤ (c2 : Int) := by omega
      have w12 : (0 : Int) ≤ (p : Int) + 1 := by omega
      have w13 : ((p : Int) + 1).toNat = p + 1 := by omega
      (try simp only [List.append_eq, List.cons_append, List.nil_append])
      refine wp_region_plan (.take 0 (.only 1 (.pure 2 (.pure 3 (.take 4 (.pure 6 (.pure 7 (.pure 8 (.pure 9 (.only 5 (.only 10 (.pure 11 (.pure 12 (.only 13 (.pure 14 (.pure 15 .done)))))))))))))))) [] (fun w' => w'.cell? ⟨v1, 0, none⟩ = some (.int .i64 inp) ∧ w'.cell? ⟨v1, 1, none⟩ = some (.slice lA (p) lc)) (by kernel_rfl) (by kernel_rfl) ⟨p1_0, p1_1⟩ ?_
      refine wpPlan_take (o := ⟨some 77, _, _, _, _, _⟩) (v := ?_) rfl rfl (fun w' hS => ?_) ?_
      rotate_left
      · obtain ⟨p1_0, p1_1⟩ := hS; go_simp <;> with_reducible rfl
      try simp only [Act.put, List.setIfInBounds_toArray, List.set_cons_zero, List.set_cons_succ]
      refine wpPlan_call (o := ⟨some 78, _, _, _, _, _⟩) rfl rfl (fun K hK => ?_)
      go_simp
      with_reducible refine (check_is ((h.take Ly.cs_len (q := p) (by omega)).below (below_trans hB (below_trans (b := V1) Bz (by go_grown)))) ((hok.out.take p).below (below_trans hB (below_trans (b := V1) Bz (by go_grown)))) (m := 20) (by omega) (by omega) (Lib.hid (Tab.below hT.out (below_trans hB (below_trans (b := V1) Bz (by go_grown))))) 0 HC2).mono ?_
      rintro e w2 ⟨rfl, b2⟩
      replace b2 := below_trans (a := V1) (by go_grown) b2
      replace hSLr := hSLr.below b2
      replace Bz := below_trans Bz b2
      clear b2
      clear p1_0 p1_1
      have p1_0 := (HX1.out.below Bz).cell 0 (.int .i64 inp) rfl
      have p1_1 := (HX1.out.below Bz).cell 1 (.slice lA (p) lc) rfl
      refine hK.out _ _ ⟨p1_0, p1_1⟩ (fun _ => ?_)
      try simp only [Act.put, List.setIfInBounds_toArray, List.set_cons_zero, List.set_cons_succ]
      clear hK K
      refine wpPlan_pure (o := ⟨some 79, _, _, _, _, _⟩) (v := ?_) rfl rfl (fun w' => ?_) ?_
      rotate_left
      · go_simp <;> with_reducible rfl
      try simp only [Act.put, List.setIfInBounds_toArray, List.set_cons_zero, List.set_cons_succ]
      refine wpPlan_pure (o := ⟨some 80, _, _, _, _, _⟩) (v := ?_) rfl rfl (fun w' => ?_) ?_
      rotate_left
      · go_simp <;> with_reducible rfl
      try simp only [Act.put, List.setIfInBounds_toArray, List.set_cons_zero, List.set_cons_succ]
      refine wpPlan_take (o := ⟨some 81, _, _, _, _, _⟩) (v := ?_) rfl rfl (fun w' hS => ?_) ?_
      rotate_left
      · obtain ⟨p1_0, p1_1⟩ := hS; go_simp <;> with_reducible rfl
      try simp only [Act.put, List.setIfInBounds_toArray, List.set_cons_zero, List.set_cons_succ]
      refine wpPlan_pure (o := ⟨some 83, _, _, _, _, _⟩) (v := ?_) rfl rfl (fun w' => ?_) ?_
      rotate_left
      · go_simp <;> with_reducible rfl
      try simp only [Act.put, List.setIfInBounds_toArray, List.set_cons_zero, List.set_cons_succ]
      refine wpPlan_pure (o := ⟨some 84, _, _, _, _, _⟩) (v := ?_) rfl rfl (fun w' => ?_) ?_
      rotate_left
      · go_simp <;> with_reducible rfl
      try simp only [Act.put, List.setIfInBounds_toArray, List.set_cons_zero, List.set_cons_succ]
      refine wpPlan_pure (o := ⟨some 85, _, _, _, _, _⟩) (v := ?_) rfl rfl (fun w' => ?_) ?_
      rotate_left
      · go_simp <;> with_reducible rfl
      try simp only [Act.put, List.setIfInBounds_toArray, List.set_cons_zero, List.set_cons_succ]
      refine wpPlan_pure (o := ⟨some 86, _, _, _, _, _⟩) (v := ?_) rfl rfl (fun w' => ?_) ?_
      rotate_left
      · go_simp <;> with_reducible rfl
      try simp only [Act.put, List.setIfInBounds_toArray, List.set_cons_zero, List.set_cons_succ]
      refine wpPlan_call (o := ⟨some 82, _, _, _, _, _⟩) rfl rfl (fun K hK => ?_)
      go_simp
      with_reducible refine (sizes_is ((h.take Ly.cs_len (q := p) (by omega)).below (below_trans hB (below_trans (b := w2) Bz (by go_grown)))) ((hok.out.take p).below (below_trans hB (below_trans (b := w2) Bz (by go_grown)))) (m := 20) (by omega) (by omega) (Lib.hid (Tab.below hT.out (below_trans hB (below_trans (b := w2) Bz (by go_grown))))) (l.take (p + 1)) HL2).mono ?_
      rintro e w3 ⟨A3, n3, c3, rfl, hl3, hc3, b3⟩
      replace b3 := below_trans (a := w2) (by go_grown) b3
      replace hSLr := hSLr.below b3
      replace Bz := below_trans Bz b3
      clear b3
      clear p1_0 p1_1
      have p1_0 := (HX1.out.below Bz).cell 0 (.int .i64 inp) rfl
      have p1_1 := (HX1.out.below Bz).cell 1 (.slice lA (p) lc) rfl
      refine hK.out _ _ ⟨p1_0, p1_1⟩ (fun _ => ?_)
      try simp only [Act.put, List.setIfInBounds_toArray, List.set_cons_zero, List.set_cons_succ]
      clear hK K
      refine wpPlan_call (o := ⟨some 87, _, _, _, _, _⟩) rfl rfl (fun K hK => ?_)
      go_simp
      with_reducible refine (sameInts_q (Sl.below hl3 (by go_grown)) (Sl.take (Sl.below hSLr (by go_grown)) ics_len (q := p + 1) (by omega)) (by have := hl3.len; simp at this; omega) (by omega) true (Lib.hid (decide_eq_true rfl))).mono ?_
      rintro e w4 ⟨rfl, b4⟩
      replace b4 := below_trans (a := w3) (by go_grown) b4
      replace Bz := below_trans Bz b4
      clear b4
      clear p1_0 p1_1
      have p1_0 := (HX1.out.below Bz).cell 0 (.int .i64 inp) rfl
      have p1_1 := (HX1.out.below Bz).cell 1 (.slice lA (p) lc) rfl
      refine hK.out _ _ ⟨p1_0, p1_1⟩ (fun _ => ?_)
      try simp only [Act.put, List.setIfInBounds_toArray, List.set_cons_zero, List.set_cons_succ]
      clear hK K
      refine wpPlan_pure (o := ⟨some 88, _, _, _, _, _⟩) (v := ?_) rfl rfl (fun w' => ?_) ?_
      rotate_left
      · go_simp <;> with_reducible rfl
      try simp only [Act.put, List.setIfInBounds_toArray, List.set_cons_zero, List.set_cons_succ]
      refine wpPlan_pure (o := ⟨some 89, _, _, _, _, _⟩) (v := ?_) rfl rfl (fun w' => ?_) ?_
      rotate_left
      · go_simp <;> with_reducible rfl
      try simp only [Act.put, List.setIfInBounds_toArray, List.set_cons_zero, List.set_cons_succ]
      refine wpPlan_call (o := ⟨some 90, _, _, _, _, _⟩) rfl rfl (fun K hK => ?_)
      go_simp
      with_reducible refine (awake10_q (Lib.hid (Tab.below hT.out (below_trans hB (below_trans (b := w4) Bz (by go_grown)))))).mono ?_
      rintro e w5 ⟨rfl, b5⟩
      replace b5 := below_trans (a := w4) (by go_grown) b5
      replace Bz := below_trans Bz b5
      clear b5
      clear p1_0 p1_1
      have p1_0 := (HX1.out.below Bz).cell 0 (.int .i64 inp) rfl
      have p1_1 := (HX1.out.below Bz).cell 1 (.slice lA (p) lc) rfl
      refine hK.out _ _ ⟨p1_0, p1_1⟩ (fun _ => ?_)
      try simp only [Act.put, List.setIfInBounds_toArray, List.set_cons_zero, List.set_cons_succ]
      clear hK K
      refine wpPlan_pure (o := ⟨some 91, _, _, _, _, _⟩) (v := ?_) rfl rfl (fun w' => ?_) ?_
      rotate_left
      · go_simp <;> with_reducible rfl
      try simp only [Act.put, List.setIfInBounds_toArray, List.set_cons_zero, List.set_cons_succ]
      refine wpPlan_pure (o := ⟨some 4, _, _, _, _, _⟩) (v := ?_) rfl rfl (fun w' => ?_) ?_
      rotate_left
      · go_simp <;> with_reducible rfl
      try simp only [Act.put, List.setIfInBounds_toArray, List.set_cons_zero, List.set_cons_succ]
      refine wpPlan_done ?_
      clear w8 w9 w10 w11 w12 w13
      go_wp2_with fail
      go_ret
      have hF := below_trans (c := w5) hB Bz
      exact ⟨rfl, below_trans hF (by go_grown)⟩
theorem begin_q {w : World} {inp k : Int} {lA : Option Addr} {ln lc : Nat} {L : List Ly} (h : Sl Ly.cs 13 w lA ln lc L) (hln : ln ≤ 9223372036854775807) (hin : Hid (∀ y ∈ L, LyIn w y)) (hk : -9223372036854775808 ≤ k ∧ k ≤ 9223372036854775807) (hlc : ln ≤ lc) (hT : Hid (Tab w)) :
    Calls Tryd.prog 4 #[.agg #[.int .i64 inp, .slice lA ln lc], .int .i64 k] w fun e w' => e = .returned (.bool true) ∧ Below w.heap.size w w' := by
  cases hs : smallNet 20 300 20 ln L
  · exact begin_small h hln hin hk (Lib.hid hs) hT
  · have ok := small_ok (m := 20) hin.out hs (by omega) (by omega)
    have hok : Hid (LysOk w 20 L) := Lib.hid ok.2
    cases hz : sizesF inp L with
    | error z =>
      have HL : Hid (listF inp L = []) := Lib.hid (by unfold listF; rw [hz])
      rcases sizes_err hz with rfl | rfl
      · exact begin_err22 h hln hin hk (Lib.hid hs) hok HL (Lib.hid (check_of hz)) hT
      · exact begin_err25 h hln hin hk (Lib.hid hs) hok HL (Lib.hid (check_of hz)) hT
    | ok l =>
      have hst := sizes_steps hz
      have hso := steps_ok hst.2.2.2
      exact begin_ok h hln hin hk (Lib.hid hs) hok (Lib.hid (list_of hz)) (Lib.hid (check_of hz)) (Lib.hid (by rw [hso.1, h.1])) (Lib.hid hso.2) (Lib.hid (steps_rng ok.2 hst.1 (by omega) hst.2.2.2)) (Lib.hid fun p => ⟨check_of (sizes_take p hz), list_of (sizes_take p hz)⟩) (by have := h.1; omega) hlc hT
end Go.Proofs.YtionhpangenhnaaDoor
