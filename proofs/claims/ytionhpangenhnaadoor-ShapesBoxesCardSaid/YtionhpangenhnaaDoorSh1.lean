/-
  Digits compared; is a fraction in its one form? Written by wip/gen/sh1.py.
-/
import Derived.Test.YtionhpangenhnaaDoorZRat
import Derived.Deep.LoopGhost
namespace Go.Proofs.YtionhpangenhnaaDoor
open Go.RowKit Tw

theorem Nums.inj {w : World} {A : Option Addr} {c c' : Nat} {xs ys : List Nat} (h : Nums w A c xs) (h' : Nums w A c' ys) (hl : xs.length = ys.length) : xs = ys := by
  apply List.ext_getElem? 
  intro i
  rcases Nat.lt_or_ge i xs.length with hi | hi
  · rw [dg_get hi, dg_get (by omega)]
    obtain ⟨b, off, rfl, hc⟩ := h.cells (by omega)
    obtain ⟨b', off', e, hc'⟩ := h'.cells (by omega)
    cases e
    have h1 := hc i hi
    rw [hc' i (by omega)] at h1
    simp only [Option.some.injEq, Value.int.injEq, true_and] at h1
    congr 1
    omega
  · rw [List.getElem?_eq_none hi, List.getElem?_eq_none (by omega)]
theorem dg_ext {xs ys : List Nat} (hl : xs.length = ys.length) (h : ∀ j, j < xs.length → dg xs j = dg ys j) : xs = ys := by
  apply List.ext_getElem?
  intro i
  rcases Nat.lt_or_ge i xs.length with hi | hi
  · rw [dg_get hi, dg_get (by omega), h i hi]
  · rw [List.getElem?_eq_none hi, List.getElem?_eq_none (by omega)]
/-- A state of the loop of Equal. -/
def EQ1 (w : World) (xs ys : List Nat) (n gk : Nat) (s : Value) (wr : World) : Prop := ∃ i : Nat, i ≤ n ∧ n - i = gk ∧ s = .int .i64 (i : Int) ∧ Below w.heap.size w wr ∧ ∀ j, j < i → dg xs j = dg ys j
set_option maxRecDepth 100000 in
set_option maxHeartbeats 4000000 in
theorem equal_any {w : World} {A A' : Option Addr} {c c' : Nat} {xs ys : List Nat} (h : Nums w A c xs) (h' : Nums w A' c' ys) (hl : xs.length ≤ 800000) (hl' : ys.length ≤ 800000) (t : Bool) (ht : decide (xs = ys) = t) :
    Calls Tryd.prog 80 #[.slice A xs.length c, .slice A' ys.length c'] w fun e w' => e = .returned (.bool t) ∧ Below w.heap.size w w' := by
  by_cases hn : xs.length = ys.length
  · obtain ⟨n, hn1⟩ : ∃ n, n = xs.length := ⟨_, rfl⟩
    rw [← hn, ← hn1]
    rw [← hn1] at hl
    have H := Lib.hid h
    have H' := Lib.hid h'
    have HN := Lib.hid hn
    have HN1 := Lib.hid hn1
    have HT := Lib.hid ht
    have hst : EQ1 w xs ys n n (.int .i64 ((0 : Nat) : Int)) w := ⟨0, Nat.zero_le _, rfl, rfl, Below.refl _ _, fun j hj => by omega⟩
    have HST := Lib.hid hst
    clear h h' hn hn1 ht hst hl'
    go_enter Tryd.func80, Tryd.ntmps80
    go_wp2_with fail
    go_loopg [13] n (fun gk s wr => EQ1 w xs ys n gk s wr)
    case atStart => exact HST.out
    case round =>
      clear HST
      obtain ⟨i, hi, hgk, rfl, hB, hd⟩ := hrel
      have HGK := Lib.hid hgk
      have HD := Lib.hid hd
      clear hgk hd
      by_cases hlt : i < n
      · obtain ⟨b1, o1, rfl, e1⟩ := H.out.cells (by rw [← HN1.out]; omega)
        obtain ⟨b2, o2, rfl, e2⟩ := H'.out.cells (by rw [← HN.out, ← HN1.out]; omega)
        replace e1 := e1 i (by rw [← HN1.out]; exact hlt)
        replace e2 := e2 i (by rw [← HN.out, ← HN1.out]; exact hlt)
        obtain ⟨d1, h1⟩ : ∃ d, d = dg xs i := ⟨_, rfl⟩
        obtain ⟨d2, h2⟩ : ∃ d, d = dg ys i := ⟨_, rfl⟩
        rw [← h1] at e1
        rw [← h2] at e2
        have D1 := Lib.hid h1
        have D2 := Lib.hid h2
        replace e1 := (hB.cell (World.block_lt_of_cell? w _ e1)).trans e1
        replace e2 := (hB.cell (World.block_lt_of_cell? w _ e2)).trans e2
        have i1 : (i : Int) < (n : Int) := by omega
        have i2 : (0 : Int) ≤ (i : Int) := by omega
        clear h1 h2
        by_cases he : d1 = d2
        · have g1 : ((d1 : Int) != (d2 : Int)) = false := by simp [he]
          have HE := Lib.hid he
          clear he
          have Bz := Below.refl wr.heap.size wr
          have p51_0 := (Bz.cell (World.block_lt_of_cell? wr _ e1)).trans e1
          have p52_0 := (Bz.cell (World.block_lt_of_cell? wr _ e2)).trans e2
          go_wp2_with fail
          (try simp only [List.append_eq, List.cons_append, List.nil_append])
          refine wp_region_plan (.pure 0 (.pure 1 (.pure 2 (.take 3 (.pure 4 (.pure 5 (.pure 6 (.take 7 (.pure 8 .done))))))))) [] (fun w' => w'.cell? ⟨b1, o1 + i, none⟩ = some (.int .u64 (d1 : Int)) ∧ w'.cell? ⟨b2, o2 + i, none⟩ = some (.int .u64 (d2 : Int))) (by kernel_rfl) (by kernel_rfl) ⟨p51_0, p52_0⟩ ?_
          refine wpPlan_pure (o := ⟨some 16, _, _, _, _, _⟩) (v := ?_) rfl rfl (fun w' => ?_) ?_
          rotate_left
          · go_simp <;> with_reducible rfl
          try simp only [Act.put, List.setIfInBounds_toArray, List.set_cons_zero, List.set_cons_succ]
          refine wpPlan_pure (o := ⟨some 17, _, _, _, _, _⟩) (v := ?_) rfl rfl (fun w' => ?_) ?_
          rotate_left
          · go_simp <;> with_reducible rfl
          try simp only [Act.put, List.setIfInBounds_toArray, List.set_cons_zero, List.set_cons_succ]
          refine wpPlan_pure (o := ⟨some 18, _, _, _, _, _⟩) (v := ?_) rfl rfl (fun w' => ?_) ?_
          rotate_left
          · go_simp <;> with_reducible rfl
          try simp only [Act.put, List.setIfInBounds_toArray, List.set_cons_zero, List.set_cons_succ]
          refine wpPlan_take (o := ⟨some 19, _, _, _, _, _⟩) (v := ?_) rfl rfl (fun w' hS => ?_) ?_
          rotate_left
          · obtain ⟨p51_0, p52_0⟩ := hS; go_simp <;> with_reducible rfl
          try simp only [Act.put, List.setIfInBounds_toArray, List.set_cons_zero, List.set_cons_succ]
          refine wpPlan_pure (o := ⟨some 20, _, _, _, _, _⟩) (v := ?_) rfl rfl (fun w' => ?_) ?_
          rotate_left
          · go_simp <;> with_reducible rfl
          try simp only [Act.put, List.setIfInBounds_toArray, List.set_cons_zero, List.set_cons_succ]
          refine wpPlan_pure (o := ⟨some 21, _, _, _, _, _⟩) (v := ?_) rfl rfl (fun w' => ?_) ?_
          rotate_left
          · go_simp <;> with_reducible rfl
          try simp only [Act.put, List.setIfInBounds_toArray, List.set_cons_zero, List.set_cons_succ]
          refine wpPlan_pure (o := ⟨some 22, _, _, _, _, _⟩) (v := ?_) rfl rfl (fun w' => ?_) ?_
          rotate_left
          · go_simp <;> with_reducible rfl
          try simp only [Act.put, List.setIfInBounds_toArray, List.set_cons_zero, List.set_cons_succ]
          refine wpPlan_take (o := ⟨some 23, _, _, _, _, _⟩) (v := ?_) rfl rfl (fun w' hS => ?_) ?_
          rotate_left
          · obtain ⟨p51_0, p52_0⟩ := hS; go_simp <;> with_reducible rfl
          try simp only [Act.put, List.setIfInBounds_toArray, List.set_cons_zero, List.set_cons_succ]
          refine wpPlan_pure (o := ⟨some 24, _, _, _, _, _⟩) (v := ?_) rfl rfl (fun w' => ?_) ?_
          rotate_left
          · go_simp <;> with_reducible rfl
          try simp only [Act.put, List.setIfInBounds_toArray, List.set_cons_zero, List.set_cons_succ]
          refine wpPlan_done ?_
          go_wp2_with fail
          go_roundg (n - (i + 1))
          case measure => have := HGK.out; omega
          case rel => exact ⟨i + 1, by omega, rfl, by go_num, below_trans (below_trans hB Bz) (by go_grown), fun j hj => by
            rcases Nat.lt_or_ge j i with h1 | h1
            · exact HD.out j h1
            · obtain rfl : j = i := by omega
              rw [← D1.out, ← D2.out]; exact HE.out⟩
        · have g1 : ((d1 : Int) != (d2 : Int)) = true := by simp; omega
          have HE := Lib.hid he
          clear he
          have Bz := Below.refl wr.heap.size wr
          have p51_0 := (Bz.cell (World.block_lt_of_cell? wr _ e1)).trans e1
          have p52_0 := (Bz.cell (World.block_lt_of_cell? wr _ e2)).trans e2
          go_wp2_with fail
          (try simp only [List.append_eq, List.cons_append, List.nil_append])
          refine wp_region_plan (.pure 0 (.pure 1 (.pure 2 (.take 3 (.pure 4 (.pure 5 (.pure 6 (.take 7 (.pure 8 .done))))))))) [] (fun w' => w'.cell? ⟨b1, o1 + i, none⟩ = some (.int .u64 (d1 : Int)) ∧ w'.cell? ⟨b2, o2 + i, none⟩ = some (.int .u64 (d2 : Int))) (by kernel_rfl) (by kernel_rfl) ⟨p51_0, p52_0⟩ ?_
          refine wpPlan_pure (o := ⟨some 16, _, _, _, _, _⟩) (v := ?_) rfl rfl (fun w' => ?_) ?_
          rotate_left
          · go_simp <;> with_reducible rfl
          try simp only [Act.put, List.setIfInBounds_toArray, List.set_cons_zero, List.set_cons_succ]
          refine wpPlan_pure (o := ⟨some 17, _, _, _, _, _⟩) (v := ?_) rfl rfl (fun w' => ?_) ?_
          rotate_left
          · go_simp <;> with_reducible rfl
          try simp only [Act.put, List.setIfInBounds_toArray, List.set_cons_zero, List.set_cons_succ]
          refine wpPlan_pure (o := ⟨some 18, _, _, _, _, _⟩) (v := ?_) rfl rfl (fun w' => ?_) ?_
          rotate_left
          · go_simp <;> with_reducible rfl
          try simp only [Act.put, List.setIfInBounds_toArray, List.set_cons_zero, List.set_cons_succ]
          refine wpPlan_take (o := ⟨some 19, _, _, _, _, _⟩) (v := ?_) rfl rfl (fun w' hS => ?_) ?_
          rotate_left
          · obtain ⟨p51_0, p52_0⟩ := hS; go_simp <;> with_reducible rfl
          try simp only [Act.put, List.setIfInBounds_toArray, List.set_cons_zero, List.set_cons_succ]
          refine wpPlan_pure (o := ⟨some 20, _, _, _, _, _⟩) (v := ?_) rfl rfl (fun w' => ?_) ?_
          rotate_left
          · go_simp <;> with_reducible rfl
          try simp only [Act.put, List.setIfInBounds_toArray, List.set_cons_zero, List.set_cons_succ]
          refine wpPlan_pure (o := ⟨some 21, _, _, _, _, _⟩) (v := ?_) rfl rfl (fun w' => ?_) ?_
          rotate_left
          · go_simp <;> with_reducible rfl
          try simp only [Act.put, List.setIfInBounds_toArray, List.set_cons_zero, List.set_cons_succ]
          refine wpPlan_pure (o := ⟨some 22, _, _, _, _, _⟩) (v := ?_) rfl rfl (fun w' => ?_) ?_
          rotate_left
          · go_simp <;> with_reducible rfl
          try simp only [Act.put, List.setIfInBounds_toArray, List.set_cons_zero, List.set_cons_succ]
          refine wpPlan_take (o := ⟨some 23, _, _, _, _, _⟩) (v := ?_) rfl rfl (fun w' hS => ?_) ?_
          rotate_left
          · obtain ⟨p51_0, p52_0⟩ := hS; go_simp <;> with_reducible rfl
          try simp only [Act.put, List.setIfInBounds_toArray, List.set_cons_zero, List.set_cons_succ]
          refine wpPlan_pure (o := ⟨some 24, _, _, _, _, _⟩) (v := ?_) rfl rfl (fun w' => ?_) ?_
          rotate_left
          · go_simp <;> with_reducible rfl
          try simp only [Act.put, List.setIfInBounds_toArray, List.set_cons_zero, List.set_cons_succ]
          refine wpPlan_done ?_
          go_wp2_with fail
          go_ret
          have hF := below_trans (c := wr) hB Bz
          obtain rfl : t = false := by rw [← HT.out]; simp; intro e; apply HE.out; rw [D1.out, D2.out, e]
          exact ⟨rfl, below_trans (below_trans hB Bz) (by go_grown)⟩
      · obtain rfl : i = n := by omega
        have i1 : ¬ (i : Int) < (i : Int) := by omega
        obtain rfl : t = true := by rw [← HT.out]; simp; exact dg_ext HN.out (by rw [← HN1.out]; exact HD.out)
        go_wp2_with fail
        go_ret
        exact ⟨rfl, hB⟩
  · obtain rfl : t = false := by rw [← ht]; simp; rintro rfl; exact hn rfl
    have g1 : ((xs.length : Int) != (ys.length : Int)) = true := by simp; omega
    clear ht h h' hn
    go_enter Tryd.func80, Tryd.ntmps80
    go_wp2_with fail
    go_ret
    exact ⟨rfl, Below.refl _ _⟩
/-- Digits that read as xs. -/
def Dx (w : World) (A : Option Addr) (c l : Nat) (xs : List Nat) : Prop := Nums w A c xs ∧ xs.length = l
theorem Dx.below {w w' : World} {A : Option Addr} {c l : Nat} {xs : List Nat} (h : Dx w A c l xs) (hb : Below w.heap.size w w') : Dx w' A c l xs := ⟨h.1.below hb, h.2⟩
theorem Dx.k {w w' : World} {A : Option Addr} {c l : Nat} {xs : List Nat} (h : Dx w A c l xs) (hb : K64 w w') : Dx w' A c l xs := ⟨h.1.k hb, h.2⟩
theorem Dx.inj {w : World} {A : Option Addr} {c c' l : Nat} {xs ys : List Nat} (h : Dx w A c l xs) (h' : Dx w A c' l ys) : xs = ys := h.1.inj h'.1 (h.2.trans h'.2.symm)
theorem J.dx {w : World} {b : Bool} {A : Option Addr} {c l : Nat} {z : Int} (h : J w b A c l z) : Dx w A c l (limbs z.natAbs) := ⟨h.1.1, h.1.2⟩
theorem R.dx {w : World} {s s' : Bool} {A A' : Option Addr} {c c' l l' m : Nat} {q : Rat} (h : R w s A c l s' A' c' l' q m) : ∃ xs ys, Dx w A c l xs ∧ Dx w A' c' l' ys := by
  obtain ⟨n, d, ⟨_, ⟨xs, h1, h2, _⟩, _⟩, ⟨_, ⟨ys, h3, h4, _⟩, _⟩, _⟩ := h
  exact ⟨xs, ys, ⟨h1, h2⟩, ⟨h3, h4⟩⟩
/-- Is what is handed in the one form of q? -/
def exB (s : Bool) (xs : List Nat) (s' : Bool) (ys : List Nat) (q : Rat) : Bool := ((s == decide (q.num < 0)) && decide (xs = limbs q.num.natAbs)) && ((s' == decide (dn q < 0)) && decide (ys = limbs (dn q).natAbs))
theorem J.sg {w : World} {b : Bool} {A : Option Addr} {c l : Nat} {z : Int} (h : J w b A c l z) : b = decide (z < 0) := h.2
theorem RN.n {w : World} {s s' : Bool} {A A' : Option Addr} {c c' l l' : Nat} {q : Rat} (h : RN w s A c l s' A' c' l' q) : J w s A c l q.num := h.1
theorem RN.d {w : World} {s s' : Bool} {A A' : Option Addr} {c c' l l' : Nat} {q : Rat} (h : RN w s A c l s' A' c' l' q) : J w s' A' c' l' (dn q) := h.2
theorem exB_iff {w : World} {s s' : Bool} {A A' : Option Addr} {c c' l l' : Nat} {q : Rat} {xs ys : List Nat} (h : Dx w A c l xs) (h' : Dx w A' c' l' ys) : exB s xs s' ys q = true ↔ RN w s A c l s' A' c' l' q := by
  unfold exB
  simp only [Bool.and_eq_true, beq_iff_eq, decide_eq_true_eq]
  constructor
  · rintro ⟨⟨rfl, rfl⟩, rfl, rfl⟩
    exact ⟨⟨⟨h.1, h.2⟩, rfl⟩, ⟨⟨h'.1, h'.2⟩, rfl⟩⟩
  · rintro ⟨h1, h2⟩
    exact ⟨⟨h1.2, h.inj h1.dx⟩, h2.2, h'.inj h2.dx⟩
theorem equal_i {w : World} {A A' : Option Addr} {c c' l l' : Nat} {xs ys : List Nat} (h : Dx w A c l xs) (h' : Dx w A' c' l' ys) (hl : l ≤ 800000) (hl' : l' ≤ 800000) (t : Bool) (ht : Hid (decide (xs = ys) = t)) :
    Calls Tryd.prog 80 #[.slice A l c, .slice A' l' c'] w fun e w' => e = .returned (.bool t) ∧ Below w.heap.size w w' := by
  obtain ⟨h1, rfl⟩ := h
  obtain ⟨h2, rfl⟩ := h'
  exact equal_any h1 h2 hl hl' t ht.out
set_option maxRecDepth 100000 in
set_option maxHeartbeats 4000000 in
theorem ex1_shapes {w : World} {s s' : Bool} {A A' : Option Addr} {c c' l l' : Nat} {xs ys : List Nat} (h : Dx w A c l xs) (h' : Dx w A' c' l' ys) (hl : l ≤ 800000) (hl' : l' ≤ 800000) (t : Bool) (ht : ((s == s') && decide (xs = ys)) = t) :
    Calls Tryd.prog 79 #[.agg #[.bool s, .slice A l c], .agg #[.bool s', .slice A' l' c']] w fun e w' => e = .returned (.bool t) ∧ Below w.heap.size w w' := by
  obtain ⟨u, HU⟩ : ∃ u, Hid (decide (xs = ys) = u) := ⟨_, Lib.hid rfl⟩
  rw [HU.out] at ht
  by_cases e : s = s'
  · subst e
    obtain rfl : u = t := by rw [← ht]; simp
    clear ht
    obtain ⟨W, hW, x0, x1, hB⟩ := boxes2 w #[.bool s, .slice A l c] 25 #[.bool s, .slice A' l' c'] 25
    replace h := h.below hB
    replace h' := h'.below hB
    have HX0 := Lib.hid x0
    have HX1 := Lib.hid x1
    clear x0 x1
    have Bz := Below.refl W.heap.size W
    have p0_0 := (HX0.out.below Bz).cell 0 (.bool s) rfl
    have p0_1 := (HX0.out.below Bz).cell 1 (.slice A l c) rfl
    have p1_0 := (HX1.out.below Bz).cell 0 (.bool s) rfl
    have p1_1 := (HX1.out.below Bz).cell 1 (.slice A' l' c') rfl
    go_enter Tryd.func79, Tryd.ntmps79
    go_wp2_with fail
    rw [← hW]
    clear hW
    go_wp2_with fail
    with_reducible refine (equal_i (Dx.below h (by go_grown)) (Dx.below h' (by go_grown)) (by omega) (by omega) u HU).mono ?_
    rintro e w1 ⟨rfl, b1⟩
    replace b1 := below_trans (a := W) (by go_grown) b1
    replace Bz := below_trans Bz b1
    clear b1
    clear p0_0 p0_1 p1_0 p1_1
    go_wp2_with fail
    go_ret
    have hF := below_trans (c := w1) hB Bz
    exact ⟨rfl, below_trans hF (by go_grown)⟩
  · have g1 : (s == s') = false := by simpa using e
    obtain rfl : t = false := by rw [← ht, g1]; rfl
    clear ht e
    obtain ⟨W, hW, x0, x1, hB⟩ := boxes2 w #[.bool s, .slice A l c] 25 #[.bool s', .slice A' l' c'] 25
    have HX0 := Lib.hid x0
    have HX1 := Lib.hid x1
    clear x0 x1
    have Bz := Below.refl W.heap.size W
    have p0_0 := (HX0.out.below Bz).cell 0 (.bool s) rfl
    have p1_0 := (HX1.out.below Bz).cell 0 (.bool s') rfl
    go_enter Tryd.func79, Tryd.ntmps79
    go_wp2_with fail
    rw [← hW]
    clear hW
    go_wp2_with fail
    go_ret
    have hF := below_trans (c := W) hB Bz
    exact ⟨rfl, below_trans hF (by go_grown)⟩
set_option maxRecDepth 100000 in
set_option maxHeartbeats 4000000 in
theorem ex1_sparse {w : World} {s s' : Bool} {A A' : Option Addr} {c c' l l' : Nat} {xs ys : List Nat} (h : Dx w A c l xs) (h' : Dx w A' c' l' ys) (hl : l ≤ 800000) (hl' : l' ≤ 800000) (t : Bool) (ht : ((s == s') && decide (xs = ys)) = t) :
    Calls Tryd.prog 147 #[.agg #[.bool s, .slice A l c], .agg #[.bool s', .slice A' l' c']] w fun e w' => e = .returned (.bool t) ∧ Below w.heap.size w w' := by
  obtain ⟨u, HU⟩ : ∃ u, Hid (decide (xs = ys) = u) := ⟨_, Lib.hid rfl⟩
  rw [HU.out] at ht
  by_cases e : s = s'
  · subst e
    obtain rfl : u = t := by rw [← ht]; simp
    clear ht
    obtain ⟨W, hW, x0, x1, hB⟩ := boxes2 w #[.bool s, .slice A l c] 25 #[.bool s, .slice A' l' c'] 25
    replace h := h.below hB
    replace h' := h'.below hB
    have HX0 := Lib.hid x0
    have HX1 := Lib.hid x1
    clear x0 x1
    have Bz := Below.refl W.heap.size W
    have p0_0 := (HX0.out.below Bz).cell 0 (.bool s) rfl
    have p0_1 := (HX0.out.below Bz).cell 1 (.slice A l c) rfl
    have p1_0 := (HX1.out.below Bz).cell 0 (.bool s) rfl
    have p1_1 := (HX1.out.below Bz).cell 1 (.slice A' l' c') rfl
    go_enter Tryd.func147, Tryd.ntmps147
    go_wp2_with fail
    rw [← hW]
    clear hW
    go_wp2_with fail
    with_reducible refine (equal_i (Dx.below h (by go_grown)) (Dx.below h' (by go_grown)) (by omega) (by omega) u HU).mono ?_
    rintro e w1 ⟨rfl, b1⟩
    replace b1 := below_trans (a := W) (by go_grown) b1
    replace Bz := below_trans Bz b1
    clear b1
    clear p0_0 p0_1 p1_0 p1_1
    go_wp2_with fail
    go_ret
    have hF := below_trans (c := w1) hB Bz
    exact ⟨rfl, below_trans hF (by go_grown)⟩
  · have g1 : (s == s') = false := by simpa using e
    obtain rfl : t = false := by rw [← ht, g1]; rfl
    clear ht e
    obtain ⟨W, hW, x0, x1, hB⟩ := boxes2 w #[.bool s, .slice A l c] 25 #[.bool s', .slice A' l' c'] 25
    have HX0 := Lib.hid x0
    have HX1 := Lib.hid x1
    clear x0 x1
    have Bz := Below.refl W.heap.size W
    have p0_0 := (HX0.out.below Bz).cell 0 (.bool s) rfl
    have p1_0 := (HX1.out.below Bz).cell 0 (.bool s') rfl
    go_enter Tryd.func147, Tryd.ntmps147
    go_wp2_with fail
    rw [← hW]
    clear hW
    go_wp2_with fail
    go_ret
    have hF := below_trans (c := W) hB Bz
    exact ⟨rfl, below_trans hF (by go_grown)⟩
set_option maxRecDepth 100000 in
set_option maxHeartbeats 4000000 in
theorem exact_shapes {w : World} {s s' : Bool} {A A' : Option Addr} {c c' l l' m : Nat} {q : Rat} {xs ys : List Nat} (h : R w s A c l s' A' c' l' q m) (dx1 : Dx w A c l xs) (dx2 : Dx w A' c' l' ys) (hm : m ≤ 40000) (t : Bool) (ht : Hid (exB s xs s' ys q = t)) (hT : Hid (Tab w)) :
    Calls Tryd.prog 45 #[.agg #[.bool s, .slice A l c, .bool s', .slice A' l' c']] w fun e w' => e = .returned (.bool t) ∧ Below w.heap.size w w' := by
  have hlen := h.len
  have hsz := h.sz
  obtain ⟨t2, HT2⟩ : ∃ t2, Hid (((s' == decide (dn q < 0)) && decide (ys = limbs (dn q).natAbs)) = t2) := ⟨_, Lib.hid rfl⟩
  obtain ⟨t1, HT1⟩ : ∃ t1, Hid (((s == decide (q.num < 0)) && decide (xs = limbs q.num.natAbs)) = t1) := ⟨_, Lib.hid rfl⟩
  have ht' : (t1 && t2) = t := by rw [← HT1.out, ← HT2.out]; exact ht.out
  clear ht
  cases t1
  · obtain rfl : t = false := by rw [← ht']; rfl
    clear ht'
    obtain ⟨W, hW, x0, hB⟩ := boxes1 w #[.bool s, .slice A l c, .bool s', .slice A' l' c'] 27
    replace h := h.below hB
    replace dx1 := dx1.below hB
    have HX0 := Lib.hid x0
    clear x0
    have Bz := Below.refl W.heap.size W
    have p0_0 := (HX0.out.below Bz).cell 0 (.bool s) rfl
    have p0_1 := (HX0.out.below Bz).cell 1 (.slice A l c) rfl
    have p0_2 := (HX0.out.below Bz).cell 2 (.bool s') rfl
    have p0_3 := (HX0.out.below Bz).cell 3 (.slice A' l' c') rfl
    go_enter Tryd.func45, Tryd.ntmps45
    go_wp2_with fail
    rw [← hW]
    clear hW
    go_wp2_with fail
    with_reducible refine (norm_q (R.below h (by go_grown)) (by omega) (Lib.hid (Tab.below hT.out (below_trans hB (below_trans (b := W) Bz (by go_grown)))))).mono ?_
    rintro e w1 ⟨s1, A1, c1, l1, s1r, A1r, c1r, l1r, rfl, h1, b1⟩
    replace b1 := below_trans (a := W) (by go_grown) b1
    replace dx1 := dx1.below b1
    replace Bz := below_trans Bz b1
    clear b1
    have m1 := h1.len
    have SGn := Lib.hid (J.sg (RN.n h1))
    have SGd := Lib.hid (J.sg (RN.d h1))
    clear p0_0 p0_1 p0_2 p0_3
    go_upto_region 3 with (fail)
    obtain ⟨V1, hW, x1, hN⟩ := boxes1 w1 #[.bool s1, .slice A1 l1 c1, .bool s1r, .slice A1r l1r c1r] 27
    rw [← hW]
    clear hW
    obtain ⟨v1, hb1⟩ : ∃ b, b = w1.heap.size := ⟨_, rfl⟩
    rw [← hb1] at x1 ⊢
    have o0_1 : w.heap.size < v1 := by have := (HX0.out.below Bz).lt; omega
    have ow_1 : w.heap.size ≤ v1 := by have := hB.size; have := Bz.size; omega
    replace h1 := h1.below hN
    replace dx1 := dx1.below hN
    replace hB := below_trans (below_trans hB Bz) hN
    replace HX0 := Lib.hid ((HX0.out.below Bz).below hN)
    have HX1 := Lib.hid x1
    clear x1 hN Bz hb1
    have Bz := Below.refl V1.heap.size V1
    have p0_0 := (HX0.out.below Bz).cell 0 (.bool s) rfl
    have p0_1 := (HX0.out.below Bz).cell 1 (.slice A l c) rfl
    have p1_0 := (HX1.out.below Bz).cell 0 (.bool s1) rfl
    have p1_1 := (HX1.out.below Bz).cell 1 (.slice A1 l1 c1) rfl
    go_wp2_with fail
    with_reducible refine (ex1_shapes (Dx.below dx1 (by go_grown)) (J.dx (RN.n (RN.below h1 (by go_grown)))) (by omega) (by omega) false (by rw [SGn.out]; exact HT1.out)).mono ?_
    rintro e w2 ⟨rfl, b2⟩
    replace b2 := below_trans (a := V1) (by go_grown) b2
    replace Bz := below_trans Bz b2
    clear b2
    clear p0_0 p0_1 p1_0 p1_1
    go_wp2_with fail
    go_ret
    have hF := below_trans (c := w2) hB Bz
    exact ⟨rfl, below_trans hF (by go_grown)⟩
  · obtain rfl : t = t2 := by rw [← ht']; simp
    clear ht'
    obtain ⟨W, hW, x0, hB⟩ := boxes1 w #[.bool s, .slice A l c, .bool s', .slice A' l' c'] 27
    replace h := h.below hB
    replace dx2 := dx2.below hB
    replace dx1 := dx1.below hB
    have HX0 := Lib.hid x0
    clear x0
    have Bz := Below.refl W.heap.size W
    have p0_0 := (HX0.out.below Bz).cell 0 (.bool s) rfl
    have p0_1 := (HX0.out.below Bz).cell 1 (.slice A l c) rfl
    have p0_2 := (HX0.out.below Bz).cell 2 (.bool s') rfl
    have p0_3 := (HX0.out.below Bz).cell 3 (.slice A' l' c') rfl
    go_enter Tryd.func45, Tryd.ntmps45
    go_wp2_with fail
    rw [← hW]
    clear hW
    go_wp2_with fail
    with_reducible refine (norm_q (R.below h (by go_grown)) (by omega) (Lib.hid (Tab.below hT.out (below_trans hB (below_trans (b := W) Bz (by go_grown)))))).mono ?_
    rintro e w1 ⟨s1, A1, c1, l1, s1r, A1r, c1r, l1r, rfl, h1, b1⟩
    replace b1 := below_trans (a := W) (by go_grown) b1
    replace dx2 := dx2.below b1
    replace dx1 := dx1.below b1
    replace Bz := below_trans Bz b1
    clear b1
    have m1 := h1.len
    have SGn := Lib.hid (J.sg (RN.n h1))
    have SGd := Lib.hid (J.sg (RN.d h1))
    clear p0_0 p0_1 p0_2 p0_3
    go_upto_region 3 with (fail)
    obtain ⟨V1, hW, x1, hN⟩ := boxes1 w1 #[.bool s1, .slice A1 l1 c1, .bool s1r, .slice A1r l1r c1r] 27
    rw [← hW]
    clear hW
    obtain ⟨v1, hb1⟩ : ∃ b, b = w1.heap.size := ⟨_, rfl⟩
    rw [← hb1] at x1 ⊢
    have o0_1 : w.heap.size < v1 := by have := (HX0.out.below Bz).lt; omega
    have ow_1 : w.heap.size ≤ v1 := by have := hB.size; have := Bz.size; omega
    replace h1 := h1.below hN
    replace dx2 := dx2.below hN
    replace dx1 := dx1.below hN
    replace hB := below_trans (below_trans hB Bz) hN
    replace HX0 := Lib.hid ((HX0.out.below Bz).below hN)
    have HX1 := Lib.hid x1
    clear x1 hN Bz hb1
    have Bz := Below.refl V1.heap.size V1
    have p0_0 := (HX0.out.below Bz).cell 0 (.bool s) rfl
    have p0_1 := (HX0.out.below Bz).cell 1 (.slice A l c) rfl
    have p1_0 := (HX1.out.below Bz).cell 0 (.bool s1) rfl
    have p1_1 := (HX1.out.below Bz).cell 1 (.slice A1 l1 c1) rfl
    go_wp2_with fail
    with_reducible refine (ex1_shapes (Dx.below dx1 (by go_grown)) (J.dx (RN.n (RN.below h1 (by go_grown)))) (by omega) (by omega) true (by rw [SGn.out]; exact HT1.out)).mono ?_
    rintro e w2 ⟨rfl, b2⟩
    replace b2 := below_trans (a := V1) (by go_grown) b2
    replace h1 := h1.below b2
    replace dx2 := dx2.below b2
    replace Bz := below_trans Bz b2
    clear b2
    clear p0_0 p0_1 p1_0 p1_1
    have p0_2 := (HX0.out.below Bz).cell 2 (.bool s') rfl
    have p0_3 := (HX0.out.below Bz).cell 3 (.slice A' l' c') rfl
    have p1_2 := (HX1.out.below Bz).cell 2 (.bool s1r) rfl
    have p1_3 := (HX1.out.below Bz).cell 3 (.slice A1r l1r c1r) rfl
    go_wp2_with fail
    with_reducible refine (ex1_shapes (Dx.below dx2 (by go_grown)) (J.dx (RN.d (RN.below h1 (by go_grown)))) (by omega) (by omega) t (by rw [SGd.out]; exact HT2.out)).mono ?_
    rintro e w3 ⟨rfl, b3⟩
    replace b3 := below_trans (a := w2) (by go_grown) b3
    replace Bz := below_trans Bz b3
    clear b3
    clear p0_2 p0_3 p1_2 p1_3
    go_wp2_with fail
    go_ret
    have hF := below_trans (c := w3) hB Bz
    exact ⟨rfl, below_trans hF (by go_grown)⟩
set_option maxRecDepth 100000 in
set_option maxHeartbeats 4000000 in
theorem exact_sparse {w : World} {s s' : Bool} {A A' : Option Addr} {c c' l l' m : Nat} {q : Rat} {xs ys : List Nat} (h : R w s A c l s' A' c' l' q m) (dx1 : Dx w A c l xs) (dx2 : Dx w A' c' l' ys) (hm : m ≤ 40000) (t : Bool) (ht : Hid (exB s xs s' ys q = t)) (hT : Hid (Tab w)) :
    Calls Tryd.prog 138 #[.agg #[.bool s, .slice A l c, .bool s', .slice A' l' c']] w fun e w' => e = .returned (.bool t) ∧ Below w.heap.size w w' := by
  have hlen := h.len
  have hsz := h.sz
  obtain ⟨t2, HT2⟩ : ∃ t2, Hid (((s' == decide (dn q < 0)) && decide (ys = limbs (dn q).natAbs)) = t2) := ⟨_, Lib.hid rfl⟩
  obtain ⟨t1, HT1⟩ : ∃ t1, Hid (((s == decide (q.num < 0)) && decide (xs = limbs q.num.natAbs)) = t1) := ⟨_, Lib.hid rfl⟩
  have ht' : (t1 && t2) = t := by rw [← HT1.out, ← HT2.out]; exact ht.out
  clear ht
  cases t1
  · obtain rfl : t = false := by rw [← ht']; rfl
    clear ht'
    obtain ⟨W, hW, x0, hB⟩ := boxes1 w #[.bool s, .slice A l c, .bool s', .slice A' l' c'] 27
    replace h := h.below hB
    replace dx1 := dx1.below hB
    have HX0 := Lib.hid x0
    clear x0
    have Bz := Below.refl W.heap.size W
    have p0_0 := (HX0.out.below Bz).cell 0 (.bool s) rfl
    have p0_1 := (HX0.out.below Bz).cell 1 (.slice A l c) rfl
    have p0_2 := (HX0.out.below Bz).cell 2 (.bool s') rfl
    have p0_3 := (HX0.out.below Bz).cell 3 (.slice A' l' c') rfl
    go_enter Tryd.func138, Tryd.ntmps138
    go_wp2_with fail
    rw [← hW]
    clear hW
    go_wp2_with fail
    with_reducible refine (norm_q (R.below h (by go_grown)) (by omega) (Lib.hid (Tab.below hT.out (below_trans hB (below_trans (b := W) Bz (by go_grown)))))).mono ?_
    rintro e w1 ⟨s1, A1, c1, l1, s1r, A1r, c1r, l1r, rfl, h1, b1⟩
    replace b1 := below_trans (a := W) (by go_grown) b1
    replace dx1 := dx1.below b1
    replace Bz := below_trans Bz b1
    clear b1
    have m1 := h1.len
    have SGn := Lib.hid (J.sg (RN.n h1))
    have SGd := Lib.hid (J.sg (RN.d h1))
    clear p0_0 p0_1 p0_2 p0_3
    go_upto_region 3 with (fail)
    obtain ⟨V1, hW, x1, hN⟩ := boxes1 w1 #[.bool s1, .slice A1 l1 c1, .bool s1r, .slice A1r l1r c1r] 27
    rw [← hW]
    clear hW
    obtain ⟨v1, hb1⟩ : ∃ b, b = w1.heap.size := ⟨_, rfl⟩
    rw [← hb1] at x1 ⊢
    have o0_1 : w.heap.size < v1 := by have := (HX0.out.below Bz).lt; omega
    have ow_1 : w.heap.size ≤ v1 := by have := hB.size; have := Bz.size; omega
    replace h1 := h1.below hN
    replace dx1 := dx1.below hN
    replace hB := below_trans (below_trans hB Bz) hN
    replace HX0 := Lib.hid ((HX0.out.below Bz).below hN)
    have HX1 := Lib.hid x1
    clear x1 hN Bz hb1
    have Bz := Below.refl V1.heap.size V1
    have p0_0 := (HX0.out.below Bz).cell 0 (.bool s) rfl
    have p0_1 := (HX0.out.below Bz).cell 1 (.slice A l c) rfl
    have p1_0 := (HX1.out.below Bz).cell 0 (.bool s1) rfl
    have p1_1 := (HX1.out.below Bz).cell 1 (.slice A1 l1 c1) rfl
    go_wp2_with fail
    with_reducible refine (ex1_sparse (Dx.below dx1 (by go_grown)) (J.dx (RN.n (RN.below h1 (by go_grown)))) (by omega) (by omega) false (by rw [SGn.out]; exact HT1.out)).mono ?_
    rintro e w2 ⟨rfl, b2⟩
    replace b2 := below_trans (a := V1) (by go_grown) b2
    replace Bz := below_trans Bz b2
    clear b2
    clear p0_0 p0_1 p1_0 p1_1
    go_wp2_with fail
    go_ret
    have hF := below_trans (c := w2) hB Bz
    exact ⟨rfl, below_trans hF (by go_grown)⟩
  · obtain rfl : t = t2 := by rw [← ht']; simp
    clear ht'
    obtain ⟨W, hW, x0, hB⟩ := boxes1 w #[.bool s, .slice A l c, .bool s', .slice A' l' c'] 27
    replace h := h.below hB
    replace dx2 := dx2.below hB
    replace dx1 := dx1.below hB
    have HX0 := Lib.hid x0
    clear x0
    have Bz := Below.refl W.heap.size W
    have p0_0 := (HX0.out.below Bz).cell 0 (.bool s) rfl
    have p0_1 := (HX0.out.below Bz).cell 1 (.slice A l c) rfl
    have p0_2 := (HX0.out.below Bz).cell 2 (.bool s') rfl
    have p0_3 := (HX0.out.below Bz).cell 3 (.slice A' l' c') rfl
    go_enter Tryd.func138, Tryd.ntmps138
    go_wp2_with fail
    rw [← hW]
    clear hW
    go_wp2_with fail
    with_reducible refine (norm_q (R.below h (by go_grown)) (by omega) (Lib.hid (Tab.below hT.out (below_trans hB (below_trans (b := W) Bz (by go_grown)))))).mono ?_
    rintro e w1 ⟨s1, A1, c1, l1, s1r, A1r, c1r, l1r, rfl, h1, b1⟩
    replace b1 := below_trans (a := W) (by go_grown) b1
    replace dx2 := dx2.below b1
    replace dx1 := dx1.below b1
    replace Bz := below_trans Bz b1
    clear b1
    have m1 := h1.len
    have SGn := Lib.hid (J.sg (RN.n h1))
    have SGd := Lib.hid (J.sg (RN.d h1))
    clear p0_0 p0_1 p0_2 p0_3
    go_upto_region 3 with (fail)
    obtain ⟨V1, hW, x1, hN⟩ := boxes1 w1 #[.bool s1, .slice A1 l1 c1, .bool s1r, .slice A1r l1r c1r] 27
    rw [← hW]
    clear hW
    obtain ⟨v1, hb1⟩ : ∃ b, b = w1.heap.size := ⟨_, rfl⟩
    rw [← hb1] at x1 ⊢
    have o0_1 : w.heap.size < v1 := by have := (HX0.out.below Bz).lt; omega
    have ow_1 : w.heap.size ≤ v1 := by have := hB.size; have := Bz.size; omega
    replace h1 := h1.below hN
    replace dx2 := dx2.below hN
    replace dx1 := dx1.below hN
    replace hB := below_trans (below_trans hB Bz) hN
    replace HX0 := Lib.hid ((HX0.out.below Bz).below hN)
    have HX1 := Lib.hid x1
    clear x1 hN Bz hb1
    have Bz := Below.refl V1.heap.size V1
    have p0_0 := (HX0.out.below Bz).cell 0 (.bool s) rfl
    have p0_1 := (HX0.out.below Bz).cell 1 (.slice A l c) rfl
    have p1_0 := (HX1.out.below Bz).cell 0 (.bool s1) rfl
    have p1_1 := (HX1.out.below Bz).cell 1 (.slice A1 l1 c1) rfl
    go_wp2_with fail
    with_reducible refine (ex1_sparse (Dx.below dx1 (by go_grown)) (J.dx (RN.n (RN.below h1 (by go_grown)))) (by omega) (by omega) true (by rw [SGn.out]; exact HT1.out)).mono ?_
    rintro e w2 ⟨rfl, b2⟩
    replace b2 := below_trans (a := V1) (by go_grown) b2
    replace h1 := h1.below b2
    replace dx2 := dx2.below b2
    replace Bz := below_trans Bz b2
    clear b2
    clear p0_0 p0_1 p1_0 p1_1
    have p0_2 := (HX0.out.below Bz).cell 2 (.bool s') rfl
    have p0_3 := (HX0.out.below Bz).cell 3 (.slice A' l' c') rfl
    have p1_2 := (HX1.out.below Bz).cell 2 (.bool s1r) rfl
    have p1_3 := (HX1.out.below Bz).cell 3 (.slice A1r l1r c1r) rfl
    go_wp2_with fail
    with_reducible refine (ex1_sparse (Dx.below dx2 (by go_grown)) (J.dx (RN.d (RN.below h1 (by go_grown)))) (by omega) (by omega) t (by rw [SGd.out]; exact HT2.out)).mono ?_
    rintro e w3 ⟨rfl, b3⟩
    replace b3 := below_trans (a := w2) (by go_grown) b3
    replace Bz := below_trans Bz b3
    clear b3
    clear p0_2 p0_3 p1_2 p1_3
    go_wp2_with fail
    go_ret
    have hF := below_trans (c := w3) hB Bz
    exact ⟨rfl, below_trans hF (by go_grown)⟩
end Go.Proofs.YtionhpangenhnaaDoor
