/-
  Digits, whole numbers, fractions, slices of fractions looked at as they stand, with any answer. Written by wip/gen/sw.py.
-/
import Derived.Test.YtionhpangenhnaaDoorRow
import Derived.Test.YtionhpangenhnaaDoorLst
namespace Go.Proofs.YtionhpangenhnaaDoor
open Go.RowKit Tw

theorem cell_off1 {w : World} {b b' i j : Nat} {u : Value} (h : b ≠ b') : (w.setCell ⟨b, i, none⟩ u).cell? ⟨b', j, none⟩ = w.cell? ⟨b', j, none⟩ :=
  World.cell?_setCell_other _ _ _ _ (by intro e; cases e; exact h rfl)
set_option maxRecDepth 100000 in
set_option maxHeartbeats 4000000 in
theorem sameWords_any {w : World} {A A' : Option Addr} {c c' : Nat} {xs ys : List Nat} (h : Nums w A c xs) (h' : Nums w A' c' ys) (hl : xs.length ≤ 800000) (hl' : ys.length ≤ 800000) (t : Bool) (ht : decide (xs = ys) = t) :
    Calls Tryd.prog 105 #[.slice A xs.length c, .slice A' ys.length c'] w fun e w' => e = .returned (.bool t) ∧ Below w.heap.size w w' := by
  by_cases hn : xs.length = ys.length
  · obtain ⟨n, hn1⟩ : ∃ n, n = xs.length := ⟨_, rfl⟩
    rw [← hn, ← hn1]
    rw [← hn1] at hl
    have g0 : ((n : Int) != (n : Int)) = false := by simp
    have H := Lib.hid h
    have H' := Lib.hid h'
    have HN := Lib.hid hn
    have HN1 := Lib.hid hn1
    have HT := Lib.hid ht
    have hst : EQ1 w xs ys n n (.int .i64 ((0 : Nat) : Int)) w := ⟨0, Nat.zero_le _, rfl, rfl, Below.refl _ _, fun j hj => by omega⟩
    have HST := Lib.hid hst
    clear h h' hn hn1 ht hst hl'
    go_enter Tryd.func105, Tryd.ntmps105
    go_wp2_with fail
    go_loopg [5] n (fun gk s wr => EQ1 w xs ys n gk s wr)
    case atStart => exact HST.out
    case round =>
      clear HST
      obtain ⟨i, hi, hgk, rfl, hB, hd⟩ := hrel
      have HGK := Lib.hid hgk
      have HD := Lib.hid hd
      clear hgk hd
      by_cases hlt : i < n
      · obtain ⟨b1, o1, rfl, e1⟩ := H.out.cells (by rw [← HN1.out]; omega)
        obtain ⟨b2, o2, rfl, e2⟩ := H'.out.cells (by rw [← HN.out, ← HN1.out]; omega)
        replace e1 := e1 i (by rw [← HN1.out]; exact hlt)
        replace e2 := e2 i (by rw [← HN.out, ← HN1.out]; exact hlt)
        obtain ⟨d1, h1⟩ : ∃ d, d = dg xs i := ⟨_, rfl⟩
        obtain ⟨d2, h2⟩ : ∃ d, d = dg ys i := ⟨_, rfl⟩
        rw [← h1] at e1
        rw [← h2] at e2
        have D1 := Lib.hid h1
        have D2 := Lib.hid h2
        replace e1 := (hB.cell (World.block_lt_of_cell? w _ e1)).trans e1
        replace e2 := (hB.cell (World.block_lt_of_cell? w _ e2)).trans e2
        have i1 : (i : Int) < (n : Int) := by omega
        have i2 : (0 : Int) ≤ (i : Int) := by omega
        clear h1 h2
        by_cases he : d1 = d2
        · have g1 : ((d1 : Int) != (d2 : Int)) = false := by simp [he]
          have HE := Lib.hid he
          clear he
          have Bz := Below.refl wr.heap.size wr
          have p51_0 := (Bz.cell (World.block_lt_of_cell? wr _ e1)).trans e1
          have p52_0 := (Bz.cell (World.block_lt_of_cell? wr _ e2)).trans e2
          go_wp2_with fail
          (try simp only [List.append_eq, List.cons_append, List.nil_append])
          refine wp_region_plan (.pure 0 (.pure 1 (.pure 2 (.take 3 (.pure 4 (.pure 5 (.pure 6 (.take 7 (.pure 8 .done))))))))) [] (fun w' => w'.cell? ⟨b1, o1 + i, none⟩ = some (.int .u64 (d1 : Int)) ∧ w'.cell? ⟨b2, o2 + i, none⟩ = some (.int .u64 (d2 : Int))) (by kernel_rfl) (by kernel_rfl) ⟨p51_0, p52_0⟩ ?_
          refine wpPlan_pure (o := ⟨some 17, _, _, _, _, _⟩) (v := ?_) rfl rfl (fun w' => ?_) ?_
          rotate_left
          · go_simp <;> with_reducible rfl
          try simp only [Act.put, List.setIfInBounds_toArray, List.set_cons_zero, List.set_cons_succ]
          refine wpPlan_pure (o := ⟨some 18, _, _, _, _, _⟩) (v := ?_) rfl rfl (fun w' => ?_) ?_
          rotate_left
          · go_simp <;> with_reducible rfl
          try simp only [Act.put, List.setIfInBounds_toArray, List.set_cons_zero, List.set_cons_succ]
          refine wpPlan_pure (o := ⟨some 19, _, _, _, _, _⟩) (v := ?_) rfl rfl (fun w' => ?_) ?_
          rotate_left
          · go_simp <;> with_reducible rfl
          try simp only [Act.put, List.setIfInBounds_toArray, List.set_cons_zero, List.set_cons_succ]
          refine wpPlan_take (o := ⟨some 20, _, _, _, _, _⟩) (v := ?_) rfl rfl (fun w' hS => ?_) ?_
          rotate_left
          · obtain ⟨p51_0, p52_0⟩ := hS; go_simp <;> with_reducible rfl
          try simp only [Act.put, List.setIfInBounds_toArray, List.set_cons_zero, List.set_cons_succ]
          refine wpPlan_pure (o := ⟨some 21, _, _, _, _, _⟩) (v := ?_) rfl rfl (fun w' => ?_) ?_
          rotate_left
          · go_simp <;> with_reducible rfl
          try simp only [Act.put, List.setIfInBounds_toArray, List.set_cons_zero, List.set_cons_succ]
          refine wpPlan_pure (o := ⟨some 22, _, _, _, _, _⟩) (v := ?_) rfl rfl (fun w' => ?_) ?_
          rotate_left
          · go_simp <;> with_reducible rfl
          try simp only [Act.put, List.setIfInBounds_toArray, List.set_cons_zero, List.set_cons_succ]
          refine wpPlan_pure (o := ⟨some 23, _, _, _, _, _⟩) (v := ?_) rfl rfl (fun w' => ?_) ?_
          rotate_left
          · go_simp <;> with_reducible rfl
          try simp only [Act.put, List.setIfInBounds_toArray, List.set_cons_zero, List.set_cons_succ]
          refine wpPlan_take (o := ⟨some 24, _, _, _, _, _⟩) (v := ?_) rfl rfl (fun w' hS => ?_) ?_
          rotate_left
          · obtain ⟨p51_0, p52_0⟩ := hS; go_simp <;> with_reducible rfl
          try simp only [Act.put, List.setIfInBounds_toArray, List.set_cons_zero, List.set_cons_succ]
          refine wpPlan_pure (o := ⟨some 25, _, _, _, _, _⟩) (v := ?_) rfl rfl (fun w' => ?_) ?_
          rotate_left
          · go_simp <;> with_reducible rfl
          try simp only [Act.put, List.setIfInBounds_toArray, List.set_cons_zero, List.set_cons_succ]
          refine wpPlan_done ?_
          go_wp2_with fail
          go_roundg (n - (i + 1))
          case measure => have := HGK.out; omega
          case rel => exact ⟨i + 1, by omega, rfl, by go_num, below_trans (below_trans hB Bz) (by go_grown), fun j hj => by
            rcases Nat.lt_or_ge j i with h1 | h1
            · exact HD.out j h1
            · obtain rfl : j = i := by omega
              rw [← D1.out, ← D2.out]; exact HE.out⟩
        · have g1 : ((d1 : Int) != (d2 : Int)) = true := by simp; omega
          have HE := Lib.hid he
          clear he
          have Bz := Below.refl wr.heap.size wr
          have p51_0 := (Bz.cell (World.block_lt_of_cell? wr _ e1)).trans e1
          have p52_0 := (Bz.cell (World.block_lt_of_cell? wr _ e2)).trans e2
          go_wp2_with fail
          (try simp only [List.append_eq, List.cons_append, List.nil_append])
          refine wp_region_plan (.pure 0 (.pure 1 (.pure 2 (.take 3 (.pure 4 (.pure 5 (.pure 6 (.take 7 (.pure 8 .done))))))))) [] (fun w' => w'.cell? ⟨b1, o1 + i, none⟩ = some (.int .u64 (d1 : Int)) ∧ w'.cell? ⟨b2, o2 + i, none⟩ = some (.int .u64 (d2 : Int))) (by kernel_rfl) (by kernel_rfl) ⟨p51_0, p52_0⟩ ?_
          refine wpPlan_pure (o := ⟨some 17, _, _, _, _, _⟩) (v := ?_) rfl rfl (fun w' => ?_) ?_
          rotate_left
          · go_simp <;> with_reducible rfl
          try simp only [Act.put, List.setIfInBounds_toArray, List.set_cons_zero, List.set_cons_succ]
          refine wpPlan_pure (o := ⟨some 18, _, _, _, _, _⟩) (v := ?_) rfl rfl (fun w' => ?_) ?_
          rotate_left
          · go_simp <;> with_reducible rfl
          try simp only [Act.put, List.setIfInBounds_toArray, List.set_cons_zero, List.set_cons_succ]
          refine wpPlan_pure (o := ⟨some 19, _, _, _, _, _⟩) (v := ?_) rfl rfl (fun w' => ?_) ?_
          rotate_left
          · go_simp <;> with_reducible rfl
          try simp only [Act.put, List.setIfInBounds_toArray, List.set_cons_zero, List.set_cons_succ]
          refine wpPlan_take (o := ⟨some 20, _, _, _, _, _⟩) (v := ?_) rfl rfl (fun w' hS => ?_) ?_
          rotate_left
          · obtain ⟨p51_0, p52_0⟩ := hS; go_simp <;> with_reducible rfl
          try simp only [Act.put, List.setIfInBounds_toArray, List.set_cons_zero, List.set_cons_succ]
          refine wpPlan_pure (o := ⟨some 21, _, _, _, _, _⟩) (v := ?_) rfl rfl (fun w' => ?_) ?_
          rotate_left
          · go_simp <;> with_reducible rfl
          try simp only [Act.put, List.setIfInBounds_toArray, List.set_cons_zero, List.set_cons_succ]
          refine wpPlan_pure (o := ⟨some 22, _, _, _, _, _⟩) (v := ?_) rfl rfl (fun w' => ?_) ?_
          rotate_left
          · go_simp <;> with_reducible rfl
          try simp only [Act.put, List.setIfInBounds_toArray, List.set_cons_zero, List.set_cons_succ]
          refine wpPlan_pure (o := ⟨some 23, _, _, _, _, _⟩) (v := ?_) rfl rfl (fun w' => ?_) ?_
          rotate_left
          · go_simp <;> with_reducible rfl
          try simp only [Act.put, List.setIfInBounds_toArray, List.set_cons_zero, List.set_cons_succ]
          refine wpPlan_take (o := ⟨some 24, _, _, _, _, _⟩) (v := ?_) rfl rfl (fun w' hS => ?_) ?_
          rotate_left
          · obtain ⟨p51_0, p52_0⟩ := hS; go_simp <;> with_reducible rfl
          try simp only [Act.put, List.setIfInBounds_toArray, List.set_cons_zero, List.set_cons_succ]
          refine wpPlan_pure (o := ⟨some 25, _, _, _, _, _⟩) (v := ?_) rfl rfl (fun w' => ?_) ?_
          rotate_left
          · go_simp <;> with_reducible rfl
          try simp only [Act.put, List.setIfInBounds_toArray, List.set_cons_zero, List.set_cons_succ]
          refine wpPlan_done ?_
          go_wp2_with fail
          go_ret
          have hF := below_trans (c := wr) hB Bz
          obtain rfl : t = false := by rw [← HT.out]; simp; intro e; apply HE.out; rw [D1.out, D2.out, e]
          exact ⟨rfl, below_trans (below_trans hB Bz) (by go_grown)⟩
      · obtain rfl : i = n := by omega
        have i1 : ¬ (i : Int) < (i : Int) := by omega
        obtain rfl : t = true := by rw [← HT.out]; simp; exact dg_ext HN.out (by rw [← HN1.out]; exact HD.out)
        go_wp2_with fail
        go_ret
        exact ⟨rfl, hB⟩
  · obtain rfl : t = false := by rw [← ht]; simp; rintro rfl; exact hn rfl
    have g1 : ((xs.length : Int) != (ys.length : Int)) = true := by simp; omega
    clear ht h h' hn
    go_enter Tryd.func105, Tryd.ntmps105
    go_wp2_with fail
    go_ret
    exact ⟨rfl, Below.refl _ _⟩
theorem sameWords_j {w : World} {b b' : Bool} {A A' : Option Addr} {c c' l l' : Nat} {z z' : Int} (h : J w b A c l z) (h' : J w b' A' c' l' z') (hl : l ≤ 800000) (hl' : l' ≤ 800000) (t : Bool) (ht : Hid (decide (z.natAbs = z'.natAbs) = t)) :
    Calls Tryd.prog 105 #[.slice A l c, .slice A' l' c'] w fun e w' => e = .returned (.bool t) ∧ Below w.heap.size w w' := by
  obtain ⟨h1, rfl⟩ := h.dx
  obtain ⟨h2, rfl⟩ := h'.dx
  refine sameWords_any h1 h2 hl hl' t ?_
  rw [← ht.out]
  by_cases e : z.natAbs = z'.natAbs
  · rw [decide_eq_true e, e, decide_eq_true rfl]
  · rw [decide_eq_false e, decide_eq_false (fun e2 => e (limbs_inj e2))]
theorem J.sg2 {w : World} {b : Bool} {A : Option Addr} {c l : Nat} {z : Int} (h : J w b A c l z) : b = decide (z < 0) := h.2
set_option maxRecDepth 100000 in
set_option maxHeartbeats 4000000 in
theorem sameInt_j {w : World} {b b' : Bool} {A A' : Option Addr} {c c' l l' : Nat} {z z' : Int} (h : J w b A c l z) (h' : J w b' A' c' l' z') (hl : l ≤ 800000) (hl' : l' ≤ 800000) (t : Bool) (ht : Hid (decide (z = z') = t)) :
    Calls Tryd.prog 82 #[.agg #[.bool b, .slice A l c], .agg #[.bool b', .slice A' l' c']] w fun e w' => e = .returned (.bool t) ∧ Below w.heap.size w w' := by
  have e1 := h.sg2
  have e2 := h'.sg2
  by_cases hs : b = b'
  · subst hs
    have hs2 : decide (z < 0) = decide (z' < 0) := e1.symm.trans e2
    replace ht : Hid (decide (z.natAbs = z'.natAbs) = t) := Lib.hid (by
      rw [← ht.out]
      by_cases e : z = z'
      · subst e; simp
      · rw [decide_eq_false e, decide_eq_false]
        intro e3
        by_cases hz : z < 0
        · rw [decide_eq_true hz] at hs2; have := of_decide_eq_true hs2.symm; omega
        · rw [decide_eq_false hz] at hs2; have := of_decide_eq_false hs2.symm; omega)
    have g1 : (b == b) = true := by simp
    clear e1 e2 hs2
    have HX := h
    have HY := h'
    clear h h'
    obtain ⟨W, hW, x0, x1, hB⟩ := boxes2 w #[.bool b, .slice A l c] 25 #[.bool b, .slice A' l' c'] 25
    replace HX := HX.below hB
    replace HY := HY.below hB
    have HX0 := Lib.hid x0
    have HX1 := Lib.hid x1
    clear x0 x1
    have Bz := Below.refl W.heap.size W
    have p0_0 := (HX0.out.below Bz).cell 0 (.bool b) rfl
    have p0_1 := (HX0.out.below Bz).cell 1 (.slice A l c) rfl
    have p1_0 := (HX1.out.below Bz).cell 0 (.bool b) rfl
    have p1_1 := (HX1.out.below Bz).cell 1 (.slice A' l' c') rfl
    go_enter Tryd.func82, Tryd.ntmps82
    go_wp2_with fail
    rw [← hW]
    clear hW
    go_wp2_with fail
    with_reducible refine (sameWords_j (J.below HX (by go_grown)) (J.below HY (by go_grown)) hl hl' t ht).mono ?_
    rintro e w1 ⟨rfl, b1⟩
    replace b1 := below_trans (a := W) (by go_grown) b1
    replace Bz := below_trans Bz b1
    clear b1
    clear p0_0 p0_1 p1_0 p1_1
    go_wp2_with fail
    go_ret
    have hF := below_trans (c := w1) hB Bz
    exact ⟨rfl, below_trans hF (by go_grown)⟩
  · obtain rfl : t = false := by
      rw [← ht.out]
      refine decide_eq_false fun e => hs ?_
      subst e
      rw [e1, e2]
    have g1 : (b == b') = false := by simpa using hs
    clear e1 e2 hs ht hl hl'
    have HX := h
    have HY := h'
    clear h h'
    obtain ⟨W, hW, x0, x1, hB⟩ := boxes2 w #[.bool b, .slice A l c] 25 #[.bool b', .slice A' l' c'] 25
    have HX0 := Lib.hid x0
    have HX1 := Lib.hid x1
    clear x0 x1
    have Bz := Below.refl W.heap.size W
    have p0_0 := (HX0.out.below Bz).cell 0 (.bool b) rfl
    have p1_0 := (HX1.out.below Bz).cell 0 (.bool b') rfl
    go_enter Tryd.func82, Tryd.ntmps82
    go_wp2_with fail
    rw [← hW]
    clear hW
    go_wp2_with fail
    go_ret
    have hF := below_trans (c := W) hB Bz
    exact ⟨rfl, below_trans hF (by go_grown)⟩
theorem dn_inj {p q : Rat} (h : dn p = dn q) : p.den = q.den := by
  unfold dn at h
  have h1 := p.den_nz
  have h2 := q.den_nz
  split at h <;> split at h <;> omega
set_option maxRecDepth 100000 in
set_option maxHeartbeats 4000000 in
theorem sameRat_rn {w : World} {s s' t t' : Bool} {A A' B B' : Option Addr} {c l c' l' e k e' k' : Nat} {p q : Rat} (h : RN w s A c l s' A' c' l' p) (h' : RN w t B e k t' B' e' k' q) (hl : l ≤ 800000 ∧ l' ≤ 800000) (hk : k ≤ 800000 ∧ k' ≤ 800000) (r : Bool) (hr : Hid (decide (p = q) = r)) :
    Calls Tryd.prog 50 #[.agg #[.bool s, .slice A l c, .bool s', .slice A' l' c'], .agg #[.bool t, .slice B k e, .bool t', .slice B' k' e']] w fun e w' => e = .returned (.bool r) ∧ Below w.heap.size w w' := by
  obtain ⟨hl1, hl2⟩ := hl
  obtain ⟨hk1, hk2⟩ := hk
  by_cases g1 : p.num = q.num
  · have h1 : Hid (decide (p.num = q.num) = true) := Lib.hid (decide_eq_true g1)
    by_cases g2 : dn p = dn q
    · have h2 : Hid (decide (dn p = dn q) = true) := Lib.hid (decide_eq_true g2)
      obtain rfl : r = true := by rw [← hr.out]; exact decide_eq_true (Rat.ext g1 (dn_inj g2))
      clear g1 g2 hr
      have HX := h.n
      have HY := h'.n
      have HXD := h.d
      have HYD := h'.d
      clear h h'
      obtain ⟨W, hW, x0, x1, hB⟩ := boxes2 w #[.bool s, .slice A l c, .bool s', .slice A' l' c'] 27 #[.bool t, .slice B k e, .bool t', .slice B' k' e'] 27
      replace HX := HX.below hB
      replace HXD := HXD.below hB
      replace HY := HY.below hB
      replace HYD := HYD.below hB
      have HX0 := Lib.hid x0
      have HX1 := Lib.hid x1
      clear x0 x1
      have Bz := Below.refl W.heap.size W
      have p0_0 := (HX0.out.below Bz).cell 0 (.bool s) rfl
      have p0_1 := (HX0.out.below Bz).cell 1 (.slice A l c) rfl
      have p1_0 := (HX1.out.below Bz).cell 0 (.bool t) rfl
      have p1_1 := (HX1.out.below Bz).cell 1 (.slice B k e) rfl
      go_enter Tryd.func50, Tryd.ntmps50
      go_wp2_with fail
      rw [← hW]
      clear hW
      go_wp2_with fail
      with_reducible refine (sameInt_j (J.below HX (by go_grown)) (J.below HY (by go_grown)) (by omega) (by omega) true h1).mono ?_
      rintro e w1 ⟨rfl, b1⟩
      replace b1 := below_trans (a := W) (by go_grown) b1
      replace HXD := HXD.below b1
      replace HYD := HYD.below b1
      replace Bz := below_trans Bz b1
      clear b1
      clear p0_0 p0_1 p1_0 p1_1
      have p0_2 := (HX0.out.below Bz).cell 2 (.bool s') rfl
      have p0_3 := (HX0.out.below Bz).cell 3 (.slice A' l' c') rfl
      have p1_2 := (HX1.out.below Bz).cell 2 (.bool t') rfl
      have p1_3 := (HX1.out.below Bz).cell 3 (.slice B' k' e') rfl
      go_wp2_with fail
      with_reducible refine (sameInt_j (J.below HXD (by go_grown)) (J.below HYD (by go_grown)) (by omega) (by omega) true h2).mono ?_
      rintro e w2 ⟨rfl, b2⟩
      replace b2 := below_trans (a := w1) (by go_grown) b2
      replace Bz := below_trans Bz b2
      clear b2
      clear p0_2 p0_3 p1_2 p1_3
      go_wp2_with fail
      go_ret
      have hF := below_trans (c := w2) hB Bz
      exact ⟨rfl, below_trans hF (by go_grown)⟩
    · have h2 : Hid (decide (dn p = dn q) = false) := Lib.hid (decide_eq_false g2)
      obtain rfl : r = false := by rw [← hr.out]; exact decide_eq_false (fun e => g2 (by rw [e]))
      clear g1 g2 hr
      have HX := h.n
      have HY := h'.n
      have HXD := h.d
      have HYD := h'.d
      clear h h'
      obtain ⟨W, hW, x0, x1, hB⟩ := boxes2 w #[.bool s, .slice A l c, .bool s', .slice A' l' c'] 27 #[.bool t, .slice B k e, .bool t', .slice B' k' e'] 27
      replace HX := HX.below hB
      replace HXD := HXD.below hB
      replace HY := HY.below hB
      replace HYD := HYD.below hB
      have HX0 := Lib.hid x0
      have HX1 := Lib.hid x1
      clear x0 x1
      have Bz := Below.refl W.heap.size W
      have p0_0 := (HX0.out.below Bz).cell 0 (.bool s) rfl
      have p0_1 := (HX0.out.below Bz).cell 1 (.slice A l c) rfl
      have p1_0 := (HX1.out.below Bz).cell 0 (.bool t) rfl
      have p1_1 := (HX1.out.below Bz).cell 1 (.slice B k e) rfl
      go_enter Tryd.func50, Tryd.ntmps50
      go_wp2_with fail
      rw [← hW]
      clear hW
      go_wp2_with fail
      with_reducible refine (sameInt_j (J.below HX (by go_grown)) (J.below HY (by go_grown)) (by omega) (by omega) true h1).mono ?_
      rintro e w1 ⟨rfl, b1⟩
      replace b1 := below_trans (a := W) (by go_grown) b1
      replace HXD := HXD.below b1
      replace HYD := HYD.below b1
      replace Bz := below_trans Bz b1
      clear b1
      clear p0_0 p0_1 p1_0 p1_1
      have p0_2 := (HX0.out.below Bz).cell 2 (.bool s') rfl
      have p0_3 := (HX0.out.below Bz).cell 3 (.slice A' l' c') rfl
      have p1_2 := (HX1.out.below Bz).cell 2 (.bool t') rfl
      have p1_3 := (HX1.out.below Bz).cell 3 (.slice B' k' e') rfl
      go_wp2_with fail
      with_reducible refine (sameInt_j (J.below HXD (by go_grown)) (J.below HYD (by go_grown)) (by omega) (by omega) false h2).mono ?_
      rintro e w2 ⟨rfl, b2⟩
      replace b2 := below_trans (a := w1) (by go_grown) b2
      replace Bz := below_trans Bz b2
      clear b2
      clear p0_2 p0_3 p1_2 p1_3
      go_wp2_with fail
      go_ret
      have hF := below_trans (c := w2) hB Bz
      exact ⟨rfl, below_trans hF (by go_grown)⟩
  · have h1 : Hid (decide (p.num = q.num) = false) := Lib.hid (decide_eq_false g1)
    obtain rfl : r = false := by rw [← hr.out]; exact decide_eq_false (fun e => g1 (by rw [e]))
    clear g1 hr
    have HX := h.n
    have HY := h'.n
    have HXD := h.d
    have HYD := h'.d
    clear h h'
    obtain ⟨W, hW, x0, x1, hB⟩ := boxes2 w #[.bool s, .slice A l c, .bool s', .slice A' l' c'] 27 #[.bool t, .slice B k e, .bool t', .slice B' k' e'] 27
    replace HX := HX.below hB
    replace HY := HY.below hB
    have HX0 := Lib.hid x0
    have HX1 := Lib.hid x1
    clear x0 x1
    have Bz := Below.refl W.heap.size W
    have p0_0 := (HX0.out.below Bz).cell 0 (.bool s) rfl
    have p0_1 := (HX0.out.below Bz).cell 1 (.slice A l c) rfl
    have p1_0 := (HX1.out.below Bz).cell 0 (.bool t) rfl
    have p1_1 := (HX1.out.below Bz).cell 1 (.slice B k e) rfl
    go_enter Tryd.func50, Tryd.ntmps50
    go_wp2_with fail
    rw [← hW]
    clear hW
    go_wp2_with fail
    with_reducible refine (sameInt_j (J.below HX (by go_grown)) (J.below HY (by go_grown)) (by omega) (by omega) false h1).mono ?_
    rintro e w1 ⟨rfl, b1⟩
    replace b1 := below_trans (a := W) (by go_grown) b1
    replace Bz := below_trans Bz b1
    clear b1
    clear p0_0 p0_1 p1_0 p1_1
    go_wp2_with fail
    go_ret
    have hF := below_trans (c := w1) hB Bz
    exact ⟨rfl, below_trans hF (by go_grown)⟩
/-- Fractions of two slices in pairs. -/
def sameP (p : Fr × Fr) : Bool := decide (p.1.q = p.2.q)
def sameFrs (L M : List Fr) : Bool := decide (L.length = M.length) && (L.zip M).all sameP
/-- Each one is in its one form. -/
def Ones (w : World) (L : List Fr) : Prop := ∀ x ∈ L, RN w x.s x.A x.c x.l x.s' x.A' x.c' x.l' x.q ∧ x.l ≤ 800000 ∧ x.l' ≤ 800000
theorem Ones.below {w w' : World} {L : List Fr} (h : Ones w L) (hb : Below w.heap.size w w') : Ones w' L := fun x hx => ⟨(h x hx).1.below hb, (h x hx).2⟩
/-- A state of the loop of SameRats. -/
def SR1 (w : World) (Z : List (Fr × Fr)) (n gk : Nat) (s : Value) (wr : World) : Prop := ∃ i : Nat, i ≤ n ∧ n - i = gk ∧ s = .int .i64 (i : Int) ∧ Below w.heap.size w wr ∧ (Z.take i).all sameP = true
set_option maxRecDepth 100000 in
set_option maxHeartbeats 4000000 in
theorem sameRats_rn {w : World} {A A' : Option Addr} {n n' c c' : Nat} {L M : List Fr} (h : Sl Fr.cs 4 w A n c L) (h' : Sl Fr.cs 4 w A' n' c' M) (hx : Hid (Ones w L)) (hy : Hid (Ones w M)) (hn : n ≤ 9223372036854775807) (hn' : n' ≤ 9223372036854775807) (r : Bool) (hr : Hid (sameFrs L M = r)) :
    Calls Tryd.prog 20 #[.slice A n c, .slice A' n' c'] w fun e w' => e = .returned (.bool r) ∧ Below w.heap.size w w' := by
  have H := Lib.hid h
  have H' := Lib.hid h'
  have HLN := Lib.hid h.1
  have HMN := Lib.hid h'.1
  by_cases hnn : n = n'
  · subst hnn
    have g0 : ((n : Int) != (n : Int)) = false := by simp
    have hra : Hid ((L.zip M).all sameP = r) := Lib.hid (by rw [← hr.out]; unfold sameFrs; rw [decide_eq_true (HLN.out.trans HMN.out.symm), Bool.true_and])
    have HZL : Hid ((L.zip M).length = n) := Lib.hid (by rw [List.length_zip, HLN.out, HMN.out]; exact Nat.min_self _)
    have hst : SR1 w (L.zip M) n n (.int .i64 ((0 : Nat) : Int)) w := ⟨0, Nat.zero_le _, rfl, rfl, Below.refl _ _, by simp⟩
    have HST := Lib.hid hst
    clear h h' hst hr
    go_enter Tryd.func20, Tryd.ntmps20
    go_wp2_with fail
    go_loopg [5] n (fun gk s wr => SR1 w (L.zip M) n gk s wr)
    case atStart => exact HST.out
    case round =>
      clear HST
      obtain ⟨i, hi, hgk, rfl, hB, hd⟩ := hrel
      have HGK := Lib.hid hgk
      have HD := Lib.hid hd
      clear hgk hd
      by_cases hlt : i < n
      · obtain ⟨b, off, rfl, hel⟩ := H.out.at Fr.cs_len (by omega) (by omega)
        obtain ⟨b', off', rfl, hel'⟩ := H'.out.at Fr.cs_len (by omega) (by omega)
        obtain ⟨x, ex⟩ : ∃ x, L[i]? = some x := ⟨L[i]'(by rw [HLN.out]; exact hlt), List.getElem?_eq_getElem _⟩
        obtain ⟨y, ey⟩ : ∃ y, M[i]? = some y := ⟨M[i]'(by rw [HMN.out]; exact hlt), List.getElem?_eq_getElem _⟩
        have hnd := hel i x ex
        have hnd' := hel' i y ey
        have HZI : Hid ((L.zip M)[i]? = some (x, y)) := Lib.hid (by rw [List.getElem?_zip_eq_some]; exact ⟨ex, ey⟩)
        have HRX := Lib.hid (hx.out x (List.mem_of_getElem? ex)).1
        have HRY := Lib.hid (hy.out y (List.mem_of_getElem? ey)).1
        have hlx := (hx.out x (List.mem_of_getElem? ex)).2
        have hly := (hy.out y (List.mem_of_getElem? ey)).2
        have i1 : (i : Int) < (n : Int) := by omega
        have i2 : (0 : Int) ≤ (i : Int) := by omega
        clear ex hel ey hel'
        cases hp : decide (x.q = y.q)
        · have HP := Lib.hid hp
          clear hp
          have Bz := Below.refl wr.heap.size wr
          have p50_0 := (hnd.below (below_trans hB Bz)).c0 (u := .bool x.s) rfl
          have p50_1 := (hnd.below (below_trans hB Bz)).at 1 (.slice x.A x.l x.c) rfl
          have p50_2 := (hnd.below (below_trans hB Bz)).at 2 (.bool x.s') rfl
          have p50_3 := (hnd.below (below_trans hB Bz)).at 3 (.slice x.A' x.l' x.c') rfl
          have p51_0 := (hnd'.below (below_trans hB Bz)).c0 (u := .bool y.s) rfl
          have p51_1 := (hnd'.below (below_trans hB Bz)).at 1 (.slice y.A y.l y.c) rfl
          have p51_2 := (hnd'.below (below_trans hB Bz)).at 2 (.bool y.s') rfl
          have p51_3 := (hnd'.below (below_trans hB Bz)).at 3 (.slice y.A' y.l' y.c') rfl
          go_wp2_with fail
          (try simp only [List.append_eq, List.cons_append, List.nil_append])
          refine wp_region_plan (.pure 0 (.pure 1 (.pure 2 (.take 3 (.pure 4 (.pure 5 (.pure 6 (.take 7 (.only 8 (.pure 9 .done)))))))))) [] (fun w' => w'.cell? ⟨b, off + i * 4, none⟩ = some (.bool x.s) ∧ w'.cell? ⟨b, off + i * 4 + 1, none⟩ = some (.slice x.A x.l x.c) ∧ w'.cell? ⟨b, off + i * 4 + 2, none⟩ = some (.bool x.s') ∧ w'.cell? ⟨b, off + i * 4 + 3, none⟩ = some (.slice x.A' x.l' x.c') ∧ w'.cell? ⟨b', off' + i * 4, none⟩ = some (.bool y.s) ∧ w'.cell? ⟨b', off' + i * 4 + 1, none⟩ = some (.slice y.A y.l y.c) ∧ w'.cell? ⟨b', off' + i * 4 + 2, none⟩ = some (.bool y.s') ∧ w'.cell? ⟨b', off' + i * 4 + 3, none⟩ = some (.slice y.A' y.l' y.c')) (by kernel_rfl) (by kernel_rfl) ⟨p50_0, p50_1, p50_2, p50_3, p51_0, p51_1, p51_2, p51_3⟩ ?_
          refine wpPlan_pure (o := ⟨some 17, _, _, _, _, _⟩) (v := ?_) rfl rfl (fun w' => ?_) ?_
          rotate_left
          · go_simp <;> with_reducible rfl
          try simp only [Act.put, List.setIfInBounds_toArray, List.set_cons_zero, List.set_cons_succ]
          refine wpPlan_pure (o := ⟨some 18, _, _, _, _, _⟩) (v := ?_) rfl rfl (fun w' => ?_) ?_
          rotate_left
          · go_simp <;> with_reducible rfl
          try simp only [Act.put, List.setIfInBounds_toArray, List.set_cons_zero, List.set_cons_succ]
          refine wpPlan_pure (o := ⟨some 19, _, _, _, _, _⟩) (v := ?_) rfl rfl (fun w' => ?_) ?_
          rotate_left
          · go_simp <;> with_reducible rfl
          try simp only [Act.put, List.setIfInBounds_toArray, List.set_cons_zero, List.set_cons_succ]
          refine wpPlan_take (o := ⟨some 20, _, _, _, _, _⟩) (v := ?_) rfl rfl (fun w' hS => ?_) ?_
          rotate_left
          · obtain ⟨p50_0, p50_1, p50_2, p50_3, p51_0, p51_1, p51_2, p51_3⟩ := hS; go_simp <;> with_reducible rfl
          try simp only [Act.put, List.setIfInBounds_toArray, List.set_cons_zero, List.set_cons_succ]
          refine wpPlan_pure (o := ⟨some 21, _, _, _, _, _⟩) (v := ?_) rfl rfl (fun w' => ?_) ?_
          rotate_left
          · go_simp <;> with_reducible rfl
          try simp only [Act.put, List.setIfInBounds_toArray, List.set_cons_zero, List.set_cons_succ]
          refine wpPlan_pure (o := ⟨some 22, _, _, _, _, _⟩) (v := ?_) rfl rfl (fun w' => ?_) ?_
          rotate_left
          · go_simp <;> with_reducible rfl
          try simp only [Act.put, List.setIfInBounds_toArray, List.set_cons_zero, List.set_cons_succ]
          refine wpPlan_pure (o := ⟨some 23, _, _, _, _, _⟩) (v := ?_) rfl rfl (fun w' => ?_) ?_
          rotate_left
          · go_simp <;> with_reducible rfl
          try simp only [Act.put, List.setIfInBounds_toArray, List.set_cons_zero, List.set_cons_succ]
          refine wpPlan_take (o := ⟨some 24, _, _, _, _, _⟩) (v := ?_) rfl rfl (fun w' hS => ?_) ?_
          rotate_left
          · obtain ⟨p50_0, p50_1, p50_2, p50_3, p51_0, p51_1, p51_2, p51_3⟩ := hS; go_simp <;> with_reducible rfl
          try simp only [Act.put, List.setIfInBounds_toArray, List.set_cons_zero, List.set_cons_succ]
          refine wpPlan_call (o := ⟨some 25, _, _, _, _, _⟩) rfl rfl (fun K hK => ?_)
          go_simp
          with_reducible refine (sameRat_rn (HRX.out.below (below_trans hB (below_trans (b := wr) Bz (by go_grown)))) (HRY.out.below (below_trans hB (below_trans (b := wr) Bz (by go_grown)))) hlx hly false HP).mono ?_
          rintro e w1 ⟨rfl, b1⟩
          replace b1 := below_trans (a := wr) (by go_grown) b1
          replace Bz := below_trans Bz b1
          clear b1
          clear p50_0 p50_1 p50_2 p50_3 p51_0 p51_1 p51_2 p51_3
          have p50_0 := (hnd.below (below_trans hB Bz)).c0 (u := .bool x.s) rfl
          have p50_1 := (hnd.below (below_trans hB Bz)).at 1 (.slice x.A x.l x.c) rfl
          have p50_2 := (hnd.below (below_trans hB Bz)).at 2 (.bool x.s') rfl
          have p50_3 := (hnd.below (below_trans hB Bz)).at 3 (.slice x.A' x.l' x.c') rfl
          have p51_0 := (hnd'.below (below_trans hB Bz)).c0 (u := .bool y.s) rfl
          have p51_1 := (hnd'.below (below_trans hB Bz)).at 1 (.slice y.A y.l y.c) rfl
          have p51_2 := (hnd'.below (below_trans hB Bz)).at 2 (.bool y.s') rfl
          have p51_3 := (hnd'.below (below_trans hB Bz)).at 3 (.slice y.A' y.l' y.c') rfl
          refine hK.out _ _ ⟨p50_0, p50_1, p50_2, p50_3, p51_0, p51_1, p51_2, p51_3⟩ (fun _ => ?_)
          try simp only [Act.put, List.setIfInBounds_toArray, List.set_cons_zero, List.set_cons_succ]
          clear hK K
          refine wpPlan_pure (o := ⟨some 26, _, _, _, _, _⟩) (v := ?_) rfl rfl (fun w' => ?_) ?_
          rotate_left
          · go_simp <;> with_reducible rfl
          try simp only [Act.put, List.setIfInBounds_toArray, List.set_cons_zero, List.set_cons_succ]
          refine wpPlan_done ?_
          go_wp2_with fail
          go_ret
          have hF := below_trans (c := w1) hB Bz
          obtain rfl : r = false := by rw [← hra.out]; exact all_no HZI.out HP.out
          exact ⟨rfl, below_trans (below_trans hB Bz) (by go_grown)⟩
        · have HP := Lib.hid hp
          clear hp
          have Bz := Below.refl wr.heap.size wr
          have p50_0 := (hnd.below (below_trans hB Bz)).c0 (u := .bool x.s) rfl
          have p50_1 := (hnd.below (below_trans hB Bz)).at 1 (.slice x.A x.l x.c) rfl
          have p50_2 := (hnd.below (below_trans hB Bz)).at 2 (.bool x.s') rfl
          have p50_3 := (hnd.below (below_trans hB Bz)).at 3 (.slice x.A' x.l' x.c') rfl
          have p51_0 := (hnd'.below (below_trans hB Bz)).c0 (u := .bool y.s) rfl
          have p51_1 := (hnd'.below (below_trans hB Bz)).at 1 (.slice y.A y.l y.c) rfl
          have p51_2 := (hnd'.below (below_trans hB Bz)).at 2 (.bool y.s') rfl
          have p51_3 := (hnd'.below (below_trans hB Bz)).at 3 (.slice y.A' y.l' y.c') rfl
          go_wp2_with fail
          (try simp only [List.append_eq, List.cons_append, List.nil_append])
          refine wp_region_plan (.pure 0 (.pure 1 (.pure 2 (.take 3 (.pure 4 (.pure 5 (.pure 6 (.take 7 (.only 8 (.pure 9 .done)))))))))) [] (fun w' => w'.cell? ⟨b, off + i * 4, none⟩ = some (.bool x.s) ∧ w'.cell? ⟨b, off + i * 4 + 1, none⟩ = some (.slice x.A x.l x.c) ∧ w'.cell? ⟨b, off + i * 4 + 2, none⟩ = some (.bool x.s') ∧ w'.cell? ⟨b, off + i * 4 + 3, none⟩ = some (.slice x.A' x.l' x.c') ∧ w'.cell? ⟨b', off' + i * 4, none⟩ = some (.bool y.s) ∧ w'.cell? ⟨b', off' + i * 4 + 1, none⟩ = some (.slice y.A y.l y.c) ∧ w'.cell? ⟨b', off' + i * 4 + 2, none⟩ = some (.bool y.s') ∧ w'.cell? ⟨b', off' + i * 4 + 3, none⟩ = some (.slice y.A' y.l' y.c')) (by kernel_rfl) (by kernel_rfl) ⟨p50_0, p50_1, p50_2, p50_3, p51_0, p51_1, p51_2, p51_3⟩ ?_
          refine wpPlan_pure (o := ⟨some 17, _, _, _, _, _⟩) (v := ?_) rfl rfl (fun w' => ?_) ?_
          rotate_left
          · go_simp <;> with_reducible rfl
          try simp only [Act.put, List.setIfInBounds_toArray, List.set_cons_zero, List.set_cons_succ]
          refine wpPlan_pure (o := ⟨some 18, _, _, _, _, _⟩) (v := ?_) rfl rfl (fun w' => ?_) ?_
          rotate_left
          · go_simp <;> with_reducible rfl
          try simp only [Act.put, List.setIfInBounds_toArray, List.set_cons_zero, List.set_cons_succ]
          refine wpPlan_pure (o := ⟨some 19, _, _, _, _, _⟩) (v := ?_) rfl rfl (fun w' => ?_) ?_
          rotate_left
          · go_simp <;> with_reducible rfl
          try simp only [Act.put, List.setIfInBounds_toArray, List.set_cons_zero, List.set_cons_succ]
          refine wpPlan_take (o := ⟨some 20, _, _, _, _, _⟩) (v := ?_) rfl rfl (fun w' hS => ?_) ?_
          rotate_left
          · obtain ⟨p50_0, p50_1, p50_2, p50_3, p51_0, p51_1, p51_2, p51_3⟩ := hS; go_simp <;> with_reducible rfl
          try simp only [Act.put, List.setIfInBounds_toArray, List.set_cons_zero, List.set_cons_succ]
          refine wpPlan_pure (o := ⟨some 21, _, _, _, _, _⟩) (v := ?_) rfl rfl (fun w' => ?_) ?_
          rotate_left
          · go_simp <;> with_reducible rfl
          try simp only [Act.put, List.setIfInBounds_toArray, List.set_cons_zero, List.set_cons_succ]
          refine wpPlan_pure (o := ⟨some 22, _, _, _, _, _⟩) (v := ?_) rfl rfl (fun w' => ?_) ?_
          rotate_left
          · go_simp <;> with_reducible rfl
          try simp only [Act.put, List.setIfInBounds_toArray, List.set_cons_zero, List.set_cons_succ]
          refine wpPlan_pure (o := ⟨some 23, _, _, _, _, _⟩) (v := ?_) rfl rfl (fun w' => ?_) ?_
          rotate_left
          · go_simp <;> with_reducible rfl
          try simp only [Act.put, List.setIfInBounds_toArray, List.set_cons_zero, List.set_cons_succ]
          refine wpPlan_take (o := ⟨some 24, _, _, _, _, _⟩) (v := ?_) rfl rfl (fun w' hS => ?_) ?_
          rotate_left
          · obtain ⟨p50_0, p50_1, p50_2, p50_3, p51_0, p51_1, p51_2, p51_3⟩ := hS; go_simp <;> with_reducible rfl
          try simp only [Act.put, List.setIfInBounds_toArray, List.set_cons_zero, List.set_cons_succ]
          refine wpPlan_call (o := ⟨some 25, _, _, _, _, _⟩) rfl rfl (fun K hK => ?_)
          go_simp
          with_reducible refine (sameRat_rn (HRX.out.below (below_trans hB (below_trans (b := wr) Bz (by go_grown)))) (HRY.out.below (below_trans hB (below_trans (b := wr) Bz (by go_grown)))) hlx hly true HP).mono ?_
          rintro e w1 ⟨rfl, b1⟩
          replace b1 := below_trans (a := wr) (by go_grown) b1
          replace Bz := below_trans Bz b1
          clear b1
          clear p50_0 p50_1 p50_2 p50_3 p51_0 p51_1 p51_2 p51_3
          have p50_0 := (hnd.below (below_trans hB Bz)).c0 (u := .bool x.s) rfl
          have p50_1 := (hnd.below (below_trans hB Bz)).at 1 (.slice x.A x.l x.c) rfl
          have p50_2 := (hnd.below (below_trans hB Bz)).at 2 (.bool x.s') rfl
          have p50_3 := (hnd.below (below_trans hB Bz)).at 3 (.slice x.A' x.l' x.c') rfl
          have p51_0 := (hnd'.below (below_trans hB Bz)).c0 (u := .bool y.s) rfl
          have p51_1 := (hnd'.below (below_trans hB Bz)).at 1 (.slice y.A y.l y.c) rfl
          have p51_2 := (hnd'.below (below_trans hB Bz)).at 2 (.bool y.s') rfl
          have p51_3 := (hnd'.below (below_trans hB Bz)).at 3 (.slice y.A' y.l' y.c') rfl
          refine hK.out _ _ ⟨p50_0, p50_1, p50_2, p50_3, p51_0, p51_1, p51_2, p51_3⟩ (fun _ => ?_)
          try simp only [Act.put, List.setIfInBounds_toArray, List.set_cons_zero, List.set_cons_succ]
          clear hK K
          refine wpPlan_pure (o := ⟨some 26, _, _, _, _, _⟩) (v := ?_) rfl rfl (fun w' => ?_) ?_
          rotate_left
          · go_simp <;> with_reducible rfl
          try simp only [Act.put, List.setIfInBounds_toArray, List.set_cons_zero, List.set_cons_succ]
          refine wpPlan_done ?_
          go_wp2_with fail
          go_roundg (n - (i + 1))
          case measure => have := HGK.out; omega
          case rel => exact ⟨i + 1, by omega, rfl, by go_num, below_trans (below_trans hB Bz) (by go_grown), take_all HD.out HZI.out HP.out⟩
      · obtain rfl : i = n := by omega
        have i1 : ¬ (i : Int) < (i : Int) := by omega
        obtain rfl : r = true := by rw [← hra.out]; exact all_yes HZL.out HD.out
        go_wp2_with fail
        go_ret
        exact ⟨rfl, hB⟩
  · have g0 : ((n : Int) != (n' : Int)) = true := by simp; omega
    obtain rfl : r = false := by rw [← hr.out]; unfold sameFrs; rw [decide_eq_false (fun e => hnn (by rw [← HLN.out, ← HMN.out, e])), Bool.false_and]
    clear h h' hr
    go_enter Tryd.func20, Tryd.ntmps20
    go_wp2_with fail
    go_ret
    exact ⟨rfl, Below.refl _ _⟩
end Go.Proofs.YtionhpangenhnaaDoor
