/-
  Is a vector in its one form? sparse.Right. Written by wip/gen/sh2.py.
-/
import Derived.Test.YtionhpangenhnaaDoorRow
namespace Go.Proofs.YtionhpangenhnaaDoor
open Go.RowKit Tw

/-- A state of the loop of Right. -/
def RT1 (w : World) (L : List Tm) (n : Int) (len gk : Nat) (s : Value) (wr : World) : Prop := ∃ i : Nat, i ≤ len ∧ len - i = gk ∧ s = .int .i64 (i : Int) ∧ Below w.heap.size w wr ∧ ∀ j, j < i → rightAt L n j = true
theorem rightB_true {L : List Tm} {n : Int} (h : ∀ j, j < L.length → rightAt L n j = true) : rightB L n = true := by
  unfold rightB; rw [List.all_eq_true]; intro j hj; exact h j (List.mem_range.1 hj)
theorem rightB_false {L : List Tm} {n : Int} {i : Nat} (hi : i < L.length) (h : rightAt L n i = false) : rightB L n = false := by
  unfold rightB; rw [List.all_eq_false]; exact ⟨i, List.mem_range.2 hi, by rw [h]; simp⟩
set_option maxHeartbeats 8000000 in
set_option maxRecDepth 100000 in
theorem right_q {w : World} {A : Option Addr} {len c m : Nat} {L : List Tm} {n : Int} (h : Sl Tm.cs 5 w A len c L) (hok : ∀ t ∈ L, FrOk w m t.x) (hm : m ≤ 20000) (hlen : len ≤ 1000000000) (r : Bool) (hr : Hid (rightB L n = r)) (hT : Hid (Tab w)) :
    Calls Tryd.prog 120 #[.slice A len c, .int .i64 n] w fun e w' => e = .returned (.bool r) ∧ Below w.heap.size w w' := by
  have H := Lib.hid h
  have HOK := Lib.hid hok
  have HLN := Lib.hid h.1
  have hst : RT1 w L n len len (.int .i64 ((0 : Nat) : Int)) w := ⟨0, Nat.zero_le _, rfl, rfl, Below.refl _ _, fun j hj => by omega⟩
  have HST := Lib.hid hst
  clear h hok hst
  go_enter Tryd.func120, Tryd.ntmps120
  go_wp2_with fail
  go_loopg [9] len (fun gk s wr => RT1 w L n len gk s wr)
  case atStart => exact HST.out
  case round =>
    clear HST
    obtain ⟨i, hi, hgk, rfl, hB, hd⟩ := hrel
    have HGK := Lib.hid hgk
    have HD := Lib.hid hd
    clear hgk hd
    by_cases hlt : i < len
    · obtain ⟨b, off, rfl, hel⟩ := H.out.at Tm.cs_len (by omega) (by omega)
      obtain ⟨t, ht⟩ : ∃ t, L[i]? = some t := ⟨L[i]'(by rw [HLN.out]; exact hlt), List.getElem?_eq_getElem _⟩
      have hnd := hel i t ht
      have hfr := HOK.out t (List.mem_of_getElem? ht)
      have hfx := hfr.r
      have HTI := Lib.hid ht
      replace hfr := hfr.below hB
      replace hfx := hfx.below hB
      have i1 : (i : Int) < (len : Int) := by omega
      have i2 : (0 : Int) ≤ (i : Int) := by omega
      have HEL := Lib.hid hel
      obtain ⟨sg, HSG⟩ : ∃ sg, Hid (t.x.q.num.sign = sg) := ⟨_, Lib.hid rfl⟩
      obtain ⟨ex, HEX⟩ : ∃ ex, Hid (t.x.ex = ex) := ⟨_, Lib.hid rfl⟩
      clear ht hel
      by_cases c1 : t.at_ < 0
      · have g1 : decide (t.at_ < 0) = true := by simpa using c1
        obtain rfl : r = false := by rw [← hr.out]; exact rightB_false (by rw [HLN.out]; exact hlt) (by unfold rightAt; rw [HTI.out]; simp; omega)
        clear c1
        have Bz := Below.refl wr.heap.size wr
        have p50_0 := (hnd.below (below_trans hB Bz)).c0 (u := .int .i64 t.at_) rfl
        have p50_1 := (hnd.below (below_trans hB Bz)).at 1 (.bool t.x.s) rfl
        have p50_2 := (hnd.below (below_trans hB Bz)).at 2 (.slice t.x.A t.x.l t.x.c) rfl
        have p50_3 := (hnd.below (below_trans hB Bz)).at 3 (.bool t.x.s') rfl
        have p50_4 := (hnd.below (below_trans hB Bz)).at 4 (.slice t.x.A' t.x.l' t.x.c') rfl
        go_upto_region 4 with (fail)
        obtain ⟨V1, hW, x0, hN⟩ := boxes1 wr #[.int .i64 t.at_, .bool t.x.s, .slice t.x.A t.x.l t.x.c, .bool t.x.s', .slice t.x.A' t.x.l' t.x.c'] 81
        rw [← hW]
        clear hW
        obtain ⟨v0, hb0⟩ : ∃ b, b = wr.heap.size := ⟨_, rfl⟩
        rw [← hb0] at x0 ⊢
        have ow_0 : w.heap.size ≤ v0 := by have := hB.size; have := Bz.size; omega
        replace hB := below_trans (below_trans hB Bz) hN
        have HX0 := Lib.hid x0
        clear x0 hN Bz hb0
        have Bz := Below.refl V1.heap.size V1
        clear p50_0 p50_1 p50_2 p50_3 p50_4
        have p0_0 := (HX0.out.below Bz).cell 0 (.int .i64 t.at_) rfl
        go_wp2_with fail
        go_ret
        have hF := below_trans (c := V1) hB Bz
        exact ⟨rfl, below_trans (below_trans hB Bz) (by go_grown)⟩
      · have g1 : decide (t.at_ < 0) = false := by simp; omega
        by_cases c2 : n ≤ t.at_
        · have g2 : decide (n ≤ t.at_) = true := by simpa using c2
          obtain rfl : r = false := by rw [← hr.out]; exact rightB_false (by rw [HLN.out]; exact hlt) (by unfold rightAt; rw [HTI.out]; simp; omega)
          clear c1 c2
          have Bz := Below.refl wr.heap.size wr
          have p50_0 := (hnd.below (below_trans hB Bz)).c0 (u := .int .i64 t.at_) rfl
          have p50_1 := (hnd.below (below_trans hB Bz)).at 1 (.bool t.x.s) rfl
          have p50_2 := (hnd.below (below_trans hB Bz)).at 2 (.slice t.x.A t.x.l t.x.c) rfl
          have p50_3 := (hnd.below (below_trans hB Bz)).at 3 (.bool t.x.s') rfl
          have p50_4 := (hnd.below (below_trans hB Bz)).at 4 (.slice t.x.A' t.x.l' t.x.c') rfl
          go_upto_region 4 with (fail)
          obtain ⟨V1, hW, x0, hN⟩ := boxes1 wr #[.int .i64 t.at_, .bool t.x.s, .slice t.x.A t.x.l t.x.c, .bool t.x.s', .slice t.x.A' t.x.l' t.x.c'] 81
          rw [← hW]
          clear hW
          obtain ⟨v0, hb0⟩ : ∃ b, b = wr.heap.size := ⟨_, rfl⟩
          rw [← hb0] at x0 ⊢
          have ow_0 : w.heap.size ≤ v0 := by have := hB.size; have := Bz.size; omega
          replace hB := below_trans (below_trans hB Bz) hN
          have HX0 := Lib.hid x0
          clear x0 hN Bz hb0
          have Bz := Below.refl V1.heap.size V1
          clear p50_0 p50_1 p50_2 p50_3 p50_4
          have p0_0 := (HX0.out.below Bz).cell 0 (.int .i64 t.at_) rfl
          go_wp2_with fail
          go_ret
          have hF := below_trans (c := V1) hB Bz
          exact ⟨rfl, below_trans (below_trans hB Bz) (by go_grown)⟩
        · have g2 : decide (n ≤ t.at_) = false := by simp; omega
          rcases Nat.eq_zero_or_pos i with rfl | hi0
          · replace hnd : ElA w b off t.cs := by simpa using hnd
            have a0 : rightAt L n 0 = (decide (t.x.q ≠ 0) && t.x.ex) := by
              have f1 : decide (0 ≤ t.at_) = true := by simp; omega
              have f2 : decide (t.at_ < n) = true := by simp; omega
              unfold rightAt; rw [HTI.out]; simp only [f1, f2, Bool.true_and]
            have A0 := Lib.hid a0
            clear c1 c2 a0 HEL
            by_cases c4 : sg = 0
            · have g4 : (sg == 0) = true := by simpa using c4
              obtain rfl : r = false := by rw [← hr.out]; exact rightB_false (by rw [HLN.out]; exact hlt) (by rw [A0.out]; have := HSG.out; rw [c4] at this; simp [Rat.num_eq_zero.1 (Int.sign_eq_zero_iff_zero.1 this)])
              clear c4
              have Bz := Below.refl wr.heap.size wr
              have p50_0 := (hnd.below (below_trans hB Bz)).c0 (u := .int .i64 t.at_) rfl
              have p50_1 := (hnd.below (below_trans hB Bz)).at 1 (.bool t.x.s) rfl
              have p50_2 := (hnd.below (below_trans hB Bz)).at 2 (.slice t.x.A t.x.l t.x.c) rfl
              have p50_3 := (hnd.below (below_trans hB Bz)).at 3 (.bool t.x.s') rfl
              have p50_4 := (hnd.below (below_trans hB Bz)).at 4 (.slice t.x.A' t.x.l' t.x.c') rfl
              go_upto_region 4 with (fail)
              obtain ⟨V1, hW, x0, hN⟩ := boxes1 wr #[.int .i64 t.at_, .bool t.x.s, .slice t.x.A t.x.l t.x.c, .bool t.x.s', .slice t.x.A' t.x.l' t.x.c'] 81
              rw [← hW]
              clear hW
              obtain ⟨v0, hb0⟩ : ∃ b, b = wr.heap.size := ⟨_, rfl⟩
              rw [← hb0] at x0 ⊢
              have ow_0 : w.heap.size ≤ v0 := by have := hB.size; have := Bz.size; omega
              replace hfx := hfx.below hN
              replace hB := below_trans (below_trans hB Bz) hN
              have HX0 := Lib.hid x0
              clear x0 hN Bz hb0
              have Bz := Below.refl V1.heap.size V1
              clear p50_0 p50_1 p50_2 p50_3 p50_4
              have p0_0 := (HX0.out.below Bz).cell 0 (.int .i64 t.at_) rfl
              have p0_1 := (HX0.out.below Bz).cell 1 (.bool t.x.s) rfl
              have p0_2 := (HX0.out.below Bz).cell 2 (.slice t.x.A t.x.l t.x.c) rfl
              have p0_3 := (HX0.out.below Bz).cell 3 (.bool t.x.s') rfl
              have p0_4 := (HX0.out.below Bz).cell 4 (.slice t.x.A' t.x.l' t.x.c') rfl
              go_wp2_with fail
              (try simp only [List.append_eq, List.cons_append, List.nil_append])
              refine wp_region_plan (.pure 0 (.pure 1 (.pure 2 (.pure 3 (.pure 4 (.pure 5 (.pure 6 (.pure 7 (.take 8 (.pure 9 (.take 10 (.pure 11 (.pure 12 (.pure 13 .done)))))))))))))) [] (fun w' => True) (by kernel_rfl) (by kernel_rfl) trivial ?_
              refine wpPlan_pure (o := ⟨some 25, _, _, _, _, _⟩) (v := ?_) rfl rfl (fun w' => ?_) ?_
              rotate_left
              · go_simp <;> with_reducible rfl
              try simp only [Act.put, List.setIfInBounds_toArray, List.set_cons_zero, List.set_cons_succ]
              refine wpPlan_pure (o := ⟨some 26, _, _, _, _, _⟩) (v := ?_) rfl rfl (fun w' => ?_) ?_
              rotate_left
              · go_simp <;> with_reducible rfl
              try simp only [Act.put, List.setIfInBounds_toArray, List.set_cons_zero, List.set_cons_succ]
              refine wpPlan_pure (o := ⟨some 27, _, _, _, _, _⟩) (v := ?_) rfl rfl (fun w' => ?_) ?_
              rotate_left
              · go_simp <;> with_reducible rfl
              try simp only [Act.put, List.setIfInBounds_toArray, List.set_cons_zero, List.set_cons_succ]
              refine wpPlan_pskip (o := ⟨some 28, _, _, _, _, _⟩) rfl rfl ?_
              try simp only [Act.put, List.setIfInBounds_toArray, List.set_cons_zero, List.set_cons_succ]
              refine wpPlan_pskip (o := ⟨some 29, _, _, _, _, _⟩) rfl rfl ?_
              try simp only [Act.put, List.setIfInBounds_toArray, List.set_cons_zero, List.set_cons_succ]
              refine wpPlan_pskip (o := ⟨some 30, _, _, _, _, _⟩) rfl rfl ?_
              try simp only [Act.put, List.setIfInBounds_toArray, List.set_cons_zero, List.set_cons_succ]
              refine wpPlan_pskip (o := ⟨some 31, _, _, _, _, _⟩) rfl rfl ?_
              try simp only [Act.put, List.setIfInBounds_toArray, List.set_cons_zero, List.set_cons_succ]
              refine wpPlan_pskip (o := ⟨some 32, _, _, _, _, _⟩) rfl rfl ?_
              try simp only [Act.put, List.setIfInBounds_toArray, List.set_cons_zero, List.set_cons_succ]
              refine wpPlan_skip (o := ⟨some 33, _, _, _, _, _⟩) rfl rfl ?_
              try simp only [Act.put, List.setIfInBounds_toArray, List.set_cons_zero, List.set_cons_succ]
              refine wpPlan_pskip (o := ⟨some 34, _, _, _, _, _⟩) rfl rfl ?_
              try simp only [Act.put, List.setIfInBounds_toArray, List.set_cons_zero, List.set_cons_succ]
              refine wpPlan_skip (o := ⟨some 35, _, _, _, _, _⟩) rfl rfl ?_
              try simp only [Act.put, List.setIfInBounds_toArray, List.set_cons_zero, List.set_cons_succ]
              refine wpPlan_pskip (o := ⟨some 36, _, _, _, _, _⟩) rfl rfl ?_
              try simp only [Act.put, List.setIfInBounds_toArray, List.set_cons_zero, List.set_cons_succ]
              refine wpPlan_pure (o := ⟨some 37, _, _, _, _, _⟩) (v := ?_) rfl rfl (fun w' => ?_) ?_
              rotate_left
              · go_simp <;> with_reducible rfl
              try simp only [Act.put, List.setIfInBounds_toArray, List.set_cons_zero, List.set_cons_succ]
              refine wpPlan_pure (o := ⟨some 24, _, _, _, _, _⟩) (v := ?_) rfl rfl (fun w' => ?_) ?_
              rotate_left
              · go_simp <;> with_reducible rfl
              try simp only [Act.put, List.setIfInBounds_toArray, List.set_cons_zero, List.set_cons_succ]
              refine wpPlan_done ?_
              go_wp2_with fail
              with_reducible refine (sign_q (R.below hfx (by go_grown)) (by omega) sg HSG).mono ?_
              rintro e w1 ⟨rfl, b1⟩
              replace b1 := below_trans (a := V1) (by go_grown) b1
              replace Bz := below_trans Bz b1
              clear b1
              clear p0_0 p0_1 p0_2 p0_3 p0_4
              go_wp2_with fail
              go_ret
              have hF := below_trans (c := w1) hB Bz
              exact ⟨rfl, below_trans (below_trans hB Bz) (by go_grown)⟩
            · have g4 : (sg == 0) = false := by simpa using c4
              have nz : t.x.q ≠ 0 := fun e => c4 (by rw [← HSG.out, e]; rfl)
              have NZ := Lib.hid nz
              clear c4 nz
              cases ex
              · obtain rfl : r = false := by rw [← hr.out]; exact rightB_false (by rw [HLN.out]; exact hlt) (by rw [A0.out, HEX.out]; simp)
                have Bz := Below.refl wr.heap.size wr
                have p50_0 := (hnd.below (below_trans hB Bz)).c0 (u := .int .i64 t.at_) rfl
                have p50_1 := (hnd.below (below_trans hB Bz)).at 1 (.bool t.x.s) rfl
                have p50_2 := (hnd.below (below_trans hB Bz)).at 2 (.slice t.x.A t.x.l t.x.c) rfl
                have p50_3 := (hnd.below (below_trans hB Bz)).at 3 (.bool t.x.s') rfl
                have p50_4 := (hnd.below (below_trans hB Bz)).at 4 (.slice t.x.A' t.x.l' t.x.c') rfl
                go_upto_region 4 with (fail)
                obtain ⟨V1, hW, x0, hN⟩ := boxes1 wr #[.int .i64 t.at_, .bool t.x.s, .slice t.x.A t.x.l t.x.c, .bool t.x.s', .slice t.x.A' t.x.l' t.x.c'] 81
                rw [← hW]
                clear hW
                obtain ⟨v0, hb0⟩ : ∃ b, b = wr.heap.size := ⟨_, rfl⟩
                rw [← hb0] at x0 ⊢
                have ow_0 : w.heap.size ≤ v0 := by have := hB.size; have := Bz.size; omega
                replace hfr := hfr.below hN
                replace hfx := hfx.below hN
                replace hB := below_trans (below_trans hB Bz) hN
                have HX0 := Lib.hid x0
                clear x0 hN Bz hb0
                have Bz := Below.refl V1.heap.size V1
                clear p50_0 p50_1 p50_2 p50_3 p50_4
                have p0_0 := (HX0.out.below Bz).cell 0 (.int .i64 t.at_) rfl
                have p0_1 := (HX0.out.below Bz).cell 1 (.bool t.x.s) rfl
                have p0_2 := (HX0.out.below Bz).cell 2 (.slice t.x.A t.x.l t.x.c) rfl
                have p0_3 := (HX0.out.below Bz).cell 3 (.bool t.x.s') rfl
                have p0_4 := (HX0.out.below Bz).cell 4 (.slice t.x.A' t.x.l' t.x.c') rfl
                go_wp2_with fail
                (try simp only [List.append_eq, List.cons_append, List.nil_append])
                refine wp_region_plan (.pure 0 (.pure 1 (.pure 2 (.pure 3 (.pure 4 (.pure 5 (.pure 6 (.pure 7 (.take 8 (.pure 9 (.take 10 (.pure 11 (.pure 12 (.pure 13 .done)))))))))))))) [] (fun w' => True) (by kernel_rfl) (by kernel_rfl) trivial ?_
                refine wpPlan_pure (o := ⟨some 25, _, _, _, _, _⟩) (v := ?_) rfl rfl (fun w' => ?_) ?_
                rotate_left
                · go_simp <;> with_reducible rfl
                try simp only [Act.put, List.setIfInBounds_toArray, List.set_cons_zero, List.set_cons_succ]
                refine wpPlan_pure (o := ⟨some 26, _, _, _, _, _⟩) (v := ?_) rfl rfl (fun w' => ?_) ?_
                rotate_left
                · go_simp <;> with_reducible rfl
                try simp only [Act.put, List.setIfInBounds_toArray, List.set_cons_zero, List.set_cons_succ]
                refine wpPlan_pure (o := ⟨some 27, _, _, _, _, _⟩) (v := ?_) rfl rfl (fun w' => ?_) ?_
                rotate_left
                · go_simp <;> with_reducible rfl
                try simp only [Act.put, List.setIfInBounds_toArray, List.set_cons_zero, List.set_cons_succ]
                refine wpPlan_pskip (o := ⟨some 28, _, _, _, _, _⟩) rfl rfl ?_
                try simp only [Act.put, List.setIfInBounds_toArray, List.set_cons_zero, List.set_cons_succ]
                refine wpPlan_pskip (o := ⟨some 29, _, _, _, _, _⟩) rfl rfl ?_
                try simp only [Act.put, List.setIfInBounds_toArray, List.set_cons_zero, List.set_cons_succ]
                refine wpPlan_pskip (o := ⟨some 30, _, _, _, _, _⟩) rfl rfl ?_
                try simp only [Act.put, List.setIfInBounds_toArray, List.set_cons_zero, List.set_cons_succ]
                refine wpPlan_pskip (o := ⟨some 31, _, _, _, _, _⟩) rfl rfl ?_
                try simp only [Act.put, List.setIfInBounds_toArray, List.set_cons_zero, List.set_cons_succ]
                refine wpPlan_pskip (o := ⟨some 32, _, _, _, _, _⟩) rfl rfl ?_
                try simp only [Act.put, List.setIfInBounds_toArray, List.set_cons_zero, List.set_cons_succ]
                refine wpPlan_skip (o := ⟨some 33, _, _, _, _, _⟩) rfl rfl ?_
                try simp only [Act.put, List.setIfInBounds_toArray, List.set_cons_zero, List.set_cons_succ]
                refine wpPlan_pskip (o := ⟨some 34, _, _, _, _, _⟩) rfl rfl ?_
                try simp only [Act.put, List.setIfInBounds_toArray, List.set_cons_zero, List.set_cons_succ]
                refine wpPlan_skip (o := ⟨some 35, _, _, _, _, _⟩) rfl rfl ?_
                try simp only [Act.put, List.setIfInBounds_toArray, List.set_cons_zero, List.set_cons_succ]
                refine wpPlan_pskip (o := ⟨some 36, _, _, _, _, _⟩) rfl rfl ?_
                try simp only [Act.put, List.setIfInBounds_toArray, List.set_cons_zero, List.set_cons_succ]
                refine wpPlan_pure (o := ⟨some 37, _, _, _, _, _⟩) (v := ?_) rfl rfl (fun w' => ?_) ?_
                rotate_left
                · go_simp <;> with_reducible rfl
                try simp only [Act.put, List.setIfInBounds_toArray, List.set_cons_zero, List.set_cons_succ]
                refine wpPlan_pure (o := ⟨some 24, _, _, _, _, _⟩) (v := ?_) rfl rfl (fun w' => ?_) ?_
                rotate_left
                · go_simp <;> with_reducible rfl
                try simp only [Act.put, List.setIfInBounds_toArray, List.set_cons_zero, List.set_cons_succ]
                refine wpPlan_done ?_
                go_wp2_with fail
                with_reducible refine (sign_q (R.below hfx (by go_grown)) (by omega) sg HSG).mono ?_
                rintro e w1 ⟨rfl, b1⟩
                replace b1 := below_trans (a := V1) (by go_grown) b1
                replace hfr := hfr.below b1
                replace Bz := below_trans Bz b1
                clear b1
                clear p0_0 p0_1 p0_2 p0_3 p0_4
                have p0_1 := (HX0.out.below Bz).cell 1 (.bool t.x.s) rfl
                have p0_2 := (HX0.out.below Bz).cell 2 (.slice t.x.A t.x.l t.x.c) rfl
                have p0_3 := (HX0.out.below Bz).cell 3 (.bool t.x.s') rfl
                have p0_4 := (HX0.out.below Bz).cell 4 (.slice t.x.A' t.x.l' t.x.c') rfl
                go_wp2_with fail
                with_reducible refine (exact_sp (FrOk.below hfr (by go_grown)) (by omega) false HEX (Lib.hid (Tab.below hT.out (below_trans hB (below_trans (b := w1) Bz (by go_grown)))))).mono ?_
                rintro e w2 ⟨rfl, b2⟩
                replace b2 := below_trans (a := w1) (by go_grown) b2
                replace Bz := below_trans Bz b2
                clear b2
                clear p0_1 p0_2 p0_3 p0_4
                go_wp2_with fail
                go_ret
                have hF := below_trans (c := w2) hB Bz
                exact ⟨rfl, below_trans (below_trans hB Bz) (by go_grown)⟩
              · have HA : Hid (rightAt L n 0 = true) := Lib.hid (by rw [A0.out, HEX.out]; simpa using NZ.out)
                have Bz := Below.refl wr.heap.size wr
                have p50_0 := (hnd.below (below_trans hB Bz)).c0 (u := .int .i64 t.at_) rfl
                have p50_1 := (hnd.below (below_trans hB Bz)).at 1 (.bool t.x.s) rfl
                have p50_2 := (hnd.below (below_trans hB Bz)).at 2 (.slice t.x.A t.x.l t.x.c) rfl
                have p50_3 := (hnd.below (below_trans hB Bz)).at 3 (.bool t.x.s') rfl
                have p50_4 := (hnd.below (below_trans hB Bz)).at 4 (.slice t.x.A' t.x.l' t.x.c') rfl
                go_upto_region 4 with (fail)
                obtain ⟨V1, hW, x0, hN⟩ := boxes1 wr #[.int .i64 t.at_, .bool t.x.s, .slice t.x.A t.x.l t.x.c, .bool t.x.s', .slice t.x.A' t.x.l' t.x.c'] 81
                rw [← hW]
                clear hW
                obtain ⟨v0, hb0⟩ : ∃ b, b = wr.heap.size := ⟨_, rfl⟩
                rw [← hb0] at x0 ⊢
                have ow_0 : w.heap.size ≤ v0 := by have := hB.size; have := Bz.size; omega
                replace hfr := hfr.below hN
                replace hfx := hfx.below hN
                replace hB := below_trans (below_trans hB Bz) hN
                have HX0 := Lib.hid x0
                clear x0 hN Bz hb0
                have Bz := Below.refl V1.heap.size V1
                clear p50_0 p50_1 p50_2 p50_3 p50_4
                have p0_0 := (HX0.out.below Bz).cell 0 (.int .i64 t.at_) rfl
                have p0_1 := (HX0.out.below Bz).cell 1 (.bool t.x.s) rfl
                have p0_2 := (HX0.out.below Bz).cell 2 (.slice t.x.A t.x.l t.x.c) rfl
                have p0_3 := (HX0.out.below Bz).cell 3 (.bool t.x.s') rfl
                have p0_4 := (HX0.out.below Bz).cell 4 (.slice t.x.A' t.x.l' t.x.c') rfl
                go_wp2_with fail
                (try simp only [List.append_eq, List.cons_append, List.nil_append])
                refine wp_region_plan (.pure 0 (.pure 1 (.pure 2 (.pure 3 (.pure 4 (.pure 5 (.pure 6 (.pure 7 (.take 8 (.pure 9 (.take 10 (.pure 11 (.pure 12 (.pure 13 .done)))))))))))))) [] (fun w' => True) (by kernel_rfl) (by kernel_rfl) trivial ?_
                refine wpPlan_pure (o := ⟨some 25, _, _, _, _, _⟩) (v := ?_) rfl rfl (fun w' => ?_) ?_
                rotate_left
                · go_simp <;> with_reducible rfl
                try simp only [Act.put, List.setIfInBounds_toArray, List.set_cons_zero, List.set_cons_succ]
                refine wpPlan_pure (o := ⟨some 26, _, _, _, _, _⟩) (v := ?_) rfl rfl (fun w' => ?_) ?_
                rotate_left
                · go_simp <;> with_reducible rfl
                try simp only [Act.put, List.setIfInBounds_toArray, List.set_cons_zero, List.set_cons_succ]
                refine wpPlan_pure (o := ⟨some 27, _, _, _, _, _⟩) (v := ?_) rfl rfl (fun w' => ?_) ?_
                rotate_left
                · go_simp <;> with_reducible rfl
                try simp only [Act.put, List.setIfInBounds_toArray, List.set_cons_zero, List.set_cons_succ]
                refine wpPlan_pskip (o := ⟨some 28, _, _, _, _, _⟩) rfl rfl ?_
                try simp only [Act.put, List.setIfInBounds_toArray, List.set_cons_zero, List.set_cons_succ]
                refine wpPlan_pskip (o := ⟨some 29, _, _, _, _, _⟩) rfl rfl ?_
                try simp only [Act.put, List.setIfInBounds_toArray, List.set_cons_zero, List.set_cons_succ]
                refine wpPlan_pskip (o := ⟨some 30, _, _, _, _, _⟩) rfl rfl ?_
                try simp only [Act.put, List.setIfInBounds_toArray, List.set_cons_zero, List.set_cons_succ]
                refine wpPlan_pskip (o := ⟨some 31, _, _, _, _, _⟩) rfl rfl ?_
                try simp only [Act.put, List.setIfInBounds_toArray, List.set_cons_zero, List.set_cons_succ]
                refine wpPlan_pskip (o := ⟨some 32, _, _, _, _, _⟩) rfl rfl ?_
                try simp only [Act.put, List.setIfInBounds_toArray, List.set_cons_zero, List.set_cons_succ]
                refine wpPlan_skip (o := ⟨some 33, _, _, _, _, _⟩) rfl rfl ?_
                try simp only [Act.put, List.setIfInBounds_toArray, List.set_cons_zero, List.set_cons_succ]
                refine wpPlan_pskip (o := ⟨some 34, _, _, _, _, _⟩) rfl rfl ?_
                try simp only [Act.put, List.setIfInBounds_toArray, List.set_cons_zero, List.set_cons_succ]
                refine wpPlan_skip (o := ⟨some 35, _, _, _, _, _⟩) rfl rfl ?_
                try simp only [Act.put, List.setIfInBounds_toArray, List.set_cons_zero, List.set_cons_succ]
                refine wpPlan_pskip (o := ⟨some 36, _, _, _, _, _⟩) rfl rfl ?_
                try simp only [Act.put, List.setIfInBounds_toArray, List.set_cons_zero, List.set_cons_succ]
                refine wpPlan_pure (o := ⟨some 37, _, _, _, _, _⟩) (v := ?_) rfl rfl (fun w' => ?_) ?_
                rotate_left
                · go_simp <;> with_reducible rfl
                try simp only [Act.put, List.setIfInBounds_toArray, List.set_cons_zero, List.set_cons_succ]
                refine wpPlan_pure (o := ⟨some 24, _, _, _, _, _⟩) (v := ?_) rfl rfl (fun w' => ?_) ?_
                rotate_left
                · go_simp <;> with_reducible rfl
                try simp only [Act.put, List.setIfInBounds_toArray, List.set_cons_zero, List.set_cons_succ]
                refine wpPlan_done ?_
                go_wp2_with fail
                with_reducible refine (sign_q (R.below hfx (by go_grown)) (by omega) sg HSG).mono ?_
                rintro e w1 ⟨rfl, b1⟩
                replace b1 := below_trans (a := V1) (by go_grown) b1
                replace hfr := hfr.below b1
                replace Bz := below_trans Bz b1
                clear b1
                clear p0_0 p0_1 p0_2 p0_3 p0_4
                have p0_1 := (HX0.out.below Bz).cell 1 (.bool t.x.s) rfl
                have p0_2 := (HX0.out.below Bz).cell 2 (.slice t.x.A t.x.l t.x.c) rfl
                have p0_3 := (HX0.out.below Bz).cell 3 (.bool t.x.s') rfl
                have p0_4 := (HX0.out.below Bz).cell 4 (.slice t.x.A' t.x.l' t.x.c') rfl
                go_wp2_with fail
                with_reducible refine (exact_sp (FrOk.below hfr (by go_grown)) (by omega) true HEX (Lib.hid (Tab.below hT.out (below_trans hB (below_trans (b := w1) Bz (by go_grown)))))).mono ?_
                rintro e w2 ⟨rfl, b2⟩
                replace b2 := below_trans (a := w1) (by go_grown) b2
                replace Bz := below_trans Bz b2
                clear b2
                clear p0_1 p0_2 p0_3 p0_4
                go_wp2_with fail
                go_roundg (len - (0 + 1))
                case measure => have := HGK.out; omega
                case rel => exact ⟨0 + 1, by omega, rfl, by go_num, below_trans (below_trans hB Bz) (by go_grown), fun k hk => by
                  rcases Nat.lt_or_ge k (0) with h1 | h1
                  · exact HD.out k h1
                  · obtain rfl : k = 0 := by omega
                    exact HA.out⟩
          · obtain ⟨j, rfl⟩ : ∃ j, i = j + 1 := ⟨i - 1, by omega⟩
            obtain ⟨p, hp⟩ : ∃ p, L[j]? = some p := ⟨L[j]'(by rw [HLN.out]; omega), List.getElem?_eq_getElem _⟩
            have hpd := HEL.out j p hp
            have HP := Lib.hid hp
            have j1 : (j : Int) < (len : Int) := by omega
            have j2 : (0 : Int) ≤ (j : Int) := by omega
            have j3 : decide ((0 : Int) < ((j + 1 : Nat) : Int)) = true := decide_eq_true (by omega)
            have j4 : (0 : Int) < (j : Int) + 1 := by omega
            have u1 : IntKind.i64.wrap (((j + 1 : Nat) : Int) - 1) = (j : Int) := by rw [IntWalk.i64_in _ (by omega)]; omega
            have u3 : IntKind.i64.wrap (j : Int) = (j : Int) := IntWalk.i64_in _ (by omega)
            have u2 : IntKind.i64.wrap ((j : Int) + 1 - 1) = (j : Int) := by rw [IntWalk.i64_in _ (by omega)]; omega
            have a0 : rightAt L n (j + 1) = (decide (p.at_ < t.at_) && decide (t.x.q ≠ 0) && t.x.ex) := by
              have f1 : decide (0 ≤ t.at_) = true := by simp; omega
              have f2 : decide (t.at_ < n) = true := by simp; omega
              unfold rightAt; rw [HTI.out]; simp only [f1, f2, HP.out, Bool.true_and]
            have A0 := Lib.hid a0
            clear c1 c2 a0 HEL hp hi0
            by_cases c3 : t.at_ ≤ p.at_
            · have g3 : decide (t.at_ ≤ p.at_) = true := by simpa using c3
              obtain rfl : r = false := by rw [← hr.out]; exact rightB_false (by rw [HLN.out]; exact hlt) (by rw [A0.out]; simp; omega)
              clear c3
              have Bz := Below.refl wr.heap.size wr
              have p50_0 := (hnd.below (below_trans hB Bz)).c0 (u := .int .i64 t.at_) rfl
              have p50_1 := (hnd.below (below_trans hB Bz)).at 1 (.bool t.x.s) rfl
              have p50_2 := (hnd.below (below_trans hB Bz)).at 2 (.slice t.x.A t.x.l t.x.c) rfl
              have p50_3 := (hnd.below (below_trans hB Bz)).at 3 (.bool t.x.s') rfl
              have p50_4 := (hnd.below (below_trans hB Bz)).at 4 (.slice t.x.A' t.x.l' t.x.c') rfl
              go_upto_region 4 with (fail)
              obtain ⟨V1, hW, x0, hN⟩ := boxes1 wr #[.int .i64 t.at_, .bool t.x.s, .slice t.x.A t.x.l t.x.c, .bool t.x.s', .slice t.x.A' t.x.l' t.x.c'] 81
              rw [← hW]
              clear hW
              obtain ⟨v0, hb0⟩ : ∃ b, b = wr.heap.size := ⟨_, rfl⟩
              rw [← hb0] at x0 ⊢
              have ow_0 : w.heap.size ≤ v0 := by have := hB.size; have := Bz.size; omega
              replace hB := below_trans (below_trans hB Bz) hN
              have HX0 := Lib.hid x0
              clear x0 hN Bz hb0
              have Bz := Below.refl V1.heap.size V1
              clear p50_0 p50_1 p50_2 p50_3 p50_4
              have p0_0 := (HX0.out.below Bz).cell 0 (.int .i64 t.at_) rfl
              have p51_0 := (hpd.below (below_trans hB Bz)).c0 (u := .int .i64 p.at_) rfl
              go_wp2_with fail
              (try simp only [List.append_eq, List.cons_append, List.nil_append])
              refine wp_region_plan (.pure 0 (.pure 1 (.pure 2 (.pure 3 (.pure 4 (.pure 5 (.pure 6 (.pure 7 (.take 8 (.pure 9 (.take 10 (.pure 11 (.pure 12 (.pure 13 .done)))))))))))))) [] (fun w' => w'.cell? ⟨v0, 0, none⟩ = some (.int .i64 t.at_) ∧ w'.cell? ⟨b, off + j * 5, none⟩ = some (.int .i64 p.at_)) (by kernel_rfl) (by kernel_rfl) ⟨p0_0, p51_0⟩ ?_
              refine wpPlan_pure (o := ⟨some 25, _, _, _, _, _⟩) (v := ?_) rfl rfl (fun w' => ?_) ?_
              rotate_left
              · go_simp <;> with_reducible rfl
              try simp only [Act.put, List.setIfInBounds_toArray, List.set_cons_zero, List.set_cons_succ]
              refine wpPlan_pure (o := ⟨some 26, _, _, _, _, _⟩) (v := ?_) rfl rfl (fun w' => ?_) ?_
              rotate_left
              · go_simp <;> with_reducible rfl
              try simp only [Act.put, List.setIfInBounds_toArray, List.set_cons_zero, List.set_cons_succ]
              refine wpPlan_pure (o := ⟨some 27, _, _, _, _, _⟩) (v := ?_) rfl rfl (fun w' => ?_) ?_
              rotate_left
              · go_simp <;> with_reducible rfl
              try simp only [Act.put, List.setIfInBounds_toArray, List.set_cons_zero, List.set_cons_succ]
              refine wpPlan_pure (o := ⟨some 28, _, _, _, _, _⟩) (v := ?_) rfl rfl (fun w' => ?_) ?_
              rotate_left
              · go_simp <;> with_reducible rfl
              try simp only [Act.put, List.setIfInBounds_toArray, List.set_cons_zero, List.set_cons_succ]
              refine wpPlan_pure (o := ⟨some 29, _, _, _, _, _⟩) (v := ?_) rfl rfl (fun w' => ?_) ?_
              rotate_left
              · go_simp <;> with_reducible rfl
              try simp only [Act.put, List.setIfInBounds_toArray, List.set_cons_zero, List.set_cons_succ]
              refine wpPlan_pure (o := ⟨some 30, _, _, _, _, _⟩) (v := ?_) rfl rfl (fun w' => ?_) ?_
              rotate_left
              · go_simp <;> with_reducible rfl
              try simp only [Act.put, List.setIfInBounds_toArray, List.set_cons_zero, List.set_cons_succ]
              refine wpPlan_pure (o := ⟨some 31, _, _, _, _, _⟩) (v := ?_) rfl rfl (fun w' => ?_) ?_
              rotate_left
              · go_simp <;> with_reducible rfl
              try simp only [Act.put, List.setIfInBounds_toArray, List.set_cons_zero, List.set_cons_succ]
              refine wpPlan_pure (o := ⟨some 32, _, _, _, _, _⟩) (v := ?_) rfl rfl (fun w' => ?_) ?_
              rotate_left
              · go_simp <;> with_reducible rfl
              try simp only [Act.put, List.setIfInBounds_toArray, List.set_cons_zero, List.set_cons_succ]
              refine wpPlan_take (o := ⟨some 33, _, _, _, _, _⟩) (v := ?_) rfl rfl (fun w' hS => ?_) ?_
              rotate_left
              · obtain ⟨p0_0, p51_0⟩ := hS; go_simp <;> with_reducible rfl
              try simp only [Act.put, List.setIfInBounds_toArray, List.set_cons_zero, List.set_cons_succ]
              refine wpPlan_pure (o := ⟨some 34, _, _, _, _, _⟩) (v := ?_) rfl rfl (fun w' => ?_) ?_
              rotate_left
              · go_simp <;> with_reducible rfl
              try simp only [Act.put, List.setIfInBounds_toArray, List.set_cons_zero, List.set_cons_succ]
              refine wpPlan_take (o := ⟨some 35, _, _, _, _, _⟩) (v := ?_) rfl rfl (fun w' hS => ?_) ?_
              rotate_left
              · obtain ⟨p0_0, p51_0⟩ := hS; go_simp <;> with_reducible rfl
              try simp only [Act.put, List.setIfInBounds_toArray, List.set_cons_zero, List.set_cons_succ]
              refine wpPlan_pure (o := ⟨some 36, _, _, _, _, _⟩) (v := ?_) rfl rfl (fun w' => ?_) ?_
              rotate_left
              · go_simp <;> with_reducible rfl
              try simp only [Act.put, List.setIfInBounds_toArray, List.set_cons_zero, List.set_cons_succ]
              refine wpPlan_pure (o := ⟨some 37, _, _, _, _, _⟩) (v := ?_) rfl rfl (fun w' => ?_) ?_
              rotate_left
              · go_simp <;> with_reducible rfl
              try simp only [Act.put, List.setIfInBounds_toArray, List.set_cons_zero, List.set_cons_succ]
              refine wpPlan_pure (o := ⟨some 24, _, _, _, _, _⟩) (v := ?_) rfl rfl (fun w' => ?_) ?_
              rotate_left
              · go_simp <;> with_reducible rfl
              try simp only [Act.put, List.setIfInBounds_toArray, List.set_cons_zero, List.set_cons_succ]
              refine wpPlan_done ?_
              go_wp2_with fail
              go_ret
              have hF := below_trans (c := V1) hB Bz
              exact ⟨rfl, below_trans (below_trans hB Bz) (by go_grown)⟩
            · have g3 : decide (t.at_ ≤ p.at_) = false := by simpa using c3
              have C3 := Lib.hid c3
              clear c3
              by_cases c4 : sg = 0
              · have g4 : (sg == 0) = true := by simpa using c4
                obtain rfl : r = false := by rw [← hr.out]; exact rightB_false (by rw [HLN.out]; exact hlt) (by rw [A0.out]; have := HSG.out; rw [c4] at this; simp [Rat.num_eq_zero.1 (Int.sign_eq_zero_iff_zero.1 this)])
                clear c4
                have Bz := Below.refl wr.heap.size wr
                have p50_0 := (hnd.below (below_trans hB Bz)).c0 (u := .int .i64 t.at_) rfl
                have p50_1 := (hnd.below (below_trans hB Bz)).at 1 (.bool t.x.s) rfl
                have p50_2 := (hnd.below (below_trans hB Bz)).at 2 (.slice t.x.A t.x.l t.x.c) rfl
                have p50_3 := (hnd.below (below_trans hB Bz)).at 3 (.bool t.x.s') rfl
                have p50_4 := (hnd.below (below_trans hB Bz)).at 4 (.slice t.x.A' t.x.l' t.x.c') rfl
                go_upto_region 4 with (fail)
                obtain ⟨V1, hW, x0, hN⟩ := boxes1 wr #[.int .i64 t.at_, .bool t.x.s, .slice t.x.A t.x.l t.x.c, .bool t.x.s', .slice t.x.A' t.x.l' t.x.c'] 81
                rw [← hW]
                clear hW
                obtain ⟨v0, hb0⟩ : ∃ b, b = wr.heap.size := ⟨_, rfl⟩
                rw [← hb0] at x0 ⊢
                have ow_0 : w.heap.size ≤ v0 := by have := hB.size; have := Bz.size; omega
                replace hfx := hfx.below hN
                replace hB := below_trans (below_trans hB Bz) hN
                have HX0 := Lib.hid x0
                clear x0 hN Bz hb0
                have Bz := Below.refl V1.heap.size V1
                clear p50_0 p50_1 p50_2 p50_3 p50_4
                have p0_0 := (HX0.out.below Bz).cell 0 (.int .i64 t.at_) rfl
                have p0_1 := (HX0.out.below Bz).cell 1 (.bool t.x.s) rfl
                have p0_2 := (HX0.out.below Bz).cell 2 (.slice t.x.A t.x.l t.x.c) rfl
                have p0_3 := (HX0.out.below Bz).cell 3 (.bool t.x.s') rfl
                have p0_4 := (HX0.out.below Bz).cell 4 (.slice t.x.A' t.x.l' t.x.c') rfl
                have p51_0 := (hpd.below (below_trans hB Bz)).c0 (u := .int .i64 p.at_) rfl
                go_wp2_with fail
                (try simp only [List.append_eq, List.cons_append, List.nil_append])
                refine wp_region_plan (.pure 0 (.pure 1 (.pure 2 (.pure 3 (.pure 4 (.pure 5 (.pure 6 (.pure 7 (.take 8 (.pure 9 (.take 10 (.pure 11 (.pure 12 (.pure 13 .done)))))))))))))) [] (fun w' => w'.cell? ⟨v0, 0, none⟩ = some (.int .i64 t.at_) ∧ w'.cell? ⟨b, off + j * 5, none⟩ = some (.int .i64 p.at_)) (by kernel_rfl) (by kernel_rfl) ⟨p0_0, p51_0⟩ ?_
                refine wpPlan_pure (o := ⟨some 25, _, _, _, _, _⟩) (v := ?_) rfl rfl (fun w' => ?_) ?_
                rotate_left
                · go_simp <;> with_reducible rfl
                try simp only [Act.put, List.setIfInBounds_toArray, List.set_cons_zero, List.set_cons_succ]
                refine wpPlan_pure (o := ⟨some 26, _, _, _, _, _⟩) (v := ?_) rfl rfl (fun w' => ?_) ?_
                rotate_left
                · go_simp <;> with_reducible rfl
                try simp only [Act.put, List.setIfInBounds_toArray, List.set_cons_zero, List.set_cons_succ]
                refine wpPlan_pure (o := ⟨some 27, _, _, _, _, _⟩) (v := ?_) rfl rfl (fun w' => ?_) ?_
                rotate_left
                · go_simp <;> with_reducible rfl
                try simp only [Act.put, List.setIfInBounds_toArray, List.set_cons_zero, List.set_cons_succ]
                refine wpPlan_pure (o := ⟨some 28, _, _, _, _, _⟩) (v := ?_) rfl rfl (fun w' => ?_) ?_
                rotate_left
                · go_simp <;> with_reducible rfl
                try simp only [Act.put, List.setIfInBounds_toArray, List.set_cons_zero, List.set_cons_succ]
                refine wpPlan_pure (o := ⟨some 29, _, _, _, _, _⟩) (v := ?_) rfl rfl (fun w' => ?_) ?_
                rotate_left
                · go_simp <;> with_reducible rfl
                try simp only [Act.put, List.setIfInBounds_toArray, List.set_cons_zero, List.set_cons_succ]
                refine wpPlan_pure (o := ⟨some 30, _, _, _, _, _⟩) (v := ?_) rfl rfl (fun w' => ?_) ?_
                rotate_left
                · go_simp <;> with_reducible rfl
                try simp only [Act.put, List.setIfInBounds_toArray, List.set_cons_zero, List.set_cons_succ]
                refine wpPlan_pure (o := ⟨some 31, _, _, _, _, _⟩) (v := ?_) rfl rfl (fun w' => ?_) ?_
                rotate_left
                · go_simp <;> with_reducible rfl
                try simp only [Act.put, List.setIfInBounds_toArray, List.set_cons_zero, List.set_cons_succ]
                refine wpPlan_pure (o := ⟨some 32, _, _, _, _, _⟩) (v := ?_) rfl rfl (fun w' => ?_) ?_
                rotate_left
                · go_simp <;> with_reducible rfl
                try simp only [Act.put, List.setIfInBounds_toArray, List.set_cons_zero, List.set_cons_succ]
                refine wpPlan_take (o := ⟨some 33, _, _, _, _, _⟩) (v := ?_) rfl rfl (fun w' hS => ?_) ?_
                rotate_left
                · obtain ⟨p0_0, p51_0⟩ := hS; go_simp <;> with_reducible rfl
                try simp only [Act.put, List.setIfInBounds_toArray, List.set_cons_zero, List.set_cons_succ]
                refine wpPlan_pure (o := ⟨some 34, _, _, _, _, _⟩) (v := ?_) rfl rfl (fun w' => ?_) ?_
                rotate_left
                · go_simp <;> with_reducible rfl
                try simp only [Act.put, List.setIfInBounds_toArray, List.set_cons_zero, List.set_cons_succ]
                refine wpPlan_take (o := ⟨some 35, _, _, _, _, _⟩) (v := ?_) rfl rfl (fun w' hS => ?_) ?_
                rotate_left
                · obtain ⟨p0_0, p51_0⟩ := hS; go_simp <;> with_reducible rfl
                try simp only [Act.put, List.setIfInBounds_toArray, List.set_cons_zero, List.set_cons_succ]
                refine wpPlan_pure (o := ⟨some 36, _, _, _, _, _⟩) (v := ?_) rfl rfl (fun w' => ?_) ?_
                rotate_left
                · go_simp <;> with_reducible rfl
                try simp only [Act.put, List.setIfInBounds_toArray, List.set_cons_zero, List.set_cons_succ]
                refine wpPlan_pure (o := ⟨some 37, _, _, _, _, _⟩) (v := ?_) rfl rfl (fun w' => ?_) ?_
                rotate_left
                · go_simp <;> with_reducible rfl
                try simp only [Act.put, List.setIfInBounds_toArray, List.set_cons_zero, List.set_cons_succ]
                refine wpPlan_pure (o := ⟨some 24, _, _, _, _, _⟩) (v := ?_) rfl rfl (fun w' => ?_) ?_
                rotate_left
                · go_simp <;> with_reducible rfl
                try simp only [Act.put, List.setIfInBounds_toArray, List.set_cons_zero, List.set_cons_succ]
                refine wpPlan_done ?_
                go_wp2_with fail
                with_reducible refine (sign_q (R.below hfx (by go_grown)) (by omega) sg HSG).mono ?_
                rintro e w1 ⟨rfl, b1⟩
                replace b1 := below_trans (a := V1) (by go_grown) b1
                replace Bz := below_trans Bz b1
                clear b1
                clear p0_0 p0_1 p0_2 p0_3 p0_4 p51_0
                go_wp2_with fail
                go_ret
                have hF := below_trans (c := w1) hB Bz
                exact ⟨rfl, below_trans (below_trans hB Bz) (by go_grown)⟩
              · have g4 : (sg == 0) = false := by simpa using c4
                have nz : t.x.q ≠ 0 := fun e => c4 (by rw [← HSG.out, e]; rfl)
                have NZ := Lib.hid nz
                clear c4 nz
                cases ex
                · obtain rfl : r = false := by rw [← hr.out]; exact rightB_false (by rw [HLN.out]; exact hlt) (by rw [A0.out, HEX.out]; simp)
                  have Bz := Below.refl wr.heap.size wr
                  have p50_0 := (hnd.below (below_trans hB Bz)).c0 (u := .int .i64 t.at_) rfl
                  have p50_1 := (hnd.below (below_trans hB Bz)).at 1 (.bool t.x.s) rfl
                  have p50_2 := (hnd.below (below_trans hB Bz)).at 2 (.slice t.x.A t.x.l t.x.c) rfl
                  have p50_3 := (hnd.below (below_trans hB Bz)).at 3 (.bool t.x.s') rfl
                  have p50_4 := (hnd.below (below_trans hB Bz)).at 4 (.slice t.x.A' t.x.l' t.x.c') rfl
                  go_upto_region 4 with (fail)
                  obtain ⟨V1, hW, x0, hN⟩ := boxes1 wr #[.int .i64 t.at_, .bool t.x.s, .slice t.x.A t.x.l t.x.c, .bool t.x.s', .slice t.x.A' t.x.l' t.x.c'] 81
                  rw [← hW]
                  clear hW
                  obtain ⟨v0, hb0⟩ : ∃ b, b = wr.heap.size := ⟨_, rfl⟩
                  rw [← hb0] at x0 ⊢
                  have ow_0 : w.heap.size ≤ v0 := by have := hB.size; have := Bz.size; omega
                  replace hfr := hfr.below hN
                  replace hfx := hfx.below hN
                  replace hB := below_trans (below_trans hB Bz) hN
                  have HX0 := Lib.hid x0
                  clear x0 hN Bz hb0
                  have Bz := Below.refl V1.heap.size V1
                  clear p50_0 p50_1 p50_2 p50_3 p50_4
                  have p0_0 := (HX0.out.below Bz).cell 0 (.int .i64 t.at_) rfl
                  have p0_1 := (HX0.out.below Bz).cell 1 (.bool t.x.s) rfl
                  have p0_2 := (HX0.out.below Bz).cell 2 (.slice t.x.A t.x.l t.x.c) rfl
                  have p0_3 := (HX0.out.below Bz).cell 3 (.bool t.x.s') rfl
                  have p0_4 := (HX0.out.below Bz).cell 4 (.slice t.x.A' t.x.l' t.x.c') rfl
                  have p51_0 := (hpd.below (below_trans hB Bz)).c0 (u := .int .i64 p.at_) rfl
                  go_wp2_with fail
                  (try simp only [List.append_eq, List.cons_append, List.nil_append])
                  refine wp_region_plan (.pure 0 (.pure 1 (.pure 2 (.pure 3 (.pure 4 (.pure 5 (.pure 6 (.pure 7 (.take 8 (.pure 9 (.take 10 (.pure 11 (.pure 12 (.pure 13 .done)))))))))))))) [] (fun w' => w'.cell? ⟨v0, 0, none⟩ = some (.int .i64 t.at_) ∧ w'.cell? ⟨b, off + j * 5, none⟩ = some (.int .i64 p.at_)) (by kernel_rfl) (by kernel_rfl) ⟨p0_0, p51_0⟩ ?_
                  refine wpPlan_pure (o := ⟨some 25, _, _, _, _, _⟩) (v := ?_) rfl rfl (fun w' => ?_) ?_
                  rotate_left
                  · go_simp <;> with_reducible rfl
                  try simp only [Act.put, List.setIfInBounds_toArray, List.set_cons_zero, List.set_cons_succ]
                  refine wpPlan_pure (o := ⟨some 26, _, _, _, _, _⟩) (v := ?_) rfl rfl (fun w' => ?_) ?_
                  rotate_left
                  · go_simp <;> with_reducible rfl
                  try simp only [Act.put, List.setIfInBounds_toArray, List.set_cons_zero, List.set_cons_succ]
                  refine wpPlan_pure (o := ⟨some 27, _, _, _, _, _⟩) (v := ?_) rfl rfl (fun w' => ?_) ?_
                  rotate_left
                  · go_simp <;> with_reducible rfl
                  try simp only [Act.put, List.setIfInBounds_toArray, List.set_cons_zero, List.set_cons_succ]
                  refine wpPlan_pure (o := ⟨some 28, _, _, _, _, _⟩) (v := ?_) rfl rfl (fun w' => ?_) ?_
                  rotate_left
                  · go_simp <;> with_reducible rfl
                  try simp only [Act.put, List.setIfInBounds_toArray, List.set_cons_zero, List.set_cons_succ]
                  refine wpPlan_pure (o := ⟨some 29, _, _, _, _, _⟩) (v := ?_) rfl rfl (fun w' => ?_) ?_
                  rotate_left
                  · go_simp <;> with_reducible rfl
                  try simp only [Act.put, List.setIfInBounds_toArray, List.set_cons_zero, List.set_cons_succ]
                  refine wpPlan_pure (o := ⟨some 30, _, _, _, _, _⟩) (v := ?_) rfl rfl (fun w' => ?_) ?_
                  rotate_left
                  · go_simp <;> with_reducible rfl
                  try simp only [Act.put, List.setIfInBounds_toArray, List.set_cons_zero, List.set_cons_succ]
                  refine wpPlan_pure (o := ⟨some 31, _, _, _, _, _⟩) (v := ?_) rfl rfl (fun w' => ?_) ?_
                  rotate_left
                  · go_simp <;> with_reducible rfl
                  try simp only [Act.put, List.setIfInBounds_toArray, List.set_cons_zero, List.set_cons_succ]
                  refine wpPlan_pure (o := ⟨some 32, _, _, _, _, _⟩) (v := ?_) rfl rfl (fun w' => ?_) ?_
                  rotate_left
                  · go_simp <;> with_reducible rfl
                  try simp only [Act.put, List.setIfInBounds_toArray, List.set_cons_zero, List.set_cons_succ]
                  refine wpPlan_take (o := ⟨some 33, _, _, _, _, _⟩) (v := ?_) rfl rfl (fun w' hS => ?_) ?_
                  rotate_left
                  · obtain ⟨p0_0, p51_0⟩ := hS; go_simp <;> with_reducible rfl
                  try simp only [Act.put, List.setIfInBounds_toArray, List.set_cons_zero, List.set_cons_succ]
                  refine wpPlan_pure (o := ⟨some 34, _, _, _, _, _⟩) (v := ?_) rfl rfl (fun w' => ?_) ?_
                  rotate_left
                  · go_simp <;> with_reducible rfl
                  try simp only [Act.put, List.setIfInBounds_toArray, List.set_cons_zero, List.set_cons_succ]
                  refine wpPlan_take (o := ⟨some 35, _, _, _, _, _⟩) (v := ?_) rfl rfl (fun w' hS => ?_) ?_
                  rotate_left
                  · obtain ⟨p0_0, p51_0⟩ := hS; go_simp <;> with_reducible rfl
                  try simp only [Act.put, List.setIfInBounds_toArray, List.set_cons_zero, List.set_cons_succ]
                  refine wpPlan_pure (o := ⟨some 36, _, _, _, _, _⟩) (v := ?_) rfl rfl (fun w' => ?_) ?_
                  rotate_left
                  · go_simp <;> with_reducible rfl
                  try simp only [Act.put, List.setIfInBounds_toArray, List.set_cons_zero, List.set_cons_succ]
                  refine wpPlan_pure (o := ⟨some 37, _, _, _, _, _⟩) (v := ?_) rfl rfl (fun w' => ?_) ?_
                  rotate_left
                  · go_simp <;> with_reducible rfl
                  try simp only [Act.put, List.setIfInBounds_toArray, List.set_cons_zero, List.set_cons_succ]
                  refine wpPlan_pure (o := ⟨some 24, _, _, _, _, _⟩) (v := ?_) rfl rfl (fun w' => ?_) ?_
                  rotate_left
                  · go_simp <;> with_reducible rfl
                  try simp only [Act.put, List.setIfInBounds_toArray, List.set_cons_zero, List.set_cons_succ]
                  refine wpPlan_done ?_
                  go_wp2_with fail
                  with_reducible refine (sign_q (R.below hfx (by go_grown)) (by omega) sg HSG).mono ?_
                  rintro e w1 ⟨rfl, b1⟩
                  replace b1 := below_trans (a := V1) (by go_grown) b1
                  replace hfr := hfr.below b1
                  replace Bz := below_trans Bz b1
                  clear b1
                  clear p0_0 p0_1 p0_2 p0_3 p0_4 p51_0
                  have p0_1 := (HX0.out.below Bz).cell 1 (.bool t.x.s) rfl
                  have p0_2 := (HX0.out.below Bz).cell 2 (.slice t.x.A t.x.l t.x.c) rfl
                  have p0_3 := (HX0.out.below Bz).cell 3 (.bool t.x.s') rfl
                  have p0_4 := (HX0.out.below Bz).cell 4 (.slice t.x.A' t.x.l' t.x.c') rfl
                  go_wp2_with fail
                  with_reducible refine (exact_sp (FrOk.below hfr (by go_grown)) (by omega) false HEX (Lib.hid (Tab.below hT.out (below_trans hB (below_trans (b := w1) Bz (by go_grown)))))).mono ?_
                  rintro e w2 ⟨rfl, b2⟩
                  replace b2 := below_trans (a := w1) (by go_grown) b2
                  replace Bz := below_trans Bz b2
                  clear b2
                  clear p0_1 p0_2 p0_3 p0_4
                  go_wp2_with fail
                  go_ret
                  have hF := below_trans (c := w2) hB Bz
                  exact ⟨rfl, below_trans (below_trans hB Bz) (by go_grown)⟩
                · have HA : Hid (rightAt L n (j + 1) = true) := Lib.hid (by rw [A0.out, HEX.out]; have := C3.out; simp [NZ.out]; omega)
                  have Bz := Below.refl wr.heap.size wr
                  have p50_0 := (hnd.below (below_trans hB Bz)).c0 (u := .int .i64 t.at_) rfl
                  have p50_1 := (hnd.below (below_trans hB Bz)).at 1 (.bool t.x.s) rfl
                  have p50_2 := (hnd.below (below_trans hB Bz)).at 2 (.slice t.x.A t.x.l t.x.c) rfl
                  have p50_3 := (hnd.below (below_trans hB Bz)).at 3 (.bool t.x.s') rfl
                  have p50_4 := (hnd.below (below_trans hB Bz)).at 4 (.slice t.x.A' t.x.l' t.x.c') rfl
                  go_upto_region 4 with (fail)
                  obtain ⟨V1, hW, x0, hN⟩ := boxes1 wr #[.int .i64 t.at_, .bool t.x.s, .slice t.x.A t.x.l t.x.c, .bool t.x.s', .slice t.x.A' t.x.l' t.x.c'] 81
                  rw [← hW]
                  clear hW
                  obtain ⟨v0, hb0⟩ : ∃ b, b = wr.heap.size := ⟨_, rfl⟩
                  rw [← hb0] at x0 ⊢
                  have ow_0 : w.heap.size ≤ v0 := by have := hB.size; have := Bz.size; omega
                  replace hfr := hfr.below hN
                  replace hfx := hfx.below hN
                  replace hB := below_trans (below_trans hB Bz) hN
                  have HX0 := Lib.hid x0
                  clear x0 hN Bz hb0
                  have Bz := Below.refl V1.heap.size V1
                  clear p50_0 p50_1 p50_2 p50_3 p50_4
                  have p0_0 := (HX0.out.below Bz).cell 0 (.int .i64 t.at_) rfl
                  have p0_1 := (HX0.out.below Bz).cell 1 (.bool t.x.s) rfl
                  have p0_2 := (HX0.out.below Bz).cell 2 (.slice t.x.A t.x.l t.x.c) rfl
                  have p0_3 := (HX0.out.below Bz).cell 3 (.bool t.x.s') rfl
                  have p0_4 := (HX0.out.below Bz).cell 4 (.slice t.x.A' t.x.l' t.x.c') rfl
                  have p51_0 := (hpd.below (below_trans hB Bz)).c0 (u := .int .i64 p.at_) rfl
                  go_wp2_with fail
                  (try simp only [List.append_eq, List.cons_append, List.nil_append])
                  refine wp_region_plan (.pure 0 (.pure 1 (.pure 2 (.pure 3 (.pure 4 (.pure 5 (.pure 6 (.pure 7 (.take 8 (.pure 9 (.take 10 (.pure 11 (.pure 12 (.pure 13 .done)))))))))))))) [] (fun w' => w'.cell? ⟨v0, 0, none⟩ = some (.int .i64 t.at_) ∧ w'.cell? ⟨b, off + j * 5, none⟩ = some (.int .i64 p.at_)) (by kernel_rfl) (by kernel_rfl) ⟨p0_0, p51_0⟩ ?_
                  refine wpPlan_pure (o := ⟨some 25, _, _, _, _, _⟩) (v := ?_) rfl rfl (fun w' => ?_) ?_
                  rotate_left
                  · go_simp <;> with_reducible rfl
                  try simp only [Act.put, List.setIfInBounds_toArray, List.set_cons_zero, List.set_cons_succ]
                  refine wpPlan_pure (o := ⟨some 26, _, _, _, _, _⟩) (v := ?_) rfl rfl (fun w' => ?_) ?_
                  rotate_left
                  · go_simp <;> with_reducible rfl
                  try simp only [Act.put, List.setIfInBounds_toArray, List.set_cons_zero, List.set_cons_succ]
                  refine wpPlan_pure (o := ⟨some 27, _, _, _, _, _⟩) (v := ?_) rfl rfl (fun w' => ?_) ?_
                  rotate_left
                  · go_simp <;> with_reducible rfl
                  try simp only [Act.put, List.setIfInBounds_toArray, List.set_cons_zero, List.set_cons_succ]
                  refine wpPlan_pure (o := ⟨some 28, _, _, _, _, _⟩) (v := ?_) rfl rfl (fun w' => ?_) ?_
                  rotate_left
                  · go_simp <;> with_reducible rfl
                  try simp only [Act.put, List.setIfInBounds_toArray, List.set_cons_zero, List.set_cons_succ]
                  refine wpPlan_pure (o := ⟨some 29, _, _, _, _, _⟩) (v := ?_) rfl rfl (fun w' => ?_) ?_
                  rotate_left
                  · go_simp <;> with_reducible rfl
                  try simp only [Act.put, List.setIfInBounds_toArray, List.set_cons_zero, List.set_cons_succ]
                  refine wpPlan_pure (o := ⟨some 30, _, _, _, _, _⟩) (v := ?_) rfl rfl (fun w' => ?_) ?_
                  rotate_left
                  · go_simp <;> with_reducible rfl
                  try simp only [Act.put, List.setIfInBounds_toArray, List.set_cons_zero, List.set_cons_succ]
                  refine wpPlan_pure (o := ⟨some 31, _, _, _, _, _⟩) (v := ?_) rfl rfl (fun w' => ?_) ?_
                  rotate_left
                  · go_simp <;> with_reducible rfl
                  try simp only [Act.put, List.setIfInBounds_toArray, List.set_cons_zero, List.set_cons_succ]
                  refine wpPlan_pure (o := ⟨some 32, _, _, _, _, _⟩) (v := ?_) rfl rfl (fun w' => ?_) ?_
                  rotate_left
                  · go_simp <;> with_reducible rfl
                  try simp only [Act.put, List.setIfInBounds_toArray, List.set_cons_zero, List.set_cons_succ]
                  refine wpPlan_take (o := ⟨some 33, _, _, _, _, _⟩) (v := ?_) rfl rfl (fun w' hS => ?_) ?_
                  rotate_left
                  · obtain ⟨p0_0, p51_0⟩ := hS; go_simp <;> with_reducible rfl
                  try simp only [Act.put, List.setIfInBounds_toArray, List.set_cons_zero, List.set_cons_succ]
                  refine wpPlan_pure (o := ⟨some 34, _, _, _, _, _⟩) (v := ?_) rfl rfl (fun w' => ?_) ?_
                  rotate_left
                  · go_simp <;> with_reducible rfl
                  try simp only [Act.put, List.setIfInBounds_toArray, List.set_cons_zero, List.set_cons_succ]
                  refine wpPlan_take (o := ⟨some 35, _, _, _, _, _⟩) (v := ?_) rfl rfl (fun w' hS => ?_) ?_
                  rotate_left
                  · obtain ⟨p0_0, p51_0⟩ := hS; go_simp <;> with_reducible rfl
                  try simp only [Act.put, List.setIfInBounds_toArray, List.set_cons_zero, List.set_cons_succ]
                  refine wpPlan_pure (o := ⟨some 36, _, _, _, _, _⟩) (v := ?_) rfl rfl (fun w' => ?_) ?_
                  rotate_left
                  · go_simp <;> with_reducible rfl
                  try simp only [Act.put, List.setIfInBounds_toArray, List.set_cons_zero, List.set_cons_succ]
                  refine wpPlan_pure (o := ⟨some 37, _, _, _, _, _⟩) (v := ?_) rfl rfl (fun w' => ?_) ?_
                  rotate_left
                  · go_simp <;> with_reducible rfl
                  try simp only [Act.put, List.setIfInBounds_toArray, List.set_cons_zero, List.set_cons_succ]
                  refine wpPlan_pure (o := ⟨some 24, _, _, _, _, _⟩) (v := ?_) rfl rfl (fun w' => ?_) ?_
                  rotate_left
                  · go_simp <;> with_reducible rfl
                  try simp only [Act.put, List.setIfInBounds_toArray, List.set_cons_zero, List.set_cons_succ]
                  refine wpPlan_done ?_
                  go_wp2_with fail
                  with_reducible refine (sign_q (R.below hfx (by go_grown)) (by omega) sg HSG).mono ?_
                  rintro e w1 ⟨rfl, b1⟩
                  replace b1 := below_trans (a := V1) (by go_grown) b1
                  replace hfr := hfr.below b1
                  replace Bz := below_trans Bz b1
                  clear b1
                  clear p0_0 p0_1 p0_2 p0_3 p0_4 p51_0
                  have p0_1 := (HX0.out.below Bz).cell 1 (.bool t.x.s) rfl
                  have p0_2 := (HX0.out.below Bz).cell 2 (.slice t.x.A t.x.l t.x.c) rfl
                  have p0_3 := (HX0.out.below Bz).cell 3 (.bool t.x.s') rfl
                  have p0_4 := (HX0.out.below Bz).cell 4 (.slice t.x.A' t.x.l' t.x.c') rfl
                  go_wp2_with fail
                  with_reducible refine (exact_sp (FrOk.below hfr (by go_grown)) (by omega) true HEX (Lib.hid (Tab.below hT.out (below_trans hB (below_trans (b := w1) Bz (by go_grown)))))).mono ?_
                  rintro e w2 ⟨rfl, b2⟩
                  replace b2 := below_trans (a := w1) (by go_grown) b2
                  replace Bz := below_trans Bz b2
                  clear b2
                  clear p0_1 p0_2 p0_3 p0_4
                  go_wp2_with fail
                  go_roundg (len - (j + 1 + 1))
                  case measure => have := HGK.out; omega
                  case rel => exact ⟨j + 1 + 1, by omega, rfl, by go_num, below_trans (below_trans hB Bz) (by go_grown), fun k hk => by
                    rcases Nat.lt_or_ge k (j + 1) with h1 | h1
                    · exact HD.out k h1
                    · obtain rfl : k = j + 1 := by omega
                      exact HA.out⟩
    · obtain rfl : i = len := by omega
      have i1 : ¬ (i : Int) < (i : Int) := by omega
      obtain rfl : r = true := by rw [← hr.out]; exact rightB_true (by rw [HLN.out]; exact HD.out)
      go_wp2_with fail
      go_ret
      exact ⟨rfl, hB⟩
end Go.Proofs.YtionhpangenhnaaDoor
