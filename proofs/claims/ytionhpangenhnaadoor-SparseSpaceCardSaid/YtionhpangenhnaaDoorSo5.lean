/-
  sparse.ordered, sparse.join, sparse.Add. Written by wip/gen/so5.py.
-/
import Derived.Test.YtionhpangenhnaaDoorSo4
import Derived.Test.YtionhpangenhnaaDoorVj
namespace Go.Proofs.YtionhpangenhnaaDoor
open Go.RowKit Tw

theorem nrm_app (P Q : List (Int × Rat)) : nrm (nrm P ++ nrm Q) = nrm (P ++ Q) := nrm_ext fun a => by rw [pget_append, pget_append, nrm_get, nrm_get]
/-- A vector whose places rise, one for each, told; it says the same. -/
def TellsO (w : World) (P : List (Int × Rat)) (M n : Nat) (e : Ending) (w' : World) : Prop :=
  ∃ A' n' c' P', e = .returned (.slice A' n' c') ∧ GV w' A' n' c' P' (M + 1) ∧ Rise P' ∧ (∀ a, pget P' a = pget P a) ∧ n' ≤ n ∧ Below w.heap.size w w'
/-- A state of the loop of ordered. -/
def OR1 (w : World) (L : List Tm) (n gk : Nat) (s : Value) (wr : World) : Prop := ∃ i : Nat, i ≤ n ∧ n - i = gk ∧ s = .int .i64 (i : Int) ∧ Below w.heap.size w wr ∧ Rise (prs (L.take i))
theorem rise_next {L : List Tm} {k : Nat} {x y : Tm} (h : Rise (prs (L.take (k + 1)))) (hy : L[k]? = some y) (hx : L[k + 1]? = some x) (hl : y.at_ < x.at_) : Rise (prs (L.take (k + 1 + 1))) := by
  rw [take_snoc hx, prs_append]
  refine h.snoc fun z hz => ?_
  rw [take_snoc hy, prs_append] at h hz
  rcases List.mem_append.1 hz with hz | hz
  · have := (Rise.front (x := (y.at_, y.x.q)) h).2 z hz
    simp only at this ⊢
    omega
  · obtain rfl := List.mem_singleton.1 hz; exact hl
set_option maxRecDepth 100000 in
set_option maxHeartbeats 4000000 in
theorem ordered_q {w : World} {A : Option Addr} {n c M : Nat} {P : List (Int × Rat)} (h : GV w A n c P M) (hM : M ≤ 19000) (hn : n ≤ 1000000) (hT : Hid (Tab w)) :
    Calls Tryd.prog 63 #[.slice A n c] w (TellsO w P M n) := by
  have hg := Lib.hid h
  obtain ⟨L, h1, h2, rfl, h4, h5⟩ := h
  have HS := Lib.hid h1
  have HLN := Lib.hid h1.1
  clear h1 h2 h4 h5
  go_enter Tryd.func63, Tryd.ntmps63
  go_wp2_with fail
  go_loopg [6] n (fun gk s wr => OR1 w L n gk s wr)
  case atStart => exact ⟨0, Nat.zero_le _, rfl, rfl, Below.refl _ _, List.Pairwise.nil⟩
  case round =>
    obtain ⟨i, hi, hgk, rfl, hB, hr⟩ := hrel
    have HGK := Lib.hid hgk
    clear hgk
    by_cases hlt : i < n
    · obtain ⟨b, off, rfl, hel⟩ := HS.out.at Tm.cs_len (by omega) (by omega)
      obtain ⟨x, hx⟩ : ∃ x, L[i]? = some x := ⟨L[i]'(by rw [HLN.out]; exact hlt), List.getElem?_eq_getElem _⟩
      have hnd := hel i x hx
      cases i with
      | zero =>
        have HR2 : Hid (Rise (prs (L.take (0 + 1)))) := Lib.hid (by rw [take_snoc hx]; exact List.pairwise_singleton _ _)
        have i1 : (0 : Int) < (n : Int) := by omega
        clear hx hel hr
        have Bz := Below.refl wr.heap.size wr
        go_wp2_with fail
        (try simp only [List.append_eq, List.cons_append, List.nil_append])
        refine wp_region_plan (.pure 0 (.pure 1 (.pure 2 (.pure 3 (.pure 4 (.pure 5 (.pure 6 (.pure 7 (.take 8 (.pure 9 (.pure 10 (.pure 11 (.pure 12 (.take 13 (.pure 14 (.pure 15 .done)))))))))))))))) [] (fun w' => True) (by kernel_rfl) (by kernel_rfl) trivial ?_
        refine wpPlan_pure (o := ⟨some 9, _, _, _, _, _⟩) (v := ?_) rfl rfl (fun w' => ?_) ?_
        rotate_left
        · go_simp <;> with_reducible rfl
        try simp only [pUt, pLt, pZt, pSt]
        refine wpPlan_pure (o := ⟨some 10, _, _, _, _, _⟩) (v := ?_) rfl rfl (fun w' => ?_) ?_
        rotate_left
        · go_simp <;> with_reducible rfl
        try simp only [pUt, pLt, pZt, pSt]
        refine wpPlan_pure (o := ⟨some 11, _, _, _, _, _⟩) (v := ?_) rfl rfl (fun w' => ?_) ?_
        rotate_left
        · go_simp <;> with_reducible rfl
        try simp only [pUt, pLt, pZt, pSt]
        refine wpPlan_pskip (o := ⟨some 12, _, _, _, _, _⟩) rfl rfl ?_
        try simp only [pUt, pLt, pZt, pSt]
        refine wpPlan_pskip (o := ⟨some 13, _, _, _, _, _⟩) rfl rfl ?_
        try simp only [pUt, pLt, pZt, pSt]
        refine wpPlan_pskip (o := ⟨some 14, _, _, _, _, _⟩) rfl rfl ?_
        try simp only [pUt, pLt, pZt, pSt]
        refine wpPlan_pskip (o := ⟨some 15, _, _, _, _, _⟩) rfl rfl ?_
        try simp only [pUt, pLt, pZt, pSt]
        refine wpPlan_pskip (o := ⟨some 16, _, _, _, _, _⟩) rfl rfl ?_
        try simp only [pUt, pLt, pZt, pSt]
        refine wpPlan_skip (o := ⟨some 17, _, _, _, _, _⟩) rfl rfl ?_
        try simp only [pUt, pLt, pZt, pSt]
        refine wpPlan_pskip (o := ⟨some 18, _, _, _, _, _⟩) rfl rfl ?_
        try simp only [pUt, pLt, pZt, pSt]
        refine wpPlan_pskip (o := ⟨some 19, _, _, _, _, _⟩) rfl rfl ?_
        try simp only [pUt, pLt, pZt, pSt]
        refine wpPlan_pskip (o := ⟨some 20, _, _, _, _, _⟩) rfl rfl ?_
        try simp only [pUt, pLt, pZt, pSt]
        refine wpPlan_pskip (o := ⟨some 21, _, _, _, _, _⟩) rfl rfl ?_
        try simp only [pUt, pLt, pZt, pSt]
        refine wpPlan_skip (o := ⟨some 22, _, _, _, _, _⟩) rfl rfl ?_
        try simp only [pUt, pLt, pZt, pSt]
        refine wpPlan_pskip (o := ⟨some 23, _, _, _, _, _⟩) rfl rfl ?_
        try simp only [pUt, pLt, pZt, pSt]
        refine wpPlan_pure (o := ⟨some 24, _, _, _, _, _⟩) (v := ?_) rfl rfl (fun w' => ?_) ?_
        rotate_left
        · go_simp <;> with_reducible rfl
        try simp only [pUt, pLt, pZt, pSt]
        refine wpPlan_done ?_
        go_wp2_with fail
        go_roundg (n - (0 + 1))
        case measure => have := HGK.out; omega
        case rel => exact ⟨0 + 1, by omega, rfl, by go_num, below_trans (below_trans hB Bz) (by go_grown), HR2.out⟩
      | succ k =>
        obtain ⟨y, hy⟩ : ∃ y, L[k]? = some y := ⟨L[k]'(by rw [HLN.out]; omega), List.getElem?_eq_getElem _⟩
        have hnd' := hel k y hy
        have i1 : (k : Int) + 1 < (n : Int) := by omega
        have i2 : (0 : Int) ≤ (k : Int) + 1 := by omega
        have i3 : (0 : Int) ≤ (k : Int) := by omega
        have i4 : (k : Int) < (n : Int) := by omega
        have i5 : (0 : Int) < (k : Int) + 1 := by omega
        have w6 : IntKind.i64.wrap ((k : Int) + 1 - 1) = (k : Int) := by rw [IntWalk.i64_in _ (by omega)]; omega
        have w7 : IntKind.i64.wrap (k : Int) = (k : Int) := IntWalk.i64_in _ (by omega)
        by_cases hl : y.at_ < x.at_
        · have HR2 := Lib.hid (rise_next hr hy hx hl)
          have g1 : ¬ x.at_ ≤ y.at_ := by omega
          clear hx hy hel hr hl
          have Bz := Below.refl wr.heap.size wr
          have p50_0 := (hnd.below (below_trans hB Bz)).c0 (u := .int .i64 x.at_) rfl
          have p51_0 := (hnd'.below (below_trans hB Bz)).c0 (u := .int .i64 y.at_) rfl
          go_wp2_with fail
          (try simp only [List.append_eq, List.cons_append, List.nil_append])
          refine wp_region_plan (.pure 0 (.pure 1 (.pure 2 (.pure 3 (.pure 4 (.pure 5 (.pure 6 (.pure 7 (.take 8 (.pure 9 (.pure 10 (.pure 11 (.pure 12 (.take 13 (.pure 14 (.pure 15 .done)))))))))))))))) [] (fun w' => w'.cell? ⟨b, off + (k + 1) * 5, none⟩ = some (.int .i64 x.at_) ∧ w'.cell? ⟨b, off + k * 5, none⟩ = some (.int .i64 y.at_)) (by kernel_rfl) (by kernel_rfl) ⟨p50_0, p51_0⟩ ?_
          refine wpPlan_pure (o := ⟨some 9, _, _, _, _, _⟩) (v := ?_) rfl rfl (fun w' => ?_) ?_
          rotate_left
          · go_simp <;> with_reducible rfl
          try simp only [pUt, pLt, pZt, pSt]
          refine wpPlan_pure (o := ⟨some 10, _, _, _, _, _⟩) (v := ?_) rfl rfl (fun w' => ?_) ?_
          rotate_left
          · go_simp <;> with_reducible rfl
          try simp only [pUt, pLt, pZt, pSt]
          refine wpPlan_pure (o := ⟨some 11, _, _, _, _, _⟩) (v := ?_) rfl rfl (fun w' => ?_) ?_
          rotate_left
          · go_simp <;> with_reducible rfl
          try simp only [pUt, pLt, pZt, pSt]
          refine wpPlan_pure (o := ⟨some 12, _, _, _, _, _⟩) (v := ?_) rfl rfl (fun w' => ?_) ?_
          rotate_left
          · go_simp <;> with_reducible rfl
          try simp only [pUt, pLt, pZt, pSt]
          refine wpPlan_pure (o := ⟨some 13, _, _, _, _, _⟩) (v := ?_) rfl rfl (fun w' => ?_) ?_
          rotate_left
          · go_simp <;> with_reducible rfl
          try simp only [pUt, pLt, pZt, pSt]
          refine wpPlan_pure (o := ⟨some 14, _, _, _, _, _⟩) (v := ?_) rfl rfl (fun w' => ?_) ?_
          rotate_left
          · go_simp <;> with_reducible rfl
          try simp only [pUt, pLt, pZt, pSt]
          refine wpPlan_pure (o := ⟨some 15, _, _, _, _, _⟩) (v := ?_) rfl rfl (fun w' => ?_) ?_
          rotate_left
          · go_simp <;> with_reducible rfl
          try simp only [pUt, pLt, pZt, pSt]
          refine wpPlan_pure (o := ⟨some 16, _, _, _, _, _⟩) (v := ?_) rfl rfl (fun w' => ?_) ?_
          rotate_left
          · go_simp <;> with_reducible rfl
          try simp only [pUt, pLt, pZt, pSt]
          refine wpPlan_take (o := ⟨some 17, _, _, _, _, _⟩) (v := ?_) rfl rfl (fun w' hS => ?_) ?_
          rotate_left
          · obtain ⟨p50_0, p51_0⟩ := hS; go_simp <;> with_reducible rfl
          try simp only [pUt, pLt, pZt, pSt]
          refine wpPlan_pure (o := ⟨some 18, _, _, _, _, _⟩) (v := ?_) rfl rfl (fun w' => ?_) ?_
          rotate_left
          · go_simp <;> with_reducible rfl
          try simp only [pUt, pLt, pZt, pSt]
          refine wpPlan_pure (o := ⟨some 19, _, _, _, _, _⟩) (v := ?_) rfl rfl (fun w' => ?_) ?_
          rotate_left
          · go_simp <;> with_reducible rfl
          try simp only [pUt, pLt, pZt, pSt]
          refine wpPlan_pure (o := ⟨some 20, _, _, _, _, _⟩) (v := ?_) rfl rfl (fun w' => ?_) ?_
          rotate_left
          · go_simp <;> with_reducible rfl
          try simp only [pUt, pLt, pZt, pSt]
          refine wpPlan_pure (o := ⟨some 21, _, _, _, _, _⟩) (v := ?_) rfl rfl (fun w' => ?_) ?_
          rotate_left
          · go_simp <;> with_reducible rfl
          try simp only [pUt, pLt, pZt, pSt]
          refine wpPlan_take (o := ⟨some 22, _, _, _, _, _⟩) (v := ?_) rfl rfl (fun w' hS => ?_) ?_
          rotate_left
          · obtain ⟨p50_0, p51_0⟩ := hS; go_simp <;> with_reducible rfl
          try simp only [pUt, pLt, pZt, pSt]
          refine wpPlan_pure (o := ⟨some 23, _, _, _, _, _⟩) (v := ?_) rfl rfl (fun w' => ?_) ?_
          rotate_left
          · go_simp <;> with_reducible rfl
          try simp only [pUt, pLt, pZt, pSt]
          refine wpPlan_pure (o := ⟨some 24, _, _, _, _, _⟩) (v := ?_) rfl rfl (fun w' => ?_) ?_
          rotate_left
          · go_simp <;> with_reducible rfl
          try simp only [pUt, pLt, pZt, pSt]
          refine wpPlan_done ?_
          go_wp2_with fail
          go_roundg (n - (k + 1 + 1))
          case measure => have := HGK.out; omega
          case rel => exact ⟨k + 1 + 1, by omega, rfl, by go_num, below_trans (below_trans hB Bz) (by go_grown), HR2.out⟩
        · have g1 : x.at_ ≤ y.at_ := by omega
          clear hx hy hel hr hl
          have Bz := Below.refl wr.heap.size wr
          have p50_0 := (hnd.below (below_trans hB Bz)).c0 (u := .int .i64 x.at_) rfl
          have p51_0 := (hnd'.below (below_trans hB Bz)).c0 (u := .int .i64 y.at_) rfl
          go_wp2_with fail
          (try simp only [List.append_eq, List.cons_append, List.nil_append])
          refine wp_region_plan (.pure 0 (.pure 1 (.pure 2 (.pure 3 (.pure 4 (.pure 5 (.pure 6 (.pure 7 (.take 8 (.pure 9 (.pure 10 (.pure 11 (.pure 12 (.take 13 (.pure 14 (.pure 15 .done)))))))))))))))) [] (fun w' => w'.cell? ⟨b, off + (k + 1) * 5, none⟩ = some (.int .i64 x.at_) ∧ w'.cell? ⟨b, off + k * 5, none⟩ = some (.int .i64 y.at_)) (by kernel_rfl) (by kernel_rfl) ⟨p50_0, p51_0⟩ ?_
          refine wpPlan_pure (o := ⟨some 9, _, _, _, _, _⟩) (v := ?_) rfl rfl (fun w' => ?_) ?_
          rotate_left
          · go_simp <;> with_reducible rfl
          try simp only [pUt, pLt, pZt, pSt]
          refine wpPlan_pure (o := ⟨some 10, _, _, _, _, _⟩) (v := ?_) rfl rfl (fun w' => ?_) ?_
          rotate_left
          · go_simp <;> with_reducible rfl
          try simp only [pUt, pLt, pZt, pSt]
          refine wpPlan_pure (o := ⟨some 11, _, _, _, _, _⟩) (v := ?_) rfl rfl (fun w' => ?_) ?_
          rotate_left
          · go_simp <;> with_reducible rfl
          try simp only [pUt, pLt, pZt, pSt]
          refine wpPlan_pure (o := ⟨some 12, _, _, _, _, _⟩) (v := ?_) rfl rfl (fun w' => ?_) ?_
          rotate_left
          · go_simp <;> with_reducible rfl
          try simp only [pUt, pLt, pZt, pSt]
          refine wpPlan_pure (o := ⟨some 13, _, _, _, _, _⟩) (v := ?_) rfl rfl (fun w' => ?_) ?_
          rotate_left
          · go_simp <;> with_reducible rfl
          try simp only [pUt, pLt, pZt, pSt]
          refine wpPlan_pure (o := ⟨some 14, _, _, _, _, _⟩) (v := ?_) rfl rfl (fun w' => ?_) ?_
          rotate_left
          · go_simp <;> with_reducible rfl
          try simp only [pUt, pLt, pZt, pSt]
          refine wpPlan_pure (o := ⟨some 15, _, _, _, _, _⟩) (v := ?_) rfl rfl (fun w' => ?_) ?_
          rotate_left
          · go_simp <;> with_reducible rfl
          try simp only [pUt, pLt, pZt, pSt]
          refine wpPlan_pure (o := ⟨some 16, _, _, _, _, _⟩) (v := ?_) rfl rfl (fun w' => ?_) ?_
          rotate_left
          · go_simp <;> with_reducible rfl
          try simp only [pUt, pLt, pZt, pSt]
          refine wpPlan_take (o := ⟨some 17, _, _, _, _, _⟩) (v := ?_) rfl rfl (fun w' hS => ?_) ?_
          rotate_left
          · obtain ⟨p50_0, p51_0⟩ := hS; go_simp <;> with_reducible rfl
          try simp only [pUt, pLt, pZt, pSt]
          refine wpPlan_pure (o := ⟨some 18, _, _, _, _, _⟩) (v := ?_) rfl rfl (fun w' => ?_) ?_
          rotate_left
          · go_simp <;> with_reducible rfl
          try simp only [pUt, pLt, pZt, pSt]
          refine wpPlan_pure (o := ⟨some 19, _, _, _, _, _⟩) (v := ?_) rfl rfl (fun w' => ?_) ?_
          rotate_left
          · go_simp <;> with_reducible rfl
          try simp only [pUt, pLt, pZt, pSt]
          refine wpPlan_pure (o := ⟨some 20, _, _, _, _, _⟩) (v := ?_) rfl rfl (fun w' => ?_) ?_
          rotate_left
          · go_simp <;> with_reducible rfl
          try simp only [pUt, pLt, pZt, pSt]
          refine wpPlan_pure (o := ⟨some 21, _, _, _, _, _⟩) (v := ?_) rfl rfl (fun w' => ?_) ?_
          rotate_left
          · go_simp <;> with_reducible rfl
          try simp only [pUt, pLt, pZt, pSt]
          refine wpPlan_take (o := ⟨some 22, _, _, _, _, _⟩) (v := ?_) rfl rfl (fun w' hS => ?_) ?_
          rotate_left
          · obtain ⟨p50_0, p51_0⟩ := hS; go_simp <;> with_reducible rfl
          try simp only [pUt, pLt, pZt, pSt]
          refine wpPlan_pure (o := ⟨some 23, _, _, _, _, _⟩) (v := ?_) rfl rfl (fun w' => ?_) ?_
          rotate_left
          · go_simp <;> with_reducible rfl
          try simp only [pUt, pLt, pZt, pSt]
          refine wpPlan_pure (o := ⟨some 24, _, _, _, _, _⟩) (v := ?_) rfl rfl (fun w' => ?_) ?_
          rotate_left
          · go_simp <;> with_reducible rfl
          try simp only [pUt, pLt, pZt, pSt]
          refine wpPlan_done ?_
          go_wp2_with fail
          with_reducible refine (normV_q (hg.out.below (below_trans hB (below_trans (b := wr) Bz (by go_grown)))) hM hn (Lib.hid (Tab.below hT.out (below_trans hB (below_trans (b := wr) Bz (by go_grown)))))).mono ?_
          rintro e w1 ⟨A1, n1, c1, rfl, h1, b1⟩
          replace b1 := below_trans (a := wr) (by go_grown) b1
          replace Bz := below_trans Bz b1
          clear b1
          clear p50_0 p51_0
          go_wp2_with fail
          go_ret
          have hF := below_trans (c := w1) hB Bz
          have hF2 := h1.len
          exact ⟨A1, n1, c1, nrm (prs L), rfl, (NV.below h1 (by go_grown)).gv (nrm_nrm _).rise, (nrm_nrm _).rise, nrm_get _, by have := nrm_len (prs L); have := HLN.out; rw [prs_len] at *; omega, below_trans (below_trans hB Bz) (by go_grown)⟩
    · obtain rfl : i = n := by omega
      have i1 : ¬ (i : Int) < (i : Int) := by omega
      rw [List.take_of_length_le (by rw [HLN.out]; exact Nat.le_refl _)] at hr
      have HR := Lib.hid hr
      clear hr
      go_wp2_with fail
      go_ret
      exact ⟨A, i, c, prs L, rfl, (hg.out.below hB).mono (Nat.le_succ _), HR.out, fun _ => rfl, Nat.le_refl _, hB⟩
/-- A state of the loop of join. -/
def JN1 (w : World) (P Q : List (Int × Rat)) (n m MM gk : Nat) (s5 s6 s7 : Value) (wr : World) : Prop :=
  ∃ (i j k : Nat) (H : Option Addr) (hc : Nat) (O : List Tm), s5 = .slice H k hc ∧ s6 = .int .i64 (i : Int) ∧ s7 = .int .i64 (j : Int) ∧ i ≤ n ∧ j ≤ m ∧ n - i + (m - j) ≤ gk ∧ k ≤ i + j ∧
    OwnR wr w.heap.size 81 5 (.slice H k hc) k (flat Tm.cs O) ∧ Joined (prs O) P Q i j ∧ OnT wr O (fun _ => MM) ∧ Below w.heap.size w wr
theorem add_wrap {n m : Nat} (hn : n ≤ 1000000) (hm : m ≤ 1000000) : IntKind.i64.wrap ((n : Int) + (m : Int)) = ((n + m : Nat) : Int) := by rw [IntWalk.i64_in _ (by omega)]; omega
set_option maxRecDepth 100000 in
set_option maxHeartbeats 8000000 in
theorem join_q {w : World} {X Y : Option Addr} {n cx m cy M M' : Nat} {P Q : List (Int × Rat)} (h : NV w X n cx P M) (h' : NV w Y m cy Q M') (hP : Nrm P) (hQ : Nrm Q) (hM : M + M' ≤ 18000) (hn : n ≤ 1000000) (hm : m ≤ 1000000) (hT : Hid (Tab w)) :
    Calls Tryd.prog 52 #[.slice X n cx, .slice Y m cy] w (TellsV w (nrm (P ++ Q)) (M + M')) := by
  obtain ⟨LX, x1, x2, rfl, x4⟩ := h
  obtain ⟨LY, y1, y2, rfl, y4⟩ := h'
  have HSX := Lib.hid x1
  have HLX := Lib.hid x1.1
  have HNX := Lib.hid x2
  have HSY := Lib.hid y1
  have HLY := Lib.hid y1.1
  have HNY := Lib.hid y2
  have HPX := Lib.hid hP
  have HPY := Lib.hid hQ
  have w0 := add_wrap hn hm
  clear x1 x2 x4 y1 y2 y4 hP hQ
  go_enter Tryd.func52, Tryd.ntmps52
  go_wp2_with (at_make; refine And.left (b := True) ?_)
  refine ⟨?_, trivial⟩
  refine Elt.make elt_vec rfl _ _ rfl .i64 .i64 _ (n + m) rfl rfl (by first | rfl | (push_cast; rfl) | omega) (by omega) w.heap.size (Nat.le_refl _) ?_
  intro g0 w1 ho1 hB1 hg0
  have HO1 := Lib.hid ho1
  have HB1 := Lib.hid hB1
  clear ho1 hB1 hg0
  go_wp2_with fail
  go_loopg [5, 6, 7] (n + m) (fun gk s5 s6 s7 wr => JN1 w (prs LX) (prs LY) n m (M + M') gk s5 s6 s7 wr)
  case atStart => exact ⟨0, 0, 0, _, _, [], rfl, rfl, rfl, Nat.zero_le _, Nat.zero_le _, Nat.le_refl _, Nat.le_refl _, HO1.out.below (by go_grown), Joined.start _ _, OnT.nil _ _, below_trans HB1.out (by go_grown)⟩
  case round =>
    clear HO1 HB1 w0
    obtain ⟨i, j, k, H, hc, O, rfl, rfl, rfl, hi, hj, hgk, hk, ho, hjo, hon, hB⟩ := hrel
    have HJO := Lib.hid hjo
    have i2 : (0 : Int) ≤ (i : Int) := by omega
    have j2 : (0 : Int) ≤ (j : Int) := by omega
    by_cases hin : i < n
    · obtain ⟨bx, ox, rfl, hel⟩ := HSX.out.at Tm.cs_len (by omega) (by omega)
      obtain ⟨x, hx⟩ : ∃ x, LX[i]? = some x := ⟨LX[i]'(by rw [HLX.out]; exact hin), List.getElem?_eq_getElem _⟩
      have hnd := hel i x hx
      have hxn := HNX.out x (List.mem_of_getElem? hx)
      have hnx := hxn.1.below hB
      have hrx := hnx.r
      have hxs : sz x.x.q + 1 ≤ M := hxn.2.2
      have hpx := prs_get hx
      have i1 : (i : Int) < (n : Int) := by omega
      have i3 : ((i : Int) == (n : Int)) = false := by rw [beq_eq_false_iff_ne]; omega
      clear hel hx
      by_cases hjm : j < m
      · obtain ⟨by_, oy, rfl, hel'⟩ := HSY.out.at Tm.cs_len (by omega) (by omega)
        obtain ⟨y, hy⟩ : ∃ y, LY[j]? = some y := ⟨LY[j]'(by rw [HLY.out]; exact hjm), List.getElem?_eq_getElem _⟩
        have hnd' := hel' j y hy
        have hyn := HNY.out y (List.mem_of_getElem? hy)
        have hny := hyn.1.below hB
        have hry := hny.r
        have hys : sz y.x.q + 1 ≤ M' := hyn.2.2
        have hpy := prs_get hy
        have j1 : (j : Int) < (m : Int) := by omega
        have j3 : ((j : Int) == (m : Int)) = false := by rw [beq_eq_false_iff_ne]; omega
        clear hel' hy
        by_cases hxy : x.at_ < y.at_
        · have HJ2 : Hid (Joined (prs (O ++ [x])) (prs LX) (prs LY) (i + 1) j) := Lib.hid (by rw [prs_append]; exact HJO.out.left HPX.out hpx (HPY.out.rise.behind hpy hxy))
          have HS1 : Hid (sz x.x.q + 1 ≤ M + M') := Lib.hid (by omega)
          have HEX := Lib.hid hxn.2.1
          have g1 : x.at_ < y.at_ := hxy
          clear hxy hxn hyn hpx hpy hjo
          have Bz := Below.refl wr.heap.size wr
          have p50_0 := (hnd.below (below_trans hB Bz)).c0 (u := .int .i64 x.at_) rfl
          have p50_1 := (hnd.below (below_trans hB Bz)).at 1 (.bool x.x.s) rfl
          have p50_2 := (hnd.below (below_trans hB Bz)).at 2 (.slice x.x.A x.x.l x.x.c) rfl
          have p50_3 := (hnd.below (below_trans hB Bz)).at 3 (.bool x.x.s') rfl
          have p50_4 := (hnd.below (below_trans hB Bz)).at 4 (.slice x.x.A' x.x.l' x.x.c') rfl
          have p51_0 := (hnd'.below (below_trans hB Bz)).c0 (u := .int .i64 y.at_) rfl
          go_wp2_with fail
          (try simp only [List.append_eq, List.cons_append, List.nil_append])
          refine wp_region_plan (.pure 0 (.pure 1 (.pure 2 (.pure 3 (.pure 4 (.pure 5 (.pure 6 (.pure 7 (.pure 8 (.pure 9 (.pure 10 (.pure 11 (.pure 12 (.pure 13 (.take 14 (.pure 15 (.pure 16 (.pure 17 (.pure 18 (.take 19 (.pure 20 (.pure 21 (.pure 22 (.pure 23 .done)))))))))))))))))))))))) [] (fun w' => w'.cell? ⟨bx, ox + i * 5, none⟩ = some (.int .i64 x.at_) ∧ w'.cell? ⟨by_, oy + j * 5, none⟩ = some (.int .i64 y.at_)) (by kernel_rfl) (by kernel_rfl) ⟨p50_0, p51_0⟩ ?_
          refine wpPlan_pure (o := ⟨some 54, _, _, _, _, _⟩) (v := ?_) rfl rfl (fun w' => ?_) ?_
          rotate_left
          · go_simp <;> with_reducible rfl
          try simp only [pUt, pLt, pZt, pSt]
          refine wpPlan_pure (o := ⟨some 55, _, _, _, _, _⟩) (v := ?_) rfl rfl (fun w' => ?_) ?_
          rotate_left
          · go_simp <;> with_reducible rfl
          try simp only [pUt, pLt, pZt, pSt]
          refine wpPlan_pure (o := ⟨some 56, _, _, _, _, _⟩) (v := ?_) rfl rfl (fun w' => ?_) ?_
          rotate_left
          · go_simp <;> with_reducible rfl
          try simp only [pUt, pLt, pZt, pSt]
          refine wpPlan_pure (o := ⟨some 57, _, _, _, _, _⟩) (v := ?_) rfl rfl (fun w' => ?_) ?_
          rotate_left
          · go_simp <;> with_reducible rfl
          try simp only [pUt, pLt, pZt, pSt]
          refine wpPlan_pure (o := ⟨some 58, _, _, _, _, _⟩) (v := ?_) rfl rfl (fun w' => ?_) ?_
          rotate_left
          · go_simp <;> with_reducible rfl
          try simp only [pUt, pLt, pZt, pSt]
          refine wpPlan_pure (o := ⟨some 59, _, _, _, _, _⟩) (v := ?_) rfl rfl (fun w' => ?_) ?_
          rotate_left
          · go_simp <;> with_reducible rfl
          try simp only [pUt, pLt, pZt, pSt]
          refine wpPlan_pure (o := ⟨some 60, _, _, _, _, _⟩) (v := ?_) rfl rfl (fun w' => ?_) ?_
          rotate_left
          · go_simp <;> with_reducible rfl
          try simp only [pUt, pLt, pZt, pSt]
          refine wpPlan_pure (o := ⟨some 61, _, _, _, _, _⟩) (v := ?_) rfl rfl (fun w' => ?_) ?_
          rotate_left
          · go_simp <;> with_reducible rfl
          try simp only [pUt, pLt, pZt, pSt]
          refine wpPlan_pure (o := ⟨some 62, _, _, _, _, _⟩) (v := ?_) rfl rfl (fun w' => ?_) ?_
          rotate_left
          · go_simp <;> with_reducible rfl
          try simp only [pUt, pLt, pZt, pSt]
          refine wpPlan_pure (o := ⟨some 63, _, _, _, _, _⟩) (v := ?_) rfl rfl (fun w' => ?_) ?_
          rotate_left
          · go_simp <;> with_reducible rfl
          try simp only [pUt, pLt, pZt, pSt]
          refine wpPlan_pure (o := ⟨some 64, _, _, _, _, _⟩) (v := ?_) rfl rfl (fun w' => ?_) ?_
          rotate_left
          · go_simp <;> with_reducible rfl
          try simp only [pUt, pLt, pZt, pSt]
          refine wpPlan_pure (o := ⟨some 65, _, _, _, _, _⟩) (v := ?_) rfl rfl (fun w' => ?_) ?_
          rotate_left
          · go_simp <;> with_reducible rfl
          try simp only [pUt, pLt, pZt, pSt]
          refine wpPlan_pure (o := ⟨some 66, _, _, _, _, _⟩) (v := ?_) rfl rfl (fun w' => ?_) ?_
          rotate_left
          · go_simp <;> with_reducible rfl
          try simp only [pUt, pLt, pZt, pSt]
          refine wpPlan_pure (o := ⟨some 67, _, _, _, _, _⟩) (v := ?_) rfl rfl (fun w' => ?_) ?_
          rotate_left
          · go_simp <;> with_reducible rfl
          try simp only [pUt, pLt, pZt, pSt]
          refine wpPlan_take (o := ⟨some 68, _, _, _, _, _⟩) (v := ?_) rfl rfl (fun w' hS => ?_) ?_
          rotate_left
          · obtain ⟨p50_0, p51_0⟩ := hS; go_simp <;> with_reducible rfl
          try simp only [pUt, pLt, pZt, pSt]
          refine wpPlan_pure (o := ⟨some 69, _, _, _, _, _⟩) (v := ?_) rfl rfl (fun w' => ?_) ?_
          rotate_left
          · go_simp <;> with_reducible rfl
          try simp only [pUt, pLt, pZt, pSt]
          refine wpPlan_pure (o := ⟨some 70, _, _, _, _, _⟩) (v := ?_) rfl rfl (fun w' => ?_) ?_
          rotate_left
          · go_simp <;> with_reducible rfl
          try simp only [pUt, pLt, pZt, pSt]
          refine wpPlan_pure (o := ⟨some 71, _, _, _, _, _⟩) (v := ?_) rfl rfl (fun w' => ?_) ?_
          rotate_left
          · go_simp <;> with_reducible rfl
          try simp only [pUt, pLt, pZt, pSt]
          refine wpPlan_pure (o := ⟨some 72, _, _, _, _, _⟩) (v := ?_) rfl rfl (fun w' => ?_) ?_
          rotate_left
          · go_simp <;> with_reducible rfl
          try simp only [pUt, pLt, pZt, pSt]
          refine wpPlan_take (o := ⟨some 73, _, _, _, _, _⟩) (v := ?_) rfl rfl (fun w' hS => ?_) ?_
          rotate_left
          · obtain ⟨p50_0, p51_0⟩ := hS; go_simp <;> with_reducible rfl
          try simp only [pUt, pLt, pZt, pSt]
          refine wpPlan_pure (o := ⟨some 74, _, _, _, _, _⟩) (v := ?_) rfl rfl (fun w' => ?_) ?_
          rotate_left
          · go_simp <;> with_reducible rfl
          try simp only [pUt, pLt, pZt, pSt]
          refine wpPlan_pure (o := ⟨some 75, _, _, _, _, _⟩) (v := ?_) rfl rfl (fun w' => ?_) ?_
          rotate_left
          · go_simp <;> with_reducible rfl
          try simp only [pUt, pLt, pZt, pSt]
          refine wpPlan_pure (o := ⟨some 76, _, _, _, _, _⟩) (v := ?_) rfl rfl (fun w' => ?_) ?_
          rotate_left
          · go_simp <;> with_reducible rfl
          try simp only [pUt, pLt, pZt, pSt]
          refine wpPlan_pure (o := ⟨some 53, _, _, _, _, _⟩) (v := ?_) rfl rfl (fun w' => ?_) ?_
          rotate_left
          · go_simp <;> with_reducible rfl
          try simp only [pUt, pLt, pZt, pSt]
          refine wpPlan_done ?_
          go_wp2_with (at_builtin; refine And.left (b := True) ?_)
          refine ⟨?_, trivial⟩
          obtain ⟨V1, hW, x0, hN⟩ := boxes1 wr #[.int .i64 x.at_, .bool x.x.s, .slice x.x.A x.x.l x.x.c, .bool x.x.s', .slice x.x.A' x.x.l' x.x.c'] 81
          rw [← hW]
          clear hW
          obtain ⟨v0, hb0⟩ : ∃ b, b = wr.heap.size := ⟨_, rfl⟩
          rw [← hb0] at x0 ⊢
          have ow_0 : w.heap.size ≤ v0 := by have := hB.size; have := Bz.size; omega
          have nv0_own := OwnR.off' (b := v0) ho (by omega)
          replace hnx := hnx.below hN
          replace hon := hon.below hN
          replace ho := ho.below hN
          replace hB := below_trans (below_trans hB Bz) hN
          have HX0 := Lib.hid x0
          clear x0 hN Bz hb0
          have Bz := Below.refl V1.heap.size V1
          clear p50_0 p50_1 p50_2 p50_3 p50_4 p51_0
          have hdr : V1.drew.heap.size = V1.heap.size := rfl
          have hdr2 : V1.drew.drew.heap.size = V1.heap.size := rfl
          refine Elt.app elt_vec rfl _ _ rfl (w.heap.size) (.slice H k hc) (k) (O) rfl ho (.slice (some ⟨v0, 0, none⟩) 1 1) (1) ([x]) rfl (From.one (HX0.out.below (below_trans Bz (by go_grown))) (x) rfl (elt_vec.len _)) (by omega) (by have := hB.size; have := Bz.size; omega) ?_
          intro H1 c1 w1 ho1 hg1
          replace hB := (below_trans (below_trans hB Bz) (by go_grown)).trans (hg1.below (by have := hB.size; have := Bz.size; omega) (fun g hg => by have := ho.base g hg; omega))
          clear HX0
          clear hdr hdr2
          replace hnx := hnx.k hg1.k
          replace hon := hon.k hg1.k
          clear hg1 Bz
          have Bz := Below.refl w1.heap.size w1
          go_wp2_with fail
          have hs1 := HS1.out
          go_roundg (n - (i + 1) + (m - (j)))
          case measure => omega
          case rel => exact ⟨i + 1, j, k + 1, _, _, _, rfl, by go_num, rfl, by omega, by omega, Nat.le_refl _, by omega, OwnR.below ho1 (by go_grown), HJ2.out, (OnT.below hon (by go_grown)).snoc (RN.below hnx (by go_grown)) HEX.out hs1, below_trans (below_trans hB Bz) (by go_grown)⟩
        · have g1 : ¬ x.at_ < y.at_ := hxy
          by_cases hyx : y.at_ < x.at_
          · have HJ2 : Hid (Joined (prs (O ++ [y])) (prs LX) (prs LY) i (j + 1)) := Lib.hid (by rw [prs_append]; exact HJO.out.right HPY.out hpy (HPX.out.rise.behind hpx hyx))
            have HS1 : Hid (sz y.x.q + 1 ≤ M + M') := Lib.hid (by omega)
            have HEX := Lib.hid hyn.2.1
            have g2 : y.at_ < x.at_ := hyx
            clear hxy hyx hxn hyn hpx hpy hjo
            have Bz := Below.refl wr.heap.size wr
            have p50_0 := (hnd.below (below_trans hB Bz)).c0 (u := .int .i64 x.at_) rfl
            have p51_0 := (hnd'.below (below_trans hB Bz)).c0 (u := .int .i64 y.at_) rfl
            have p51_1 := (hnd'.below (below_trans hB Bz)).at 1 (.bool y.x.s) rfl
            have p51_2 := (hnd'.below (below_trans hB Bz)).at 2 (.slice y.x.A y.x.l y.x.c) rfl
            have p51_3 := (hnd'.below (below_trans hB Bz)).at 3 (.bool y.x.s') rfl
            have p51_4 := (hnd'.below (below_trans hB Bz)).at 4 (.slice y.x.A' y.x.l' y.x.c') rfl
            go_wp2_with fail
            (try simp only [List.append_eq, List.cons_append, List.nil_append])
            refine wp_region_plan (.pure 0 (.pure 1 (.pure 2 (.pure 3 (.pure 4 (.pure 5 (.pure 6 (.pure 7 (.pure 8 (.pure 9 (.pure 10 (.pure 11 (.pure 12 (.pure 13 (.take 14 (.pure 15 (.pure 16 (.pure 17 (.pure 18 (.take 19 (.pure 20 (.pure 21 (.pure 22 (.pure 23 .done)))))))))))))))))))))))) [] (fun w' => w'.cell? ⟨bx, ox + i * 5, none⟩ = some (.int .i64 x.at_) ∧ w'.cell? ⟨by_, oy + j * 5, none⟩ = some (.int .i64 y.at_)) (by kernel_rfl) (by kernel_rfl) ⟨p50_0, p51_0⟩ ?_
            refine wpPlan_pure (o := ⟨some 54, _, _, _, _, _⟩) (v := ?_) rfl rfl (fun w' => ?_) ?_
            rotate_left
            · go_simp <;> with_reducible rfl
            try simp only [pUt, pLt, pZt, pSt]
            refine wpPlan_pure (o := ⟨some 55, _, _, _, _, _⟩) (v := ?_) rfl rfl (fun w' => ?_) ?_
            rotate_left
            · go_simp <;> with_reducible rfl
            try simp only [pUt, pLt, pZt, pSt]
            refine wpPlan_pure (o := ⟨some 56, _, _, _, _, _⟩) (v := ?_) rfl rfl (fun w' => ?_) ?_
            rotate_left
            · go_simp <;> with_reducible rfl
            try simp only [pUt, pLt, pZt, pSt]
            refine wpPlan_pure (o := ⟨some 57, _, _, _, _, _⟩) (v := ?_) rfl rfl (fun w' => ?_) ?_
            rotate_left
            · go_simp <;> with_reducible rfl
            try simp only [pUt, pLt, pZt, pSt]
            refine wpPlan_pure (o := ⟨some 58, _, _, _, _, _⟩) (v := ?_) rfl rfl (fun w' => ?_) ?_
            rotate_left
            · go_simp <;> with_reducible rfl
            try simp only [pUt, pLt, pZt, pSt]
            refine wpPlan_pure (o := ⟨some 59, _, _, _, _, _⟩) (v := ?_) rfl rfl (fun w' => ?_) ?_
            rotate_left
            · go_simp <;> with_reducible rfl
            try simp only [pUt, pLt, pZt, pSt]
            refine wpPlan_pure (o := ⟨some 60, _, _, _, _, _⟩) (v := ?_) rfl rfl (fun w' => ?_) ?_
            rotate_left
            · go_simp <;> with_reducible rfl
            try simp only [pUt, pLt, pZt, pSt]
            refine wpPlan_pure (o := ⟨some 61, _, _, _, _, _⟩) (v := ?_) rfl rfl (fun w' => ?_) ?_
            rotate_left
            · go_simp <;> with_reducible rfl
            try simp only [pUt, pLt, pZt, pSt]
            refine wpPlan_pure (o := ⟨some 62, _, _, _, _, _⟩) (v := ?_) rfl rfl (fun w' => ?_) ?_
            rotate_left
            · go_simp <;> with_reducible rfl
            try simp only [pUt, pLt, pZt, pSt]
            refine wpPlan_pure (o := ⟨some 63, _, _, _, _, _⟩) (v := ?_) rfl rfl (fun w' => ?_) ?_
            rotate_left
            · go_simp <;> with_reducible rfl
            try simp only [pUt, pLt, pZt, pSt]
            refine wpPlan_pure (o := ⟨some 64, _, _, _, _, _⟩) (v := ?_) rfl rfl (fun w' => ?_) ?_
            rotate_left
            · go_simp <;> with_reducible rfl
            try simp only [pUt, pLt, pZt, pSt]
            refine wpPlan_pure (o := ⟨some 65, _, _, _, _, _⟩) (v := ?_) rfl rfl (fun w' => ?_) ?_
            rotate_left
            · go_simp <;> with_reducible rfl
            try simp only [pUt, pLt, pZt, pSt]
            refine wpPlan_pure (o := ⟨some 66, _, _, _, _, _⟩) (v := ?_) rfl rfl (fun w' => ?_) ?_
            rotate_left
            · go_simp <;> with_reducible rfl
            try simp only [pUt, pLt, pZt, pSt]
            refine wpPlan_pure (o := ⟨some 67, _, _, _, _, _⟩) (v := ?_) rfl rfl (fun w' => ?_) ?_
            rotate_left
            · go_simp <;> with_reducible rfl
            try simp only [pUt, pLt, pZt, pSt]
            refine wpPlan_take (o := ⟨some 68, _, _, _, _, _⟩) (v := ?_) rfl rfl (fun w' hS => ?_) ?_
            rotate_left
            · obtain ⟨p50_0, p51_0⟩ := hS; go_simp <;> with_reducible rfl
            try simp only [pUt, pLt, pZt, pSt]
            refine wpPlan_pure (o := ⟨some 69, _, _, _, _, _⟩) (v := ?_) rfl rfl (fun w' => ?_) ?_
            rotate_left
            · go_simp <;> with_reducible rfl
            try simp only [pUt, pLt, pZt, pSt]
            refine wpPlan_pure (o := ⟨some 70, _, _, _, _, _⟩) (v := ?_) rfl rfl (fun w' => ?_) ?_
            rotate_left
            · go_simp <;> with_reducible rfl
            try simp only [pUt, pLt, pZt, pSt]
            refine wpPlan_pure (o := ⟨some 71, _, _, _, _, _⟩) (v := ?_) rfl rfl (fun w' => ?_) ?_
            rotate_left
            · go_simp <;> with_reducible rfl
            try simp only [pUt, pLt, pZt, pSt]
            refine wpPlan_pure (o := ⟨some 72, _, _, _, _, _⟩) (v := ?_) rfl rfl (fun w' => ?_) ?_
            rotate_left
            · go_simp <;> with_reducible rfl
            try simp only [pUt, pLt, pZt, pSt]
            refine wpPlan_take (o := ⟨some 73, _, _, _, _, _⟩) (v := ?_) rfl rfl (fun w' hS => ?_) ?_
            rotate_left
            · obtain ⟨p50_0, p51_0⟩ := hS; go_simp <;> with_reducible rfl
            try simp only [pUt, pLt, pZt, pSt]
            refine wpPlan_pure (o := ⟨some 74, _, _, _, _, _⟩) (v := ?_) rfl rfl (fun w' => ?_) ?_
            rotate_left
            · go_simp <;> with_reducible rfl
            try simp only [pUt, pLt, pZt, pSt]
            refine wpPlan_pure (o := ⟨some 75, _, _, _, _, _⟩) (v := ?_) rfl rfl (fun w' => ?_) ?_
            rotate_left
            · go_simp <;> with_reducible rfl
            try simp only [pUt, pLt, pZt, pSt]
            refine wpPlan_pure (o := ⟨some 76, _, _, _, _, _⟩) (v := ?_) rfl rfl (fun w' => ?_) ?_
            rotate_left
            · go_simp <;> with_reducible rfl
            try simp only [pUt, pLt, pZt, pSt]
            refine wpPlan_pure (o := ⟨some 53, _, _, _, _, _⟩) (v := ?_) rfl rfl (fun w' => ?_) ?_
            rotate_left
            · go_simp <;> with_reducible rfl
            try simp only [pUt, pLt, pZt, pSt]
            refine wpPlan_done ?_
            go_wp2_with fail
            (try simp only [List.append_eq, List.cons_append, List.nil_append])
            refine wp_region_plan (.pure 0 (.pure 1 (.pure 2 (.pure 3 (.pure 4 (.pure 5 (.pure 6 (.pure 7 (.pure 8 (.take 9 (.pure 10 (.pure 11 (.pure 12 (.pure 13 (.take 14 (.pure 15 (.pure 16 (.pure 17 .done)))))))))))))))))) [] (fun w' => w'.cell? ⟨bx, ox + i * 5, none⟩ = some (.int .i64 x.at_) ∧ w'.cell? ⟨by_, oy + j * 5, none⟩ = some (.int .i64 y.at_)) (by kernel_rfl) (by kernel_rfl) ⟨p50_0, p51_0⟩ ?_
            refine wpPlan_pure (o := ⟨some 87, _, _, _, _, _⟩) (v := ?_) rfl rfl (fun w' => ?_) ?_
            rotate_left
            · go_simp <;> with_reducible rfl
            try simp only [pUt, pLt, pZt, pSt]
            refine wpPlan_pure (o := ⟨some 88, _, _, _, _, _⟩) (v := ?_) rfl rfl (fun w' => ?_) ?_
            rotate_left
            · go_simp <;> with_reducible rfl
            try simp only [pUt, pLt, pZt, pSt]
            refine wpPlan_pure (o := ⟨some 89, _, _, _, _, _⟩) (v := ?_) rfl rfl (fun w' => ?_) ?_
            rotate_left
            · go_simp <;> with_reducible rfl
            try simp only [pUt, pLt, pZt, pSt]
            refine wpPlan_pure (o := ⟨some 90, _, _, _, _, _⟩) (v := ?_) rfl rfl (fun w' => ?_) ?_
            rotate_left
            · go_simp <;> with_reducible rfl
            try simp only [pUt, pLt, pZt, pSt]
            refine wpPlan_pure (o := ⟨some 91, _, _, _, _, _⟩) (v := ?_) rfl rfl (fun w' => ?_) ?_
            rotate_left
            · go_simp <;> with_reducible rfl
            try simp only [pUt, pLt, pZt, pSt]
            refine wpPlan_pure (o := ⟨some 92, _, _, _, _, _⟩) (v := ?_) rfl rfl (fun w' => ?_) ?_
            rotate_left
            · go_simp <;> with_reducible rfl
            try simp only [pUt, pLt, pZt, pSt]
            refine wpPlan_pure (o := ⟨some 93, _, _, _, _, _⟩) (v := ?_) rfl rfl (fun w' => ?_) ?_
            rotate_left
            · go_simp <;> with_reducible rfl
            try simp only [pUt, pLt, pZt, pSt]
            refine wpPlan_pure (o := ⟨some 94, _, _, _, _, _⟩) (v := ?_) rfl rfl (fun w' => ?_) ?_
            rotate_left
            · go_simp <;> with_reducible rfl
            try simp only [pUt, pLt, pZt, pSt]
            refine wpPlan_pure (o := ⟨some 95, _, _, _, _, _⟩) (v := ?_) rfl rfl (fun w' => ?_) ?_
            rotate_left
            · go_simp <;> with_reducible rfl
            try simp only [pUt, pLt, pZt, pSt]
            refine wpPlan_take (o := ⟨some 96, _, _, _, _, _⟩) (v := ?_) rfl rfl (fun w' hS => ?_) ?_
            rotate_left
            · obtain ⟨p50_0, p51_0⟩ := hS; go_simp <;> with_reducible rfl
            try simp only [pUt, pLt, pZt, pSt]
            refine wpPlan_pure (o := ⟨some 97, _, _, _, _, _⟩) (v := ?_) rfl rfl (fun w' => ?_) ?_
            rotate_left
            · go_simp <;> with_reducible rfl
            try simp only [pUt, pLt, pZt, pSt]
            refine wpPlan_pure (o := ⟨some 98, _, _, _, _, _⟩) (v := ?_) rfl rfl (fun w' => ?_) ?_
            rotate_left
            · go_simp <;> with_reducible rfl
            try simp only [pUt, pLt, pZt, pSt]
            refine wpPlan_pure (o := ⟨some 99, _, _, _, _, _⟩) (v := ?_) rfl rfl (fun w' => ?_) ?_
            rotate_left
            · go_simp <;> with_reducible rfl
            try simp only [pUt, pLt, pZt, pSt]
            refine wpPlan_pure (o := ⟨some 100, _, _, _, _, _⟩) (v := ?_) rfl rfl (fun w' => ?_) ?_
            rotate_left
            · go_simp <;> with_reducible rfl
            try simp only [pUt, pLt, pZt, pSt]
            refine wpPlan_take (o := ⟨some 101, _, _, _, _, _⟩) (v := ?_) rfl rfl (fun w' hS => ?_) ?_
            rotate_left
            · obtain ⟨p50_0, p51_0⟩ := hS; go_simp <;> with_reducible rfl
            try simp only [pUt, pLt, pZt, pSt]
            refine wpPlan_pure (o := ⟨some 102, _, _, _, _, _⟩) (v := ?_) rfl rfl (fun w' => ?_) ?_
            rotate_left
            · go_simp <;> with_reducible rfl
            try simp only [pUt, pLt, pZt, pSt]
            refine wpPlan_pure (o := ⟨some 103, _, _, _, _, _⟩) (v := ?_) rfl rfl (fun w' => ?_) ?_
            rotate_left
            · go_simp <;> with_reducible rfl
            try simp only [pUt, pLt, pZt, pSt]
            refine wpPlan_pure (o := ⟨some 86, _, _, _, _, _⟩) (v := ?_) rfl rfl (fun w' => ?_) ?_
            rotate_left
            · go_simp <;> with_reducible rfl
            try simp only [pUt, pLt, pZt, pSt]
            refine wpPlan_done ?_
            go_wp2_with (at_builtin; refine And.left (b := True) ?_)
            refine ⟨?_, trivial⟩
            obtain ⟨V1, hW, x0, hN⟩ := boxes1 wr #[.int .i64 y.at_, .bool y.x.s, .slice y.x.A y.x.l y.x.c, .bool y.x.s', .slice y.x.A' y.x.l' y.x.c'] 81
            rw [← hW]
            clear hW
            obtain ⟨v0, hb0⟩ : ∃ b, b = wr.heap.size := ⟨_, rfl⟩
            rw [← hb0] at x0 ⊢
            have ow_0 : w.heap.size ≤ v0 := by have := hB.size; have := Bz.size; omega
            have nv0_own := OwnR.off' (b := v0) ho (by omega)
            replace hny := hny.below hN
            replace hon := hon.below hN
            replace ho := ho.below hN
            replace hB := below_trans (below_trans hB Bz) hN
            have HX0 := Lib.hid x0
            clear x0 hN Bz hb0
            have Bz := Below.refl V1.heap.size V1
            clear p50_0 p51_0 p51_1 p51_2 p51_3 p51_4
            have hdr : V1.drew.heap.size = V1.heap.size := rfl
            have hdr2 : V1.drew.drew.heap.size = V1.heap.size := rfl
            refine Elt.app elt_vec rfl _ _ rfl (w.heap.size) (.slice H k hc) (k) (O) rfl ho (.slice (some ⟨v0, 0, none⟩) 1 1) (1) ([y]) rfl (From.one (HX0.out.below (below_trans Bz (by go_grown))) (y) rfl (elt_vec.len _)) (by omega) (by have := hB.size; have := Bz.size; omega) ?_
            intro H1 c1 w1 ho1 hg1
            replace hB := (below_trans (below_trans hB Bz) (by go_grown)).trans (hg1.below (by have := hB.size; have := Bz.size; omega) (fun g hg => by have := ho.base g hg; omega))
            clear HX0
            clear hdr hdr2
            replace hny := hny.k hg1.k
            replace hon := hon.k hg1.k
            clear hg1 Bz
            have Bz := Below.refl w1.heap.size w1
            go_wp2_with fail
            have hs1 := HS1.out
            go_roundg (n - (i) + (m - (j + 1)))
            case measure => omega
            case rel => exact ⟨i, j + 1, k + 1, _, _, _, rfl, rfl, by go_num, by omega, by omega, Nat.le_refl _, by omega, OwnR.below ho1 (by go_grown), HJ2.out, (OnT.below hon (by go_grown)).snoc (RN.below hny (by go_grown)) HEX.out hs1, below_trans (below_trans hB Bz) (by go_grown)⟩
          · have g2 : ¬ y.at_ < x.at_ := hyx
            have hb := HJO.out.both HPX.out HPY.out hpx hpy (show x.at_ = y.at_ by omega)
            have hsz := sz_add (Nat.le_refl (sz x.x.q)) (Nat.le_refl (sz y.x.q))
            obtain ⟨z, HZ⟩ : ∃ z, Hid ((x.x.q + y.x.q).num.sign = z) := ⟨_, Lib.hid rfl⟩
            have hz0 : (z == 0) = decide (x.x.q + y.x.q = 0) := by rw [← HZ.out, num_sign]
            by_cases hs0 : x.x.q + y.x.q = 0
            · have g3 : (z != 0) = false := by rw [decide_eq_true hs0] at hz0; unfold bne; rw [hz0]; rfl
              have HJ2 : Hid (Joined (prs O) (prs LX) (prs LY) (i + 1) (j + 1)) := Lib.hid (hb.1 hs0)
              have HS1 : Hid (0 ≤ M + M') := Lib.hid (Nat.zero_le _)
              clear hxy hyx hxn hyn hpx hpy hjo hb hz0 hs0
              have Bz := Below.refl wr.heap.size wr
              have p50_0 := (hnd.below (below_trans hB Bz)).c0 (u := .int .i64 x.at_) rfl
              have p50_1 := (hnd.below (below_trans hB Bz)).at 1 (.bool x.x.s) rfl
              have p50_2 := (hnd.below (below_trans hB Bz)).at 2 (.slice x.x.A x.x.l x.x.c) rfl
              have p50_3 := (hnd.below (below_trans hB Bz)).at 3 (.bool x.x.s') rfl
              have p50_4 := (hnd.below (below_trans hB Bz)).at 4 (.slice x.x.A' x.x.l' x.x.c') rfl
              have p51_0 := (hnd'.below (below_trans hB Bz)).c0 (u := .int .i64 y.at_) rfl
              have p51_1 := (hnd'.below (below_trans hB Bz)).at 1 (.bool y.x.s) rfl
              have p51_2 := (hnd'.below (below_trans hB Bz)).at 2 (.slice y.x.A y.x.l y.x.c) rfl
              have p51_3 := (hnd'.below (below_trans hB Bz)).at 3 (.bool y.x.s') rfl
              have p51_4 := (hnd'.below (below_trans hB Bz)).at 4 (.slice y.x.A' y.x.l' y.x.c') rfl
              go_wp2_with fail
              (try simp only [List.append_eq, List.cons_append, List.nil_append])
              refine wp_region_plan (.pure 0 (.pure 1 (.pure 2 (.pure 3 (.pure 4 (.pure 5 (.pure 6 (.pure 7 (.pure 8 (.pure 9 (.pure 10 (.pure 11 (.pure 12 (.pure 13 (.take 14 (.pure 15 (.pure 16 (.pure 17 (.pure 18 (.take 19 (.pure 20 (.pure 21 (.pure 22 (.pure 23 .done)))))))))))))))))))))))) [] (fun w' => w'.cell? ⟨bx, ox + i * 5, none⟩ = some (.int .i64 x.at_) ∧ w'.cell? ⟨by_, oy + j * 5, none⟩ = some (.int .i64 y.at_)) (by kernel_rfl) (by kernel_rfl) ⟨p50_0, p51_0⟩ ?_
              refine wpPlan_pure (o := ⟨some 54, _, _, _, _, _⟩) (v := ?_) rfl rfl (fun w' => ?_) ?_
              rotate_left
              · go_simp <;> with_reducible rfl
              try simp only [pUt, pLt, pZt, pSt]
              refine wpPlan_pure (o := ⟨some 55, _, _, _, _, _⟩) (v := ?_) rfl rfl (fun w' => ?_) ?_
              rotate_left
              · go_simp <;> with_reducible rfl
              try simp only [pUt, pLt, pZt, pSt]
              refine wpPlan_pure (o := ⟨some 56, _, _, _, _, _⟩) (v := ?_) rfl rfl (fun w' => ?_) ?_
              rotate_left
              · go_simp <;> with_reducible rfl
              try simp only [pUt, pLt, pZt, pSt]
              refine wpPlan_pure (o := ⟨some 57, _, _, _, _, _⟩) (v := ?_) rfl rfl (fun w' => ?_) ?_
              rotate_left
              · go_simp <;> with_reducible rfl
              try simp only [pUt, pLt, pZt, pSt]
              refine wpPlan_pure (o := ⟨some 58, _, _, _, _, _⟩) (v := ?_) rfl rfl (fun w' => ?_) ?_
              rotate_left
              · go_simp <;> with_reducible rfl
              try simp only [pUt, pLt, pZt, pSt]
              refine wpPlan_pure (o := ⟨some 59, _, _, _, _, _⟩) (v := ?_) rfl rfl (fun w' => ?_) ?_
              rotate_left
              · go_simp <;> with_reducible rfl
              try simp only [pUt, pLt, pZt, pSt]
              refine wpPlan_pure (o := ⟨some 60, _, _, _, _, _⟩) (v := ?_) rfl rfl (fun w' => ?_) ?_
              rotate_left
              · go_simp <;> with_reducible rfl
              try simp only [pUt, pLt, pZt, pSt]
              refine wpPlan_pure (o := ⟨some 61, _, _, _, _, _⟩) (v := ?_) rfl rfl (fun w' => ?_) ?_
              rotate_left
              · go_simp <;> with_reducible rfl
              try simp only [pUt, pLt, pZt, pSt]
              refine wpPlan_pure (o := ⟨some 62, _, _, _, _, _⟩) (v := ?_) rfl rfl (fun w' => ?_) ?_
              rotate_left
              · go_simp <;> with_reducible rfl
              try simp only [pUt, pLt, pZt, pSt]
              refine wpPlan_pure (o := ⟨some 63, _, _, _, _, _⟩) (v := ?_) rfl rfl (fun w' => ?_) ?_
              rotate_left
              · go_simp <;> with_reducible rfl
              try simp only [pUt, pLt, pZt, pSt]
              refine wpPlan_pure (o := ⟨some 64, _, _, _, _, _⟩) (v := ?_) rfl rfl (fun w' => ?_) ?_
              rotate_left
              · go_simp <;> with_reducible rfl
              try simp only [pUt, pLt, pZt, pSt]
              refine wpPlan_pure (o := ⟨some 65, _, _, _, _, _⟩) (v := ?_) rfl rfl (fun w' => ?_) ?_
              rotate_left
              · go_simp <;> with_reducible rfl
              try simp only [pUt, pLt, pZt, pSt]
              refine wpPlan_pure (o := ⟨some 66, _, _, _, _, _⟩) (v := ?_) rfl rfl (fun w' => ?_) ?_
              rotate_left
              · go_simp <;> with_reducible rfl
              try simp only [pUt, pLt, pZt, pSt]
              refine wpPlan_pure (o := ⟨some 67, _, _, _, _, _⟩) (v := ?_) rfl rfl (fun w' => ?_) ?_
              rotate_left
              · go_simp <;> with_reducible rfl
              try simp only [pUt, pLt, pZt, pSt]
              refine wpPlan_take (o := ⟨some 68, _, _, _, _, _⟩) (v := ?_) rfl rfl (fun w' hS => ?_) ?_
              rotate_left
              · obtain ⟨p50_0, p51_0⟩ := hS; go_simp <;> with_reducible rfl
              try simp only [pUt, pLt, pZt, pSt]
              refine wpPlan_pure (o := ⟨some 69, _, _, _, _, _⟩) (v := ?_) rfl rfl (fun w' => ?_) ?_
              rotate_left
              · go_simp <;> with_reducible rfl
              try simp only [pUt, pLt, pZt, pSt]
              refine wpPlan_pure (o := ⟨some 70, _, _, _, _, _⟩) (v := ?_) rfl rfl (fun w' => ?_) ?_
              rotate_left
              · go_simp <;> with_reducible rfl
              try simp only [pUt, pLt, pZt, pSt]
              refine wpPlan_pure (o := ⟨some 71, _, _, _, _, _⟩) (v := ?_) rfl rfl (fun w' => ?_) ?_
              rotate_left
              · go_simp <;> with_reducible rfl
              try simp only [pUt, pLt, pZt, pSt]
              refine wpPlan_pure (o := ⟨some 72, _, _, _, _, _⟩) (v := ?_) rfl rfl (fun w' => ?_) ?_
              rotate_left
              · go_simp <;> with_reducible rfl
              try simp only [pUt, pLt, pZt, pSt]
              refine wpPlan_take (o := ⟨some 73, _, _, _, _, _⟩) (v := ?_) rfl rfl (fun w' hS => ?_) ?_
              rotate_left
              · obtain ⟨p50_0, p51_0⟩ := hS; go_simp <;> with_reducible rfl
              try simp only [pUt, pLt, pZt, pSt]
              refine wpPlan_pure (o := ⟨some 74, _, _, _, _, _⟩) (v := ?_) rfl rfl (fun w' => ?_) ?_
              rotate_left
              · go_simp <;> with_reducible rfl
              try simp only [pUt, pLt, pZt, pSt]
              refine wpPlan_pure (o := ⟨some 75, _, _, _, _, _⟩) (v := ?_) rfl rfl (fun w' => ?_) ?_
              rotate_left
              · go_simp <;> with_reducible rfl
              try simp only [pUt, pLt, pZt, pSt]
              refine wpPlan_pure (o := ⟨some 76, _, _, _, _, _⟩) (v := ?_) rfl rfl (fun w' => ?_) ?_
              rotate_left
              · go_simp <;> with_reducible rfl
              try simp only [pUt, pLt, pZt, pSt]
              refine wpPlan_pure (o := ⟨some 53, _, _, _, _, _⟩) (v := ?_) rfl rfl (fun w' => ?_) ?_
              rotate_left
              · go_simp <;> with_reducible rfl
              try simp only [pUt, pLt, pZt, pSt]
              refine wpPlan_done ?_
              go_wp2_with fail
              (try simp only [List.append_eq, List.cons_append, List.nil_append])
              refine wp_region_plan (.pure 0 (.pure 1 (.pure 2 (.pure 3 (.pure 4 (.pure 5 (.pure 6 (.pure 7 (.pure 8 (.take 9 (.pure 10 (.pure 11 (.pure 12 (.pure 13 (.take 14 (.pure 15 (.pure 16 (.pure 17 .done)))))))))))))))))) [] (fun w' => w'.cell? ⟨bx, ox + i * 5, none⟩ = some (.int .i64 x.at_) ∧ w'.cell? ⟨by_, oy + j * 5, none⟩ = some (.int .i64 y.at_)) (by kernel_rfl) (by kernel_rfl) ⟨p50_0, p51_0⟩ ?_
              refine wpPlan_pure (o := ⟨some 87, _, _, _, _, _⟩) (v := ?_) rfl rfl (fun w' => ?_) ?_
              rotate_left
              · go_simp <;> with_reducible rfl
              try simp only [pUt, pLt, pZt, pSt]
              refine wpPlan_pure (o := ⟨some 88, _, _, _, _, _⟩) (v := ?_) rfl rfl (fun w' => ?_) ?_
              rotate_left
              · go_simp <;> with_reducible rfl
              try simp only [pUt, pLt, pZt, pSt]
              refine wpPlan_pure (o := ⟨some 89, _, _, _, _, _⟩) (v := ?_) rfl rfl (fun w' => ?_) ?_
              rotate_left
              · go_simp <;> with_reducible rfl
              try simp only [pUt, pLt, pZt, pSt]
              refine wpPlan_pure (o := ⟨some 90, _, _, _, _, _⟩) (v := ?_) rfl rfl (fun w' => ?_) ?_
              rotate_left
              · go_simp <;> with_reducible rfl
              try simp only [pUt, pLt, pZt, pSt]
              refine wpPlan_pure (o := ⟨some 91, _, _, _, _, _⟩) (v := ?_) rfl rfl (fun w' => ?_) ?_
              rotate_left
              · go_simp <;> with_reducible rfl
              try simp only [pUt, pLt, pZt, pSt]
              refine wpPlan_pure (o := ⟨some 92, _, _, _, _, _⟩) (v := ?_) rfl rfl (fun w' => ?_) ?_
              rotate_left
              · go_simp <;> with_reducible rfl
              try simp only [pUt, pLt, pZt, pSt]
              refine wpPlan_pure (o := ⟨some 93, _, _, _, _, _⟩) (v := ?_) rfl rfl (fun w' => ?_) ?_
              rotate_left
              · go_simp <;> with_reducible rfl
              try simp only [pUt, pLt, pZt, pSt]
              refine wpPlan_pure (o := ⟨some 94, _, _, _, _, _⟩) (v := ?_) rfl rfl (fun w' => ?_) ?_
              rotate_left
              · go_simp <;> with_reducible rfl
              try simp only [pUt, pLt, pZt, pSt]
              refine wpPlan_pure (o := ⟨some 95, _, _, _, _, _⟩) (v := ?_) rfl rfl (fun w' => ?_) ?_
              rotate_left
              · go_simp <;> with_reducible rfl
              try simp only [pUt, pLt, pZt, pSt]
              refine wpPlan_take (o := ⟨some 96, _, _, _, _, _⟩) (v := ?_) rfl rfl (fun w' hS => ?_) ?_
              rotate_left
              · obtain ⟨p50_0, p51_0⟩ := hS; go_simp <;> with_reducible rfl
              try simp only [pUt, pLt, pZt, pSt]
              refine wpPlan_pure (o := ⟨some 97, _, _, _, _, _⟩) (v := ?_) rfl rfl (fun w' => ?_) ?_
              rotate_left
              · go_simp <;> with_reducible rfl
              try simp only [pUt, pLt, pZt, pSt]
              refine wpPlan_pure (o := ⟨some 98, _, _, _, _, _⟩) (v := ?_) rfl rfl (fun w' => ?_) ?_
              rotate_left
              · go_simp <;> with_reducible rfl
              try simp only [pUt, pLt, pZt, pSt]
              refine wpPlan_pure (o := ⟨some 99, _, _, _, _, _⟩) (v := ?_) rfl rfl (fun w' => ?_) ?_
              rotate_left
              · go_simp <;> with_reducible rfl
              try simp only [pUt, pLt, pZt, pSt]
              refine wpPlan_pure (o := ⟨some 100, _, _, _, _, _⟩) (v := ?_) rfl rfl (fun w' => ?_) ?_
              rotate_left
              · go_simp <;> with_reducible rfl
              try simp only [pUt, pLt, pZt, pSt]
              refine wpPlan_take (o := ⟨some 101, _, _, _, _, _⟩) (v := ?_) rfl rfl (fun w' hS => ?_) ?_
              rotate_left
              · obtain ⟨p50_0, p51_0⟩ := hS; go_simp <;> with_reducible rfl
              try simp only [pUt, pLt, pZt, pSt]
              refine wpPlan_pure (o := ⟨some 102, _, _, _, _, _⟩) (v := ?_) rfl rfl (fun w' => ?_) ?_
              rotate_left
              · go_simp <;> with_reducible rfl
              try simp only [pUt, pLt, pZt, pSt]
              refine wpPlan_pure (o := ⟨some 103, _, _, _, _, _⟩) (v := ?_) rfl rfl (fun w' => ?_) ?_
              rotate_left
              · go_simp <;> with_reducible rfl
              try simp only [pUt, pLt, pZt, pSt]
              refine wpPlan_pure (o := ⟨some 86, _, _, _, _, _⟩) (v := ?_) rfl rfl (fun w' => ?_) ?_
              rotate_left
              · go_simp <;> with_reducible rfl
              try simp only [pUt, pLt, pZt, pSt]
              refine wpPlan_done ?_
              go_wp2_with fail
              (try simp only [List.append_eq, List.cons_append, List.nil_append])
              refine wp_region_plan (.pure 0 (.pure 1 (.pure 2 (.pure 3 (.take 4 (.pure 5 (.pure 6 (.pure 7 (.pure 8 (.take 9 (.two 10 (.only 11 (.only 12 .done)) 11 (.only 10 (.only 12 .done))))))))))))) [12] (fun w' => w'.cell? ⟨bx, ox + i * 5 + 1, none⟩ = some (.bool x.x.s) ∧ w'.cell? ⟨bx, ox + i * 5 + 2, none⟩ = some (.slice x.x.A x.x.l x.x.c) ∧ w'.cell? ⟨bx, ox + i * 5 + 3, none⟩ = some (.bool x.x.s') ∧ w'.cell? ⟨bx, ox + i * 5 + 4, none⟩ = some (.slice x.x.A' x.x.l' x.x.c') ∧ w'.cell? ⟨by_, oy + j * 5 + 1, none⟩ = some (.bool y.x.s) ∧ w'.cell? ⟨by_, oy + j * 5 + 2, none⟩ = some (.slice y.x.A y.x.l y.x.c) ∧ w'.cell? ⟨by_, oy + j * 5 + 3, none⟩ = some (.bool y.x.s') ∧ w'.cell? ⟨by_, oy + j * 5 + 4, none⟩ = some (.slice y.x.A' y.x.l' y.x.c')) (by kernel_rfl) (by kernel_rfl) ⟨p50_1, p50_2, p50_3, p50_4, p51_1, p51_2, p51_3, p51_4⟩ ?_
              refine wpPlan_pure (o := ⟨some 25, _, _, _, _, _⟩) (v := ?_) rfl rfl (fun w' => ?_) ?_
              rotate_left
              · go_simp <;> with_reducible rfl
              try simp only [pUt, pLt, pZt, pSt]
              refine wpPlan_pure (o := ⟨some 26, _, _, _, _, _⟩) (v := ?_) rfl rfl (fun w' => ?_) ?_
              rotate_left
              · go_simp <;> with_reducible rfl
              try simp only [pUt, pLt, pZt, pSt]
              refine wpPlan_pure (o := ⟨some 27, _, _, _, _, _⟩) (v := ?_) rfl rfl (fun w' => ?_) ?_
              rotate_left
              · go_simp <;> with_reducible rfl
              try simp only [pUt, pLt, pZt, pSt]
              refine wpPlan_pure (o := ⟨some 28, _, _, _, _, _⟩) (v := ?_) rfl rfl (fun w' => ?_) ?_
              rotate_left
              · go_simp <;> with_reducible rfl
              try simp only [pUt, pLt, pZt, pSt]
              refine wpPlan_take (o := ⟨some 29, _, _, _, _, _⟩) (v := ?_) rfl rfl (fun w' hS => ?_) ?_
              rotate_left
              · obtain ⟨p50_1, p50_2, p50_3, p50_4, p51_1, p51_2, p51_3, p51_4⟩ := hS; go_simp <;> with_reducible rfl
              try simp only [pUt, pLt, pZt, pSt]
              refine wpPlan_pure (o := ⟨some 30, _, _, _, _, _⟩) (v := ?_) rfl rfl (fun w' => ?_) ?_
              rotate_left
              · go_simp <;> with_reducible rfl
              try simp only [pUt, pLt, pZt, pSt]
              refine wpPlan_pure (o := ⟨some 31, _, _, _, _, _⟩) (v := ?_) rfl rfl (fun w' => ?_) ?_
              rotate_left
              · go_simp <;> with_reducible rfl
              try simp only [pUt, pLt, pZt, pSt]
              refine wpPlan_pure (o := ⟨some 32, _, _, _, _, _⟩) (v := ?_) rfl rfl (fun w' => ?_) ?_
              rotate_left
              · go_simp <;> with_reducible rfl
              try simp only [pUt, pLt, pZt, pSt]
              refine wpPlan_pure (o := ⟨some 33, _, _, _, _, _⟩) (v := ?_) rfl rfl (fun w' => ?_) ?_
              rotate_left
              · go_simp <;> with_reducible rfl
              try simp only [pUt, pLt, pZt, pSt]
              refine wpPlan_take (o := ⟨some 34, _, _, _, _, _⟩) (v := ?_) rfl rfl (fun w' hS => ?_) ?_
              rotate_left
              · obtain ⟨p50_1, p50_2, p50_3, p50_4, p51_1, p51_2, p51_3, p51_4⟩ := hS; go_simp <;> with_reducible rfl
              try simp only [pUt, pLt, pZt, pSt]
              refine wpPlan_two (o := ⟨some 35, _, _, _, _, _⟩) (o' := ⟨some 8, _, _, _, _, _⟩) rfl rfl rfl rfl (fun K hK => ?_) (fun K hK => ?_)
              · go_simp
                with_reducible refine (add_q (R.below hrx (by go_grown)) (R.below hry (by go_grown)) (by omega) (Lib.hid (Tab.below hT.out (below_trans hB (below_trans (b := wr) Bz (by go_grown)))))).mono ?_
                rintro e w1 ⟨s1, A1, c1, l1, s1r, A1r, c1r, l1r, rfl, h1, b1⟩
                replace b1 := below_trans (a := wr) (by go_grown) b1
                replace hon := hon.below b1
                replace ho := ho.below b1
                replace Bz := below_trans Bz b1
                clear b1
                clear p50_0 p50_1 p50_2 p50_3 p50_4 p51_0 p51_1 p51_2 p51_3 p51_4
                have p50_1 := (hnd.below (below_trans hB Bz)).at 1 (.bool x.x.s) rfl
                have p50_2 := (hnd.below (below_trans hB Bz)).at 2 (.slice x.x.A x.x.l x.x.c) rfl
                have p50_3 := (hnd.below (below_trans hB Bz)).at 3 (.bool x.x.s') rfl
                have p50_4 := (hnd.below (below_trans hB Bz)).at 4 (.slice x.x.A' x.x.l' x.x.c') rfl
                have p51_1 := (hnd'.below (below_trans hB Bz)).at 1 (.bool y.x.s) rfl
                have p51_2 := (hnd'.below (below_trans hB Bz)).at 2 (.slice y.x.A y.x.l y.x.c) rfl
                have p51_3 := (hnd'.below (below_trans hB Bz)).at 3 (.bool y.x.s') rfl
                have p51_4 := (hnd'.below (below_trans hB Bz)).at 4 (.slice y.x.A' y.x.l' y.x.c') rfl
                refine hK.out _ _ ⟨p50_1, p50_2, p50_3, p50_4, p51_1, p51_2, p51_3, p51_4⟩ (fun _ => ?_)
                try simp only [pUt, pLt, pZt, pSt]
                clear hK K
                refine wpPlan_call (o := ⟨some 8, _, _, _, _, _⟩) rfl rfl (fun K hK => ?_)
                go_simp
                refine hK.out _ _ ⟨(cell_al p50_1), (cell_al p50_2), (cell_al p50_3), (cell_al p50_4), (cell_al p51_1), (cell_al p51_2), (cell_al p51_3), (cell_al p51_4)⟩ (fun _ => ?_)
                try simp only [pUt, pLt, pZt, pSt]
                clear hK K
                refine wpPlan_late (o := ⟨none, _, _, _, _, _⟩) rfl rfl (by decide) (fun K hK => ?_)
                go_simp
                refine hK.out _ _ ?_
                try simp only [Act.put, List.setIfInBounds_toArray, List.set_cons_zero, List.set_cons_succ]
                clear hK K
                refine wpPlan_done ?_
                obtain ⟨V1, hW, x0, hN⟩ := boxes1 w1 #[.bool s1, .slice A1 l1 c1, .bool s1r, .slice A1r l1r c1r] 27
                rw [← hW]
                clear hW
                obtain ⟨v0, hb0⟩ : ∃ b, b = w1.heap.size := ⟨_, rfl⟩
                rw [← hb0] at x0 ⊢
                have ow_0 : w.heap.size ≤ v0 := by have := hB.size; have := Bz.size; omega
                have nv0_own := OwnR.off' (b := v0) ho (by omega)
                replace h1 := h1.below hN
                replace hon := hon.below hN
                replace ho := ho.below hN
                replace hB := below_trans (below_trans hB Bz) hN
                have HX0 := Lib.hid x0
                clear x0 hN Bz hb0
                have Bz := Below.refl V1.heap.size V1
                clear p50_1 p50_2 p50_3 p50_4 p51_1 p51_2 p51_3 p51_4
                have p0_0 := (HX0.out.below Bz).cell 0 (.bool s1) rfl
                have p0_1 := (HX0.out.below Bz).cell 1 (.slice A1 l1 c1) rfl
                have p0_2 := (HX0.out.below Bz).cell 2 (.bool s1r) rfl
                have p0_3 := (HX0.out.below Bz).cell 3 (.slice A1r l1r c1r) rfl
                go_wp2_with fail
                with_reducible refine (sign_q (R.below h1.r (by go_grown)) (by omega) z HZ).mono ?_
                rintro e w2 ⟨rfl, b2⟩
                replace b2 := below_trans (a := V1) (by go_grown) b2
                replace hon := hon.below b2
                replace ho := ho.below b2
                replace Bz := below_trans Bz b2
                clear b2
                clear p0_0 p0_1 p0_2 p0_3
                go_wp2_with fail
                have hs1 := HS1.out
                go_roundg (n - (i + 1) + (m - (j + 1)))
                case measure => omega
                case rel => exact ⟨i + 1, j + 1, k, _, _, _, rfl, by go_num, by go_num, by omega, by omega, Nat.le_refl _, by omega, OwnR.below ho (by go_grown), HJ2.out, OnT.below hon (by go_grown), below_trans (below_trans hB Bz) (by go_grown)⟩
              · go_simp
                refine hK.out _ _ ⟨(cell_al p50_1), (cell_al p50_2), (cell_al p50_3), (cell_al p50_4), (cell_al p51_1), (cell_al p51_2), (cell_al p51_3), (cell_al p51_4)⟩ (fun _ => ?_)
                try simp only [pUt, pLt, pZt, pSt]
                clear hK K
                refine wpPlan_call (o := ⟨some 35, _, _, _, _, _⟩) rfl rfl (fun K hK => ?_)
                go_simp
                obtain ⟨V1, hW, x0, hN⟩ := boxes1 wr #[.bool false, .slice none 0 0, .bool false, .slice none 0 0] 27
                rw [← hW]
                clear hW
                obtain ⟨v0, hb0⟩ : ∃ b, b = wr.heap.size := ⟨_, rfl⟩
                rw [← hb0] at x0 ⊢
                have ow_0 : w.heap.size ≤ v0 := by have := hB.size; have := Bz.size; omega
                have nv0_own := OwnR.off' (b := v0) ho (by omega)
                replace hon := hon.below hN
                replace ho := ho.below hN
                replace hrx := hrx.below hN
                replace hry := hry.below hN
                replace hB := below_trans (below_trans hB Bz) hN
                have HX0 := Lib.hid x0
                clear x0 hN Bz hb0
                have Bz := Below.refl V1.heap.size V1
                clear p50_0 p50_1 p50_2 p50_3 p50_4 p51_0 p51_1 p51_2 p51_3 p51_4
                with_reducible refine (add_q (R.below hrx (by go_grown)) (R.below hry (by go_grown)) (by omega) (Lib.hid (Tab.below hT.out (below_trans hB (below_trans (b := V1) Bz (by go_grown)))))).mono ?_
                rintro e w1 ⟨s1, A1, c1, l1, s1r, A1r, c1r, l1r, rfl, h1, b1⟩
                replace b1 := below_trans (a := V1) (by go_grown) b1
                replace hon := hon.below b1
                replace ho := ho.below b1
                replace Bz := below_trans Bz b1
                clear b1
                have p0_0 := (HX0.out.below Bz).cell 0 (.bool false) rfl
                have p0_1 := (HX0.out.below Bz).cell 1 (.slice none 0 0) rfl
                have p0_2 := (HX0.out.below Bz).cell 2 (.bool false) rfl
                have p0_3 := (HX0.out.below Bz).cell 3 (.slice none 0 0) rfl
                have f0_0 := (HX0.out.below Bz).frozen 0
                have f0_1 := (HX0.out.below Bz).frozen 1
                have f0_2 := (HX0.out.below Bz).frozen 2
                have f0_3 := (HX0.out.below Bz).frozen 3
                have y0 := (HX0.out.below Bz).lt
                have p50_1 := (hnd.below (below_trans hB Bz)).at 1 (.bool x.x.s) rfl
                have p50_2 := (hnd.below (below_trans hB Bz)).at 2 (.slice x.x.A x.x.l x.x.c) rfl
                have p50_3 := (hnd.below (below_trans hB Bz)).at 3 (.bool x.x.s') rfl
                have p50_4 := (hnd.below (below_trans hB Bz)).at 4 (.slice x.x.A' x.x.l' x.x.c') rfl
                have p51_1 := (hnd'.below (below_trans hB Bz)).at 1 (.bool y.x.s) rfl
                have p51_2 := (hnd'.below (below_trans hB Bz)).at 2 (.slice y.x.A y.x.l y.x.c) rfl
                have p51_3 := (hnd'.below (below_trans hB Bz)).at 3 (.bool y.x.s') rfl
                have p51_4 := (hnd'.below (below_trans hB Bz)).at 4 (.slice y.x.A' y.x.l' y.x.c') rfl
                refine hK.out _ _ ⟨p50_1, p50_2, p50_3, p50_4, p51_1, p51_2, p51_3, p51_4⟩ (fun _ => ?_)
                try simp only [pUt, pLt, pZt, pSt]
                clear hK K
                refine wpPlan_late (o := ⟨none, _, _, _, _, _⟩) rfl rfl (by decide) (fun K hK => ?_)
                go_simp
                refine hK.out _ _ ?_
                try simp only [Act.put, List.setIfInBounds_toArray, List.set_cons_zero, List.set_cons_succ]
                clear hK K
                refine wpPlan_done ?_
                obtain ⟨V2, hW, x, kk, far, bel⟩ := store4 (.bool s1) (.slice A1 l1 c1) (.bool s1r) (.slice A1r l1r c1r) (HX0.out.below Bz) (fun _ e => by cases e) (fun _ e => by cases e) (fun _ e => by cases e) (fun _ e => by cases e)
                rw [← hW]
                clear hW
                replace h1 := h1.k kk
                replace hon := hon.k kk
                replace ho := ho.far2 far nv0_own
                replace hB := bel w.heap.size w (by omega) (below_trans hB Bz)
                replace HX0 := Lib.hid x
                clear x kk far bel Bz
                have Bz := Below.refl V2.heap.size V2
                clear p0_0 p0_1 p0_2 p0_3 f0_0 f0_1 f0_2 f0_3 y0 p50_1 p50_2 p50_3 p50_4 p51_1 p51_2 p51_3 p51_4
                have p0_0 := (HX0.out.below Bz).cell 0 (.bool s1) rfl
                have p0_1 := (HX0.out.below Bz).cell 1 (.slice A1 l1 c1) rfl
                have p0_2 := (HX0.out.below Bz).cell 2 (.bool s1r) rfl
                have p0_3 := (HX0.out.below Bz).cell 3 (.slice A1r l1r c1r) rfl
                go_wp2_with fail
                with_reducible refine (sign_q (R.below h1.r (by go_grown)) (by omega) z HZ).mono ?_
                rintro e w2 ⟨rfl, b2⟩
                replace b2 := below_trans (a := V2) (by go_grown) b2
                replace hon := hon.below b2
                replace ho := ho.below b2
                replace Bz := below_trans Bz b2
                clear b2
                clear p0_0 p0_1 p0_2 p0_3
                go_wp2_with fail
                have hs1 := HS1.out
                go_roundg (n - (i + 1) + (m - (j + 1)))
                case measure => omega
                case rel => exact ⟨i + 1, j + 1, k, _, _, _, rfl, by go_num, by go_num, by omega, by omega, Nat.le_refl _, by omega, OwnR.below ho (by go_grown), HJ2.out, OnT.below hon (by go_grown), below_trans (below_trans hB Bz) (by go_grown)⟩
            · have g3 : (z != 0) = true := by rw [decide_eq_false hs0] at hz0; unfold bne; rw [hz0]; rfl
              have HJ2 : Hid (∀ r : Fr, r.q = x.x.q + y.x.q → Joined (prs (O ++ [⟨x.at_, r⟩])) (prs LX) (prs LY) (i + 1) (j + 1)) := Lib.hid (fun r hr => by rw [prs_append, show prs [(⟨x.at_, r⟩ : Tm)] = [(x.at_, x.x.q + y.x.q)] from by rw [← hr]; rfl]; exact hb.2 hs0)
              have HS1 : Hid (sz (x.x.q + y.x.q) + 1 ≤ M + M') := Lib.hid (by omega)
              clear hxy hyx hxn hyn hpx hpy hjo hb hz0 hs0
              have Bz := Below.refl wr.heap.size wr
              have p50_0 := (hnd.below (below_trans hB Bz)).c0 (u := .int .i64 x.at_) rfl
              have p50_1 := (hnd.below (below_trans hB Bz)).at 1 (.bool x.x.s) rfl
              have p50_2 := (hnd.below (below_trans hB Bz)).at 2 (.slice x.x.A x.x.l x.x.c) rfl
              have p50_3 := (hnd.below (below_trans hB Bz)).at 3 (.bool x.x.s') rfl
              have p50_4 := (hnd.below (below_trans hB Bz)).at 4 (.slice x.x.A' x.x.l' x.x.c') rfl
              have p51_0 := (hnd'.below (below_trans hB Bz)).c0 (u := .int .i64 y.at_) rfl
              have p51_1 := (hnd'.below (below_trans hB Bz)).at 1 (.bool y.x.s) rfl
              have p51_2 := (hnd'.below (below_trans hB Bz)).at 2 (.slice y.x.A y.x.l y.x.c) rfl
              have p51_3 := (hnd'.below (below_trans hB Bz)).at 3 (.bool y.x.s') rfl
              have p51_4 := (hnd'.below (below_trans hB Bz)).at 4 (.slice y.x.A' y.x.l' y.x.c') rfl
              go_wp2_with fail
              (try simp only [List.append_eq, List.cons_append, List.nil_append])
              refine wp_region_plan (.pure 0 (.pure 1 (.pure 2 (.pure 3 (.pure 4 (.pure 5 (.pure 6 (.pure 7 (.pure 8 (.pure 9 (.pure 10 (.pure 11 (.pure 12 (.pure 13 (.take 14 (.pure 15 (.pure 16 (.pure 17 (.pure 18 (.take 19 (.pure 20 (.pure 21 (.pure 22 (.pure 23 .done)))))))))))))))))))))))) [] (fun w' => w'.cell? ⟨bx, ox + i * 5, none⟩ = some (.int .i64 x.at_) ∧ w'.cell? ⟨by_, oy + j * 5, none⟩ = some (.int .i64 y.at_)) (by kernel_rfl) (by kernel_rfl) ⟨p50_0, p51_0⟩ ?_
              refine wpPlan_pure (o := ⟨some 54, _, _, _, _, _⟩) (v := ?_) rfl rfl (fun w' => ?_) ?_
              rotate_left
              · go_simp <;> with_reducible rfl
              try simp only [pUt, pLt, pZt, pSt]
              refine wpPlan_pure (o := ⟨some 55, _, _, _, _, _⟩) (v := ?_) rfl rfl (fun w' => ?_) ?_
              rotate_left
              · go_simp <;> with_reducible rfl
              try simp only [pUt, pLt, pZt, pSt]
              refine wpPlan_pure (o := ⟨some 56, _, _, _, _, _⟩) (v := ?_) rfl rfl (fun w' => ?_) ?_
              rotate_left
              · go_simp <;> with_reducible rfl
              try simp only [pUt, pLt, pZt, pSt]
              refine wpPlan_pure (o := ⟨some 57, _, _, _, _, _⟩) (v := ?_) rfl rfl (fun w' => ?_) ?_
              rotate_left
              · go_simp <;> with_reducible rfl
              try simp only [pUt, pLt, pZt, pSt]
              refine wpPlan_pure (o := ⟨some 58, _, _, _, _, _⟩) (v := ?_) rfl rfl (fun w' => ?_) ?_
              rotate_left
              · go_simp <;> with_reducible rfl
              try simp only [pUt, pLt, pZt, pSt]
              refine wpPlan_pure (o := ⟨some 59, _, _, _, _, _⟩) (v := ?_) rfl rfl (fun w' => ?_) ?_
              rotate_left
              · go_simp <;> with_reducible rfl
              try simp only [pUt, pLt, pZt, pSt]
              refine wpPlan_pure (o := ⟨some 60, _, _, _, _, _⟩) (v := ?_) rfl rfl (fun w' => ?_) ?_
              rotate_left
              · go_simp <;> with_reducible rfl
              try simp only [pUt, pLt, pZt, pSt]
              refine wpPlan_pure (o := ⟨some 61, _, _, _, _, _⟩) (v := ?_) rfl rfl (fun w' => ?_) ?_
              rotate_left
              · go_simp <;> with_reducible rfl
              try simp only [pUt, pLt, pZt, pSt]
              refine wpPlan_pure (o := ⟨some 62, _, _, _, _, _⟩) (v := ?_) rfl rfl (fun w' => ?_) ?_
              rotate_left
              · go_simp <;> with_reducible rfl
              try simp only [pUt, pLt, pZt, pSt]
              refine wpPlan_pure (o := ⟨some 63, _, _, _, _, _⟩) (v := ?_) rfl rfl (fun w' => ?_) ?_
              rotate_left
              · go_simp <;> with_reducible rfl
              try simp only [pUt, pLt, pZt, pSt]
              refine wpPlan_pure (o := ⟨some 64, _, _, _, _, _⟩) (v := ?_) rfl rfl (fun w' => ?_) ?_
              rotate_left
              · go_simp <;> with_reducible rfl
              try simp only [pUt, pLt, pZt, pSt]
              refine wpPlan_pure (o := ⟨some 65, _, _, _, _, _⟩) (v := ?_) rfl rfl (fun w' => ?_) ?_
              rotate_left
              · go_simp <;> with_reducible rfl
              try simp only [pUt, pLt, pZt, pSt]
              refine wpPlan_pure (o := ⟨some 66, _, _, _, _, _⟩) (v := ?_) rfl rfl (fun w' => ?_) ?_
              rotate_left
              · go_simp <;> with_reducible rfl
              try simp only [pUt, pLt, pZt, pSt]
              refine wpPlan_pure (o := ⟨some 67, _, _, _, _, _⟩) (v := ?_) rfl rfl (fun w' => ?_) ?_
              rotate_left
              · go_simp <;> with_reducible rfl
              try simp only [pUt, pLt, pZt, pSt]
              refine wpPlan_take (o := ⟨some 68, _, _, _, _, _⟩) (v := ?_) rfl rfl (fun w' hS => ?_) ?_
              rotate_left
              · obtain ⟨p50_0, p51_0⟩ := hS; go_simp <;> with_reducible rfl
              try simp only [pUt, pLt, pZt, pSt]
              refine wpPlan_pure (o := ⟨some 69, _, _, _, _, _⟩) (v := ?_) rfl rfl (fun w' => ?_) ?_
              rotate_left
              · go_simp <;> with_reducible rfl
              try simp only [pUt, pLt, pZt, pSt]
              refine wpPlan_pure (o := ⟨some 70, _, _, _, _, _⟩) (v := ?_) rfl rfl (fun w' => ?_) ?_
              rotate_left
              · go_simp <;> with_reducible rfl
              try simp only [pUt, pLt, pZt, pSt]
              refine wpPlan_pure (o := ⟨some 71, _, _, _, _, _⟩) (v := ?_) rfl rfl (fun w' => ?_) ?_
              rotate_left
              · go_simp <;> with_reducible rfl
              try simp only [pUt, pLt, pZt, pSt]
              refine wpPlan_pure (o := ⟨some 72, _, _, _, _, _⟩) (v := ?_) rfl rfl (fun w' => ?_) ?_
              rotate_left
              · go_simp <;> with_reducible rfl
              try simp only [pUt, pLt, pZt, pSt]
              refine wpPlan_take (o := ⟨some 73, _, _, _, _, _⟩) (v := ?_) rfl rfl (fun w' hS => ?_) ?_
              rotate_left
              · obtain ⟨p50_0, p51_0⟩ := hS; go_simp <;> with_reducible rfl
              try simp only [pUt, pLt, pZt, pSt]
              refine wpPlan_pure (o := ⟨some 74, _, _, _, _, _⟩) (v := ?_) rfl rfl (fun w' => ?_) ?_
              rotate_left
              · go_simp <;> with_reducible rfl
              try simp only [pUt, pLt, pZt, pSt]
              refine wpPlan_pure (o := ⟨some 75, _, _, _, _, _⟩) (v := ?_) rfl rfl (fun w' => ?_) ?_
              rotate_left
              · go_simp <;> with_reducible rfl
              try simp only [pUt, pLt, pZt, pSt]
              refine wpPlan_pure (o := ⟨some 76, _, _, _, _, _⟩) (v := ?_) rfl rfl (fun w' => ?_) ?_
              rotate_left
              · go_simp <;> with_reducible rfl
              try simp only [pUt, pLt, pZt, pSt]
              refine wpPlan_pure (o := ⟨some 53, _, _, _, _, _⟩) (v := ?_) rfl rfl (fun w' => ?_) ?_
              rotate_left
              · go_simp <;> with_reducible rfl
              try simp only [pUt, pLt, pZt, pSt]
              refine wpPlan_done ?_
              go_wp2_with fail
              (try simp only [List.append_eq, List.cons_append, List.nil_append])
              refine wp_region_plan (.pure 0 (.pure 1 (.pure 2 (.pure 3 (.pure 4 (.pure 5 (.pure 6 (.pure 7 (.pure 8 (.take 9 (.pure 10 (.pure 11 (.pure 12 (.pure 13 (.take 14 (.pure 15 (.pure 16 (.pure 17 .done)))))))))))))))))) [] (fun w' => w'.cell? ⟨bx, ox + i * 5, none⟩ = some (.int .i64 x.at_) ∧ w'.cell? ⟨by_, oy + j * 5, none⟩ = some (.int .i64 y.at_)) (by kernel_rfl) (by kernel_rfl) ⟨p50_0, p51_0⟩ ?_
              refine wpPlan_pure (o := ⟨some 87, _, _, _, _, _⟩) (v := ?_) rfl rfl (fun w' => ?_) ?_
              rotate_left
              · go_simp <;> with_reducible rfl
              try simp only [pUt, pLt, pZt, pSt]
              refine wpPlan_pure (o := ⟨some 88, _, _, _, _, _⟩) (v := ?_) rfl rfl (fun w' => ?_) ?_
              rotate_left
              · go_simp <;> with_reducible rfl
              try simp only [pUt, pLt, pZt, pSt]
              refine wpPlan_pure (o := ⟨some 89, _, _, _, _, _⟩) (v := ?_) rfl rfl (fun w' => ?_) ?_
              rotate_left
              · go_simp <;> with_reducible rfl
              try simp only [pUt, pLt, pZt, pSt]
              refine wpPlan_pure (o := ⟨some 90, _, _, _, _, _⟩) (v := ?_) rfl rfl (fun w' => ?_) ?_
              rotate_left
              · go_simp <;> with_reducible rfl
              try simp only [pUt, pLt, pZt, pSt]
              refine wpPlan_pure (o := ⟨some 91, _, _, _, _, _⟩) (v := ?_) rfl rfl (fun w' => ?_) ?_
              rotate_left
              · go_simp <;> with_reducible rfl
              try simp only [pUt, pLt, pZt, pSt]
              refine wpPlan_pure (o := ⟨some 92, _, _, _, _, _⟩) (v := ?_) rfl rfl (fun w' => ?_) ?_
              rotate_left
              · go_simp <;> with_reducible rfl
              try simp only [pUt, pLt, pZt, pSt]
              refine wpPlan_pure (o := ⟨some 93, _, _, _, _, _⟩) (v := ?_) rfl rfl (fun w' => ?_) ?_
              rotate_left
              · go_simp <;> with_reducible rfl
              try simp only [pUt, pLt, pZt, pSt]
              refine wpPlan_pure (o := ⟨some 94, _, _, _, _, _⟩) (v := ?_) rfl rfl (fun w' => ?_) ?_
              rotate_left
              · go_simp <;> with_reducible rfl
              try simp only [pUt, pLt, pZt, pSt]
              refine wpPlan_pure (o := ⟨some 95, _, _, _, _, _⟩) (v := ?_) rfl rfl (fun w' => ?_) ?_
              rotate_left
              · go_simp <;> with_reducible rfl
              try simp only [pUt, pLt, pZt, pSt]
              refine wpPlan_take (o := ⟨some 96, _, _, _, _, _⟩) (v := ?_) rfl rfl (fun w' hS => ?_) ?_
              rotate_left
              · obtain ⟨p50_0, p51_0⟩ := hS; go_simp <;> with_reducible rfl
              try simp only [pUt, pLt, pZt, pSt]
              refine wpPlan_pure (o := ⟨some 97, _, _, _, _, _⟩) (v := ?_) rfl rfl (fun w' => ?_) ?_
              rotate_left
              · go_simp <;> with_reducible rfl
              try simp only [pUt, pLt, pZt, pSt]
              refine wpPlan_pure (o := ⟨some 98, _, _, _, _, _⟩) (v := ?_) rfl rfl (fun w' => ?_) ?_
              rotate_left
              · go_simp <;> with_reducible rfl
              try simp only [pUt, pLt, pZt, pSt]
              refine wpPlan_pure (o := ⟨some 99, _, _, _, _, _⟩) (v := ?_) rfl rfl (fun w' => ?_) ?_
              rotate_left
              · go_simp <;> with_reducible rfl
              try simp only [pUt, pLt, pZt, pSt]
              refine wpPlan_pure (o := ⟨some 100, _, _, _, _, _⟩) (v := ?_) rfl rfl (fun w' => ?_) ?_
              rotate_left
              · go_simp <;> with_reducible rfl
              try simp only [pUt, pLt, pZt, pSt]
              refine wpPlan_take (o := ⟨some 101, _, _, _, _, _⟩) (v := ?_) rfl rfl (fun w' hS => ?_) ?_
              rotate_left
              · obtain ⟨p50_0, p51_0⟩ := hS; go_simp <;> with_reducible rfl
              try simp only [pUt, pLt, pZt, pSt]
              refine wpPlan_pure (o := ⟨some 102, _, _, _, _, _⟩) (v := ?_) rfl rfl (fun w' => ?_) ?_
              rotate_left
              · go_simp <;> with_reducible rfl
              try simp only [pUt, pLt, pZt, pSt]
              refine wpPlan_pure (o := ⟨some 103, _, _, _, _, _⟩) (v := ?_) rfl rfl (fun w' => ?_) ?_
              rotate_left
              · go_simp <;> with_reducible rfl
              try simp only [pUt, pLt, pZt, pSt]
              refine wpPlan_pure (o := ⟨some 86, _, _, _, _, _⟩) (v := ?_) rfl rfl (fun w' => ?_) ?_
              rotate_left
              · go_simp <;> with_reducible rfl
              try simp only [pUt, pLt, pZt, pSt]
              refine wpPlan_done ?_
              go_wp2_with fail
              (try simp only [List.append_eq, List.cons_append, List.nil_append])
              refine wp_region_plan (.pure 0 (.pure 1 (.pure 2 (.pure 3 (.take 4 (.pure 5 (.pure 6 (.pure 7 (.pure 8 (.take 9 (.two 10 (.only 11 (.only 12 .done)) 11 (.only 10 (.only 12 .done))))))))))))) [12] (fun w' => w'.cell? ⟨bx, ox + i * 5 + 1, none⟩ = some (.bool x.x.s) ∧ w'.cell? ⟨bx, ox + i * 5 + 2, none⟩ = some (.slice x.x.A x.x.l x.x.c) ∧ w'.cell? ⟨bx, ox + i * 5 + 3, none⟩ = some (.bool x.x.s') ∧ w'.cell? ⟨bx, ox + i * 5 + 4, none⟩ = some (.slice x.x.A' x.x.l' x.x.c') ∧ w'.cell? ⟨by_, oy + j * 5 + 1, none⟩ = some (.bool y.x.s) ∧ w'.cell? ⟨by_, oy + j * 5 + 2, none⟩ = some (.slice y.x.A y.x.l y.x.c) ∧ w'.cell? ⟨by_, oy + j * 5 + 3, none⟩ = some (.bool y.x.s') ∧ w'.cell? ⟨by_, oy + j * 5 + 4, none⟩ = some (.slice y.x.A' y.x.l' y.x.c')) (by kernel_rfl) (by kernel_rfl) ⟨p50_1, p50_2, p50_3, p50_4, p51_1, p51_2, p51_3, p51_4⟩ ?_
              refine wpPlan_pure (o := ⟨some 25, _, _, _, _, _⟩) (v := ?_) rfl rfl (fun w' => ?_) ?_
              rotate_left
              · go_simp <;> with_reducible rfl
              try simp only [pUt, pLt, pZt, pSt]
              refine wpPlan_pure (o := ⟨some 26, _, _, _, _, _⟩) (v := ?_) rfl rfl (fun w' => ?_) ?_
              rotate_left
              · go_simp <;> with_reducible rfl
              try simp only [pUt, pLt, pZt, pSt]
              refine wpPlan_pure (o := ⟨some 27, _, _, _, _, _⟩) (v := ?_) rfl rfl (fun w' => ?_) ?_
              rotate_left
              · go_simp <;> with_reducible rfl
              try simp only [pUt, pLt, pZt, pSt]
              refine wpPlan_pure (o := ⟨some 28, _, _, _, _, _⟩) (v := ?_) rfl rfl (fun w' => ?_) ?_
              rotate_left
              · go_simp <;> with_reducible rfl
              try simp only [pUt, pLt, pZt, pSt]
              refine wpPlan_take (o := ⟨some 29, _, _, _, _, _⟩) (v := ?_) rfl rfl (fun w' hS => ?_) ?_
              rotate_left
              · obtain ⟨p50_1, p50_2, p50_3, p50_4, p51_1, p51_2, p51_3, p51_4⟩ := hS; go_simp <;> with_reducible rfl
              try simp only [pUt, pLt, pZt, pSt]
              refine wpPlan_pure (o := ⟨some 30, _, _, _, _, _⟩) (v := ?_) rfl rfl (fun w' => ?_) ?_
              rotate_left
              · go_simp <;> with_reducible rfl
              try simp only [pUt, pLt, pZt, pSt]
              refine wpPlan_pure (o := ⟨some 31, _, _, _, _, _⟩) (v := ?_) rfl rfl (fun w' => ?_) ?_
              rotate_left
              · go_simp <;> with_reducible rfl
              try simp only [pUt, pLt, pZt, pSt]
              refine wpPlan_pure (o := ⟨some 32, _, _, _, _, _⟩) (v := ?_) rfl rfl (fun w' => ?_) ?_
              rotate_left
              · go_simp <;> with_reducible rfl
              try simp only [pUt, pLt, pZt, pSt]
              refine wpPlan_pure (o := ⟨some 33, _, _, _, _, _⟩) (v := ?_) rfl rfl (fun w' => ?_) ?_
              rotate_left
              · go_simp <;> with_reducible rfl
              try simp only [pUt, pLt, pZt, pSt]
              refine wpPlan_take (o := ⟨some 34, _, _, _, _, _⟩) (v := ?_) rfl rfl (fun w' hS => ?_) ?_
              rotate_left
              · obtain ⟨p50_1, p50_2, p50_3, p50_4, p51_1, p51_2, p51_3, p51_4⟩ := hS; go_simp <;> with_reducible rfl
              try simp only [pUt, pLt, pZt, pSt]
              refine wpPlan_two (o := ⟨some 35, _, _, _, _, _⟩) (o' := ⟨some 8, _, _, _, _, _⟩) rfl rfl rfl rfl (fun K hK => ?_) (fun K hK => ?_)
              · go_simp
                with_reducible refine (add_q (R.below hrx (by go_grown)) (R.below hry (by go_grown)) (by omega) (Lib.hid (Tab.below hT.out (below_trans hB (below_trans (b := wr) Bz (by go_grown)))))).mono ?_
                rintro e w1 ⟨s1, A1, c1, l1, s1r, A1r, c1r, l1r, rfl, h1, b1⟩
                replace b1 := below_trans (a := wr) (by go_grown) b1
                replace hon := hon.below b1
                replace ho := ho.below b1
                replace Bz := below_trans Bz b1
                clear b1
                clear p50_0 p50_1 p50_2 p50_3 p50_4 p51_0 p51_1 p51_2 p51_3 p51_4
                have p50_1 := (hnd.below (below_trans hB Bz)).at 1 (.bool x.x.s) rfl
                have p50_2 := (hnd.below (below_trans hB Bz)).at 2 (.slice x.x.A x.x.l x.x.c) rfl
                have p50_3 := (hnd.below (below_trans hB Bz)).at 3 (.bool x.x.s') rfl
                have p50_4 := (hnd.below (below_trans hB Bz)).at 4 (.slice x.x.A' x.x.l' x.x.c') rfl
                have p51_1 := (hnd'.below (below_trans hB Bz)).at 1 (.bool y.x.s) rfl
                have p51_2 := (hnd'.below (below_trans hB Bz)).at 2 (.slice y.x.A y.x.l y.x.c) rfl
                have p51_3 := (hnd'.below (below_trans hB Bz)).at 3 (.bool y.x.s') rfl
                have p51_4 := (hnd'.below (below_trans hB Bz)).at 4 (.slice y.x.A' y.x.l' y.x.c') rfl
                refine hK.out _ _ ⟨p50_1, p50_2, p50_3, p50_4, p51_1, p51_2, p51_3, p51_4⟩ (fun _ => ?_)
                try simp only [pUt, pLt, pZt, pSt]
                clear hK K
                refine wpPlan_call (o := ⟨some 8, _, _, _, _, _⟩) rfl rfl (fun K hK => ?_)
                go_simp
                refine hK.out _ _ ⟨(cell_al p50_1), (cell_al p50_2), (cell_al p50_3), (cell_al p50_4), (cell_al p51_1), (cell_al p51_2), (cell_al p51_3), (cell_al p51_4)⟩ (fun _ => ?_)
                try simp only [pUt, pLt, pZt, pSt]
                clear hK K
                refine wpPlan_late (o := ⟨none, _, _, _, _, _⟩) rfl rfl (by decide) (fun K hK => ?_)
                go_simp
                refine hK.out _ _ ?_
                try simp only [Act.put, List.setIfInBounds_toArray, List.set_cons_zero, List.set_cons_succ]
                clear hK K
                refine wpPlan_done ?_
                obtain ⟨V1, hW, x0, hN⟩ := boxes1 w1 #[.bool s1, .slice A1 l1 c1, .bool s1r, .slice A1r l1r c1r] 27
                rw [← hW]
                clear hW
                obtain ⟨v0, hb0⟩ : ∃ b, b = w1.heap.size := ⟨_, rfl⟩
                rw [← hb0] at x0 ⊢
                have ow_0 : w.heap.size ≤ v0 := by have := hB.size; have := Bz.size; omega
                have nv0_own := OwnR.off' (b := v0) ho (by omega)
                replace h1 := h1.below hN
                replace hon := hon.below hN
                replace ho := ho.below hN
                replace hB := below_trans (below_trans hB Bz) hN
                have HX0 := Lib.hid x0
                clear x0 hN Bz hb0
                have Bz := Below.refl V1.heap.size V1
                clear p50_1 p50_2 p50_3 p50_4 p51_1 p51_2 p51_3 p51_4
                have p0_0 := (HX0.out.below Bz).cell 0 (.bool s1) rfl
                have p0_1 := (HX0.out.below Bz).cell 1 (.slice A1 l1 c1) rfl
                have p0_2 := (HX0.out.below Bz).cell 2 (.bool s1r) rfl
                have p0_3 := (HX0.out.below Bz).cell 3 (.slice A1r l1r c1r) rfl
                go_wp2_with fail
                with_reducible refine (sign_q (R.below h1.r (by go_grown)) (by omega) z HZ).mono ?_
                rintro e w2 ⟨rfl, b2⟩
                replace b2 := below_trans (a := V1) (by go_grown) b2
                replace h1 := h1.below b2
                replace hon := hon.below b2
                replace ho := ho.below b2
                replace Bz := below_trans Bz b2
                clear b2
                clear p0_0 p0_1 p0_2 p0_3
                have p0_0 := (HX0.out.below Bz).cell 0 (.bool s1) rfl
                have p0_1 := (HX0.out.below Bz).cell 1 (.slice A1 l1 c1) rfl
                have p0_2 := (HX0.out.below Bz).cell 2 (.bool s1r) rfl
                have p0_3 := (HX0.out.below Bz).cell 3 (.slice A1r l1r c1r) rfl
                have p50_0 := (hnd.below (below_trans hB Bz)).c0 (u := .int .i64 x.at_) rfl
                go_wp2_with fail
                (try simp only [List.append_eq, List.cons_append, List.nil_append])
                refine wp_region_plan (.pure 0 (.pure 1 (.pure 2 (.pure 3 (.pure 4 (.take 5 (.take 6 (.pure 7 (.only 8 (.only 9 (.pure 10 .done))))))))))) [9] (fun w' => w'.cell? ⟨v0, 0, none⟩ = some (.bool s1) ∧ w'.cell? ⟨v0, 1, none⟩ = some (.slice A1 l1 c1) ∧ w'.cell? ⟨v0, 2, none⟩ = some (.bool s1r) ∧ w'.cell? ⟨v0, 3, none⟩ = some (.slice A1r l1r c1r) ∧ w'.cell? ⟨bx, ox + i * 5, none⟩ = some (.int .i64 x.at_)) (by kernel_rfl) (by kernel_rfl) ⟨p0_0, p0_1, p0_2, p0_3, p50_0⟩ ?_
                refine wpPlan_pure (o := ⟨some 39, _, _, _, _, _⟩) (v := ?_) rfl rfl (fun w' => ?_) ?_
                rotate_left
                · go_simp <;> with_reducible rfl
                try simp only [pUt, pLt, pZt, pSt]
                refine wpPlan_pure (o := ⟨some 40, _, _, _, _, _⟩) (v := ?_) rfl rfl (fun w' => ?_) ?_
                rotate_left
                · go_simp <;> with_reducible rfl
                try simp only [pUt, pLt, pZt, pSt]
                refine wpPlan_pure (o := ⟨some 41, _, _, _, _, _⟩) (v := ?_) rfl rfl (fun w' => ?_) ?_
                rotate_left
                · go_simp <;> with_reducible rfl
                try simp only [pUt, pLt, pZt, pSt]
                refine wpPlan_pure (o := ⟨some 42, _, _, _, _, _⟩) (v := ?_) rfl rfl (fun w' => ?_) ?_
                rotate_left
                · go_simp <;> with_reducible rfl
                try simp only [pUt, pLt, pZt, pSt]
                refine wpPlan_pure (o := ⟨some 43, _, _, _, _, _⟩) (v := ?_) rfl rfl (fun w' => ?_) ?_
                rotate_left
                · go_simp <;> with_reducible rfl
                try simp only [pUt, pLt, pZt, pSt]
                refine wpPlan_take (o := ⟨some 44, _, _, _, _, _⟩) (v := ?_) rfl rfl (fun w' hS => ?_) ?_
                rotate_left
                · obtain ⟨p0_0, p0_1, p0_2, p0_3, p50_0⟩ := hS; go_simp <;> with_reducible rfl
                try simp only [pUt, pLt, pZt, pSt]
                refine wpPlan_take (o := ⟨some 45, _, _, _, _, _⟩) (v := ?_) rfl rfl (fun w' hS => ?_) ?_
                rotate_left
                · obtain ⟨p0_0, p0_1, p0_2, p0_3, p50_0⟩ := hS; go_simp <;> with_reducible rfl
                try simp only [pUt, pLt, pZt, pSt]
                refine wpPlan_pure (o := ⟨some 46, _, _, _, _, _⟩) (v := ?_) rfl rfl (fun w' => ?_) ?_
                rotate_left
                · go_simp <;> with_reducible rfl
                try simp only [pUt, pLt, pZt, pSt]
                refine wpPlan_call (o := ⟨some 47, _, _, _, _, _⟩) rfl rfl (fun K hK => ?_)
                go_simp
                refine hK.out _ _ ⟨(cell_al p0_0), (cell_al p0_1), (cell_al p0_2), (cell_al p0_3), (cell_al p50_0)⟩ (fun _ => ?_)
                try simp only [pUt, pLt, pZt, pSt]
                clear hK K
                refine wpPlan_late (o := ⟨some 48, _, _, _, _, _⟩) rfl rfl (by decide) (fun K hK => ?_)
                obtain ⟨V2, hW, x1, hN⟩ := boxes1 w2 #[.int .i64 x.at_, .bool s1, .slice A1 l1 c1, .bool s1r, .slice A1r l1r c1r] 81
                rw [← hW]
                clear hW
                obtain ⟨v1, hb1⟩ : ∃ b, b = w2.heap.size := ⟨_, rfl⟩
                rw [← hb1] at x1 ⊢
                have o0_1 : v0 < v1 := by have := (HX0.out.below Bz).lt; omega
                have ow_1 : w.heap.size ≤ v1 := by have := hB.size; have := Bz.size; omega
                have nv1_own := OwnR.off' (b := v1) ho (by omega)
                replace h1 := h1.below hN
                replace hon := hon.below hN
                replace ho := ho.below hN
                replace hB := below_trans (below_trans hB Bz) hN
                replace HX0 := Lib.hid ((HX0.out.below Bz).below hN)
                have HX1 := Lib.hid x1
                clear x1 hN Bz hb1
                have Bz := Below.refl V2.heap.size V2
                clear p0_0 p0_1 p0_2 p0_3 p50_0
                have hdr : V2.drew.heap.size = V2.heap.size := rfl
                have hdr2 : V2.drew.drew.heap.size = V2.heap.size := rfl
                refine Elt.wp elt_vec _ _ rfl (w.heap.size) (.slice H k hc) (k) (O) rfl ho (.slice (some ⟨v1, 0, none⟩) 1 1) (1) ([⟨x.at_, ⟨s1, A1, c1, l1, s1r, A1r, c1r, l1r, x.x.q + y.x.q, true⟩⟩]) rfl (From.one (HX1.out.below (below_trans Bz (by go_grown))) (⟨x.at_, ⟨s1, A1, c1, l1, s1r, A1r, c1r, l1r, x.x.q + y.x.q, true⟩⟩) rfl (elt_vec.len _)) (by omega) (by have := hB.size; have := Bz.size; omega) ?_
                intro H3 c3 w3 ho3 hg3
                refine hK.out _ _ ?_
                try simp only [pUt, pLt, pZt, pSt]
                clear hK K
                replace hB := (below_trans (below_trans hB Bz) (by go_grown)).trans (hg3.below (by have := hB.size; have := Bz.size; omega) (fun g hg => by have := ho.base g hg; omega))
                clear HX0
                clear HX1
                clear hdr hdr2
                replace h1 := h1.k hg3.k
                replace hon := hon.k hg3.k
                clear hg3 Bz
                have Bz := Below.refl w3.heap.size w3
                have p50_0 := (hnd.below (below_trans hB Bz)).c0 (u := .int .i64 x.at_) rfl
                refine wpPlan_pure (o := ⟨some 5, _, _, _, _, _⟩) (v := ?_) rfl rfl (fun w' => ?_) ?_
                rotate_left
                · go_simp <;> with_reducible rfl
                try simp only [pUt, pLt, pZt, pSt]
                refine wpPlan_done ?_
                go_wp2_with fail
                have hs1 := HS1.out
                go_roundg (n - (i + 1) + (m - (j + 1)))
                case measure => omega
                case rel => exact ⟨i + 1, j + 1, k + 1, _, _, _, rfl, by go_num, by go_num, by omega, by omega, Nat.le_refl _, by omega, OwnR.below ho3 (by go_grown), HJ2.out _ rfl, (OnT.below hon (by go_grown)).snoc (RN.below h1 (by go_grown)) rfl hs1, below_trans (below_trans hB Bz) (by go_grown)⟩
              · go_simp
                refine hK.out _ _ ⟨(cell_al p50_1), (cell_al p50_2), (cell_al p50_3), (cell_al p50_4), (cell_al p51_1), (cell_al p51_2), (cell_al p51_3), (cell_al p51_4)⟩ (fun _ => ?_)
                try simp only [pUt, pLt, pZt, pSt]
                clear hK K
                refine wpPlan_call (o := ⟨some 35, _, _, _, _, _⟩) rfl rfl (fun K hK => ?_)
                go_simp
                obtain ⟨V1, hW, x0, hN⟩ := boxes1 wr #[.bool false, .slice none 0 0, .bool false, .slice none 0 0] 27
                rw [← hW]
                clear hW
                obtain ⟨v0, hb0⟩ : ∃ b, b = wr.heap.size := ⟨_, rfl⟩
                rw [← hb0] at x0 ⊢
                have ow_0 : w.heap.size ≤ v0 := by have := hB.size; have := Bz.size; omega
                have nv0_own := OwnR.off' (b := v0) ho (by omega)
                replace hon := hon.below hN
                replace ho := ho.below hN
                replace hrx := hrx.below hN
                replace hry := hry.below hN
                replace hB := below_trans (below_trans hB Bz) hN
                have HX0 := Lib.hid x0
                clear x0 hN Bz hb0
                have Bz := Below.refl V1.heap.size V1
                clear p50_0 p50_1 p50_2 p50_3 p50_4 p51_0 p51_1 p51_2 p51_3 p51_4
                with_reducible refine (add_q (R.below hrx (by go_grown)) (R.below hry (by go_grown)) (by omega) (Lib.hid (Tab.below hT.out (below_trans hB (below_trans (b := V1) Bz (by go_grown)))))).mono ?_
                rintro e w1 ⟨s1, A1, c1, l1, s1r, A1r, c1r, l1r, rfl, h1, b1⟩
                replace b1 := below_trans (a := V1) (by go_grown) b1
                replace hon := hon.below b1
                replace ho := ho.below b1
                replace Bz := below_trans Bz b1
                clear b1
                have p0_0 := (HX0.out.below Bz).cell 0 (.bool false) rfl
                have p0_1 := (HX0.out.below Bz).cell 1 (.slice none 0 0) rfl
                have p0_2 := (HX0.out.below Bz).cell 2 (.bool false) rfl
                have p0_3 := (HX0.out.below Bz).cell 3 (.slice none 0 0) rfl
                have f0_0 := (HX0.out.below Bz).frozen 0
                have f0_1 := (HX0.out.below Bz).frozen 1
                have f0_2 := (HX0.out.below Bz).frozen 2
                have f0_3 := (HX0.out.below Bz).frozen 3
                have y0 := (HX0.out.below Bz).lt
                have p50_1 := (hnd.below (below_trans hB Bz)).at 1 (.bool x.x.s) rfl
                have p50_2 := (hnd.below (below_trans hB Bz)).at 2 (.slice x.x.A x.x.l x.x.c) rfl
                have p50_3 := (hnd.below (below_trans hB Bz)).at 3 (.bool x.x.s') rfl
                have p50_4 := (hnd.below (below_trans hB Bz)).at 4 (.slice x.x.A' x.x.l' x.x.c') rfl
                have p51_1 := (hnd'.below (below_trans hB Bz)).at 1 (.bool y.x.s) rfl
                have p51_2 := (hnd'.below (below_trans hB Bz)).at 2 (.slice y.x.A y.x.l y.x.c) rfl
                have p51_3 := (hnd'.below (below_trans hB Bz)).at 3 (.bool y.x.s') rfl
                have p51_4 := (hnd'.below (below_trans hB Bz)).at 4 (.slice y.x.A' y.x.l' y.x.c') rfl
                refine hK.out _ _ ⟨p50_1, p50_2, p50_3, p50_4, p51_1, p51_2, p51_3, p51_4⟩ (fun _ => ?_)
                try simp only [pUt, pLt, pZt, pSt]
                clear hK K
                refine wpPlan_late (o := ⟨none, _, _, _, _, _⟩) rfl rfl (by decide) (fun K hK => ?_)
                go_simp
                refine hK.out _ _ ?_
                try simp only [Act.put, List.setIfInBounds_toArray, List.set_cons_zero, List.set_cons_succ]
                clear hK K
                refine wpPlan_done ?_
                obtain ⟨V2, hW, x, kk, far, bel⟩ := store4 (.bool s1) (.slice A1 l1 c1) (.bool s1r) (.slice A1r l1r c1r) (HX0.out.below Bz) (fun _ e => by cases e) (fun _ e => by cases e) (fun _ e => by cases e) (fun _ e => by cases e)
                rw [← hW]
                clear hW
                replace h1 := h1.k kk
                replace hon := hon.k kk
                replace ho := ho.far2 far nv0_own
                replace hB := bel w.heap.size w (by omega) (below_trans hB Bz)
                replace HX0 := Lib.hid x
                clear x kk far bel Bz
                have Bz := Below.refl V2.heap.size V2
                clear p0_0 p0_1 p0_2 p0_3 f0_0 f0_1 f0_2 f0_3 y0 p50_1 p50_2 p50_3 p50_4 p51_1 p51_2 p51_3 p51_4
                have p0_0 := (HX0.out.below Bz).cell 0 (.bool s1) rfl
                have p0_1 := (HX0.out.below Bz).cell 1 (.slice A1 l1 c1) rfl
                have p0_2 := (HX0.out.below Bz).cell 2 (.bool s1r) rfl
                have p0_3 := (HX0.out.below Bz).cell 3 (.slice A1r l1r c1r) rfl
                go_wp2_with fail
                with_reducible refine (sign_q (R.below h1.r (by go_grown)) (by omega) z HZ).mono ?_
                rintro e w2 ⟨rfl, b2⟩
                replace b2 := below_trans (a := V2) (by go_grown) b2
                replace h1 := h1.below b2
                replace hon := hon.below b2
                replace ho := ho.below b2
                replace Bz := below_trans Bz b2
                clear b2
                clear p0_0 p0_1 p0_2 p0_3
                have p0_0 := (HX0.out.below Bz).cell 0 (.bool s1) rfl
                have p0_1 := (HX0.out.below Bz).cell 1 (.slice A1 l1 c1) rfl
                have p0_2 := (HX0.out.below Bz).cell 2 (.bool s1r) rfl
                have p0_3 := (HX0.out.below Bz).cell 3 (.slice A1r l1r c1r) rfl
                have p50_0 := (hnd.below (below_trans hB Bz)).c0 (u := .int .i64 x.at_) rfl
                go_wp2_with fail
                (try simp only [List.append_eq, List.cons_append, List.nil_append])
                refine wp_region_plan (.pure 0 (.pure 1 (.pure 2 (.pure 3 (.pure 4 (.take 5 (.take 6 (.pure 7 (.only 8 (.only 9 (.pure 10 .done))))))))))) [9] (fun w' => w'.cell? ⟨v0, 0, none⟩ = some (.bool s1) ∧ w'.cell? ⟨v0, 1, none⟩ = some (.slice A1 l1 c1) ∧ w'.cell? ⟨v0, 2, none⟩ = some (.bool s1r) ∧ w'.cell? ⟨v0, 3, none⟩ = some (.slice A1r l1r c1r) ∧ w'.cell? ⟨bx, ox + i * 5, none⟩ = some (.int .i64 x.at_)) (by kernel_rfl) (by kernel_rfl) ⟨p0_0, p0_1, p0_2, p0_3, p50_0⟩ ?_
                refine wpPlan_pure (o := ⟨some 39, _, _, _, _, _⟩) (v := ?_) rfl rfl (fun w' => ?_) ?_
                rotate_left
                · go_simp <;> with_reducible rfl
                try simp only [pUt, pLt, pZt, pSt]
                refine wpPlan_pure (o := ⟨some 40, _, _, _, _, _⟩) (v := ?_) rfl rfl (fun w' => ?_) ?_
                rotate_left
                · go_simp <;> with_reducible rfl
                try simp only [pUt, pLt, pZt, pSt]
                refine wpPlan_pure (o := ⟨some 41, _, _, _, _, _⟩) (v := ?_) rfl rfl (fun w' => ?_) ?_
                rotate_left
                · go_simp <;> with_reducible rfl
                try simp only [pUt, pLt, pZt, pSt]
                refine wpPlan_pure (o := ⟨some 42, _, _, _, _, _⟩) (v := ?_) rfl rfl (fun w' => ?_) ?_
                rotate_left
                · go_simp <;> with_reducible rfl
                try simp only [pUt, pLt, pZt, pSt]
                refine wpPlan_pure (o := ⟨some 43, _, _, _, _, _⟩) (v := ?_) rfl rfl (fun w' => ?_) ?_
                rotate_left
                · go_simp <;> with_reducible rfl
                try simp only [pUt, pLt, pZt, pSt]
                refine wpPlan_take (o := ⟨some 44, _, _, _, _, _⟩) (v := ?_) rfl rfl (fun w' hS => ?_) ?_
                rotate_left
                · obtain ⟨p0_0, p0_1, p0_2, p0_3, p50_0⟩ := hS; go_simp <;> with_reducible rfl
                try simp only [pUt, pLt, pZt, pSt]
                refine wpPlan_take (o := ⟨some 45, _, _, _, _, _⟩) (v := ?_) rfl rfl (fun w' hS => ?_) ?_
                rotate_left
                · obtain ⟨p0_0, p0_1, p0_2, p0_3, p50_0⟩ := hS; go_simp <;> with_reducible rfl
                try simp only [pUt, pLt, pZt, pSt]
                refine wpPlan_pure (o := ⟨some 46, _, _, _, _, _⟩) (v := ?_) rfl rfl (fun w' => ?_) ?_
                rotate_left
                · go_simp <;> with_reducible rfl
                try simp only [pUt, pLt, pZt, pSt]
                refine wpPlan_call (o := ⟨some 47, _, _, _, _, _⟩) rfl rfl (fun K hK => ?_)
                go_simp
                refine hK.out _ _ ⟨(cell_al p0_0), (cell_al p0_1), (cell_al p0_2), (cell_al p0_3), (cell_al p50_0)⟩ (fun _ => ?_)
                try simp only [pUt, pLt, pZt, pSt]
                clear hK K
                refine wpPlan_late (o := ⟨some 48, _, _, _, _, _⟩) rfl rfl (by decide) (fun K hK => ?_)
                obtain ⟨V3, hW, x1, hN⟩ := boxes1 w2 #[.int .i64 x.at_, .bool s1, .slice A1 l1 c1, .bool s1r, .slice A1r l1r c1r] 81
                rw [← hW]
                clear hW
                obtain ⟨v1, hb1⟩ : ∃ b, b = w2.heap.size := ⟨_, rfl⟩
                rw [← hb1] at x1 ⊢
                have o0_1 : v0 < v1 := by have := (HX0.out.below Bz).lt; omega
                have ow_1 : w.heap.size ≤ v1 := by have := hB.size; have := Bz.size; omega
                have nv1_own := OwnR.off' (b := v1) ho (by omega)
                replace h1 := h1.below hN
                replace hon := hon.below hN
                replace ho := ho.below hN
                replace hB := below_trans (below_trans hB Bz) hN
                replace HX0 := Lib.hid ((HX0.out.below Bz).below hN)
                have HX1 := Lib.hid x1
                clear x1 hN Bz hb1
                have Bz := Below.refl V3.heap.size V3
                clear p0_0 p0_1 p0_2 p0_3 p50_0
                have hdr : V3.drew.heap.size = V3.heap.size := rfl
                have hdr2 : V3.drew.drew.heap.size = V3.heap.size := rfl
                refine Elt.wp elt_vec _ _ rfl (w.heap.size) (.slice H k hc) (k) (O) rfl ho (.slice (some ⟨v1, 0, none⟩) 1 1) (1) ([⟨x.at_, ⟨s1, A1, c1, l1, s1r, A1r, c1r, l1r, x.x.q + y.x.q, true⟩⟩]) rfl (From.one (HX1.out.below (below_trans Bz (by go_grown))) (⟨x.at_, ⟨s1, A1, c1, l1, s1r, A1r, c1r, l1r, x.x.q + y.x.q, true⟩⟩) rfl (elt_vec.len _)) (by omega) (by have := hB.size; have := Bz.size; omega) ?_
                intro H3 c3 w3 ho3 hg3
                refine hK.out _ _ ?_
                try simp only [pUt, pLt, pZt, pSt]
                clear hK K
                replace hB := (below_trans (below_trans hB Bz) (by go_grown)).trans (hg3.below (by have := hB.size; have := Bz.size; omega) (fun g hg => by have := ho.base g hg; omega))
                clear HX0
                clear HX1
                clear hdr hdr2
                replace h1 := h1.k hg3.k
                replace hon := hon.k hg3.k
                clear hg3 Bz
                have Bz := Below.refl w3.heap.size w3
                have p50_0 := (hnd.below (below_trans hB Bz)).c0 (u := .int .i64 x.at_) rfl
                refine wpPlan_pure (o := ⟨some 5, _, _, _, _, _⟩) (v := ?_) rfl rfl (fun w' => ?_) ?_
                rotate_left
                · go_simp <;> with_reducible rfl
                try simp only [pUt, pLt, pZt, pSt]
                refine wpPlan_done ?_
                go_wp2_with fail
                have hs1 := HS1.out
                go_roundg (n - (i + 1) + (m - (j + 1)))
                case measure => omega
                case rel => exact ⟨i + 1, j + 1, k + 1, _, _, _, rfl, by go_num, by go_num, by omega, by omega, Nat.le_refl _, by omega, OwnR.below ho3 (by go_grown), HJ2.out _ rfl, (OnT.below hon (by go_grown)).snoc (RN.below h1 (by go_grown)) rfl hs1, below_trans (below_trans hB Bz) (by go_grown)⟩
      · obtain rfl : j = m := by omega
        have j1 : ¬ (j : Int) < (j : Int) := by omega
        have HJ2 : Hid (Joined (prs (O ++ [x])) (prs LX) (prs LY) (i + 1) j) := Lib.hid (by rw [prs_append]; exact HJO.out.left HPX.out hpx (fun q hq => by rw [List.drop_eq_nil_of_le (by rw [prs_len, HLY.out]; exact Nat.le_refl _)] at hq; cases hq))
        have HS1 : Hid (sz x.x.q + 1 ≤ M + M') := Lib.hid (by omega)
        have HEX := Lib.hid hxn.2.1
        clear hxn hpx hjo hjm
        have Bz := Below.refl wr.heap.size wr
        have p50_0 := (hnd.below (below_trans hB Bz)).c0 (u := .int .i64 x.at_) rfl
        have p50_1 := (hnd.below (below_trans hB Bz)).at 1 (.bool x.x.s) rfl
        have p50_2 := (hnd.below (below_trans hB Bz)).at 2 (.slice x.x.A x.x.l x.x.c) rfl
        have p50_3 := (hnd.below (below_trans hB Bz)).at 3 (.bool x.x.s') rfl
        have p50_4 := (hnd.below (below_trans hB Bz)).at 4 (.slice x.x.A' x.x.l' x.x.c') rfl
        go_wp2_with fail
        (try simp only [List.append_eq, List.cons_append, List.nil_append])
        refine wp_region_plan (.pure 0 (.pure 1 (.pure 2 (.pure 3 (.pure 4 (.pure 5 (.pure 6 (.pure 7 (.pure 8 (.pure 9 (.pure 10 (.pure 11 (.pure 12 (.pure 13 (.take 14 (.pure 15 (.pure 16 (.pure 17 (.pure 18 (.take 19 (.pure 20 (.pure 21 (.pure 22 (.pure 23 .done)))))))))))))))))))))))) [] (fun w' => True) (by kernel_rfl) (by kernel_rfl) trivial ?_
        refine wpPlan_pure (o := ⟨some 54, _, _, _, _, _⟩) (v := ?_) rfl rfl (fun w' => ?_) ?_
        rotate_left
        · go_simp <;> with_reducible rfl
        try simp only [pUt, pLt, pZt, pSt]
        refine wpPlan_pure (o := ⟨some 55, _, _, _, _, _⟩) (v := ?_) rfl rfl (fun w' => ?_) ?_
        rotate_left
        · go_simp <;> with_reducible rfl
        try simp only [pUt, pLt, pZt, pSt]
        refine wpPlan_pure (o := ⟨some 56, _, _, _, _, _⟩) (v := ?_) rfl rfl (fun w' => ?_) ?_
        rotate_left
        · go_simp <;> with_reducible rfl
        try simp only [pUt, pLt, pZt, pSt]
        refine wpPlan_pure (o := ⟨some 57, _, _, _, _, _⟩) (v := ?_) rfl rfl (fun w' => ?_) ?_
        rotate_left
        · go_simp <;> with_reducible rfl
        try simp only [pUt, pLt, pZt, pSt]
        refine wpPlan_pure (o := ⟨some 58, _, _, _, _, _⟩) (v := ?_) rfl rfl (fun w' => ?_) ?_
        rotate_left
        · go_simp <;> with_reducible rfl
        try simp only [pUt, pLt, pZt, pSt]
        refine wpPlan_pskip (o := ⟨some 59, _, _, _, _, _⟩) rfl rfl ?_
        try simp only [pUt, pLt, pZt, pSt]
        refine wpPlan_pskip (o := ⟨some 60, _, _, _, _, _⟩) rfl rfl ?_
        try simp only [pUt, pLt, pZt, pSt]
        refine wpPlan_pskip (o := ⟨some 61, _, _, _, _, _⟩) rfl rfl ?_
        try simp only [pUt, pLt, pZt, pSt]
        refine wpPlan_pskip (o := ⟨some 62, _, _, _, _, _⟩) rfl rfl ?_
        try simp only [pUt, pLt, pZt, pSt]
        refine wpPlan_pskip (o := ⟨some 63, _, _, _, _, _⟩) rfl rfl ?_
        try simp only [pUt, pLt, pZt, pSt]
        refine wpPlan_pskip (o := ⟨some 64, _, _, _, _, _⟩) rfl rfl ?_
        try simp only [pUt, pLt, pZt, pSt]
        refine wpPlan_pskip (o := ⟨some 65, _, _, _, _, _⟩) rfl rfl ?_
        try simp only [pUt, pLt, pZt, pSt]
        refine wpPlan_pskip (o := ⟨some 66, _, _, _, _, _⟩) rfl rfl ?_
        try simp only [pUt, pLt, pZt, pSt]
        refine wpPlan_pskip (o := ⟨some 67, _, _, _, _, _⟩) rfl rfl ?_
        try simp only [pUt, pLt, pZt, pSt]
        refine wpPlan_skip (o := ⟨some 68, _, _, _, _, _⟩) rfl rfl ?_
        try simp only [pUt, pLt, pZt, pSt]
        refine wpPlan_pskip (o := ⟨some 69, _, _, _, _, _⟩) rfl rfl ?_
        try simp only [pUt, pLt, pZt, pSt]
        refine wpPlan_pskip (o := ⟨some 70, _, _, _, _, _⟩) rfl rfl ?_
        try simp only [pUt, pLt, pZt, pSt]
        refine wpPlan_pskip (o := ⟨some 71, _, _, _, _, _⟩) rfl rfl ?_
        try simp only [pUt, pLt, pZt, pSt]
        refine wpPlan_pskip (o := ⟨some 72, _, _, _, _, _⟩) rfl rfl ?_
        try simp only [pUt, pLt, pZt, pSt]
        refine wpPlan_skip (o := ⟨some 73, _, _, _, _, _⟩) rfl rfl ?_
        try simp only [pUt, pLt, pZt, pSt]
        refine wpPlan_pskip (o := ⟨some 74, _, _, _, _, _⟩) rfl rfl ?_
        try simp only [pUt, pLt, pZt, pSt]
        refine wpPlan_pskip (o := ⟨some 75, _, _, _, _, _⟩) rfl rfl ?_
        try simp only [pUt, pLt, pZt, pSt]
        refine wpPlan_pure (o := ⟨some 76, _, _, _, _, _⟩) (v := ?_) rfl rfl (fun w' => ?_) ?_
        rotate_left
        · go_simp <;> with_reducible rfl
        try simp only [pUt, pLt, pZt, pSt]
        refine wpPlan_pure (o := ⟨some 53, _, _, _, _, _⟩) (v := ?_) rfl rfl (fun w' => ?_) ?_
        rotate_left
        · go_simp <;> with_reducible rfl
        try simp only [pUt, pLt, pZt, pSt]
        refine wpPlan_done ?_
        go_wp2_with (at_builtin; refine And.left (b := True) ?_)
        refine ⟨?_, trivial⟩
        obtain ⟨V1, hW, x0, hN⟩ := boxes1 wr #[.int .i64 x.at_, .bool x.x.s, .slice x.x.A x.x.l x.x.c, .bool x.x.s', .slice x.x.A' x.x.l' x.x.c'] 81
        rw [← hW]
        clear hW
        obtain ⟨v0, hb0⟩ : ∃ b, b = wr.heap.size := ⟨_, rfl⟩
        rw [← hb0] at x0 ⊢
        have ow_0 : w.heap.size ≤ v0 := by have := hB.size; have := Bz.size; omega
        have nv0_own := OwnR.off' (b := v0) ho (by omega)
        replace hnx := hnx.below hN
        replace hon := hon.below hN
        replace ho := ho.below hN
        replace hB := below_trans (below_trans hB Bz) hN
        have HX0 := Lib.hid x0
        clear x0 hN Bz hb0
        have Bz := Below.refl V1.heap.size V1
        clear p50_0 p50_1 p50_2 p50_3 p50_4
        have hdr : V1.drew.heap.size = V1.heap.size := rfl
        have hdr2 : V1.drew.drew.heap.size = V1.heap.size := rfl
        refine Elt.app elt_vec rfl _ _ rfl (w.heap.size) (.slice H k hc) (k) (O) rfl ho (.slice (some ⟨v0, 0, none⟩) 1 1) (1) ([x]) rfl (From.one (HX0.out.below (below_trans Bz (by go_grown))) (x) rfl (elt_vec.len _)) (by omega) (by have := hB.size; have := Bz.size; omega) ?_
        intro H1 c1 w1 ho1 hg1
        replace hB := (below_trans (below_trans hB Bz) (by go_grown)).trans (hg1.below (by have := hB.size; have := Bz.size; omega) (fun g hg => by have := ho.base g hg; omega))
        clear HX0
        clear hdr hdr2
        replace hnx := hnx.k hg1.k
        replace hon := hon.k hg1.k
        clear hg1 Bz
        have Bz := Below.refl w1.heap.size w1
        go_wp2_with fail
        have hs1 := HS1.out
        go_roundg (n - (i + 1) + (j - (j)))
        case measure => omega
        case rel => exact ⟨i + 1, j, k + 1, _, _, _, rfl, by go_num, rfl, by omega, by omega, Nat.le_refl _, by omega, OwnR.below ho1 (by go_grown), HJ2.out, (OnT.below hon (by go_grown)).snoc (RN.below hnx (by go_grown)) HEX.out hs1, below_trans (below_trans hB Bz) (by go_grown)⟩
    · obtain rfl : i = n := by omega
      have i1 : ¬ (i : Int) < (i : Int) := by omega
      by_cases hjm : j < m
      · obtain ⟨by_, oy, rfl, hel'⟩ := HSY.out.at Tm.cs_len (by omega) (by omega)
        obtain ⟨y, hy⟩ : ∃ y, LY[j]? = some y := ⟨LY[j]'(by rw [HLY.out]; exact hjm), List.getElem?_eq_getElem _⟩
        have hnd' := hel' j y hy
        have hyn := HNY.out y (List.mem_of_getElem? hy)
        have hny := hyn.1.below hB
        have hry := hny.r
        have hys : sz y.x.q + 1 ≤ M' := hyn.2.2
        have hpy := prs_get hy
        have j1 : (j : Int) < (m : Int) := by omega
        have j3 : ((j : Int) == (m : Int)) = false := by rw [beq_eq_false_iff_ne]; omega
        have HJ2 : Hid (Joined (prs (O ++ [y])) (prs LX) (prs LY) i (j + 1)) := Lib.hid (by rw [prs_append]; exact HJO.out.right HPY.out hpy (fun p hp => by rw [List.drop_eq_nil_of_le (by rw [prs_len, HLX.out]; exact Nat.le_refl _)] at hp; cases hp))
        have HS1 : Hid (sz y.x.q + 1 ≤ M + M') := Lib.hid (by omega)
        have HEX := Lib.hid hyn.2.1
        clear hel' hy hyn hpy hjo hin
        have Bz := Below.refl wr.heap.size wr
        have p51_0 := (hnd'.below (below_trans hB Bz)).c0 (u := .int .i64 y.at_) rfl
        have p51_1 := (hnd'.below (below_trans hB Bz)).at 1 (.bool y.x.s) rfl
        have p51_2 := (hnd'.below (below_trans hB Bz)).at 2 (.slice y.x.A y.x.l y.x.c) rfl
        have p51_3 := (hnd'.below (below_trans hB Bz)).at 3 (.bool y.x.s') rfl
        have p51_4 := (hnd'.below (below_trans hB Bz)).at 4 (.slice y.x.A' y.x.l' y.x.c') rfl
        go_wp2_with fail
        (try simp only [List.append_eq, List.cons_append, List.nil_append])
        refine wp_region_plan (.pure 0 (.pure 1 (.pure 2 (.pure 3 (.pure 4 (.pure 5 (.pure 6 (.pure 7 (.pure 8 (.pure 9 (.pure 10 (.pure 11 (.pure 12 (.pure 13 (.take 14 (.pure 15 (.pure 16 (.pure 17 (.pure 18 (.take 19 (.pure 20 (.pure 21 (.pure 22 (.pure 23 .done)))))))))))))))))))))))) [] (fun w' => True) (by kernel_rfl) (by kernel_rfl) trivial ?_
        refine wpPlan_pure (o := ⟨some 54, _, _, _, _, _⟩) (v := ?_) rfl rfl (fun w' => ?_) ?_
        rotate_left
        · go_simp <;> with_reducible rfl
        try simp only [pUt, pLt, pZt, pSt]
        refine wpPlan_pure (o := ⟨some 55, _, _, _, _, _⟩) (v := ?_) rfl rfl (fun w' => ?_) ?_
        rotate_left
        · go_simp <;> with_reducible rfl
        try simp only [pUt, pLt, pZt, pSt]
        refine wpPlan_pure (o := ⟨some 56, _, _, _, _, _⟩) (v := ?_) rfl rfl (fun w' => ?_) ?_
        rotate_left
        · go_simp <;> with_reducible rfl
        try simp only [pUt, pLt, pZt, pSt]
        refine wpPlan_pure (o := ⟨some 57, _, _, _, _, _⟩) (v := ?_) rfl rfl (fun w' => ?_) ?_
        rotate_left
        · go_simp <;> with_reducible rfl
        try simp only [pUt, pLt, pZt, pSt]
        refine wpPlan_pure (o := ⟨some 58, _, _, _, _, _⟩) (v := ?_) rfl rfl (fun w' => ?_) ?_
        rotate_left
        · go_simp <;> with_reducible rfl
        try simp only [pUt, pLt, pZt, pSt]
        refine wpPlan_pure (o := ⟨some 59, _, _, _, _, _⟩) (v := ?_) rfl rfl (fun w' => ?_) ?_
        rotate_left
        · go_simp <;> with_reducible rfl
        try simp only [pUt, pLt, pZt, pSt]
        refine wpPlan_pure (o := ⟨some 60, _, _, _, _, _⟩) (v := ?_) rfl rfl (fun w' => ?_) ?_
        rotate_left
        · go_simp <;> with_reducible rfl
        try simp only [pUt, pLt, pZt, pSt]
        refine wpPlan_pure (o := ⟨some 61, _, _, _, _, _⟩) (v := ?_) rfl rfl (fun w' => ?_) ?_
        rotate_left
        · go_simp <;> with_reducible rfl
        try simp only [pUt, pLt, pZt, pSt]
        refine wpPlan_pure (o := ⟨some 62, _, _, _, _, _⟩) (v := ?_) rfl rfl (fun w' => ?_) ?_
        rotate_left
        · go_simp <;> with_reducible rfl
        try simp only [pUt, pLt, pZt, pSt]
        refine wpPlan_pure (o := ⟨some 63, _, _, _, _, _⟩) (v := ?_) rfl rfl (fun w' => ?_) ?_
        rotate_left
        · go_simp <;> with_reducible rfl
        try simp only [pUt, pLt, pZt, pSt]
        refine wpPlan_pskip (o := ⟨some 64, _, _, _, _, _⟩) rfl rfl ?_
        try simp only [pUt, pLt, pZt, pSt]
        refine wpPlan_pskip (o := ⟨some 65, _, _, _, _, _⟩) rfl rfl ?_
        try simp only [pUt, pLt, pZt, pSt]
        refine wpPlan_pskip (o := ⟨some 66, _, _, _, _, _⟩) rfl rfl ?_
        try simp only [pUt, pLt, pZt, pSt]
        refine wpPlan_pskip (o := ⟨some 67, _, _, _, _, _⟩) rfl rfl ?_
        try simp only [pUt, pLt, pZt, pSt]
        refine wpPlan_skip (o := ⟨some 68, _, _, _, _, _⟩) rfl rfl ?_
        try simp only [pUt, pLt, pZt, pSt]
        refine wpPlan_pskip (o := ⟨some 69, _, _, _, _, _⟩) rfl rfl ?_
        try simp only [pUt, pLt, pZt, pSt]
        refine wpPlan_pskip (o := ⟨some 70, _, _, _, _, _⟩) rfl rfl ?_
        try simp only [pUt, pLt, pZt, pSt]
        refine wpPlan_pskip (o := ⟨some 71, _, _, _, _, _⟩) rfl rfl ?_
        try simp only [pUt, pLt, pZt, pSt]
        refine wpPlan_pskip (o := ⟨some 72, _, _, _, _, _⟩) rfl rfl ?_
        try simp only [pUt, pLt, pZt, pSt]
        refine wpPlan_skip (o := ⟨some 73, _, _, _, _, _⟩) rfl rfl ?_
        try simp only [pUt, pLt, pZt, pSt]
        refine wpPlan_pskip (o := ⟨some 74, _, _, _, _, _⟩) rfl rfl ?_
        try simp only [pUt, pLt, pZt, pSt]
        refine wpPlan_pure (o := ⟨some 75, _, _, _, _, _⟩) (v := ?_) rfl rfl (fun w' => ?_) ?_
        rotate_left
        · go_simp <;> with_reducible rfl
        try simp only [pUt, pLt, pZt, pSt]
        refine wpPlan_pure (o := ⟨some 76, _, _, _, _, _⟩) (v := ?_) rfl rfl (fun w' => ?_) ?_
        rotate_left
        · go_simp <;> with_reducible rfl
        try simp only [pUt, pLt, pZt, pSt]
        refine wpPlan_pure (o := ⟨some 53, _, _, _, _, _⟩) (v := ?_) rfl rfl (fun w' => ?_) ?_
        rotate_left
        · go_simp <;> with_reducible rfl
        try simp only [pUt, pLt, pZt, pSt]
        refine wpPlan_done ?_
        go_wp2_with fail
        (try simp only [List.append_eq, List.cons_append, List.nil_append])
        refine wp_region_plan (.pure 0 (.pure 1 (.pure 2 (.pure 3 (.pure 4 (.pure 5 (.pure 6 (.pure 7 (.pure 8 (.take 9 (.pure 10 (.pure 11 (.pure 12 (.pure 13 (.take 14 (.pure 15 (.pure 16 (.pure 17 .done)))))))))))))))))) [] (fun w' => True) (by kernel_rfl) (by kernel_rfl) trivial ?_
        refine wpPlan_pure (o := ⟨some 87, _, _, _, _, _⟩) (v := ?_) rfl rfl (fun w' => ?_) ?_
        rotate_left
        · go_simp <;> with_reducible rfl
        try simp only [pUt, pLt, pZt, pSt]
        refine wpPlan_pure (o := ⟨some 88, _, _, _, _, _⟩) (v := ?_) rfl rfl (fun w' => ?_) ?_
        rotate_left
        · go_simp <;> with_reducible rfl
        try simp only [pUt, pLt, pZt, pSt]
        refine wpPlan_pure (o := ⟨some 89, _, _, _, _, _⟩) (v := ?_) rfl rfl (fun w' => ?_) ?_
        rotate_left
        · go_simp <;> with_reducible rfl
        try simp only [pUt, pLt, pZt, pSt]
        refine wpPlan_pure (o := ⟨some 90, _, _, _, _, _⟩) (v := ?_) rfl rfl (fun w' => ?_) ?_
        rotate_left
        · go_simp <;> with_reducible rfl
        try simp only [pUt, pLt, pZt, pSt]
        refine wpPlan_pure (o := ⟨some 91, _, _, _, _, _⟩) (v := ?_) rfl rfl (fun w' => ?_) ?_
        rotate_left
        · go_simp <;> with_reducible rfl
        try simp only [pUt, pLt, pZt, pSt]
        refine wpPlan_pskip (o := ⟨some 92, _, _, _, _, _⟩) rfl rfl ?_
        try simp only [pUt, pLt, pZt, pSt]
        refine wpPlan_pskip (o := ⟨some 93, _, _, _, _, _⟩) rfl rfl ?_
        try simp only [pUt, pLt, pZt, pSt]
        refine wpPlan_pskip (o := ⟨some 94, _, _, _, _, _⟩) rfl rfl ?_
        try simp only [pUt, pLt, pZt, pSt]
        refine wpPlan_pskip (o := ⟨some 95, _, _, _, _, _⟩) rfl rfl ?_
        try simp only [pUt, pLt, pZt, pSt]
        refine wpPlan_skip (o := ⟨some 96, _, _, _, _, _⟩) rfl rfl ?_
        try simp only [pUt, pLt, pZt, pSt]
        refine wpPlan_pskip (o := ⟨some 97, _, _, _, _, _⟩) rfl rfl ?_
        try simp only [pUt, pLt, pZt, pSt]
        refine wpPlan_pskip (o := ⟨some 98, _, _, _, _, _⟩) rfl rfl ?_
        try simp only [pUt, pLt, pZt, pSt]
        refine wpPlan_pskip (o := ⟨some 99, _, _, _, _, _⟩) rfl rfl ?_
        try simp only [pUt, pLt, pZt, pSt]
        refine wpPlan_pskip (o := ⟨some 100, _, _, _, _, _⟩) rfl rfl ?_
        try simp only [pUt, pLt, pZt, pSt]
        refine wpPlan_skip (o := ⟨some 101, _, _, _, _, _⟩) rfl rfl ?_
        try simp only [pUt, pLt, pZt, pSt]
        refine wpPlan_pskip (o := ⟨some 102, _, _, _, _, _⟩) rfl rfl ?_
        try simp only [pUt, pLt, pZt, pSt]
        refine wpPlan_pure (o := ⟨some 103, _, _, _, _, _⟩) (v := ?_) rfl rfl (fun w' => ?_) ?_
        rotate_left
        · go_simp <;> with_reducible rfl
        try simp only [pUt, pLt, pZt, pSt]
        refine wpPlan_pure (o := ⟨some 86, _, _, _, _, _⟩) (v := ?_) rfl rfl (fun w' => ?_) ?_
        rotate_left
        · go_simp <;> with_reducible rfl
        try simp only [pUt, pLt, pZt, pSt]
        refine wpPlan_done ?_
        go_wp2_with (at_builtin; refine And.left (b := True) ?_)
        refine ⟨?_, trivial⟩
        obtain ⟨V1, hW, x0, hN⟩ := boxes1 wr #[.int .i64 y.at_, .bool y.x.s, .slice y.x.A y.x.l y.x.c, .bool y.x.s', .slice y.x.A' y.x.l' y.x.c'] 81
        rw [← hW]
        clear hW
        obtain ⟨v0, hb0⟩ : ∃ b, b = wr.heap.size := ⟨_, rfl⟩
        rw [← hb0] at x0 ⊢
        have ow_0 : w.heap.size ≤ v0 := by have := hB.size; have := Bz.size; omega
        have nv0_own := OwnR.off' (b := v0) ho (by omega)
        replace hny := hny.below hN
        replace hon := hon.below hN
        replace ho := ho.below hN
        replace hB := below_trans (below_trans hB Bz) hN
        have HX0 := Lib.hid x0
        clear x0 hN Bz hb0
        have Bz := Below.refl V1.heap.size V1
        clear p51_0 p51_1 p51_2 p51_3 p51_4
        have hdr : V1.drew.heap.size = V1.heap.size := rfl
        have hdr2 : V1.drew.drew.heap.size = V1.heap.size := rfl
        refine Elt.app elt_vec rfl _ _ rfl (w.heap.size) (.slice H k hc) (k) (O) rfl ho (.slice (some ⟨v0, 0, none⟩) 1 1) (1) ([y]) rfl (From.one (HX0.out.below (below_trans Bz (by go_grown))) (y) rfl (elt_vec.len _)) (by omega) (by have := hB.size; have := Bz.size; omega) ?_
        intro H1 c1 w1 ho1 hg1
        replace hB := (below_trans (below_trans hB Bz) (by go_grown)).trans (hg1.below (by have := hB.size; have := Bz.size; omega) (fun g hg => by have := ho.base g hg; omega))
        clear HX0
        clear hdr hdr2
        replace hny := hny.k hg1.k
        replace hon := hon.k hg1.k
        clear hg1 Bz
        have Bz := Below.refl w1.heap.size w1
        go_wp2_with fail
        have hs1 := HS1.out
        go_roundg (i - (i) + (m - (j + 1)))
        case measure => omega
        case rel => exact ⟨i, j + 1, k + 1, _, _, _, rfl, rfl, by go_num, by omega, by omega, Nat.le_refl _, by omega, OwnR.below ho1 (by go_grown), HJ2.out, (OnT.below hon (by go_grown)).snoc (RN.below hny (by go_grown)) HEX.out hs1, below_trans (below_trans hB Bz) (by go_grown)⟩
      · obtain rfl : j = m := by omega
        have j1 : ¬ (j : Int) < (j : Int) := by omega
        have HOS := Lib.hid (ho.sl' elt_vec (ho.eltn elt_vec (by omega)))
        have HCAP := Lib.hid ho.slice
        have HON := Lib.hid hon
        clear hjo ho hon
        go_wp2_with fail
        go_ret
        refine ⟨_, _, _, rfl, ⟨O, HOS.out.below (by go_grown), HON.out.below (by go_grown), ?_, fun hn => ?_⟩, below_trans hB (by go_grown)⟩
        · exact (HJO.out.done (by rw [prs_len, HLX.out]; exact Nat.le_refl _) (by rw [prs_len, HLY.out]; exact Nat.le_refl _)).symm
        · obtain ⟨_, _, e9, h9, _⟩ := HCAP.out
          cases e9
          exact (h9 hn).2
set_option maxRecDepth 100000 in
set_option maxHeartbeats 4000000 in
theorem addV_q {w : World} {X Y : Option Addr} {n cx m cy M M' : Nat} {P Q : List (Int × Rat)} (h : GV w X n cx P M) (h' : GV w Y m cy Q M') (hM : M + M' ≤ 18000) (hn : n ≤ 1000000) (hm : m ≤ 1000000) (hT : Hid (Tab w)) :
    Calls Tryd.prog 25 #[.slice X n cx, .slice Y m cy] w (TellsV w (nrm (P ++ Q)) (M + M')) := by
  have HX := Lib.hid h
  have HY := Lib.hid h'
  have HLX := Lib.hid h.len
  have HLY := Lib.hid h'.len
  clear h h'
  have hB := Below.refl w.heap.size w
  have Bz := Below.refl w.heap.size w
  go_enter Tryd.func25, Tryd.ntmps25
  go_wp2_with fail
  with_reducible refine (normV_q (HX.out.below (below_trans hB (below_trans (b := w) Bz (by go_grown)))) (by omega) hn (Lib.hid (Tab.below hT.out (below_trans hB (below_trans (b := w) Bz (by go_grown)))))).mono ?_
  rintro e w1 ⟨A1, n1, c1, rfl, h1, b1⟩
  replace b1 := below_trans (a := w) (by go_grown) b1
  replace Bz := below_trans Bz b1
  clear b1
  go_wp2_with fail
  with_reducible refine (normV_q (HY.out.below (below_trans hB (below_trans (b := w1) Bz (by go_grown)))) (by omega) hm (Lib.hid (Tab.below hT.out (below_trans hB (below_trans (b := w1) Bz (by go_grown)))))).mono ?_
  rintro e w2 ⟨A2, n2, c2, rfl, h2, b2⟩
  replace b2 := below_trans (a := w1) (by go_grown) b2
  replace h1 := h1.below b2
  replace Bz := below_trans Bz b2
  clear b2
  go_wp2_with fail
  with_reducible refine (join_q (NV.below h1 (by go_grown)) (NV.below h2 (by go_grown)) (nrm_nrm _) (nrm_nrm _) hM (by have := h1.len; have := nrm_len P; have := HLX.out; omega) (by have := h2.len; have := nrm_len Q; have := HLY.out; omega) (Lib.hid (Tab.below hT.out (below_trans hB (below_trans (b := w2) Bz (by go_grown)))))).mono ?_
  rintro e w3 ⟨A3, n3, c3, rfl, h3, b3⟩
  replace b3 := below_trans (a := w2) (by go_grown) b3
  replace Bz := below_trans Bz b3
  clear b3
  go_wp2_with fail
  go_ret
  have hF := below_trans (c := w3) hB Bz
  exact ⟨_, _, _, rfl, by rw [← nrm_app]; exact NV.below h3 (by go_grown), below_trans hF (by go_grown)⟩
end Go.Proofs.YtionhpangenhnaaDoor
