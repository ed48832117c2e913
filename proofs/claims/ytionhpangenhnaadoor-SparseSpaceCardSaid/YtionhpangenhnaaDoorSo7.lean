/-
  tripwirelow.SameVec, sparse.Same, sparse.Put. Written by wip/gen/so7.py.
-/
import Derived.Test.YtionhpangenhnaaDoorSo5
import Derived.Test.YtionhpangenhnaaDoorSw
namespace Go.Proofs.YtionhpangenhnaaDoor
open Go.RowKit Tw

/-- Two terms say the same. -/
def sameT (p : Tm × Tm) : Bool := decide (p.1.at_ = p.2.at_) && decide (p.1.x.q = p.2.x.q)
theorem prs_zip : ∀ {L M : List Tm}, L.length = M.length → ((L.zip M).all sameT = true ↔ prs L = prs M) := by
  intro L
  induction L with
  | nil => intro M h; cases M with
    | nil => simp [prs]
    | cons y M => simp at h
  | cons x L ih =>
    intro M h
    cases M with
    | nil => simp at h
    | cons y M =>
      have h2 := ih (M := M) (by simpa using h)
      rw [List.zip_cons_cons, List.all_cons, Bool.and_eq_true, h2]
      show _ ↔ (x.at_, x.x.q) :: prs L = (y.at_, y.x.q) :: prs M
      unfold sameT
      simp only [Bool.and_eq_true, decide_eq_true_eq, List.cons.injEq, Prod.mk.injEq]
theorem prs_zip_all {L M : List Tm} (h : L.length = M.length) : decide (prs L = prs M) = (L.zip M).all sameT := by
  have := prs_zip h
  cases e : (L.zip M).all sameT
  · rw [e] at this; exact decide_eq_false (fun h2 => by have := this.2 h2; cases this)
  · rw [e] at this; exact decide_eq_true (this.1 rfl)
/-- A state of a loop over pairs of terms. -/
def SV1 (w : World) (Z : List (Tm × Tm)) (n gk : Nat) (s : Value) (wr : World) : Prop := ∃ i : Nat, i ≤ n ∧ n - i = gk ∧ s = .int .i64 (i : Int) ∧ Below w.heap.size w wr ∧ (Z.take i).all sameT = true
theorem OnT.len {w : World} {L : List Tm} {M : Nat} (h : OnT w L (fun _ => M)) : ∀ t ∈ L, t.x.l ≤ M ∧ t.x.l' ≤ M := fun t ht => by have h1 := h.dg t ht; have h2 := (h t ht).2.2; unfold dgT at h1; simp only at h2; omega
set_option maxRecDepth 100000 in
set_option maxHeartbeats 4000000 in
theorem sameVec_q {w : World} {A A' : Option Addr} {n n' c c' M M' : Nat} {P Q : List (Int × Rat)} (h : NV w A n c P M) (h' : NV w A' n' c' Q M') (hM : M ≤ 40000) (hM' : M' ≤ 40000) (hn : n ≤ 1000000) (hn' : n' ≤ 1000000) (r : Bool) (hr : Hid (decide (P = Q) = r)) :
    Calls Tryd.prog 24 #[.slice A n c, .slice A' n' c'] w fun e w' => e = .returned (.bool r) ∧ Below w.heap.size w w' := by
  obtain ⟨L, x1, x2, rfl, x4⟩ := h
  obtain ⟨K, y1, y2, rfl, y4⟩ := h'
  have H := Lib.hid x1
  have H' := Lib.hid y1
  have HLN := Lib.hid x1.1
  have HMN := Lib.hid y1.1
  have HOX := Lib.hid x2
  have HOY := Lib.hid y2
  clear x1 x2 x4 y1 y2 y4
  by_cases hnn : n = n'
  · subst hnn
    have g0 : ((n : Int) != (n : Int)) = false := by simp
    have hra : Hid ((L.zip K).all sameT = r) := Lib.hid (by rw [← hr.out, prs_zip_all (HLN.out.trans HMN.out.symm)])
    have HZL : Hid ((L.zip K).length = n) := Lib.hid (by rw [List.length_zip, HLN.out, HMN.out]; exact Nat.min_self _)
    have hst : SV1 w (L.zip K) n n (.int .i64 ((0 : Nat) : Int)) w := ⟨0, Nat.zero_le _, rfl, rfl, Below.refl _ _, by simp⟩
    have HST := Lib.hid hst
    clear hst hr
    go_enter Tryd.func24, Tryd.ntmps24
    go_wp2_with fail
    go_loopg [5] n (fun gk s wr => SV1 w (L.zip K) n gk s wr)
    case atStart => exact HST.out
    case round =>
      clear HST
      obtain ⟨i, hi, hgk, rfl, hB, hd⟩ := hrel
      have HGK := Lib.hid hgk
      have HD := Lib.hid hd
      clear hgk hd
      by_cases hlt : i < n
      · obtain ⟨b, off, rfl, hel⟩ := H.out.at Tm.cs_len (by omega) (by omega)
        obtain ⟨b', off', rfl, hel'⟩ := H'.out.at Tm.cs_len (by omega) (by omega)
        obtain ⟨x, ex⟩ : ∃ x, L[i]? = some x := ⟨L[i]'(by rw [HLN.out]; exact hlt), List.getElem?_eq_getElem _⟩
        obtain ⟨y, ey⟩ : ∃ y, K[i]? = some y := ⟨K[i]'(by rw [HMN.out]; exact hlt), List.getElem?_eq_getElem _⟩
        have hnd := hel i x ex
        have hnd' := hel' i y ey
        have HZI : Hid ((L.zip K)[i]? = some (x, y)) := Lib.hid (by rw [List.getElem?_zip_eq_some]; exact ⟨ex, ey⟩)
        have HRX := Lib.hid (HOX.out x (List.mem_of_getElem? ex)).1
        have HRY := Lib.hid (HOY.out y (List.mem_of_getElem? ey)).1
        have hlx0 := HOX.out.len x (List.mem_of_getElem? ex)
        have hly0 := HOY.out.len y (List.mem_of_getElem? ey)
        have hlx : x.x.l ≤ 800000 ∧ x.x.l' ≤ 800000 := by omega
        have hly : y.x.l ≤ 800000 ∧ y.x.l' ≤ 800000 := by omega
        have hsx : sz x.x.q + 1 ≤ M := (HOX.out x (List.mem_of_getElem? ex)).2.2
        have hsy : sz y.x.q + 1 ≤ M' := (HOY.out y (List.mem_of_getElem? ey)).2.2
        have i1 : (i : Int) < (n : Int) := by omega
        have i2 : (0 : Int) ≤ (i : Int) := by omega
        clear ex hel ey hel' hlx0 hly0
        by_cases hat : x.at_ = y.at_
        · have g1 : (x.at_ != y.at_) = false := by simpa using hat
          by_cases hq : x.x.q = y.x.q
          · have HQ : Hid (decide (x.x.q = y.x.q) = true) := Lib.hid (decide_eq_true hq)
            have HP : Hid (sameT (x, y) = true) := Lib.hid (by unfold sameT; rw [decide_eq_true hat, decide_eq_true hq]; rfl)
            clear hat hq
            have Bz := Below.refl wr.heap.size wr
            have p50_0 := (hnd.below (below_trans hB Bz)).c0 (u := .int .i64 x.at_) rfl
            have p50_1 := (hnd.below (below_trans hB Bz)).at 1 (.bool x.x.s) rfl
            have p50_2 := (hnd.below (below_trans hB Bz)).at 2 (.slice x.x.A x.x.l x.x.c) rfl
            have p50_3 := (hnd.below (below_trans hB Bz)).at 3 (.bool x.x.s') rfl
            have p50_4 := (hnd.below (below_trans hB Bz)).at 4 (.slice x.x.A' x.x.l' x.x.c') rfl
            have p51_0 := (hnd'.below (below_trans hB Bz)).c0 (u := .int .i64 y.at_) rfl
            have p51_1 := (hnd'.below (below_trans hB Bz)).at 1 (.bool y.x.s) rfl
            have p51_2 := (hnd'.below (below_trans hB Bz)).at 2 (.slice y.x.A y.x.l y.x.c) rfl
            have p51_3 := (hnd'.below (below_trans hB Bz)).at 3 (.bool y.x.s') rfl
            have p51_4 := (hnd'.below (below_trans hB Bz)).at 4 (.slice y.x.A' y.x.l' y.x.c') rfl
            go_wp2_with fail
            (try simp only [List.append_eq, List.cons_append, List.nil_append])
            refine wp_region_plan (.pure 0 (.pure 1 (.pure 2 (.pure 3 (.take 4 (.pure 5 (.pure 6 (.pure 7 (.pure 8 (.take 9 (.pure 10 (.pure 11 (.pure 12 (.pure 13 (.pure 14 (.pure 15 (.take 16 (.pure 17 (.pure 18 (.pure 19 (.pure 20 (.take 21 (.only 22 (.pure 23 (.pure 24 .done))))))))))))))))))))))))) [] (fun w' => w'.cell? ⟨b, off + i * 5, none⟩ = some (.int .i64 x.at_) ∧ w'.cell? ⟨b, off + i * 5 + 1, none⟩ = some (.bool x.x.s) ∧ w'.cell? ⟨b, off + i * 5 + 2, none⟩ = some (.slice x.x.A x.x.l x.x.c) ∧ w'.cell? ⟨b, off + i * 5 + 3, none⟩ = some (.bool x.x.s') ∧ w'.cell? ⟨b, off + i * 5 + 4, none⟩ = some (.slice x.x.A' x.x.l' x.x.c') ∧ w'.cell? ⟨b', off' + i * 5, none⟩ = some (.int .i64 y.at_) ∧ w'.cell? ⟨b', off' + i * 5 + 1, none⟩ = some (.bool y.x.s) ∧ w'.cell? ⟨b', off' + i * 5 + 2, none⟩ = some (.slice y.x.A y.x.l y.x.c) ∧ w'.cell? ⟨b', off' + i * 5 + 3, none⟩ = some (.bool y.x.s') ∧ w'.cell? ⟨b', off' + i * 5 + 4, none⟩ = some (.slice y.x.A' y.x.l' y.x.c')) (by kernel_rfl) (by kernel_rfl) ⟨p50_0, p50_1, p50_2, p50_3, p50_4, p51_0, p51_1, p51_2, p51_3, p51_4⟩ ?_
            refine wpPlan_pure (o := ⟨some 17, _, _, _, _, _⟩) (v := ?_) rfl rfl (fun w' => ?_) ?_
            rotate_left
            · go_simp <;> with_reducible rfl
            try simp only [pUt, pLt, pZt, pSt]
            refine wpPlan_pure (o := ⟨some 18, _, _, _, _, _⟩) (v := ?_) rfl rfl (fun w' => ?_) ?_
            rotate_left
            · go_simp <;> with_reducible rfl
            try simp only [pUt, pLt, pZt, pSt]
            refine wpPlan_pure (o := ⟨some 19, _, _, _, _, _⟩) (v := ?_) rfl rfl (fun w' => ?_) ?_
            rotate_left
            · go_simp <;> with_reducible rfl
            try simp only [pUt, pLt, pZt, pSt]
            refine wpPlan_pure (o := ⟨some 20, _, _, _, _, _⟩) (v := ?_) rfl rfl (fun w' => ?_) ?_
            rotate_left
            · go_simp <;> with_reducible rfl
            try simp only [pUt, pLt, pZt, pSt]
            refine wpPlan_take (o := ⟨some 21, _, _, _, _, _⟩) (v := ?_) rfl rfl (fun w' hS => ?_) ?_
            rotate_left
            · obtain ⟨p50_0, p50_1, p50_2, p50_3, p50_4, p51_0, p51_1, p51_2, p51_3, p51_4⟩ := hS; go_simp <;> with_reducible rfl
            try simp only [pUt, pLt, pZt, pSt]
            refine wpPlan_pure (o := ⟨some 22, _, _, _, _, _⟩) (v := ?_) rfl rfl (fun w' => ?_) ?_
            rotate_left
            · go_simp <;> with_reducible rfl
            try simp only [pUt, pLt, pZt, pSt]
            refine wpPlan_pure (o := ⟨some 23, _, _, _, _, _⟩) (v := ?_) rfl rfl (fun w' => ?_) ?_
            rotate_left
            · go_simp <;> with_reducible rfl
            try simp only [pUt, pLt, pZt, pSt]
            refine wpPlan_pure (o := ⟨some 24, _, _, _, _, _⟩) (v := ?_) rfl rfl (fun w' => ?_) ?_
            rotate_left
            · go_simp <;> with_reducible rfl
            try simp only [pUt, pLt, pZt, pSt]
            refine wpPlan_pure (o := ⟨some 25, _, _, _, _, _⟩) (v := ?_) rfl rfl (fun w' => ?_) ?_
            rotate_left
            · go_simp <;> with_reducible rfl
            try simp only [pUt, pLt, pZt, pSt]
            refine wpPlan_take (o := ⟨some 26, _, _, _, _, _⟩) (v := ?_) rfl rfl (fun w' hS => ?_) ?_
            rotate_left
            · obtain ⟨p50_0, p50_1, p50_2, p50_3, p50_4, p51_0, p51_1, p51_2, p51_3, p51_4⟩ := hS; go_simp <;> with_reducible rfl
            try simp only [pUt, pLt, pZt, pSt]
            refine wpPlan_pure (o := ⟨some 27, _, _, _, _, _⟩) (v := ?_) rfl rfl (fun w' => ?_) ?_
            rotate_left
            · go_simp <;> with_reducible rfl
            try simp only [pUt, pLt, pZt, pSt]
            refine wpPlan_pure (o := ⟨some 28, _, _, _, _, _⟩) (v := ?_) rfl rfl (fun w' => ?_) ?_
            rotate_left
            · go_simp <;> with_reducible rfl
            try simp only [pUt, pLt, pZt, pSt]
            refine wpPlan_pure (o := ⟨some 29, _, _, _, _, _⟩) (v := ?_) rfl rfl (fun w' => ?_) ?_
            rotate_left
            · go_simp <;> with_reducible rfl
            try simp only [pUt, pLt, pZt, pSt]
            refine wpPlan_pure (o := ⟨some 30, _, _, _, _, _⟩) (v := ?_) rfl rfl (fun w' => ?_) ?_
            rotate_left
            · go_simp <;> with_reducible rfl
            try simp only [pUt, pLt, pZt, pSt]
            refine wpPlan_pure (o := ⟨some 31, _, _, _, _, _⟩) (v := ?_) rfl rfl (fun w' => ?_) ?_
            rotate_left
            · go_simp <;> with_reducible rfl
            try simp only [pUt, pLt, pZt, pSt]
            refine wpPlan_pure (o := ⟨some 32, _, _, _, _, _⟩) (v := ?_) rfl rfl (fun w' => ?_) ?_
            rotate_left
            · go_simp <;> with_reducible rfl
            try simp only [pUt, pLt, pZt, pSt]
            refine wpPlan_take (o := ⟨some 33, _, _, _, _, _⟩) (v := ?_) rfl rfl (fun w' hS => ?_) ?_
            rotate_left
            · obtain ⟨p50_0, p50_1, p50_2, p50_3, p50_4, p51_0, p51_1, p51_2, p51_3, p51_4⟩ := hS; go_simp <;> with_reducible rfl
            try simp only [pUt, pLt, pZt, pSt]
            refine wpPlan_pure (o := ⟨some 34, _, _, _, _, _⟩) (v := ?_) rfl rfl (fun w' => ?_) ?_
            rotate_left
            · go_simp <;> with_reducible rfl
            try simp only [pUt, pLt, pZt, pSt]
            refine wpPlan_pure (o := ⟨some 35, _, _, _, _, _⟩) (v := ?_) rfl rfl (fun w' => ?_) ?_
            rotate_left
            · go_simp <;> with_reducible rfl
            try simp only [pUt, pLt, pZt, pSt]
            refine wpPlan_pure (o := ⟨some 36, _, _, _, _, _⟩) (v := ?_) rfl rfl (fun w' => ?_) ?_
            rotate_left
            · go_simp <;> with_reducible rfl
            try simp only [pUt, pLt, pZt, pSt]
            refine wpPlan_pure (o := ⟨some 37, _, _, _, _, _⟩) (v := ?_) rfl rfl (fun w' => ?_) ?_
            rotate_left
            · go_simp <;> with_reducible rfl
            try simp only [pUt, pLt, pZt, pSt]
            refine wpPlan_take (o := ⟨some 38, _, _, _, _, _⟩) (v := ?_) rfl rfl (fun w' hS => ?_) ?_
            rotate_left
            · obtain ⟨p50_0, p50_1, p50_2, p50_3, p50_4, p51_0, p51_1, p51_2, p51_3, p51_4⟩ := hS; go_simp <;> with_reducible rfl
            try simp only [pUt, pLt, pZt, pSt]
            refine wpPlan_call (o := ⟨some 39, _, _, _, _, _⟩) rfl rfl (fun K hK => ?_)
            go_simp
            with_reducible refine (sameRat_rn (HRX.out.below (below_trans hB (below_trans (b := wr) Bz (by go_grown)))) (HRY.out.below (below_trans hB (below_trans (b := wr) Bz (by go_grown)))) hlx hly true HQ).mono ?_
            rintro e w1 ⟨rfl, b1⟩
            replace b1 := below_trans (a := wr) (by go_grown) b1
            replace Bz := below_trans Bz b1
            clear b1
            clear p50_0 p50_1 p50_2 p50_3 p50_4 p51_0 p51_1 p51_2 p51_3 p51_4
            have p50_0 := (hnd.below (below_trans hB Bz)).c0 (u := .int .i64 x.at_) rfl
            have p50_1 := (hnd.below (below_trans hB Bz)).at 1 (.bool x.x.s) rfl
            have p50_2 := (hnd.below (below_trans hB Bz)).at 2 (.slice x.x.A x.x.l x.x.c) rfl
            have p50_3 := (hnd.below (below_trans hB Bz)).at 3 (.bool x.x.s') rfl
            have p50_4 := (hnd.below (below_trans hB Bz)).at 4 (.slice x.x.A' x.x.l' x.x.c') rfl
            have p51_0 := (hnd'.below (below_trans hB Bz)).c0 (u := .int .i64 y.at_) rfl
            have p51_1 := (hnd'.below (below_trans hB Bz)).at 1 (.bool y.x.s) rfl
            have p51_2 := (hnd'.below (below_trans hB Bz)).at 2 (.slice y.x.A y.x.l y.x.c) rfl
            have p51_3 := (hnd'.below (below_trans hB Bz)).at 3 (.bool y.x.s') rfl
            have p51_4 := (hnd'.below (below_trans hB Bz)).at 4 (.slice y.x.A' y.x.l' y.x.c') rfl
            refine hK.out _ _ ⟨p50_0, p50_1, p50_2, p50_3, p50_4, p51_0, p51_1, p51_2, p51_3, p51_4⟩ (fun _ => ?_)
            try simp only [pUt, pLt, pZt, pSt]
            clear hK K
            refine wpPlan_pure (o := ⟨some 40, _, _, _, _, _⟩) (v := ?_) rfl rfl (fun w' => ?_) ?_
            rotate_left
            · go_simp <;> with_reducible rfl
            try simp only [pUt, pLt, pZt, pSt]
            refine wpPlan_pure (o := ⟨some 41, _, _, _, _, _⟩) (v := ?_) rfl rfl (fun w' => ?_) ?_
            rotate_left
            · go_simp <;> with_reducible rfl
            try simp only [pUt, pLt, pZt, pSt]
            refine wpPlan_done ?_
            go_wp2_with fail
            go_roundg (n - (i + 1))
            case measure => have := HGK.out; omega
            case rel => exact ⟨i + 1, by omega, rfl, by go_num, below_trans (below_trans hB Bz) (by go_grown), take_all HD.out HZI.out HP.out⟩
          · have HQ : Hid (decide (x.x.q = y.x.q) = false) := Lib.hid (decide_eq_false hq)
            have HP : Hid (sameT (x, y) = false) := Lib.hid (by unfold sameT; rw [decide_eq_false hq, Bool.and_false])
            clear hat hq
            have Bz := Below.refl wr.heap.size wr
            have p50_0 := (hnd.below (below_trans hB Bz)).c0 (u := .int .i64 x.at_) rfl
            have p50_1 := (hnd.below (below_trans hB Bz)).at 1 (.bool x.x.s) rfl
            have p50_2 := (hnd.below (below_trans hB Bz)).at 2 (.slice x.x.A x.x.l x.x.c) rfl
            have p50_3 := (hnd.below (below_trans hB Bz)).at 3 (.bool x.x.s') rfl
            have p50_4 := (hnd.below (below_trans hB Bz)).at 4 (.slice x.x.A' x.x.l' x.x.c') rfl
            have p51_0 := (hnd'.below (below_trans hB Bz)).c0 (u := .int .i64 y.at_) rfl
            have p51_1 := (hnd'.below (below_trans hB Bz)).at 1 (.bool y.x.s) rfl
            have p51_2 := (hnd'.below (below_trans hB Bz)).at 2 (.slice y.x.A y.x.l y.x.c) rfl
            have p51_3 := (hnd'.below (below_trans hB Bz)).at 3 (.bool y.x.s') rfl
            have p51_4 := (hnd'.below (below_trans hB Bz)).at 4 (.slice y.x.A' y.x.l' y.x.c') rfl
            go_wp2_with fail
            (try simp only [List.append_eq, List.cons_append, List.nil_append])
            refine wp_region_plan (.pure 0 (.pure 1 (.pure 2 (.pure 3 (.take 4 (.pure 5 (.pure 6 (.pure 7 (.pure 8 (.take 9 (.pure 10 (.pure 11 (.pure 12 (.pure 13 (.pure 14 (.pure 15 (.take 16 (.pure 17 (.pure 18 (.pure 19 (.pure 20 (.take 21 (.only 22 (.pure 23 (.pure 24 .done))))))))))))))))))))))))) [] (fun w' => w'.cell? ⟨b, off + i * 5, none⟩ = some (.int .i64 x.at_) ∧ w'.cell? ⟨b, off + i * 5 + 1, none⟩ = some (.bool x.x.s) ∧ w'.cell? ⟨b, off + i * 5 + 2, none⟩ = some (.slice x.x.A x.x.l x.x.c) ∧ w'.cell? ⟨b, off + i * 5 + 3, none⟩ = some (.bool x.x.s') ∧ w'.cell? ⟨b, off + i * 5 + 4, none⟩ = some (.slice x.x.A' x.x.l' x.x.c') ∧ w'.cell? ⟨b', off' + i * 5, none⟩ = some (.int .i64 y.at_) ∧ w'.cell? ⟨b', off' + i * 5 + 1, none⟩ = some (.bool y.x.s) ∧ w'.cell? ⟨b', off' + i * 5 + 2, none⟩ = some (.slice y.x.A y.x.l y.x.c) ∧ w'.cell? ⟨b', off' + i * 5 + 3, none⟩ = some (.bool y.x.s') ∧ w'.cell? ⟨b', off' + i * 5 + 4, none⟩ = some (.slice y.x.A' y.x.l' y.x.c')) (by kernel_rfl) (by kernel_rfl) ⟨p50_0, p50_1, p50_2, p50_3, p50_4, p51_0, p51_1, p51_2, p51_3, p51_4⟩ ?_
            refine wpPlan_pure (o := ⟨some 17, _, _, _, _, _⟩) (v := ?_) rfl rfl (fun w' => ?_) ?_
            rotate_left
            · go_simp <;> with_reducible rfl
            try simp only [pUt, pLt, pZt, pSt]
            refine wpPlan_pure (o := ⟨some 18, _, _, _, _, _⟩) (v := ?_) rfl rfl (fun w' => ?_) ?_
            rotate_left
            · go_simp <;> with_reducible rfl
            try simp only [pUt, pLt, pZt, pSt]
            refine wpPlan_pure (o := ⟨some 19, _, _, _, _, _⟩) (v := ?_) rfl rfl (fun w' => ?_) ?_
            rotate_left
            · go_simp <;> with_reducible rfl
            try simp only [pUt, pLt, pZt, pSt]
            refine wpPlan_pure (o := ⟨some 20, _, _, _, _, _⟩) (v := ?_) rfl rfl (fun w' => ?_) ?_
            rotate_left
            · go_simp <;> with_reducible rfl
            try simp only [pUt, pLt, pZt, pSt]
            refine wpPlan_take (o := ⟨some 21, _, _, _, _, _⟩) (v := ?_) rfl rfl (fun w' hS => ?_) ?_
            rotate_left
            · obtain ⟨p50_0, p50_1, p50_2, p50_3, p50_4, p51_0, p51_1, p51_2, p51_3, p51_4⟩ := hS; go_simp <;> with_reducible rfl
            try simp only [pUt, pLt, pZt, pSt]
            refine wpPlan_pure (o := ⟨some 22, _, _, _, _, _⟩) (v := ?_) rfl rfl (fun w' => ?_) ?_
            rotate_left
            · go_simp <;> with_reducible rfl
            try simp only [pUt, pLt, pZt, pSt]
            refine wpPlan_pure (o := ⟨some 23, _, _, _, _, _⟩) (v := ?_) rfl rfl (fun w' => ?_) ?_
            rotate_left
            · go_simp <;> with_reducible rfl
            try simp only [pUt, pLt, pZt, pSt]
            refine wpPlan_pure (o := ⟨some 24, _, _, _, _, _⟩) (v := ?_) rfl rfl (fun w' => ?_) ?_
            rotate_left
            · go_simp <;> with_reducible rfl
            try simp only [pUt, pLt, pZt, pSt]
            refine wpPlan_pure (o := ⟨some 25, _, _, _, _, _⟩) (v := ?_) rfl rfl (fun w' => ?_) ?_
            rotate_left
            · go_simp <;> with_reducible rfl
            try simp only [pUt, pLt, pZt, pSt]
            refine wpPlan_take (o := ⟨some 26, _, _, _, _, _⟩) (v := ?_) rfl rfl (fun w' hS => ?_) ?_
            rotate_left
            · obtain ⟨p50_0, p50_1, p50_2, p50_3, p50_4, p51_0, p51_1, p51_2, p51_3, p51_4⟩ := hS; go_simp <;> with_reducible rfl
            try simp only [pUt, pLt, pZt, pSt]
            refine wpPlan_pure (o := ⟨some 27, _, _, _, _, _⟩) (v := ?_) rfl rfl (fun w' => ?_) ?_
            rotate_left
            · go_simp <;> with_reducible rfl
            try simp only [pUt, pLt, pZt, pSt]
            refine wpPlan_pure (o := ⟨some 28, _, _, _, _, _⟩) (v := ?_) rfl rfl (fun w' => ?_) ?_
            rotate_left
            · go_simp <;> with_reducible rfl
            try simp only [pUt, pLt, pZt, pSt]
            refine wpPlan_pure (o := ⟨some 29, _, _, _, _, _⟩) (v := ?_) rfl rfl (fun w' => ?_) ?_
            rotate_left
            · go_simp <;> with_reducible rfl
            try simp only [pUt, pLt, pZt, pSt]
            refine wpPlan_pure (o := ⟨some 30, _, _, _, _, _⟩) (v := ?_) rfl rfl (fun w' => ?_) ?_
            rotate_left
            · go_simp <;> with_reducible rfl
            try simp only [pUt, pLt, pZt, pSt]
            refine wpPlan_pure (o := ⟨some 31, _, _, _, _, _⟩) (v := ?_) rfl rfl (fun w' => ?_) ?_
            rotate_left
            · go_simp <;> with_reducible rfl
            try simp only [pUt, pLt, pZt, pSt]
            refine wpPlan_pure (o := ⟨some 32, _, _, _, _, _⟩) (v := ?_) rfl rfl (fun w' => ?_) ?_
            rotate_left
            · go_simp <;> with_reducible rfl
            try simp only [pUt, pLt, pZt, pSt]
            refine wpPlan_take (o := ⟨some 33, _, _, _, _, _⟩) (v := ?_) rfl rfl (fun w' hS => ?_) ?_
            rotate_left
            · obtain ⟨p50_0, p50_1, p50_2, p50_3, p50_4, p51_0, p51_1, p51_2, p51_3, p51_4⟩ := hS; go_simp <;> with_reducible rfl
            try simp only [pUt, pLt, pZt, pSt]
            refine wpPlan_pure (o := ⟨some 34, _, _, _, _, _⟩) (v := ?_) rfl rfl (fun w' => ?_) ?_
            rotate_left
            · go_simp <;> with_reducible rfl
            try simp only [pUt, pLt, pZt, pSt]
            refine wpPlan_pure (o := ⟨some 35, _, _, _, _, _⟩) (v := ?_) rfl rfl (fun w' => ?_) ?_
            rotate_left
            · go_simp <;> with_reducible rfl
            try simp only [pUt, pLt, pZt, pSt]
            refine wpPlan_pure (o := ⟨some 36, _, _, _, _, _⟩) (v := ?_) rfl rfl (fun w' => ?_) ?_
            rotate_left
            · go_simp <;> with_reducible rfl
            try simp only [pUt, pLt, pZt, pSt]
            refine wpPlan_pure (o := ⟨some 37, _, _, _, _, _⟩) (v := ?_) rfl rfl (fun w' => ?_) ?_
            rotate_left
            · go_simp <;> with_reducible rfl
            try simp only [pUt, pLt, pZt, pSt]
            refine wpPlan_take (o := ⟨some 38, _, _, _, _, _⟩) (v := ?_) rfl rfl (fun w' hS => ?_) ?_
            rotate_left
            · obtain ⟨p50_0, p50_1, p50_2, p50_3, p50_4, p51_0, p51_1, p51_2, p51_3, p51_4⟩ := hS; go_simp <;> with_reducible rfl
            try simp only [pUt, pLt, pZt, pSt]
            refine wpPlan_call (o := ⟨some 39, _, _, _, _, _⟩) rfl rfl (fun K hK => ?_)
            go_simp
            with_reducible refine (sameRat_rn (HRX.out.below (below_trans hB (below_trans (b := wr) Bz (by go_grown)))) (HRY.out.below (below_trans hB (below_trans (b := wr) Bz (by go_grown)))) hlx hly false HQ).mono ?_
            rintro e w1 ⟨rfl, b1⟩
            replace b1 := below_trans (a := wr) (by go_grown) b1
            replace Bz := below_trans Bz b1
            clear b1
            clear p50_0 p50_1 p50_2 p50_3 p50_4 p51_0 p51_1 p51_2 p51_3 p51_4
            have p50_0 := (hnd.below (below_trans hB Bz)).c0 (u := .int .i64 x.at_) rfl
            have p50_1 := (hnd.below (below_trans hB Bz)).at 1 (.bool x.x.s) rfl
            have p50_2 := (hnd.below (below_trans hB Bz)).at 2 (.slice x.x.A x.x.l x.x.c) rfl
            have p50_3 := (hnd.below (below_trans hB Bz)).at 3 (.bool x.x.s') rfl
            have p50_4 := (hnd.below (below_trans hB Bz)).at 4 (.slice x.x.A' x.x.l' x.x.c') rfl
            have p51_0 := (hnd'.below (below_trans hB Bz)).c0 (u := .int .i64 y.at_) rfl
            have p51_1 := (hnd'.below (below_trans hB Bz)).at 1 (.bool y.x.s) rfl
            have p51_2 := (hnd'.below (below_trans hB Bz)).at 2 (.slice y.x.A y.x.l y.x.c) rfl
            have p51_3 := (hnd'.below (below_trans hB Bz)).at 3 (.bool y.x.s') rfl
            have p51_4 := (hnd'.below (below_trans hB Bz)).at 4 (.slice y.x.A' y.x.l' y.x.c') rfl
            refine hK.out _ _ ⟨p50_0, p50_1, p50_2, p50_3, p50_4, p51_0, p51_1, p51_2, p51_3, p51_4⟩ (fun _ => ?_)
            try simp only [pUt, pLt, pZt, pSt]
            clear hK K
            refine wpPlan_pure (o := ⟨some 40, _, _, _, _, _⟩) (v := ?_) rfl rfl (fun w' => ?_) ?_
            rotate_left
            · go_simp <;> with_reducible rfl
            try simp only [pUt, pLt, pZt, pSt]
            refine wpPlan_pure (o := ⟨some 41, _, _, _, _, _⟩) (v := ?_) rfl rfl (fun w' => ?_) ?_
            rotate_left
            · go_simp <;> with_reducible rfl
            try simp only [pUt, pLt, pZt, pSt]
            refine wpPlan_done ?_
            go_wp2_with fail
            go_ret
            have hF := below_trans (c := w1) hB Bz
            obtain rfl : r = false := by rw [← hra.out]; exact all_no HZI.out HP.out
            exact ⟨rfl, below_trans (below_trans hB Bz) (by go_grown)⟩
        · have g1 : (x.at_ != y.at_) = true := by simpa using hat
          have HP : Hid (sameT (x, y) = false) := Lib.hid (by unfold sameT; rw [decide_eq_false hat, Bool.false_and])
          clear hat
          have Bz := Below.refl wr.heap.size wr
          have p50_0 := (hnd.below (below_trans hB Bz)).c0 (u := .int .i64 x.at_) rfl
          have p51_0 := (hnd'.below (below_trans hB Bz)).c0 (u := .int .i64 y.at_) rfl
          go_wp2_with fail
          (try simp only [List.append_eq, List.cons_append, List.nil_append])
          refine wp_region_plan (.pure 0 (.pure 1 (.pure 2 (.pure 3 (.take 4 (.pure 5 (.pure 6 (.pure 7 (.pure 8 (.take 9 (.pure 10 (.pure 11 (.pure 12 (.pure 13 (.pure 14 (.pure 15 (.take 16 (.pure 17 (.pure 18 (.pure 19 (.pure 20 (.take 21 (.only 22 (.pure 23 (.pure 24 .done))))))))))))))))))))))))) [] (fun w' => w'.cell? ⟨b, off + i * 5, none⟩ = some (.int .i64 x.at_) ∧ w'.cell? ⟨b', off' + i * 5, none⟩ = some (.int .i64 y.at_)) (by kernel_rfl) (by kernel_rfl) ⟨p50_0, p51_0⟩ ?_
          refine wpPlan_pure (o := ⟨some 17, _, _, _, _, _⟩) (v := ?_) rfl rfl (fun w' => ?_) ?_
          rotate_left
          · go_simp <;> with_reducible rfl
          try simp only [pUt, pLt, pZt, pSt]
          refine wpPlan_pure (o := ⟨some 18, _, _, _, _, _⟩) (v := ?_) rfl rfl (fun w' => ?_) ?_
          rotate_left
          · go_simp <;> with_reducible rfl
          try simp only [pUt, pLt, pZt, pSt]
          refine wpPlan_pure (o := ⟨some 19, _, _, _, _, _⟩) (v := ?_) rfl rfl (fun w' => ?_) ?_
          rotate_left
          · go_simp <;> with_reducible rfl
          try simp only [pUt, pLt, pZt, pSt]
          refine wpPlan_pure (o := ⟨some 20, _, _, _, _, _⟩) (v := ?_) rfl rfl (fun w' => ?_) ?_
          rotate_left
          · go_simp <;> with_reducible rfl
          try simp only [pUt, pLt, pZt, pSt]
          refine wpPlan_take (o := ⟨some 21, _, _, _, _, _⟩) (v := ?_) rfl rfl (fun w' hS => ?_) ?_
          rotate_left
          · obtain ⟨p50_0, p51_0⟩ := hS; go_simp <;> with_reducible rfl
          try simp only [pUt, pLt, pZt, pSt]
          refine wpPlan_pure (o := ⟨some 22, _, _, _, _, _⟩) (v := ?_) rfl rfl (fun w' => ?_) ?_
          rotate_left
          · go_simp <;> with_reducible rfl
          try simp only [pUt, pLt, pZt, pSt]
          refine wpPlan_pure (o := ⟨some 23, _, _, _, _, _⟩) (v := ?_) rfl rfl (fun w' => ?_) ?_
          rotate_left
          · go_simp <;> with_reducible rfl
          try simp only [pUt, pLt, pZt, pSt]
          refine wpPlan_pure (o := ⟨some 24, _, _, _, _, _⟩) (v := ?_) rfl rfl (fun w' => ?_) ?_
          rotate_left
          · go_simp <;> with_reducible rfl
          try simp only [pUt, pLt, pZt, pSt]
          refine wpPlan_pure (o := ⟨some 25, _, _, _, _, _⟩) (v := ?_) rfl rfl (fun w' => ?_) ?_
          rotate_left
          · go_simp <;> with_reducible rfl
          try simp only [pUt, pLt, pZt, pSt]
          refine wpPlan_take (o := ⟨some 26, _, _, _, _, _⟩) (v := ?_) rfl rfl (fun w' hS => ?_) ?_
          rotate_left
          · obtain ⟨p50_0, p51_0⟩ := hS; go_simp <;> with_reducible rfl
          try simp only [pUt, pLt, pZt, pSt]
          refine wpPlan_pure (o := ⟨some 27, _, _, _, _, _⟩) (v := ?_) rfl rfl (fun w' => ?_) ?_
          rotate_left
          · go_simp <;> with_reducible rfl
          try simp only [pUt, pLt, pZt, pSt]
          refine wpPlan_pure (o := ⟨some 28, _, _, _, _, _⟩) (v := ?_) rfl rfl (fun w' => ?_) ?_
          rotate_left
          · go_simp <;> with_reducible rfl
          try simp only [pUt, pLt, pZt, pSt]
          refine wpPlan_pskip (o := ⟨some 29, _, _, _, _, _⟩) rfl rfl ?_
          try simp only [pUt, pLt, pZt, pSt]
          refine wpPlan_pskip (o := ⟨some 30, _, _, _, _, _⟩) rfl rfl ?_
          try simp only [pUt, pLt, pZt, pSt]
          refine wpPlan_pskip (o := ⟨some 31, _, _, _, _, _⟩) rfl rfl ?_
          try simp only [pUt, pLt, pZt, pSt]
          refine wpPlan_pskip (o := ⟨some 32, _, _, _, _, _⟩) rfl rfl ?_
          try simp only [pUt, pLt, pZt, pSt]
          refine wpPlan_skip (o := ⟨some 33, _, _, _, _, _⟩) rfl rfl ?_
          try simp only [pUt, pLt, pZt, pSt]
          refine wpPlan_pskip (o := ⟨some 34, _, _, _, _, _⟩) rfl rfl ?_
          try simp only [pUt, pLt, pZt, pSt]
          refine wpPlan_pskip (o := ⟨some 35, _, _, _, _, _⟩) rfl rfl ?_
          try simp only [pUt, pLt, pZt, pSt]
          refine wpPlan_pskip (o := ⟨some 36, _, _, _, _, _⟩) rfl rfl ?_
          try simp only [pUt, pLt, pZt, pSt]
          refine wpPlan_pskip (o := ⟨some 37, _, _, _, _, _⟩) rfl rfl ?_
          try simp only [pUt, pLt, pZt, pSt]
          refine wpPlan_skip (o := ⟨some 38, _, _, _, _, _⟩) rfl rfl ?_
          try simp only [pUt, pLt, pZt, pSt]
          refine wpPlan_pass (o := ⟨some 39, _, _, _, _, _⟩) rfl rfl ⟨p50_0, p51_0⟩ ?_
          try simp only [pUt, pLt, pZt, pSt]
          refine wpPlan_pskip (o := ⟨some 40, _, _, _, _, _⟩) rfl rfl ?_
          try simp only [pUt, pLt, pZt, pSt]
          refine wpPlan_pure (o := ⟨some 41, _, _, _, _, _⟩) (v := ?_) rfl rfl (fun w' => ?_) ?_
          rotate_left
          · go_simp <;> with_reducible rfl
          try simp only [pUt, pLt, pZt, pSt]
          refine wpPlan_done ?_
          go_wp2_with fail
          go_ret
          have hF := below_trans (c := wr) hB Bz
          obtain rfl : r = false := by rw [← hra.out]; exact all_no HZI.out HP.out
          exact ⟨rfl, below_trans (below_trans hB Bz) (by go_grown)⟩
      · obtain rfl : i = n := by omega
        have i1 : ¬ (i : Int) < (i : Int) := by omega
        obtain rfl : r = true := by rw [← hra.out]; exact all_yes HZL.out HD.out
        go_wp2_with fail
        go_ret
        exact ⟨rfl, hB⟩
  · have g0 : ((n : Int) != (n' : Int)) = true := by simp; omega
    obtain rfl : r = false := by rw [← hr.out]; exact decide_eq_false (fun e => hnn (by have e2 := congrArg List.length e; rw [prs_len, prs_len, HLN.out, HMN.out] at e2; exact e2))
    clear hr
    go_enter Tryd.func24, Tryd.ntmps24
    go_wp2_with fail
    go_ret
    exact ⟨rfl, Below.refl _ _⟩
set_option maxRecDepth 100000 in
set_option maxHeartbeats 4000000 in
theorem same1_q {w : World} {x y : Tm} (hrx : R w x.x.s x.x.A x.x.c x.x.l x.x.s' x.x.A' x.x.c' x.x.l' x.x.q (sz x.x.q)) (hry : R w y.x.s y.x.A y.x.c y.x.l y.x.s' y.x.A' y.x.c' y.x.l' y.x.q (sz y.x.q)) (hsz : sz x.x.q + sz y.x.q ≤ 40000) (r : Bool) (hr : Hid (sameT (x, y) = r)) :
    Calls Tryd.prog 71 #[.agg #[.int .i64 x.at_, .bool x.x.s, .slice x.x.A x.x.l x.x.c, .bool x.x.s', .slice x.x.A' x.x.l' x.x.c'], .agg #[.int .i64 y.at_, .bool y.x.s, .slice y.x.A y.x.l y.x.c, .bool y.x.s', .slice y.x.A' y.x.l' y.x.c']] w fun e w' => e = .returned (.bool r) ∧ Below w.heap.size w w' := by
  by_cases hat : x.at_ = y.at_
  · have g1 : (x.at_ == y.at_) = true := by simpa using hat
    have HQ : Hid (decide (x.x.q = y.x.q) = r) := Lib.hid (by rw [← hr.out]; unfold sameT; rw [decide_eq_true hat, Bool.true_and])
    clear hat hr
    obtain ⟨W, hW, x0, x1, hB⟩ := boxes2 w #[.int .i64 x.at_, .bool x.x.s, .slice x.x.A x.x.l x.x.c, .bool x.x.s', .slice x.x.A' x.x.l' x.x.c'] 81 #[.int .i64 y.at_, .bool y.x.s, .slice y.x.A y.x.l y.x.c, .bool y.x.s', .slice y.x.A' y.x.l' y.x.c'] 81
    replace hrx := hrx.below hB
    replace hry := hry.below hB
    have HX0 := Lib.hid x0
    have HX1 := Lib.hid x1
    clear x0 x1
    have Bz := Below.refl W.heap.size W
    have p0_0 := (HX0.out.below Bz).cell 0 (.int .i64 x.at_) rfl
    have p0_1 := (HX0.out.below Bz).cell 1 (.bool x.x.s) rfl
    have p0_2 := (HX0.out.below Bz).cell 2 (.slice x.x.A x.x.l x.x.c) rfl
    have p0_3 := (HX0.out.below Bz).cell 3 (.bool x.x.s') rfl
    have p0_4 := (HX0.out.below Bz).cell 4 (.slice x.x.A' x.x.l' x.x.c') rfl
    have p1_0 := (HX1.out.below Bz).cell 0 (.int .i64 y.at_) rfl
    have p1_1 := (HX1.out.below Bz).cell 1 (.bool y.x.s) rfl
    have p1_2 := (HX1.out.below Bz).cell 2 (.slice y.x.A y.x.l y.x.c) rfl
    have p1_3 := (HX1.out.below Bz).cell 3 (.bool y.x.s') rfl
    have p1_4 := (HX1.out.below Bz).cell 4 (.slice y.x.A' y.x.l' y.x.c') rfl
    go_enter Tryd.func71, Tryd.ntmps71
    go_wp2_with fail
    rw [← hW]
    clear hW
    go_wp2_with fail
    with_reducible refine (same_q (R.below hrx (by go_grown)) (R.below hry (by go_grown)) (by omega) r HQ).mono ?_
    rintro e w1 ⟨rfl, b1⟩
    replace b1 := below_trans (a := W) (by go_grown) b1
    replace Bz := below_trans Bz b1
    clear b1
    clear p0_0 p0_1 p0_2 p0_3 p0_4 p1_0 p1_1 p1_2 p1_3 p1_4
    go_wp2_with fail
    go_ret
    have hF := below_trans (c := w1) hB Bz
    exact ⟨rfl, below_trans hF (by go_grown)⟩
  · have g1 : (x.at_ == y.at_) = false := by simpa using hat
    obtain rfl : r = false := by rw [← hr.out]; unfold sameT; rw [decide_eq_false hat, Bool.false_and]
    clear hat hr
    obtain ⟨W, hW, x0, x1, hB⟩ := boxes2 w #[.int .i64 x.at_, .bool x.x.s, .slice x.x.A x.x.l x.x.c, .bool x.x.s', .slice x.x.A' x.x.l' x.x.c'] 81 #[.int .i64 y.at_, .bool y.x.s, .slice y.x.A y.x.l y.x.c, .bool y.x.s', .slice y.x.A' y.x.l' y.x.c'] 81
    have HX0 := Lib.hid x0
    have HX1 := Lib.hid x1
    clear x0 x1
    have Bz := Below.refl W.heap.size W
    have p0_0 := (HX0.out.below Bz).cell 0 (.int .i64 x.at_) rfl
    have p1_0 := (HX1.out.below Bz).cell 0 (.int .i64 y.at_) rfl
    go_enter Tryd.func71, Tryd.ntmps71
    go_wp2_with fail
    rw [← hW]
    clear hW
    go_wp2_with fail
    go_ret
    have hF := below_trans (c := W) hB Bz
    exact ⟨rfl, below_trans hF (by go_grown)⟩
set_option maxRecDepth 100000 in
set_option maxHeartbeats 4000000 in
theorem equalFunc_q {w : World} {A A' : Option Addr} {n n' c c' M M' : Nat} {P Q : List (Int × Rat)} (h : NV w A n c P M) (h' : NV w A' n' c' Q M') (hM : M ≤ 20000) (hM' : M' ≤ 20000) (hn : n ≤ 1000000) (hn' : n' ≤ 1000000) (r : Bool) (hr : Hid (decide (P = Q) = r)) :
    Calls Tryd.prog 70 #[.slice A n c, .slice A' n' c', .func (.func 71) #[] #[]] w fun e w' => e = .returned (.bool r) ∧ Below w.heap.size w w' := by
  obtain ⟨L, x1, x2, rfl, x4⟩ := h
  obtain ⟨K, y1, y2, rfl, y4⟩ := h'
  have H := Lib.hid x1
  have H' := Lib.hid y1
  have HLN := Lib.hid x1.1
  have HMN := Lib.hid y1.1
  have HOX := Lib.hid x2
  have HOY := Lib.hid y2
  clear x1 x2 x4 y1 y2 y4
  by_cases hnn : n = n'
  · subst hnn
    have g0 : ((n : Int) != (n : Int)) = false := by simp
    have hra : Hid ((L.zip K).all sameT = r) := Lib.hid (by rw [← hr.out, prs_zip_all (HLN.out.trans HMN.out.symm)])
    have HZL : Hid ((L.zip K).length = n) := Lib.hid (by rw [List.length_zip, HLN.out, HMN.out]; exact Nat.min_self _)
    have hst : SV1 w (L.zip K) n n (.int .i64 ((0 : Nat) : Int)) w := ⟨0, Nat.zero_le _, rfl, rfl, Below.refl _ _, by simp⟩
    have HST := Lib.hid hst
    clear hst hr
    go_enter Tryd.func70, Tryd.ntmps70
    go_wp2_with fail
    go_loopg [17] n (fun gk s wr => SV1 w (L.zip K) n gk s wr)
    case atStart => exact HST.out
    case round =>
      clear HST
      obtain ⟨i, hi, hgk, rfl, hB, hd⟩ := hrel
      have HGK := Lib.hid hgk
      have HD := Lib.hid hd
      clear hgk hd
      by_cases hlt : i < n
      · obtain ⟨b, off, rfl, hel⟩ := H.out.at Tm.cs_len (by omega) (by omega)
        obtain ⟨b', off', rfl, hel'⟩ := H'.out.at Tm.cs_len (by omega) (by omega)
        obtain ⟨x, ex⟩ : ∃ x, L[i]? = some x := ⟨L[i]'(by rw [HLN.out]; exact hlt), List.getElem?_eq_getElem _⟩
        obtain ⟨y, ey⟩ : ∃ y, K[i]? = some y := ⟨K[i]'(by rw [HMN.out]; exact hlt), List.getElem?_eq_getElem _⟩
        have hnd := hel i x ex
        have hnd' := hel' i y ey
        have HZI : Hid ((L.zip K)[i]? = some (x, y)) := Lib.hid (by rw [List.getElem?_zip_eq_some]; exact ⟨ex, ey⟩)
        have HRX := Lib.hid (HOX.out x (List.mem_of_getElem? ex)).1
        have HRY := Lib.hid (HOY.out y (List.mem_of_getElem? ey)).1
        have hlx0 := HOX.out.len x (List.mem_of_getElem? ex)
        have hly0 := HOY.out.len y (List.mem_of_getElem? ey)
        have hlx : x.x.l ≤ 800000 ∧ x.x.l' ≤ 800000 := by omega
        have hly : y.x.l ≤ 800000 ∧ y.x.l' ≤ 800000 := by omega
        have hsx : sz x.x.q + 1 ≤ M := (HOX.out x (List.mem_of_getElem? ex)).2.2
        have hsy : sz y.x.q + 1 ≤ M' := (HOY.out y (List.mem_of_getElem? ey)).2.2
        have i1 : (i : Int) < (n : Int) := by omega
        have i2 : (0 : Int) ≤ (i : Int) := by omega
        clear ex hel ey hel' hlx0 hly0
        cases hp : sameT (x, y)
        · have HP := Lib.hid hp
          clear hp
          have Bz := Below.refl wr.heap.size wr
          have p50_0 := (hnd.below (below_trans hB Bz)).c0 (u := .int .i64 x.at_) rfl
          have p50_1 := (hnd.below (below_trans hB Bz)).at 1 (.bool x.x.s) rfl
          have p50_2 := (hnd.below (below_trans hB Bz)).at 2 (.slice x.x.A x.x.l x.x.c) rfl
          have p50_3 := (hnd.below (below_trans hB Bz)).at 3 (.bool x.x.s') rfl
          have p50_4 := (hnd.below (below_trans hB Bz)).at 4 (.slice x.x.A' x.x.l' x.x.c') rfl
          go_upto_region 6 with (fail)
          obtain ⟨V1, hW, x0, hN⟩ := boxes1 wr #[.int .i64 x.at_, .bool x.x.s, .slice x.x.A x.x.l x.x.c, .bool x.x.s', .slice x.x.A' x.x.l' x.x.c'] 81
          rw [← hW]
          clear hW
          obtain ⟨v0, hb0⟩ : ∃ b, b = wr.heap.size := ⟨_, rfl⟩
          rw [← hb0] at x0 ⊢
          have ow_0 : w.heap.size ≤ v0 := by have := hB.size; have := Bz.size; omega
          replace hB := below_trans (below_trans hB Bz) hN
          have HX0 := Lib.hid x0
          clear x0 hN Bz hb0
          have Bz := Below.refl V1.heap.size V1
          clear p50_0 p50_1 p50_2 p50_3 p50_4
          have p51_0 := (hnd'.below (below_trans hB Bz)).c0 (u := .int .i64 y.at_) rfl
          have p51_1 := (hnd'.below (below_trans hB Bz)).at 1 (.bool y.x.s) rfl
          have p51_2 := (hnd'.below (below_trans hB Bz)).at 2 (.slice y.x.A y.x.l y.x.c) rfl
          have p51_3 := (hnd'.below (below_trans hB Bz)).at 3 (.bool y.x.s') rfl
          have p51_4 := (hnd'.below (below_trans hB Bz)).at 4 (.slice y.x.A' y.x.l' y.x.c') rfl
          go_upto_region 7 with (fail)
          obtain ⟨V2, hW, x1, hN⟩ := boxes1 V1 #[.int .i64 y.at_, .bool y.x.s, .slice y.x.A y.x.l y.x.c, .bool y.x.s', .slice y.x.A' y.x.l' y.x.c'] 81
          rw [← hW]
          clear hW
          obtain ⟨v1, hb1⟩ : ∃ b, b = V1.heap.size := ⟨_, rfl⟩
          rw [← hb1] at x1 ⊢
          have o0_1 : v0 < v1 := by have := (HX0.out.below Bz).lt; omega
          have ow_1 : w.heap.size ≤ v1 := by have := hB.size; have := Bz.size; omega
          replace hB := below_trans (below_trans hB Bz) hN
          replace HX0 := Lib.hid ((HX0.out.below Bz).below hN)
          have HX1 := Lib.hid x1
          clear x1 hN Bz hb1
          have Bz := Below.refl V2.heap.size V2
          clear p51_0 p51_1 p51_2 p51_3 p51_4
          have p0_0 := (HX0.out.below Bz).cell 0 (.int .i64 x.at_) rfl
          have p0_1 := (HX0.out.below Bz).cell 1 (.bool x.x.s) rfl
          have p0_2 := (HX0.out.below Bz).cell 2 (.slice x.x.A x.x.l x.x.c) rfl
          have p0_3 := (HX0.out.below Bz).cell 3 (.bool x.x.s') rfl
          have p0_4 := (HX0.out.below Bz).cell 4 (.slice x.x.A' x.x.l' x.x.c') rfl
          have p1_0 := (HX1.out.below Bz).cell 0 (.int .i64 y.at_) rfl
          have p1_1 := (HX1.out.below Bz).cell 1 (.bool y.x.s) rfl
          have p1_2 := (HX1.out.below Bz).cell 2 (.slice y.x.A y.x.l y.x.c) rfl
          have p1_3 := (HX1.out.below Bz).cell 3 (.bool y.x.s') rfl
          have p1_4 := (HX1.out.below Bz).cell 4 (.slice y.x.A' y.x.l' y.x.c') rfl
          go_wp2_with fail
          with_reducible refine (same1_q (HRX.out.below (below_trans hB (below_trans (b := V2) Bz (by go_grown)))).r (HRY.out.below (below_trans hB (below_trans (b := V2) Bz (by go_grown)))).r (by omega) false HP).mono ?_
          rintro e w1 ⟨rfl, b1⟩
          replace b1 := below_trans (a := V2) (by go_grown) b1
          replace Bz := below_trans Bz b1
          clear b1
          clear p0_0 p0_1 p0_2 p0_3 p0_4 p1_0 p1_1 p1_2 p1_3 p1_4
          go_wp2_with fail
          go_ret
          have hF := below_trans (c := w1) hB Bz
          obtain rfl : r = false := by rw [← hra.out]; exact all_no HZI.out HP.out
          exact ⟨rfl, below_trans (below_trans hB Bz) (by go_grown)⟩
        · have HP := Lib.hid hp
          clear hp
          have Bz := Below.refl wr.heap.size wr
          have p50_0 := (hnd.below (below_trans hB Bz)).c0 (u := .int .i64 x.at_) rfl
          have p50_1 := (hnd.below (below_trans hB Bz)).at 1 (.bool x.x.s) rfl
          have p50_2 := (hnd.below (below_trans hB Bz)).at 2 (.slice x.x.A x.x.l x.x.c) rfl
          have p50_3 := (hnd.below (below_trans hB Bz)).at 3 (.bool x.x.s') rfl
          have p50_4 := (hnd.below (below_trans hB Bz)).at 4 (.slice x.x.A' x.x.l' x.x.c') rfl
          go_upto_region 6 with (fail)
          obtain ⟨V1, hW, x0, hN⟩ := boxes1 wr #[.int .i64 x.at_, .bool x.x.s, .slice x.x.A x.x.l x.x.c, .bool x.x.s', .slice x.x.A' x.x.l' x.x.c'] 81
          rw [← hW]
          clear hW
          obtain ⟨v0, hb0⟩ : ∃ b, b = wr.heap.size := ⟨_, rfl⟩
          rw [← hb0] at x0 ⊢
          have ow_0 : w.heap.size ≤ v0 := by have := hB.size; have := Bz.size; omega
          replace hB := below_trans (below_trans hB Bz) hN
          have HX0 := Lib.hid x0
          clear x0 hN Bz hb0
          have Bz := Below.refl V1.heap.size V1
          clear p50_0 p50_1 p50_2 p50_3 p50_4
          have p51_0 := (hnd'.below (below_trans hB Bz)).c0 (u := .int .i64 y.at_) rfl
          have p51_1 := (hnd'.below (below_trans hB Bz)).at 1 (.bool y.x.s) rfl
          have p51_2 := (hnd'.below (below_trans hB Bz)).at 2 (.slice y.x.A y.x.l y.x.c) rfl
          have p51_3 := (hnd'.below (below_trans hB Bz)).at 3 (.bool y.x.s') rfl
          have p51_4 := (hnd'.below (below_trans hB Bz)).at 4 (.slice y.x.A' y.x.l' y.x.c') rfl
          go_upto_region 7 with (fail)
          obtain ⟨V2, hW, x1, hN⟩ := boxes1 V1 #[.int .i64 y.at_, .bool y.x.s, .slice y.x.A y.x.l y.x.c, .bool y.x.s', .slice y.x.A' y.x.l' y.x.c'] 81
          rw [← hW]
          clear hW
          obtain ⟨v1, hb1⟩ : ∃ b, b = V1.heap.size := ⟨_, rfl⟩
          rw [← hb1] at x1 ⊢
          have o0_1 : v0 < v1 := by have := (HX0.out.below Bz).lt; omega
          have ow_1 : w.heap.size ≤ v1 := by have := hB.size; have := Bz.size; omega
          replace hB := below_trans (below_trans hB Bz) hN
          replace HX0 := Lib.hid ((HX0.out.below Bz).below hN)
          have HX1 := Lib.hid x1
          clear x1 hN Bz hb1
          have Bz := Below.refl V2.heap.size V2
          clear p51_0 p51_1 p51_2 p51_3 p51_4
          have p0_0 := (HX0.out.below Bz).cell 0 (.int .i64 x.at_) rfl
          have p0_1 := (HX0.out.below Bz).cell 1 (.bool x.x.s) rfl
          have p0_2 := (HX0.out.below Bz).cell 2 (.slice x.x.A x.x.l x.x.c) rfl
          have p0_3 := (HX0.out.below Bz).cell 3 (.bool x.x.s') rfl
          have p0_4 := (HX0.out.below Bz).cell 4 (.slice x.x.A' x.x.l' x.x.c') rfl
          have p1_0 := (HX1.out.below Bz).cell 0 (.int .i64 y.at_) rfl
          have p1_1 := (HX1.out.below Bz).cell 1 (.bool y.x.s) rfl
          have p1_2 := (HX1.out.below Bz).cell 2 (.slice y.x.A y.x.l y.x.c) rfl
          have p1_3 := (HX1.out.below Bz).cell 3 (.bool y.x.s') rfl
          have p1_4 := (HX1.out.below Bz).cell 4 (.slice y.x.A' y.x.l' y.x.c') rfl
          go_wp2_with fail
          with_reducible refine (same1_q (HRX.out.below (below_trans hB (below_trans (b := V2) Bz (by go_grown)))).r (HRY.out.below (below_trans hB (below_trans (b := V2) Bz (by go_grown)))).r (by omega) true HP).mono ?_
          rintro e w1 ⟨rfl, b1⟩
          replace b1 := below_trans (a := V2) (by go_grown) b1
          replace Bz := below_trans Bz b1
          clear b1
          clear p0_0 p0_1 p0_2 p0_3 p0_4 p1_0 p1_1 p1_2 p1_3 p1_4
          go_wp2_with fail
          go_roundg (n - (i + 1))
          case measure => have := HGK.out; omega
          case rel => exact ⟨i + 1, by omega, rfl, by go_num, below_trans (below_trans hB Bz) (by go_grown), take_all HD.out HZI.out HP.out⟩
      · obtain rfl : i = n := by omega
        have i1 : ¬ (i : Int) < (i : Int) := by omega
        obtain rfl : r = true := by rw [← hra.out]; exact all_yes HZL.out HD.out
        go_wp2_with fail
        go_ret
        exact ⟨rfl, hB⟩
  · have g0 : ((n : Int) != (n' : Int)) = true := by simp; omega
    obtain rfl : r = false := by rw [← hr.out]; exact decide_eq_false (fun e => hnn (by have e2 := congrArg List.length e; rw [prs_len, prs_len, HLN.out, HMN.out] at e2; exact e2))
    clear hr
    go_enter Tryd.func70, Tryd.ntmps70
    go_wp2_with fail
    go_ret
    exact ⟨rfl, Below.refl _ _⟩
set_option maxRecDepth 100000 in
set_option maxHeartbeats 4000000 in
theorem sameV_q {w : World} {X Y : Option Addr} {n cx m cy M M' : Nat} {P Q : List (Int × Rat)} (h : GV w X n cx P M) (h' : GV w Y m cy Q M') (hM : M ≤ 19000) (hM' : M' ≤ 19000) (hn : n ≤ 1000000) (hm : m ≤ 1000000) (hT : Hid (Tab w)) (r : Bool) (hr : Hid (decide (nrm P = nrm Q) = r)) :
    Calls Tryd.prog 36 #[.slice X n cx, .slice Y m cy] w fun e w' => e = .returned (.bool r) ∧ Below w.heap.size w w' := by
  have HX := Lib.hid h
  have HY := Lib.hid h'
  have HLX := Lib.hid h.len
  have HLY := Lib.hid h'.len
  clear h h'
  have hB := Below.refl w.heap.size w
  have Bz := Below.refl w.heap.size w
  go_enter Tryd.func36, Tryd.ntmps36
  go_wp2_with fail
  with_reducible refine (normV_q (HX.out.below (below_trans hB (below_trans (b := w) Bz (by go_grown)))) hM hn (Lib.hid (Tab.below hT.out (below_trans hB (below_trans (b := w) Bz (by go_grown)))))).mono ?_
  rintro e w1 ⟨A1, n1, c1, rfl, h1, b1⟩
  replace b1 := below_trans (a := w) (by go_grown) b1
  replace Bz := below_trans Bz b1
  clear b1
  go_wp2_with fail
  with_reducible refine (normV_q (HY.out.below (below_trans hB (below_trans (b := w1) Bz (by go_grown)))) hM' hm (Lib.hid (Tab.below hT.out (below_trans hB (below_trans (b := w1) Bz (by go_grown)))))).mono ?_
  rintro e w2 ⟨A2, n2, c2, rfl, h2, b2⟩
  replace b2 := below_trans (a := w1) (by go_grown) b2
  replace h1 := h1.below b2
  replace Bz := below_trans Bz b2
  clear b2
  go_wp2_with fail
  with_reducible refine (equalFunc_q (NV.below h1 (by go_grown)) (NV.below h2 (by go_grown)) (by omega) (by omega) (by have := h1.len; have := nrm_len P; have := HLX.out; omega) (by have := h2.len; have := nrm_len Q; have := HLY.out; omega) r hr).mono ?_
  rintro e w3 ⟨rfl, b3⟩
  replace b3 := below_trans (a := w2) (by go_grown) b3
  replace Bz := below_trans Bz b3
  clear b3
  go_wp2_with fail
  go_ret
  have hF := below_trans (c := w3) hB Bz
  exact ⟨rfl, below_trans hF (by go_grown)⟩
/-- x, but q at a place. -/
def putF (P : List (Int × Rat)) (at_ : Int) (q : Rat) : List (Int × Rat) := (P.filter fun x => decide (x.1 ≠ at_)) ++ [(at_, q)]
def offT (at_ : Int) (t : Tm) : Bool := decide (t.at_ ≠ at_)
theorem off_snoc {L : List Tm} {i : Nat} {x : Tm} {at_ : Int} (h : L[i]? = some x) : (L.take (i + 1)).filter (offT at_) = (L.take i).filter (offT at_) ++ if x.at_ = at_ then [] else [x] := by
  rw [take_snoc h, List.filter_append]
  congr 1
  by_cases e : x.at_ = at_
  · rw [if_pos e, List.filter_cons_of_neg (by simp [offT, e])]; rfl
  · rw [if_neg e, List.filter_cons_of_pos (by simp [offT, e])]; rfl
theorem wsum_filter (L : List Tm) (p : Tm → Bool) (a : Int) : wsum (L.filter p) a ≤ wsum L a := by
  induction L with
  | nil => exact Nat.le_refl _
  | cons x L ih =>
    rw [List.filter_cons]
    split
    · simp only [wsum]; omega
    · simp only [wsum]; omega
/-- A state of the loop of Put. -/
def PT1 (w : World) (cs : Array Value) (L : List Tm) (at_ : Int) (n gk : Nat) (s7 s16 : Value) (wr : World) : Prop :=
  ∃ (i k : Nat) (H : Option Addr) (hc : Nat) (O : List Tm), s7 = .slice H k hc ∧ s16 = .int .i64 (i : Int) ∧ i ≤ n ∧ n - i ≤ gk ∧ k ≤ i ∧ OwnR wr (w.heap.size + 1) 81 5 (.slice H k hc) k (flat Tm.cs O) ∧ O = (L.take i).filter (offT at_) ∧ Bx wr w.heap.size cs 27 ∧ Below w.heap.size w wr
theorem one_wrap {n : Nat} (hn : n ≤ 1000000) : IntKind.i64.wrap ((n : Int) + 1) = ((n + 1 : Nat) : Int) := by rw [IntWalk.i64_in _ (by omega)]; omega
set_option maxRecDepth 100000 in
set_option maxHeartbeats 8000000 in
theorem putV_q {w : World} {s s' : Bool} {A A' : Option Addr} {l c l' c' : Nat} {q : Rat} {mq : Nat} {X : Option Addr} {n cx M : Nat} {P : List (Int × Rat)} (h : GV w X n cx P M) (at_ : Int) (ha : R w s A c l s' A' c' l' q mq) (hM : M + mq ≤ 18000) (hn : n ≤ 900000) (hT : Hid (Tab w)) :
    Calls Tryd.prog 35 #[.slice X n cx, .int .i64 at_, .agg #[.bool s, .slice A l c, .bool s', .slice A' l' c']] w (TellsV w (nrm (putF P at_ q)) (M + mq + 2)) := by
  obtain ⟨L, x1, x2, rfl, x4, x5⟩ := h
  obtain ⟨ex, hfa⟩ := ha.fr
  have HS := Lib.hid x1
  have HLN := Lib.hid x1.1
  have HOK := Lib.hid x2
  have HWS := Lib.hid x4
  have HFA := Lib.hid hfa
  have HAL := Lib.hid ha.len
  have w0 := one_wrap (n := n) (by omega)
  clear x1 x2 x4 x5 hfa ha
  obtain ⟨W, hW, x0, hB⟩ := boxes1 w #[.bool s, .slice A l c, .bool s', .slice A' l' c'] 27
  have HX0 := Lib.hid x0
  have hWl := x0.lt
  clear x0
  go_enter Tryd.func35, Tryd.ntmps35
  go_wp2_with (at_make; rw [← hW]; refine And.left (b := True) ?_)
  clear hW
  refine ⟨?_, trivial⟩
  refine Elt.make elt_term rfl _ _ rfl .i64 .i64 _ (n + 1) rfl rfl (by first | rfl | (push_cast; rfl) | omega) (by omega) (w.heap.size + 1) hWl ?_
  intro g0 w1 ho1 hB1 hg0
  have HO1 := Lib.hid ho1
  have HB1 := Lib.hid (below_trans hB hB1)
  have XX0 := Lib.hid (HX0.out.below hB1)
  clear ho1 hB1 hg0 hB HX0 hWl
  go_wp2_with fail
  go_loopg [7, 16] n (fun gk s7 s16 wr => PT1 w #[.bool s, .slice A l c, .bool s', .slice A' l' c'] L at_ n gk s7 s16 wr)
  case atStart => exact ⟨0, 0, _, _, [], rfl, rfl, Nat.zero_le _, Nat.le_refl _, Nat.le_refl _, HO1.out.below (by go_grown), rfl, XX0.out.below (by go_grown), below_trans HB1.out (by go_grown)⟩
  case round =>
    clear HO1 HB1 XX0 w0
    obtain ⟨i, k, H, hc, O, rfl, rfl, hi, hgk, hk, ho, hp, hx0, hB⟩ := hrel
    have HP := Lib.hid hp
    have HX0 := Lib.hid hx0
    clear hp hx0
    by_cases hlt : i < n
    · obtain ⟨b, off, rfl, hel⟩ := HS.out.at Tm.cs_len (by omega) (by omega)
      obtain ⟨x, hx⟩ : ∃ x, L[i]? = some x := ⟨L[i]'(by rw [HLN.out]; exact hlt), List.getElem?_eq_getElem _⟩
      have hnd := hel i x hx
      have hsn := off_snoc (at_ := at_) hx
      have i1 : (i : Int) < (n : Int) := by omega
      have i2 : (0 : Int) ≤ (i : Int) := by omega
      clear hel hx
      by_cases hq : x.at_ = at_
      · have g1 : (x.at_ != at_) = false := by simpa using hq
        have HP2 : Hid (O = (L.take (i + 1)).filter (offT at_)) := Lib.hid (by rw [hsn, if_pos hq, List.append_nil, HP.out])
        clear hsn hq
        have Bz := Below.refl wr.heap.size wr
        have p50_0 := (hnd.below (below_trans hB Bz)).c0 (u := .int .i64 x.at_) rfl
        have p50_1 := (hnd.below (below_trans hB Bz)).at 1 (.bool x.x.s) rfl
        have p50_2 := (hnd.below (below_trans hB Bz)).at 2 (.slice x.x.A x.x.l x.x.c) rfl
        have p50_3 := (hnd.below (below_trans hB Bz)).at 3 (.bool x.x.s') rfl
        have p50_4 := (hnd.below (below_trans hB Bz)).at 4 (.slice x.x.A' x.x.l' x.x.c') rfl
        go_upto_region 5 with (fail)
        obtain ⟨V1, hW, x1, hN⟩ := boxes1 wr #[.int .i64 x.at_, .bool x.x.s, .slice x.x.A x.x.l x.x.c, .bool x.x.s', .slice x.x.A' x.x.l' x.x.c'] 81
        rw [← hW]
        clear hW
        obtain ⟨v1, hb1⟩ : ∃ b, b = wr.heap.size := ⟨_, rfl⟩
        rw [← hb1] at x1 ⊢
        have o0_1 : w.heap.size < v1 := by have := (HX0.out.below Bz).lt; omega
        have ow_1 : w.heap.size ≤ v1 := by have := hB.size; have := Bz.size; omega
        replace ho := ho.below hN
        replace hB := below_trans (below_trans hB Bz) hN
        replace HX0 := Lib.hid ((HX0.out.below Bz).below hN)
        have HX1 := Lib.hid x1
        clear x1 hN Bz hb1
        have Bz := Below.refl V1.heap.size V1
        clear p50_0 p50_1 p50_2 p50_3 p50_4
        have p1_0 := (HX1.out.below Bz).cell 0 (.int .i64 x.at_) rfl
        go_wp2_with fail
        go_roundg (n - (i + 1))
        case measure => omega
        case rel => exact ⟨i + 1, k, _, _, _, rfl, by go_num, by omega, Nat.le_refl _, by omega, OwnR.below ho (by go_grown), HP2.out, HX0.out.below (below_trans Bz (by go_grown)), below_trans (below_trans hB Bz) (by go_grown)⟩
      · have g1 : (x.at_ != at_) = true := by simpa using hq
        have HP2 : Hid (O ++ [x] = (L.take (i + 1)).filter (offT at_)) := Lib.hid (by rw [hsn, if_neg hq, HP.out])
        clear hsn hq
        have Bz := Below.refl wr.heap.size wr
        have p50_0 := (hnd.below (below_trans hB Bz)).c0 (u := .int .i64 x.at_) rfl
        have p50_1 := (hnd.below (below_trans hB Bz)).at 1 (.bool x.x.s) rfl
        have p50_2 := (hnd.below (below_trans hB Bz)).at 2 (.slice x.x.A x.x.l x.x.c) rfl
        have p50_3 := (hnd.below (below_trans hB Bz)).at 3 (.bool x.x.s') rfl
        have p50_4 := (hnd.below (below_trans hB Bz)).at 4 (.slice x.x.A' x.x.l' x.x.c') rfl
        go_upto_region 5 with (fail)
        obtain ⟨V1, hW, x1, hN⟩ := boxes1 wr #[.int .i64 x.at_, .bool x.x.s, .slice x.x.A x.x.l x.x.c, .bool x.x.s', .slice x.x.A' x.x.l' x.x.c'] 81
        rw [← hW]
        clear hW
        obtain ⟨v1, hb1⟩ : ∃ b, b = wr.heap.size := ⟨_, rfl⟩
        rw [← hb1] at x1 ⊢
        have o0_1 : w.heap.size < v1 := by have := (HX0.out.below Bz).lt; omega
        have ow_1 : w.heap.size ≤ v1 := by have := hB.size; have := Bz.size; omega
        replace ho := ho.below hN
        replace hB := below_trans (below_trans hB Bz) hN
        replace HX0 := Lib.hid ((HX0.out.below Bz).below hN)
        have HX1 := Lib.hid x1
        clear x1 hN Bz hb1
        have Bz := Below.refl V1.heap.size V1
        clear p50_0 p50_1 p50_2 p50_3 p50_4
        have p1_0 := (HX1.out.below Bz).cell 0 (.int .i64 x.at_) rfl
        have p1_1 := (HX1.out.below Bz).cell 1 (.bool x.x.s) rfl
        have p1_2 := (HX1.out.below Bz).cell 2 (.slice x.x.A x.x.l x.x.c) rfl
        have p1_3 := (HX1.out.below Bz).cell 3 (.bool x.x.s') rfl
        have p1_4 := (HX1.out.below Bz).cell 4 (.slice x.x.A' x.x.l' x.x.c') rfl
        go_wp2_with (at_builtin; refine And.left (b := True) ?_)
        refine ⟨?_, trivial⟩
        obtain ⟨V2, hW, x2, hN⟩ := boxes1 V1 #[.int .i64 x.at_, .bool x.x.s, .slice x.x.A x.x.l x.x.c, .bool x.x.s', .slice x.x.A' x.x.l' x.x.c'] 81
        rw [← hW]
        clear hW
        obtain ⟨v2, hb2⟩ : ∃ b, b = V1.heap.size := ⟨_, rfl⟩
        rw [← hb2] at x2 ⊢
        have o0_2 : w.heap.size < v2 := by have := (HX0.out.below Bz).lt; omega
        have o1_2 : v1 < v2 := by have := (HX1.out.below Bz).lt; omega
        have ow_2 : w.heap.size ≤ v2 := by have := hB.size; have := Bz.size; omega
        replace ho := ho.below hN
        replace hB := below_trans (below_trans hB Bz) hN
        replace HX0 := Lib.hid ((HX0.out.below Bz).below hN)
        replace HX1 := Lib.hid ((HX1.out.below Bz).below hN)
        have HX2 := Lib.hid x2
        clear x2 hN Bz hb2
        have Bz := Below.refl V2.heap.size V2
        clear p1_0 p1_1 p1_2 p1_3 p1_4
        have hdr : V2.drew.heap.size = V2.heap.size := rfl
        have hdr2 : V2.drew.drew.heap.size = V2.heap.size := rfl
        refine Elt.app elt_term rfl _ _ rfl (w.heap.size + 1) (.slice H k hc) (k) (O) rfl ho (.slice (some ⟨v2, 0, none⟩) 1 1) (1) ([x]) rfl (From.one (HX2.out.below (below_trans Bz (by go_grown))) (x) rfl (elt_term.len _)) (by omega) (by have := (HX0.out.below Bz).lt; have := Bz.size; omega) ?_
        intro H1 c1 w1 ho1 hg1
        replace hB := (below_trans (below_trans hB Bz) (by go_grown)).trans (hg1.below (by have := hB.size; have := Bz.size; omega) (fun g hg => by have := ho.base g hg; omega))
        replace HX0 := Lib.hid (hg1.bx (HX0.out.below Bz) (ho.off (by omega)))
        clear HX1
        clear HX2
        clear hdr hdr2
        clear hg1 Bz
        have Bz := Below.refl w1.heap.size w1
        go_wp2_with fail
        go_roundg (n - (i + 1))
        case measure => omega
        case rel => exact ⟨i + 1, k + 1, _, _, _, rfl, by go_num, by omega, Nat.le_refl _, by omega, OwnR.below ho1 (by go_grown), HP2.out, HX0.out.below (below_trans Bz (by go_grown)), below_trans (below_trans hB Bz) (by go_grown)⟩
    · obtain rfl : i = n := by omega
      have i1 : ¬ (i : Int) < (i : Int) := by omega
      have gvp : ∀ {H1 : Option Addr} {c1 : Nat} (w1 : World), Below w.heap.size w w1 → OwnR w1 (w.heap.size + 1) 81 5 (.slice H1 (k + 1) c1) (k + 1) (flat Tm.cs (O ++ [⟨at_, ⟨s, A, c, l, s', A', c', l', q, ex⟩⟩])) → GV w1 H1 (k + 1) c1 (putF (prs L) at_ q) (M + mq + 2) := fun {H1} {c1} w1 hb ho1 => by
        have hO : O = L.filter (offT at_) := by rw [HP.out, List.take_of_length_le (by rw [HLN.out]; exact Nat.le_refl _)]
        refine ⟨_, ho1.sl' elt_term (ho1.eltn elt_term (by omega)), fun t ht => ?_, ?_, fun a => ?_, fun hn => ?_⟩
        · rcases List.mem_append.1 ht with ht | ht
          · rw [hO] at ht; exact (HOK.out t (List.mem_filter.1 ht).1).below hb
          · obtain rfl := List.mem_singleton.1 ht; exact HFA.out.rep.below hb
        · have hfp : prs (L.filter (offT at_)) = (prs L).filter fun x => decide (x.1 ≠ at_) := filter_prs L fun x => decide (x.1 ≠ at_)
          rw [prs_append, hO, hfp]; rfl
        · rw [wsum_append, hO]
          have h1 := Nat.le_trans (wsum_filter L (offT at_) a) (HWS.out a)
          have h2 := HAL.out
          simp only [wsum, dgT]
          split <;> omega
        · obtain ⟨_, _, e9, h9, _⟩ := ho1.slice
          cases e9
          exact (h9 hn).2
      have Bz := Below.refl wr.heap.size wr
      have p0_0 := (HX0.out.below Bz).cell 0 (.bool s) rfl
      have p0_1 := (HX0.out.below Bz).cell 1 (.slice A l c) rfl
      have p0_2 := (HX0.out.below Bz).cell 2 (.bool s') rfl
      have p0_3 := (HX0.out.below Bz).cell 3 (.slice A' l' c') rfl
      go_wp2_with (at_builtin; refine And.left (b := True) ?_)
      refine ⟨?_, trivial⟩
      obtain ⟨V1, hW, x1, hN⟩ := boxes1 wr #[.int .i64 at_, .bool s, .slice A l c, .bool s', .slice A' l' c'] 81
      rw [← hW]
      clear hW
      obtain ⟨v1, hb1⟩ : ∃ b, b = wr.heap.size := ⟨_, rfl⟩
      rw [← hb1] at x1 ⊢
      have o0_1 : w.heap.size < v1 := by have := (HX0.out.below Bz).lt; omega
      have ow_1 : w.heap.size ≤ v1 := by have := hB.size; have := Bz.size; omega
      replace ho := ho.below hN
      replace hB := below_trans (below_trans hB Bz) hN
      replace HX0 := Lib.hid ((HX0.out.below Bz).below hN)
      have HX1 := Lib.hid x1
      clear x1 hN Bz hb1
      have Bz := Below.refl V1.heap.size V1
      clear p0_0 p0_1 p0_2 p0_3
      have hdr : V1.drew.heap.size = V1.heap.size := rfl
      have hdr2 : V1.drew.drew.heap.size = V1.heap.size := rfl
      refine Elt.app elt_term rfl _ _ rfl (w.heap.size + 1) (.slice H k hc) (k) (O) rfl ho (.slice (some ⟨v1, 0, none⟩) 1 1) (1) ([⟨at_, ⟨s, A, c, l, s', A', c', l', q, ex⟩⟩]) rfl (From.one (HX1.out.below (below_trans Bz (by go_grown))) (⟨at_, ⟨s, A, c, l, s', A', c', l', q, ex⟩⟩) rfl (elt_term.len _)) (by omega) (by have := (HX0.out.below Bz).lt; have := Bz.size; omega) ?_
      intro H1 c1 w1 ho1 hg1
      replace hB := (below_trans (below_trans hB Bz) (by go_grown)).trans (hg1.below (by have := hB.size; have := Bz.size; omega) (fun g hg => by have := ho.base g hg; omega))
      clear HX0
      clear HX1
      clear hdr hdr2
      clear hg1 Bz
      have Bz := Below.refl w1.heap.size w1
      go_wp2_with fail
      with_reducible refine (normV_q (gvp w1 (below_trans hB Bz) ho1) (by omega) (by omega) (Lib.hid (Tab.below hT.out (below_trans hB (below_trans (b := w1) Bz (by go_grown)))))).mono ?_
      rintro e w2 ⟨A2, n2, c2, rfl, h2, b2⟩
      replace b2 := below_trans (a := w1) (by go_grown) b2
      replace Bz := below_trans Bz b2
      clear b2
      go_wp2_with fail
      go_ret
      have hF := below_trans (c := w2) hB Bz
      exact ⟨_, _, _, rfl, NV.below h2 (by go_grown), below_trans hF (by go_grown)⟩
end Go.Proofs.YtionhpangenhnaaDoor
