/-
  The reference of layer 24: which node is next; Push, Pop, Least. Written by wip/gen/qt2.py.
-/
import Derived.Test.YtihdaemjabhhkaaGreatDoorQt1
import Derived.Deep.LoopGhost
namespace Go.Proofs.YtihdaemjabhhkaaGreatDoor
open Go.RowKit Tw Hp

/-- A node's cells. -/
def ncs (x : Itm) : List Value := [.bool x.s, .slice x.A x.l x.c, .bool x.s', .slice x.A' x.l' x.c', .int .i64 x.dep, .int .i64 x.num, .slice x.F x.fl x.fc]
theorem ncs_len (x : Itm) : (ncs x).length = 7 := rfl
theorem ncs_one {x : Itm} : ∀ u ∈ ncs x, u.oneCell' = true := by intro u hu; simp [ncs] at hu; rcases hu with rfl | rfl | rfl | rfl | rfl | rfl | rfl <;> rfl
theorem ncs_nou {x : Itm} : ∀ u ∈ ncs x, ∀ n, u ≠ .int .u64 n := by intro u hu n; simp [ncs] at hu; rcases hu with rfl | rfl | rfl | rfl | rfl | rfl | rfl <;> (intro e; cases e)
theorem flat_one7 {N : List Itm} : ∀ u ∈ flat ncs N, u.oneCell' = true := fun u hu => by obtain ⟨x, _, h⟩ := flat_mem hu; exact ncs_one u h
theorem flat_nou7 {N : List Itm} : ∀ u ∈ flat ncs N, ∀ n, u ≠ .int .u64 n := fun u hu => by obtain ⟨x, _, h⟩ := flat_mem hu; exact ncs_nou u h
/-- A node at an offset of a block. -/
def NdA (w : World) (g off : Nat) (x : Itm) : Prop := ∀ j u, (ncs x)[j]? = some u → w.cell? ⟨g, off + j, none⟩ = some u
theorem NdA.below {w w' : World} {g off : Nat} {x : Itm} (h : NdA w g off x) (hb : Below w.heap.size w w') : NdA w' g off x := fun j u hu => (hb.cell (World.block_lt_of_cell? w _ (h j u hu))).trans (h j u hu)
theorem NdA.c0 {w : World} {g off : Nat} {x : Itm} (h : NdA w g off x) : w.cell? ⟨g, off, none⟩ = some (.bool x.s) := h 0 _ rfl
theorem NdA.at {w : World} {g off : Nat} {x : Itm} (h : NdA w g off x) (j : Nat) (u : Value) (hu : (ncs x)[j]? = some u) : w.cell? ⟨g, off + j, none⟩ = some u := h j u hu
/-- The reference's queue is the list N. -/
structure RQ (w : World) (rb B : Nat) (v : Value) (N : List Itm) : Prop where
  at_ : Bx w rb #[v] 28
  own : OwnR w B 36 7 v N.length (flat ncs N)
  ok : OkL w N
  base : B ≤ rb
  small : N.length ≤ 1000
theorem RQ.below {w w' : World} {rb B : Nat} {v : Value} {N : List Itm} (h : RQ w rb B v N) (hb : Below w.heap.size w w') : RQ w' rb B v N := ⟨h.at_.below hb, h.own.below hb, h.ok.k (K64.below hb), h.base, h.small⟩
theorem RQ.nd {w : World} {rb B g cap : Nat} {N : List Itm} (h : RQ w rb B (.slice (some ⟨g, 0, none⟩) N.length cap) N) (i : Nat) (hi : i < N.length) : NdA w g (i * 7) (ix N i) := fun j u hu => by
  refine h.own.cell ?_
  have hj : j < 7 := by
    rcases Nat.lt_or_ge j 7 with h1 | h1
    · exact h1
    · rw [List.getElem?_eq_none (by rw [ncs_len]; exact h1)] at hu; cases hu
  rw [flat_get ncs_len N i (ix N i) (by rw [ix_get hi]; exact List.getElem?_eq_getElem hi) j hj]
  exact hu
theorem RQ.form {w : World} {rb B : Nat} {v : Value} {N : List Itm} (h : RQ w rb B v N) (hn : 0 < N.length) : ∃ g cap, v = .slice (some ⟨g, 0, none⟩) N.length cap := by
  obtain ⟨H, cap, rfl, h1, h2, _⟩ := h.own.slice
  cases H with
  | none => have := (h1 rfl).1; omega
  | some a => obtain ⟨g, rfl⟩ := h2 a rfl; exact ⟨g, cap, rfl⟩

theorem aheadB_iff (a b : Itm) : aheadB a b = true ↔ a.q < b.q ∨ (a.q = b.q ∧ (b.dep < a.dep ∨ (a.dep = b.dep ∧ a.num ≤ b.num))) := by
  unfold aheadB
  rcases rat_tri a.q b.q with h | h | h
  · have e : cmpQ a.q b.q = -1 := by unfold cmpQ; rw [if_pos h]
    simp [e, h]
  · have e : cmpQ a.q b.q = 0 := (cmpQ_eq _ _).2 h
    rw [e]
    simp only [ne_eq, not_true_eq_false, if_false, h, true_and, Rat.lt_irrefl, false_or]
    by_cases h2 : a.dep = b.dep
    · simp [h2]
    · simp [h2]
  · have e : cmpQ a.q b.q = 1 := by unfold cmpQ; rw [if_neg (by grind), if_neg (by grind)]
    rw [e]
    simp
    grind
theorem ahead_refl (a : Itm) : aheadB a a = true := (aheadB_iff a a).2 (.inr ⟨rfl, .inr ⟨rfl, Int.le_refl _⟩⟩)
theorem ahead_total {a b : Itm} (h : aheadB a b = false) : aheadB b a = true := by
  rw [aheadB_iff]
  have h' : ¬ aheadB a b = true := by rw [h]; simp
  rw [aheadB_iff] at h'
  rcases rat_tri a.q b.q with e | e | e
  · exact absurd (.inl e) h'
  · refine .inr ⟨e.symm, ?_⟩
    have h2 : ¬ (b.dep < a.dep ∨ (a.dep = b.dep ∧ a.num ≤ b.num)) := fun h => h' (.inr ⟨e, h⟩)
    omega
  · exact .inl e
theorem ahead_trans {a b c : Itm} (h : aheadB a b = true) (k : aheadB b c = true) : aheadB a c = true := by
  rw [aheadB_iff] at *
  rcases h with h | ⟨h, h1⟩ <;> rcases k with k | ⟨k, k1⟩
  · exact .inl (by grind)
  · exact .inl (by grind)
  · exact .inl (by grind)
  · exact .inr ⟨h.trans k, by omega⟩
/-- Number a is the first of those that are ahead of all, of the first i. -/
def FirstOf (N : List Itm) (i a : Nat) : Prop := (∀ j, j < i → aheadB (ix N a) (ix N j) = true) ∧ ∀ j, j < a → aheadB (ix N j) (ix N a) = false
theorem FirstOf.start (N : List Itm) : FirstOf N 1 0 := ⟨fun j hj => by
  obtain rfl : j = 0 := by omega
  exact ahead_refl _, fun j hj => by omega⟩
theorem FirstOf.keep {N : List Itm} {i a : Nat} (h : FirstOf N i a) (hi : aheadB (ix N a) (ix N i) = true) : FirstOf N (i + 1) a := ⟨fun j hj => by
  rcases Nat.lt_or_ge j i with h1 | h1
  · exact h.1 j h1
  · obtain rfl : j = i := by omega
    exact hi, h.2⟩
theorem FirstOf.move {N : List Itm} {i a : Nat} (h : FirstOf N i a) (hi : aheadB (ix N a) (ix N i) = false) : FirstOf N (i + 1) i := ⟨fun j hj => by
  rcases Nat.lt_or_ge j i with h1 | h1
  · exact ahead_trans (ahead_total hi) (h.1 j h1)
  · obtain rfl : j = i := by omega
    exact ahead_refl _, fun j hj => by
  cases e : aheadB (ix N j) (ix N i)
  · rfl
  · rw [ahead_trans (h.1 j hj) e] at hi; cases hi⟩
/-- A state of the loop of first. -/
def F1 (w : World) (N : List Itm) (gk : Nat) (s3 s4 : Value) (wr : World) : Prop :=
  ∃ i, i ≤ N.length ∧ gk = N.length - i ∧ s4 = .int .i64 (i : Int) ∧ Below w.heap.size w wr ∧ ((i = 0 ∧ s3 = .int .i64 (-1)) ∨ ∃ a : Nat, a < i ∧ s3 = .int .i64 (a : Int) ∧ FirstOf N i a)
/-- What first tells. -/
def TellsFirst (w : World) (N : List Itm) (e : Ending) (w' : World) : Prop := Below w.heap.size w w' ∧ ((N.length = 0 ∧ e = .returned (.int .i64 (-1))) ∨ ∃ a : Nat, a < N.length ∧ e = .returned (.int .i64 (a : Int)) ∧ FirstOf N N.length a)
set_option maxRecDepth 100000 in
set_option maxHeartbeats 8000000 in
theorem first_r {w : World} {rb B : Nat} {v : Value} {N : List Itm} (h : RQ w rb B v N) :
    Calls Tryz.prog 67 #[.pointer (some ⟨rb, 0, none⟩)] w (TellsFirst w N) := by
  obtain ⟨n, hn⟩ : ∃ n, n = N.length := ⟨_, rfl⟩
  have hsm := h.small
  rw [← hn] at hsm
  have HN := Lib.hid hn
  obtain ⟨H, cap, rfl, _⟩ := h.own.slice
  have HQ := Lib.hid h
  clear h
  rw [← hn] at HQ
  have hst : F1 w N n (.int .i64 (-1)) (.int .i64 ((0 : Nat) : Int)) w := ⟨0, Nat.zero_le _, by omega, rfl, Below.refl _ _, .inl ⟨rfl, rfl⟩⟩
  have HST := Lib.hid hst
  clear hst hn
  go_enter Tryz.func67, Tryz.ntmps67
  go_wp2_with fail
  go_loopg [3, 4] n (fun gk s3 s4 wr => F1 w N gk s3 s4 wr)
  case atStart => exact HST.out
  case round =>
    clear HST
    obtain ⟨i, hi, hgk, rfl, hB, hs⟩ := hrel
    rw [← HN.out] at hi hgk
    have HGK := Lib.hid hgk
    clear hgk
    have HX0 := Lib.hid (HQ.out.at_.below hB)
    by_cases hlt : i < n
    · have i1 : (i : Int) < (n : Int) := by omega
      have i2 : (0 : Int) ≤ (i : Int) := by omega
      obtain ⟨g, rfl⟩ : ∃ g, H = some ⟨g, 0, none⟩ := by
        obtain ⟨g, cap', e⟩ := HQ.out.form (by rw [← HN.out]; omega)
        cases e
        exact ⟨g, rfl⟩
      have HQ' : Hid (RQ w rb B (.slice (some ⟨g, 0, none⟩) N.length cap) N) := by rw [← HN.out]; exact HQ
      have hbN := HQ'.out.nd i (by rw [← HN.out]; exact hlt)
      obtain ⟨b, hb⟩ : ∃ b, b = ix N i := ⟨_, rfl⟩
      have rb' := HQ'.out.ok b (by rw [hb, ix_get (by rw [← HN.out]; exact hlt)]; exact List.getElem_mem _)
      rw [← hb] at hbN
      have HEB := Lib.hid hb
      replace rb' := rb'.below hB
      clear hb
      rcases hs with ⟨rfl, rfl⟩ | ⟨a, ha, rfl, hF⟩
      · clear hbN rb' HQ'
        have Bz := Below.refl wr.heap.size wr
        have p0_0 := (HX0.out.below Bz).cell 0 (.slice (some ⟨g, 0, none⟩) n cap) rfl
        go_wp2_with fail
        (try simp only [List.append_eq, List.cons_append, List.nil_append])
        refine wp_region_plan (.pure 0 (.pure 1 (.pure 2 (.pure 3 (.pure 4 (.pure 5 (.take 6 (.pure 7 (.pure 8 (.take 9 (.pure 10 (.pure 11 (.pure 12 (.take 13 (.pure 14 (.pure 15 (.take 16 (.only 17 (.pure 18 (.pure 19 .done)))))))))))))))))))) [] (fun w' => True) (by kernel_rfl) (by kernel_rfl) trivial ?_
        refine wpPlan_pure (o := ⟨some 14, _, _, _, _, _⟩) (v := ?_) rfl rfl (fun w' => ?_) ?_
        rotate_left
        · go_simp <;> with_reducible rfl
        try simp only [Act.put, List.setIfInBounds_toArray, List.set_cons_zero, List.set_cons_succ]
        refine wpPlan_pure (o := ⟨some 15, _, _, _, _, _⟩) (v := ?_) rfl rfl (fun w' => ?_) ?_
        rotate_left
        · go_simp <;> with_reducible rfl
        try simp only [Act.put, List.setIfInBounds_toArray, List.set_cons_zero, List.set_cons_succ]
        refine wpPlan_pure (o := ⟨some 16, _, _, _, _, _⟩) (v := ?_) rfl rfl (fun w' => ?_) ?_
        rotate_left
        · go_simp <;> with_reducible rfl
        try simp only [Act.put, List.setIfInBounds_toArray, List.set_cons_zero, List.set_cons_succ]
        refine wpPlan_pskip (o := ⟨some 17, _, _, _, _, _⟩) rfl rfl ?_
        try simp only [Act.put, List.setIfInBounds_toArray, List.set_cons_zero, List.set_cons_succ]
        refine wpPlan_pskip (o := ⟨some 18, _, _, _, _, _⟩) rfl rfl ?_
        try simp only [Act.put, List.setIfInBounds_toArray, List.set_cons_zero, List.set_cons_succ]
        refine wpPlan_pskip (o := ⟨some 19, _, _, _, _, _⟩) rfl rfl ?_
        try simp only [Act.put, List.setIfInBounds_toArray, List.set_cons_zero, List.set_cons_succ]
        refine wpPlan_skip (o := ⟨some 20, _, _, _, _, _⟩) rfl rfl ?_
        try simp only [Act.put, List.setIfInBounds_toArray, List.set_cons_zero, List.set_cons_succ]
        refine wpPlan_pskip (o := ⟨some 21, _, _, _, _, _⟩) rfl rfl ?_
        try simp only [Act.put, List.setIfInBounds_toArray, List.set_cons_zero, List.set_cons_succ]
        refine wpPlan_pskip (o := ⟨some 22, _, _, _, _, _⟩) rfl rfl ?_
        try simp only [Act.put, List.setIfInBounds_toArray, List.set_cons_zero, List.set_cons_succ]
        refine wpPlan_skip (o := ⟨some 23, _, _, _, _, _⟩) rfl rfl ?_
        try simp only [Act.put, List.setIfInBounds_toArray, List.set_cons_zero, List.set_cons_succ]
        refine wpPlan_pskip (o := ⟨some 24, _, _, _, _, _⟩) rfl rfl ?_
        try simp only [Act.put, List.setIfInBounds_toArray, List.set_cons_zero, List.set_cons_succ]
        refine wpPlan_pskip (o := ⟨some 25, _, _, _, _, _⟩) rfl rfl ?_
        try simp only [Act.put, List.setIfInBounds_toArray, List.set_cons_zero, List.set_cons_succ]
        refine wpPlan_pskip (o := ⟨some 26, _, _, _, _, _⟩) rfl rfl ?_
        try simp only [Act.put, List.setIfInBounds_toArray, List.set_cons_zero, List.set_cons_succ]
        refine wpPlan_skip (o := ⟨some 27, _, _, _, _, _⟩) rfl rfl ?_
        try simp only [Act.put, List.setIfInBounds_toArray, List.set_cons_zero, List.set_cons_succ]
        refine wpPlan_pskip (o := ⟨some 28, _, _, _, _, _⟩) rfl rfl ?_
        try simp only [Act.put, List.setIfInBounds_toArray, List.set_cons_zero, List.set_cons_succ]
        refine wpPlan_pskip (o := ⟨some 29, _, _, _, _, _⟩) rfl rfl ?_
        try simp only [Act.put, List.setIfInBounds_toArray, List.set_cons_zero, List.set_cons_succ]
        refine wpPlan_skip (o := ⟨some 30, _, _, _, _, _⟩) rfl rfl ?_
        try simp only [Act.put, List.setIfInBounds_toArray, List.set_cons_zero, List.set_cons_succ]
        refine wpPlan_pass (o := ⟨some 31, _, _, _, _, _⟩) rfl rfl trivial ?_
        try simp only [Act.put, List.setIfInBounds_toArray, List.set_cons_zero, List.set_cons_succ]
        refine wpPlan_pskip (o := ⟨some 32, _, _, _, _, _⟩) rfl rfl ?_
        try simp only [Act.put, List.setIfInBounds_toArray, List.set_cons_zero, List.set_cons_succ]
        refine wpPlan_pure (o := ⟨some 33, _, _, _, _, _⟩) (v := ?_) rfl rfl (fun w' => ?_) ?_
        rotate_left
        · go_simp <;> with_reducible rfl
        try simp only [Act.put, List.setIfInBounds_toArray, List.set_cons_zero, List.set_cons_succ]
        refine wpPlan_done ?_
        go_wp2_with fail
        go_roundg (n - (0 + 1))
        case measure => have := HGK.out; omega
        case rel => exact ⟨1, by rw [← HN.out]; omega, by rw [← HN.out], by go_num, below_trans (below_trans hB Bz) (by go_grown), .inr ⟨0, by omega, by go_num, FirstOf.start N⟩⟩
      · have a1 : (a : Int) < (n : Int) := by omega
        have a2 : (0 : Int) ≤ (a : Int) := by omega
        have a3 : decide ((a : Int) < 0) = false := by simp
        have haN := HQ'.out.nd a (by rw [← HN.out]; omega)
        obtain ⟨x, hx⟩ : ∃ x, x = ix N a := ⟨_, rfl⟩
        have ra := HQ'.out.ok x (by rw [hx, ix_get (by rw [← HN.out]; omega)]; exact List.getElem_mem _)
        rw [← hx] at haN
        have HEA := Lib.hid hx
        replace ra := ra.below hB
        have HF := Lib.hid hF
        clear hx HQ' hF
        cases hab : aheadB x b
        · have HAB := Lib.hid hab
          clear hab
          have Bz := Below.refl wr.heap.size wr
          have p0_0 := (HX0.out.below Bz).cell 0 (.slice (some ⟨g, 0, none⟩) n cap) rfl
          have p50_0 := (haN.below (below_trans hB Bz)).c0
          have p50_1 := (haN.below (below_trans hB Bz)).at 1 (.slice x.A x.l x.c) rfl
          have p50_2 := (haN.below (below_trans hB Bz)).at 2 (.bool x.s') rfl
          have p50_3 := (haN.below (below_trans hB Bz)).at 3 (.slice x.A' x.l' x.c') rfl
          have p50_4 := (haN.below (below_trans hB Bz)).at 4 (.int .i64 x.dep) rfl
          have p50_5 := (haN.below (below_trans hB Bz)).at 5 (.int .i64 x.num) rfl
          have p50_6 := (haN.below (below_trans hB Bz)).at 6 (.slice x.F x.fl x.fc) rfl
          have p51_0 := (hbN.below (below_trans hB Bz)).c0
          have p51_1 := (hbN.below (below_trans hB Bz)).at 1 (.slice b.A b.l b.c) rfl
          have p51_2 := (hbN.below (below_trans hB Bz)).at 2 (.bool b.s') rfl
          have p51_3 := (hbN.below (below_trans hB Bz)).at 3 (.slice b.A' b.l' b.c') rfl
          have p51_4 := (hbN.below (below_trans hB Bz)).at 4 (.int .i64 b.dep) rfl
          have p51_5 := (hbN.below (below_trans hB Bz)).at 5 (.int .i64 b.num) rfl
          have p51_6 := (hbN.below (below_trans hB Bz)).at 6 (.slice b.F b.fl b.fc) rfl
          go_wp2_with fail
          (try simp only [List.append_eq, List.cons_append, List.nil_append])
          refine wp_region_plan (.pure 0 (.pure 1 (.pure 2 (.pure 3 (.pure 4 (.pure 5 (.take 6 (.pure 7 (.pure 8 (.take 9 (.pure 10 (.pure 11 (.pure 12 (.take 13 (.pure 14 (.pure 15 (.take 16 (.only 17 (.pure 18 (.pure 19 .done)))))))))))))))))))) [] (fun w' => w'.cell? ⟨rb, 0, none⟩ = some (.slice (some ⟨g, 0, none⟩) n cap) ∧ w'.cell? ⟨g, a * 7, none⟩ = some (.bool x.s) ∧ w'.cell? ⟨g, a * 7 + 1, none⟩ = some (.slice x.A x.l x.c) ∧ w'.cell? ⟨g, a * 7 + 2, none⟩ = some (.bool x.s') ∧ w'.cell? ⟨g, a * 7 + 3, none⟩ = some (.slice x.A' x.l' x.c') ∧ w'.cell? ⟨g, a * 7 + 4, none⟩ = some (.int .i64 x.dep) ∧ w'.cell? ⟨g, a * 7 + 5, none⟩ = some (.int .i64 x.num) ∧ w'.cell? ⟨g, a * 7 + 6, none⟩ = some (.slice x.F x.fl x.fc) ∧ w'.cell? ⟨g, i * 7, none⟩ = some (.bool b.s) ∧ w'.cell? ⟨g, i * 7 + 1, none⟩ = some (.slice b.A b.l b.c) ∧ w'.cell? ⟨g, i * 7 + 2, none⟩ = some (.bool b.s') ∧ w'.cell? ⟨g, i * 7 + 3, none⟩ = some (.slice b.A' b.l' b.c') ∧ w'.cell? ⟨g, i * 7 + 4, none⟩ = some (.int .i64 b.dep) ∧ w'.cell? ⟨g, i * 7 + 5, none⟩ = some (.int .i64 b.num) ∧ w'.cell? ⟨g, i * 7 + 6, none⟩ = some (.slice b.F b.fl b.fc)) (by kernel_rfl) (by kernel_rfl) ⟨p0_0, p50_0, p50_1, p50_2, p50_3, p50_4, p50_5, p50_6, p51_0, p51_1, p51_2, p51_3, p51_4, p51_5, p51_6⟩ ?_
          refine wpPlan_pure (o := ⟨some 14, _, _, _, _, _⟩) (v := ?_) rfl rfl (fun w' => ?_) ?_
          rotate_left
          · go_simp <;> with_reducible rfl
          try simp only [Act.put, List.setIfInBounds_toArray, List.set_cons_zero, List.set_cons_succ]
          refine wpPlan_pure (o := ⟨some 15, _, _, _, _, _⟩) (v := ?_) rfl rfl (fun w' => ?_) ?_
          rotate_left
          · go_simp <;> with_reducible rfl
          try simp only [Act.put, List.setIfInBounds_toArray, List.set_cons_zero, List.set_cons_succ]
          refine wpPlan_pure (o := ⟨some 16, _, _, _, _, _⟩) (v := ?_) rfl rfl (fun w' => ?_) ?_
          rotate_left
          · go_simp <;> with_reducible rfl
          try simp only [Act.put, List.setIfInBounds_toArray, List.set_cons_zero, List.set_cons_succ]
          refine wpPlan_pure (o := ⟨some 17, _, _, _, _, _⟩) (v := ?_) rfl rfl (fun w' => ?_) ?_
          rotate_left
          · go_simp <;> with_reducible rfl
          try simp only [Act.put, List.setIfInBounds_toArray, List.set_cons_zero, List.set_cons_succ]
          refine wpPlan_pure (o := ⟨some 18, _, _, _, _, _⟩) (v := ?_) rfl rfl (fun w' => ?_) ?_
          rotate_left
          · go_simp <;> with_reducible rfl
          try simp only [Act.put, List.setIfInBounds_toArray, List.set_cons_zero, List.set_cons_succ]
          refine wpPlan_pure (o := ⟨some 19, _, _, _, _, _⟩) (v := ?_) rfl rfl (fun w' => ?_) ?_
          rotate_left
          · go_simp <;> with_reducible rfl
          try simp only [Act.put, List.setIfInBounds_toArray, List.set_cons_zero, List.set_cons_succ]
          refine wpPlan_take (o := ⟨some 20, _, _, _, _, _⟩) (v := ?_) rfl rfl (fun w' hS => ?_) ?_
          rotate_left
          · obtain ⟨p0_0, p50_0, p50_1, p50_2, p50_3, p50_4, p50_5, p50_6, p51_0, p51_1, p51_2, p51_3, p51_4, p51_5, p51_6⟩ := hS; go_simp <;> with_reducible rfl
          try simp only [Act.put, List.setIfInBounds_toArray, List.set_cons_zero, List.set_cons_succ]
          refine wpPlan_pure (o := ⟨some 21, _, _, _, _, _⟩) (v := ?_) rfl rfl (fun w' => ?_) ?_
          rotate_left
          · go_simp <;> with_reducible rfl
          try simp only [Act.put, List.setIfInBounds_toArray, List.set_cons_zero, List.set_cons_succ]
          refine wpPlan_pure (o := ⟨some 22, _, _, _, _, _⟩) (v := ?_) rfl rfl (fun w' => ?_) ?_
          rotate_left
          · go_simp <;> with_reducible rfl
          try simp only [Act.put, List.setIfInBounds_toArray, List.set_cons_zero, List.set_cons_succ]
          refine wpPlan_take (o := ⟨some 23, _, _, _, _, _⟩) (v := ?_) rfl rfl (fun w' hS => ?_) ?_
          rotate_left
          · obtain ⟨p0_0, p50_0, p50_1, p50_2, p50_3, p50_4, p50_5, p50_6, p51_0, p51_1, p51_2, p51_3, p51_4, p51_5, p51_6⟩ := hS; go_simp <;> with_reducible rfl
          try simp only [Act.put, List.setIfInBounds_toArray, List.set_cons_zero, List.set_cons_succ]
          refine wpPlan_pure (o := ⟨some 24, _, _, _, _, _⟩) (v := ?_) rfl rfl (fun w' => ?_) ?_
          rotate_left
          · go_simp <;> with_reducible rfl
          try simp only [Act.put, List.setIfInBounds_toArray, List.set_cons_zero, List.set_cons_succ]
          refine wpPlan_pure (o := ⟨some 25, _, _, _, _, _⟩) (v := ?_) rfl rfl (fun w' => ?_) ?_
          rotate_left
          · go_simp <;> with_reducible rfl
          try simp only [Act.put, List.setIfInBounds_toArray, List.set_cons_zero, List.set_cons_succ]
          refine wpPlan_pure (o := ⟨some 26, _, _, _, _, _⟩) (v := ?_) rfl rfl (fun w' => ?_) ?_
          rotate_left
          · go_simp <;> with_reducible rfl
          try simp only [Act.put, List.setIfInBounds_toArray, List.set_cons_zero, List.set_cons_succ]
          refine wpPlan_take (o := ⟨some 27, _, _, _, _, _⟩) (v := ?_) rfl rfl (fun w' hS => ?_) ?_
          rotate_left
          · obtain ⟨p0_0, p50_0, p50_1, p50_2, p50_3, p50_4, p50_5, p50_6, p51_0, p51_1, p51_2, p51_3, p51_4, p51_5, p51_6⟩ := hS; go_simp <;> with_reducible rfl
          try simp only [Act.put, List.setIfInBounds_toArray, List.set_cons_zero, List.set_cons_succ]
          refine wpPlan_pure (o := ⟨some 28, _, _, _, _, _⟩) (v := ?_) rfl rfl (fun w' => ?_) ?_
          rotate_left
          · go_simp <;> with_reducible rfl
          try simp only [Act.put, List.setIfInBounds_toArray, List.set_cons_zero, List.set_cons_succ]
          refine wpPlan_pure (o := ⟨some 29, _, _, _, _, _⟩) (v := ?_) rfl rfl (fun w' => ?_) ?_
          rotate_left
          · go_simp <;> with_reducible rfl
          try simp only [Act.put, List.setIfInBounds_toArray, List.set_cons_zero, List.set_cons_succ]
          refine wpPlan_take (o := ⟨some 30, _, _, _, _, _⟩) (v := ?_) rfl rfl (fun w' hS => ?_) ?_
          rotate_left
          · obtain ⟨p0_0, p50_0, p50_1, p50_2, p50_3, p50_4, p50_5, p50_6, p51_0, p51_1, p51_2, p51_3, p51_4, p51_5, p51_6⟩ := hS; go_simp <;> with_reducible rfl
          try simp only [Act.put, List.setIfInBounds_toArray, List.set_cons_zero, List.set_cons_succ]
          refine wpPlan_call (o := ⟨some 31, _, _, _, _, _⟩) rfl rfl (fun K hK => ?_)
          go_simp
          with_reducible refine (ahead_q (R.below ra (by go_grown)) (R.below rb' (by go_grown)) (by omega) false HAB.out).mono ?_
          rintro e w1 ⟨rfl, b1⟩
          replace b1 := below_trans (a := wr) (by go_grown) b1
          replace Bz := below_trans Bz b1
          clear b1
          clear p0_0 p50_0 p50_1 p50_2 p50_3 p50_4 p50_5 p50_6 p51_0 p51_1 p51_2 p51_3 p51_4 p51_5 p51_6
          have p0_0 := (HX0.out.below Bz).cell 0 (.slice (some ⟨g, 0, none⟩) n cap) rfl
          have p50_0 := (haN.below (below_trans hB Bz)).c0
          have p50_1 := (haN.below (below_trans hB Bz)).at 1 (.slice x.A x.l x.c) rfl
          have p50_2 := (haN.below (below_trans hB Bz)).at 2 (.bool x.s') rfl
          have p50_3 := (haN.below (below_trans hB Bz)).at 3 (.slice x.A' x.l' x.c') rfl
          have p50_4 := (haN.below (below_trans hB Bz)).at 4 (.int .i64 x.dep) rfl
          have p50_5 := (haN.below (below_trans hB Bz)).at 5 (.int .i64 x.num) rfl
          have p50_6 := (haN.below (below_trans hB Bz)).at 6 (.slice x.F x.fl x.fc) rfl
          have p51_0 := (hbN.below (below_trans hB Bz)).c0
          have p51_1 := (hbN.below (below_trans hB Bz)).at 1 (.slice b.A b.l b.c) rfl
          have p51_2 := (hbN.below (below_trans hB Bz)).at 2 (.bool b.s') rfl
          have p51_3 := (hbN.below (below_trans hB Bz)).at 3 (.slice b.A' b.l' b.c') rfl
          have p51_4 := (hbN.below (below_trans hB Bz)).at 4 (.int .i64 b.dep) rfl
          have p51_5 := (hbN.below (below_trans hB Bz)).at 5 (.int .i64 b.num) rfl
          have p51_6 := (hbN.below (below_trans hB Bz)).at 6 (.slice b.F b.fl b.fc) rfl
          refine hK.out _ _ ⟨p0_0, p50_0, p50_1, p50_2, p50_3, p50_4, p50_5, p50_6, p51_0, p51_1, p51_2, p51_3, p51_4, p51_5, p51_6⟩ (fun _ => ?_)
          try simp only [Act.put, List.setIfInBounds_toArray, List.set_cons_zero, List.set_cons_succ]
          clear hK K
          refine wpPlan_pure (o := ⟨some 32, _, _, _, _, _⟩) (v := ?_) rfl rfl (fun w' => ?_) ?_
          rotate_left
          · go_simp <;> with_reducible rfl
          try simp only [Act.put, List.setIfInBounds_toArray, List.set_cons_zero, List.set_cons_succ]
          refine wpPlan_pure (o := ⟨some 33, _, _, _, _, _⟩) (v := ?_) rfl rfl (fun w' => ?_) ?_
          rotate_left
          · go_simp <;> with_reducible rfl
          try simp only [Act.put, List.setIfInBounds_toArray, List.set_cons_zero, List.set_cons_succ]
          refine wpPlan_done ?_
          go_wp2_with fail
          go_roundg (n - (i + 1))
          case measure => have := HGK.out; omega
          case rel => exact ⟨i + 1, by rw [← HN.out]; omega, by rw [← HN.out], by go_num, below_trans hB Bz, .inr ⟨i, by omega, rfl, HF.out.move (by rw [← HEA.out, ← HEB.out]; exact HAB.out)⟩⟩
        · have HAB := Lib.hid hab
          clear hab
          have Bz := Below.refl wr.heap.size wr
          have p0_0 := (HX0.out.below Bz).cell 0 (.slice (some ⟨g, 0, none⟩) n cap) rfl
          have p50_0 := (haN.below (below_trans hB Bz)).c0
          have p50_1 := (haN.below (below_trans hB Bz)).at 1 (.slice x.A x.l x.c) rfl
          have p50_2 := (haN.below (below_trans hB Bz)).at 2 (.bool x.s') rfl
          have p50_3 := (haN.below (below_trans hB Bz)).at 3 (.slice x.A' x.l' x.c') rfl
          have p50_4 := (haN.below (below_trans hB Bz)).at 4 (.int .i64 x.dep) rfl
          have p50_5 := (haN.below (below_trans hB Bz)).at 5 (.int .i64 x.num) rfl
          have p50_6 := (haN.below (below_trans hB Bz)).at 6 (.slice x.F x.fl x.fc) rfl
          have p51_0 := (hbN.below (below_trans hB Bz)).c0
          have p51_1 := (hbN.below (below_trans hB Bz)).at 1 (.slice b.A b.l b.c) rfl
          have p51_2 := (hbN.below (below_trans hB Bz)).at 2 (.bool b.s') rfl
          have p51_3 := (hbN.below (below_trans hB Bz)).at 3 (.slice b.A' b.l' b.c') rfl
          have p51_4 := (hbN.below (below_trans hB Bz)).at 4 (.int .i64 b.dep) rfl
          have p51_5 := (hbN.below (below_trans hB Bz)).at 5 (.int .i64 b.num) rfl
          have p51_6 := (hbN.below (below_trans hB Bz)).at 6 (.slice b.F b.fl b.fc) rfl
          go_wp2_with fail
          (try simp only [List.append_eq, List.cons_append, List.nil_append])
          refine wp_region_plan (.pure 0 (.pure 1 (.pure 2 (.pure 3 (.pure 4 (.pure 5 (.take 6 (.pure 7 (.pure 8 (.take 9 (.pure 10 (.pure 11 (.pure 12 (.take 13 (.pure 14 (.pure 15 (.take 16 (.only 17 (.pure 18 (.pure 19 .done)))))))))))))))))))) [] (fun w' => w'.cell? ⟨rb, 0, none⟩ = some (.slice (some ⟨g, 0, none⟩) n cap) ∧ w'.cell? ⟨g, a * 7, none⟩ = some (.bool x.s) ∧ w'.cell? ⟨g, a * 7 + 1, none⟩ = some (.slice x.A x.l x.c) ∧ w'.cell? ⟨g, a * 7 + 2, none⟩ = some (.bool x.s') ∧ w'.cell? ⟨g, a * 7 + 3, none⟩ = some (.slice x.A' x.l' x.c') ∧ w'.cell? ⟨g, a * 7 + 4, none⟩ = some (.int .i64 x.dep) ∧ w'.cell? ⟨g, a * 7 + 5, none⟩ = some (.int .i64 x.num) ∧ w'.cell? ⟨g, a * 7 + 6, none⟩ = some (.slice x.F x.fl x.fc) ∧ w'.cell? ⟨g, i * 7, none⟩ = some (.bool b.s) ∧ w'.cell? ⟨g, i * 7 + 1, none⟩ = some (.slice b.A b.l b.c) ∧ w'.cell? ⟨g, i * 7 + 2, none⟩ = some (.bool b.s') ∧ w'.cell? ⟨g, i * 7 + 3, none⟩ = some (.slice b.A' b.l' b.c') ∧ w'.cell? ⟨g, i * 7 + 4, none⟩ = some (.int .i64 b.dep) ∧ w'.cell? ⟨g, i * 7 + 5, none⟩ = some (.int .i64 b.num) ∧ w'.cell? ⟨g, i * 7 + 6, none⟩ = some (.slice b.F b.fl b.fc)) (by kernel_rfl) (by kernel_rfl) ⟨p0_0, p50_0, p50_1, p50_2, p50_3, p50_4, p50_5, p50_6, p51_0, p51_1, p51_2, p51_3, p51_4, p51_5, p51_6⟩ ?_
          refine wpPlan_pure (o := ⟨some 14, _, _, _, _, _⟩) (v := ?_) rfl rfl (fun w' => ?_) ?_
          rotate_left
          · go_simp <;> with_reducible rfl
          try simp only [Act.put, List.setIfInBounds_toArray, List.set_cons_zero, List.set_cons_succ]
          refine wpPlan_pure (o := ⟨some 15, _, _, _, _, _⟩) (v := ?_) rfl rfl (fun w' => ?_) ?_
          rotate_left
          · go_simp <;> with_reducible rfl
          try simp only [Act.put, List.setIfInBounds_toArray, List.set_cons_zero, List.set_cons_succ]
          refine wpPlan_pure (o := ⟨some 16, _, _, _, _, _⟩) (v := ?_) rfl rfl (fun w' => ?_) ?_
          rotate_left
          · go_simp <;> with_reducible rfl
          try simp only [Act.put, List.setIfInBounds_toArray, List.set_cons_zero, List.set_cons_succ]
          refine wpPlan_pure (o := ⟨some 17, _, _, _, _, _⟩) (v := ?_) rfl rfl (fun w' => ?_) ?_
          rotate_left
          · go_simp <;> with_reducible rfl
          try simp only [Act.put, List.setIfInBounds_toArray, List.set_cons_zero, List.set_cons_succ]
          refine wpPlan_pure (o := ⟨some 18, _, _, _, _, _⟩) (v := ?_) rfl rfl (fun w' => ?_) ?_
          rotate_left
          · go_simp <;> with_reducible rfl
          try simp only [Act.put, List.setIfInBounds_toArray, List.set_cons_zero, List.set_cons_succ]
          refine wpPlan_pure (o := ⟨some 19, _, _, _, _, _⟩) (v := ?_) rfl rfl (fun w' => ?_) ?_
          rotate_left
          · go_simp <;> with_reducible rfl
          try simp only [Act.put, List.setIfInBounds_toArray, List.set_cons_zero, List.set_cons_succ]
          refine wpPlan_take (o := ⟨some 20, _, _, _, _, _⟩) (v := ?_) rfl rfl (fun w' hS => ?_) ?_
          rotate_left
          · obtain ⟨p0_0, p50_0, p50_1, p50_2, p50_3, p50_4, p50_5, p50_6, p51_0, p51_1, p51_2, p51_3, p51_4, p51_5, p51_6⟩ := hS; go_simp <;> with_reducible rfl
          try simp only [Act.put, List.setIfInBounds_toArray, List.set_cons_zero, List.set_cons_succ]
          refine wpPlan_pure (o := ⟨some 21, _, _, _, _, _⟩) (v := ?_) rfl rfl (fun w' => ?_) ?_
          rotate_left
          · go_simp <;> with_reducible rfl
          try simp only [Act.put, List.setIfInBounds_toArray, List.set_cons_zero, List.set_cons_succ]
          refine wpPlan_pure (o := ⟨some 22, _, _, _, _, _⟩) (v := ?_) rfl rfl (fun w' => ?_) ?_
          rotate_left
          · go_simp <;> with_reducible rfl
          try simp only [Act.put, List.setIfInBounds_toArray, List.set_cons_zero, List.set_cons_succ]
          refine wpPlan_take (o := ⟨some 23, _, _, _, _, _⟩) (v := ?_) rfl rfl (fun w' hS => ?_) ?_
          rotate_left
          · obtain ⟨p0_0, p50_0, p50_1, p50_2, p50_3, p50_4, p50_5, p50_6, p51_0, p51_1, p51_2, p51_3, p51_4, p51_5, p51_6⟩ := hS; go_simp <;> with_reducible rfl
          try simp only [Act.put, List.setIfInBounds_toArray, List.set_cons_zero, List.set_cons_succ]
          refine wpPlan_pure (o := ⟨some 24, _, _, _, _, _⟩) (v := ?_) rfl rfl (fun w' => ?_) ?_
          rotate_left
          · go_simp <;> with_reducible rfl
          try simp only [Act.put, List.setIfInBounds_toArray, List.set_cons_zero, List.set_cons_succ]
          refine wpPlan_pure (o := ⟨some 25, _, _, _, _, _⟩) (v := ?_) rfl rfl (fun w' => ?_) ?_
          rotate_left
          · go_simp <;> with_reducible rfl
          try simp only [Act.put, List.setIfInBounds_toArray, List.set_cons_zero, List.set_cons_succ]
          refine wpPlan_pure (o := ⟨some 26, _, _, _, _, _⟩) (v := ?_) rfl rfl (fun w' => ?_) ?_
          rotate_left
          · go_simp <;> with_reducible rfl
          try simp only [Act.put, List.setIfInBounds_toArray, List.set_cons_zero, List.set_cons_succ]
          refine wpPlan_take (o := ⟨some 27, _, _, _, _, _⟩) (v := ?_) rfl rfl (fun w' hS => ?_) ?_
          rotate_left
          · obtain ⟨p0_0, p50_0, p50_1, p50_2, p50_3, p50_4, p50_5, p50_6, p51_0, p51_1, p51_2, p51_3, p51_4, p51_5, p51_6⟩ := hS; go_simp <;> with_reducible rfl
          try simp only [Act.put, List.setIfInBounds_toArray, List.set_cons_zero, List.set_cons_succ]
          refine wpPlan_pure (o := ⟨some 28, _, _, _, _, _⟩) (v := ?_) rfl rfl (fun w' => ?_) ?_
          rotate_left
          · go_simp <;> with_reducible rfl
          try simp only [Act.put, List.setIfInBounds_toArray, List.set_cons_zero, List.set_cons_succ]
          refine wpPlan_pure (o := ⟨some 29, _, _, _, _, _⟩) (v := ?_) rfl rfl (fun w' => ?_) ?_
          rotate_left
          · go_simp <;> with_reducible rfl
          try simp only [Act.put, List.setIfInBounds_toArray, List.set_cons_zero, List.set_cons_succ]
          refine wpPlan_take (o := ⟨some 30, _, _, _, _, _⟩) (v := ?_) rfl rfl (fun w' hS => ?_) ?_
          rotate_left
          · obtain ⟨p0_0, p50_0, p50_1, p50_2, p50_3, p50_4, p50_5, p50_6, p51_0, p51_1, p51_2, p51_3, p51_4, p51_5, p51_6⟩ := hS; go_simp <;> with_reducible rfl
          try simp only [Act.put, List.setIfInBounds_toArray, List.set_cons_zero, List.set_cons_succ]
          refine wpPlan_call (o := ⟨some 31, _, _, _, _, _⟩) rfl rfl (fun K hK => ?_)
          go_simp
          with_reducible refine (ahead_q (R.below ra (by go_grown)) (R.below rb' (by go_grown)) (by omega) true HAB.out).mono ?_
          rintro e w1 ⟨rfl, b1⟩
          replace b1 := below_trans (a := wr) (by go_grown) b1
          replace Bz := below_trans Bz b1
          clear b1
          clear p0_0 p50_0 p50_1 p50_2 p50_3 p50_4 p50_5 p50_6 p51_0 p51_1 p51_2 p51_3 p51_4 p51_5 p51_6
          have p0_0 := (HX0.out.below Bz).cell 0 (.slice (some ⟨g, 0, none⟩) n cap) rfl
          have p50_0 := (haN.below (below_trans hB Bz)).c0
          have p50_1 := (haN.below (below_trans hB Bz)).at 1 (.slice x.A x.l x.c) rfl
          have p50_2 := (haN.below (below_trans hB Bz)).at 2 (.bool x.s') rfl
          have p50_3 := (haN.below (below_trans hB Bz)).at 3 (.slice x.A' x.l' x.c') rfl
          have p50_4 := (haN.below (below_trans hB Bz)).at 4 (.int .i64 x.dep) rfl
          have p50_5 := (haN.below (below_trans hB Bz)).at 5 (.int .i64 x.num) rfl
          have p50_6 := (haN.below (below_trans hB Bz)).at 6 (.slice x.F x.fl x.fc) rfl
          have p51_0 := (hbN.below (below_trans hB Bz)).c0
          have p51_1 := (hbN.below (below_trans hB Bz)).at 1 (.slice b.A b.l b.c) rfl
          have p51_2 := (hbN.below (below_trans hB Bz)).at 2 (.bool b.s') rfl
          have p51_3 := (hbN.below (below_trans hB Bz)).at 3 (.slice b.A' b.l' b.c') rfl
          have p51_4 := (hbN.below (below_trans hB Bz)).at 4 (.int .i64 b.dep) rfl
          have p51_5 := (hbN.below (below_trans hB Bz)).at 5 (.int .i64 b.num) rfl
          have p51_6 := (hbN.below (below_trans hB Bz)).at 6 (.slice b.F b.fl b.fc) rfl
          refine hK.out _ _ ⟨p0_0, p50_0, p50_1, p50_2, p50_3, p50_4, p50_5, p50_6, p51_0, p51_1, p51_2, p51_3, p51_4, p51_5, p51_6⟩ (fun _ => ?_)
          try simp only [Act.put, List.setIfInBounds_toArray, List.set_cons_zero, List.set_cons_succ]
          clear hK K
          refine wpPlan_pure (o := ⟨some 32, _, _, _, _, _⟩) (v := ?_) rfl rfl (fun w' => ?_) ?_
          rotate_left
          · go_simp <;> with_reducible rfl
          try simp only [Act.put, List.setIfInBounds_toArray, List.set_cons_zero, List.set_cons_succ]
          refine wpPlan_pure (o := ⟨some 33, _, _, _, _, _⟩) (v := ?_) rfl rfl (fun w' => ?_) ?_
          rotate_left
          · go_simp <;> with_reducible rfl
          try simp only [Act.put, List.setIfInBounds_toArray, List.set_cons_zero, List.set_cons_succ]
          refine wpPlan_done ?_
          go_wp2_with fail
          go_roundg (n - (i + 1))
          case measure => have := HGK.out; omega
          case rel => exact ⟨i + 1, by rw [← HN.out]; omega, by rw [← HN.out], by go_num, below_trans hB Bz, .inr ⟨a, by omega, rfl, HF.out.keep (by rw [← HEA.out, ← HEB.out]; exact HAB.out)⟩⟩
    · obtain rfl : i = n := by omega
      have i1 : ¬ (i : Int) < (i : Int) := by omega
      have p0_0 := HX0.out.cell 0 (.slice H i cap) rfl
      rcases hs with ⟨h0, rfl⟩ | ⟨a, ha, rfl, hF⟩
      · have HFI : Hid (TellsFirst w N (.returned (.int .i64 (-1))) wr) := Lib.hid ⟨hB, .inl ⟨by rw [← HN.out]; exact h0, rfl⟩⟩
        clear hlt h0
        go_wp2_with fail
        go_ret
        exact HFI.out
      · have HFI : Hid (TellsFirst w N (.returned (.int .i64 (a : Int))) wr) := Lib.hid ⟨hB, .inr ⟨a, by rw [← HN.out]; exact ha, rfl, by rw [← HN.out]; exact hF⟩⟩
        clear hlt ha hF
        go_wp2_with fail
        go_ret
        exact HFI.out
end Go.Proofs.YtihdaemjabhhkaaGreatDoor
