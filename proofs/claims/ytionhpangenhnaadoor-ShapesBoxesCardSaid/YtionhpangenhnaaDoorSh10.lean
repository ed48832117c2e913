/-
  Which networks and queries may be: Sizes, Check, Query. Written by wip/gen/sh10.py.
-/
import Derived.Test.YtionhpangenhnaaDoorSh9
import Derived.Test.YtionhpangenhnaaDoorRdS
namespace Go.Proofs.YtionhpangenhnaaDoor
open Go.RowKit Tw

theorem TellsZs.er {w w' : World} {e : Ending} {f : Except Int (List Int)} {k : Int} (h : TellsZs w f e w') (hf : f = .error k) : e = .returned (.tuple #[.slice none 0 0, .int .i64 k]) ∧ Below w.heap.size w w' := by subst hf; exact h
theorem TellsZs.ok {w w' : World} {e : Ending} {f : Except Int (List Int)} {l : List Int} (h : TellsZs w f e w') (hf : f = .ok l) : ∃ A n c, e = .returned (.tuple #[.slice A n c, .int .i64 0]) ∧ Sl ics 1 w' A n c l ∧ n ≤ c ∧ Below w.heap.size w w' := by subst hf; exact h
theorem steps_err {L : List Ly} : ∀ {n s k : Int}, stepsF L n s = .error k → k = 22 ∨ k = 25 := by
  induction L with
  | nil => intro n s k h; cases h
  | cons y L ih =>
    intro n s k h
    rw [steps_cons] at h
    split at h
    · cases h; exact .inl rfl
    · split at h
      · cases h; exact .inr rfl
      · split at h
        · cases h; exact .inr rfl
        · rename_i u t _ _ _
          cases hs : stepsF L u (s + t) with
          | error e => rw [hs] at h; simp [Except.map] at h; subst h; exact ih hs
          | ok l => rw [hs] at h; cases h
theorem sizes_err {inp k : Int} {L : List Ly} (h : sizesF inp L = .error k) : k = 22 ∨ k = 25 := by
  unfold sizesF at h
  (repeat' split at h) <;> first | (cases h; exact .inr rfl) | exact steps_err h
theorem steps_ok {L : List Ly} : ∀ {n s : Int} {l : List Int}, stepsF L n s = .ok l → l.length = L.length + 1 ∧ l[0]? = some n := by
  induction L with
  | nil => intro n s l h; cases h; exact ⟨rfl, rfl⟩
  | cons y L ih =>
    intro n s l h
    rw [steps_cons] at h
    split at h
    · cases h
    · split at h
      · cases h
      · split at h
        · cases h
        · rename_i u t _ _ _
          cases hs : stepsF L u (s + t) with
          | error e => rw [hs] at h; cases h
          | ok l2 => rw [hs] at h; simp [Except.map] at h; subst h; exact ⟨by simp [(ih hs).1], rfl⟩
theorem sizes_steps {inp : Int} {L : List Ly} {l : List Int} (h : sizesF inp L = .ok l) : 1 ≤ inp ∧ inp ≤ 64 ∧ L.length ≤ 16 ∧ stepsF L inp 0 = .ok l := by
  unfold sizesF at h
  split at h
  · cases h
  · split at h
    · cases h
    · split at h
      · cases h
      · exact ⟨by omega, by omega, by omega, h⟩
/-- The error of a network, 0 if there is none. -/
def checkF (i : Int) (L : List Ly) : Int := match sizesF i L with | .error k => k | .ok _ => 0
def listF (i : Int) (L : List Ly) : List Int := match sizesF i L with | .error _ => [] | .ok l => l
/-- What Sizes tells. -/
def TellsL (w : World) (l : List Int) (e : Ending) (w' : World) : Prop := ∃ A n c, e = .returned (.slice A n c) ∧ Sl ics 1 w' A n c l ∧ n ≤ c ∧ Below w.heap.size w w'
set_option maxRecDepth 100000 in
set_option maxHeartbeats 4000000 in
theorem Sizes_er {w : World} {m : Nat} {inp : Int} {lA : Option Addr} {ln lc : Nat} {L : List Ly} (h : Sl Ly.cs 13 w lA ln lc L) (hok : Hid (∀ y ∈ L, LyOk w m y)) (hm : m ≤ 20000) (hln : ln ≤ 9223372036854775807) {z : Int} (HZ : Hid (sizesF inp L = .error z)) (HA : Hid (listF inp L = [])) (hT : Hid (Tab w)) :
    Calls Tryd.prog 10 #[.agg #[.int .i64 inp, .slice lA ln lc]] w (TellsL w (listF inp L)) := by
  obtain ⟨W, hW, x0, hB⟩ := boxes1 w #[.int .i64 inp, .slice lA ln lc] 30
  have HX0 := Lib.hid x0
  clear x0
  have Bz := Below.refl W.heap.size W
  have p0_0 := (HX0.out.below Bz).cell 0 (.int .i64 inp) rfl
  have p0_1 := (HX0.out.below Bz).cell 1 (.slice lA ln lc) rfl
  go_enter Tryd.func10, Tryd.ntmps10
  go_wp2_with fail
  rw [← hW]
  clear hW
  go_wp2_with fail
  with_reducible refine ((sizes_q (h.below (below_trans hB (below_trans (b := W) Bz (by go_grown)))) (Lib.hid fun y hy => (hok.out y hy).below (below_trans hB (below_trans (b := W) Bz (by go_grown)))) hm hln (Lib.hid (Tab.below hT.out (below_trans hB (below_trans (b := W) Bz (by go_grown)))))).mono fun _ _ hx => TellsZs.er hx HZ.out).mono ?_
  rintro e w1 ⟨rfl, b1⟩
  replace b1 := below_trans (a := W) (by go_grown) b1
  replace Bz := below_trans Bz b1
  clear b1
  clear p0_0 p0_1
  go_wp2_with fail
  go_ret
  have hF := below_trans (c := w1) hB Bz
  exact ⟨_, _, _, rfl, by rw [HA.out]; exact Sl.nil _, Nat.le_refl _, below_trans hF (by go_grown)⟩
set_option maxRecDepth 100000 in
set_option maxHeartbeats 4000000 in
theorem Sizes_ok {w : World} {m : Nat} {inp : Int} {lA : Option Addr} {ln lc : Nat} {L : List Ly} (h : Sl Ly.cs 13 w lA ln lc L) (hok : Hid (∀ y ∈ L, LyOk w m y)) (hm : m ≤ 20000) (hln : ln ≤ 9223372036854775807) {l : List Int} (HZ : Hid (sizesF inp L = .ok l)) (HA : Hid (listF inp L = l)) (hT : Hid (Tab w)) :
    Calls Tryd.prog 10 #[.agg #[.int .i64 inp, .slice lA ln lc]] w (TellsL w (listF inp L)) := by
  obtain ⟨W, hW, x0, hB⟩ := boxes1 w #[.int .i64 inp, .slice lA ln lc] 30
  have HX0 := Lib.hid x0
  clear x0
  have Bz := Below.refl W.heap.size W
  have p0_0 := (HX0.out.below Bz).cell 0 (.int .i64 inp) rfl
  have p0_1 := (HX0.out.below Bz).cell 1 (.slice lA ln lc) rfl
  go_enter Tryd.func10, Tryd.ntmps10
  go_wp2_with fail
  rw [← hW]
  clear hW
  go_wp2_with fail
  with_reducible refine ((sizes_q (h.below (below_trans hB (below_trans (b := W) Bz (by go_grown)))) (Lib.hid fun y hy => (hok.out y hy).below (below_trans hB (below_trans (b := W) Bz (by go_grown)))) hm hln (Lib.hid (Tab.below hT.out (below_trans hB (below_trans (b := W) Bz (by go_grown)))))).mono fun _ _ hx => TellsZs.ok hx HZ.out).mono ?_
  rintro e w1 ⟨A1, n1, c1, rfl, h1, hc1, b1⟩
  replace b1 := below_trans (a := W) (by go_grown) b1
  replace Bz := below_trans Bz b1
  clear b1
  clear p0_0 p0_1
  go_wp2_with fail
  go_ret
  have hF := below_trans (c := w1) hB Bz
  exact ⟨_, _, _, rfl, by rw [HA.out]; exact h1, hc1, below_trans hF (by go_grown)⟩
theorem sizesT_q {w : World} {m : Nat} {inp : Int} {lA : Option Addr} {ln lc : Nat} {L : List Ly} (h : Sl Ly.cs 13 w lA ln lc L) (hok : Hid (∀ y ∈ L, LyOk w m y)) (hm : m ≤ 20000) (hln : ln ≤ 9223372036854775807) (hT : Hid (Tab w)) :
    Calls Tryd.prog 10 #[.agg #[.int .i64 inp, .slice lA ln lc]] w (TellsL w (listF inp L)) := by
  cases hz : sizesF inp L with
  | error z => exact Sizes_er h hok hm hln (Lib.hid hz) (Lib.hid (by unfold listF; rw [hz])) hT
  | ok l => exact Sizes_ok h hok hm hln (Lib.hid hz) (Lib.hid (by unfold listF; rw [hz])) hT
set_option maxRecDepth 100000 in
set_option maxHeartbeats 4000000 in
theorem Check_er {w : World} {m : Nat} {inp : Int} {lA : Option Addr} {ln lc : Nat} {L : List Ly} (h : Sl Ly.cs 13 w lA ln lc L) (hok : Hid (∀ y ∈ L, LyOk w m y)) (hm : m ≤ 20000) (hln : ln ≤ 9223372036854775807) {z : Int} (HZ : Hid (sizesF inp L = .error z)) (HA : Hid (checkF inp L = z)) (hT : Hid (Tab w)) :
    Calls Tryd.prog 9 #[.agg #[.int .i64 inp, .slice lA ln lc]] w fun e w' => e = .returned (.int .i64 (checkF inp L)) ∧ Below w.heap.size w w' := by
  obtain ⟨W, hW, x0, hB⟩ := boxes1 w #[.int .i64 inp, .slice lA ln lc] 30
  have HX0 := Lib.hid x0
  clear x0
  have Bz := Below.refl W.heap.size W
  have p0_0 := (HX0.out.below Bz).cell 0 (.int .i64 inp) rfl
  have p0_1 := (HX0.out.below Bz).cell 1 (.slice lA ln lc) rfl
  go_enter Tryd.func9, Tryd.ntmps9
  go_wp2_with fail
  rw [← hW]
  clear hW
  go_wp2_with fail
  with_reducible refine ((sizes_q (h.below (below_trans hB (below_trans (b := W) Bz (by go_grown)))) (Lib.hid fun y hy => (hok.out y hy).below (below_trans hB (below_trans (b := W) Bz (by go_grown)))) hm hln (Lib.hid (Tab.below hT.out (below_trans hB (below_trans (b := W) Bz (by go_grown)))))).mono fun _ _ hx => TellsZs.er hx HZ.out).mono ?_
  rintro e w1 ⟨rfl, b1⟩
  replace b1 := below_trans (a := W) (by go_grown) b1
  replace Bz := below_trans Bz b1
  clear b1
  clear p0_0 p0_1
  go_wp2_with fail
  go_ret
  have hF := below_trans (c := w1) hB Bz
  exact ⟨by rw [HA.out]; rfl, below_trans hF (by go_grown)⟩
set_option maxRecDepth 100000 in
set_option maxHeartbeats 4000000 in
theorem Check_ok {w : World} {m : Nat} {inp : Int} {lA : Option Addr} {ln lc : Nat} {L : List Ly} (h : Sl Ly.cs 13 w lA ln lc L) (hok : Hid (∀ y ∈ L, LyOk w m y)) (hm : m ≤ 20000) (hln : ln ≤ 9223372036854775807) {l : List Int} (HZ : Hid (sizesF inp L = .ok l)) (HA : Hid (checkF inp L = 0)) (hT : Hid (Tab w)) :
    Calls Tryd.prog 9 #[.agg #[.int .i64 inp, .slice lA ln lc]] w fun e w' => e = .returned (.int .i64 (checkF inp L)) ∧ Below w.heap.size w w' := by
  obtain ⟨W, hW, x0, hB⟩ := boxes1 w #[.int .i64 inp, .slice lA ln lc] 30
  have HX0 := Lib.hid x0
  clear x0
  have Bz := Below.refl W.heap.size W
  have p0_0 := (HX0.out.below Bz).cell 0 (.int .i64 inp) rfl
  have p0_1 := (HX0.out.below Bz).cell 1 (.slice lA ln lc) rfl
  go_enter Tryd.func9, Tryd.ntmps9
  go_wp2_with fail
  rw [← hW]
  clear hW
  go_wp2_with fail
  with_reducible refine ((sizes_q (h.below (below_trans hB (below_trans (b := W) Bz (by go_grown)))) (Lib.hid fun y hy => (hok.out y hy).below (below_trans hB (below_trans (b := W) Bz (by go_grown)))) hm hln (Lib.hid (Tab.below hT.out (below_trans hB (below_trans (b := W) Bz (by go_grown)))))).mono fun _ _ hx => TellsZs.ok hx HZ.out).mono ?_
  rintro e w1 ⟨A1, n1, c1, rfl, h1, hc1, b1⟩
  replace b1 := below_trans (a := W) (by go_grown) b1
  replace Bz := below_trans Bz b1
  clear h1
  clear b1
  clear p0_0 p0_1
  go_wp2_with fail
  go_ret
  have hF := below_trans (c := w1) hB Bz
  exact ⟨by rw [HA.out]; rfl, below_trans hF (by go_grown)⟩
theorem checkT_q {w : World} {m : Nat} {inp : Int} {lA : Option Addr} {ln lc : Nat} {L : List Ly} (h : Sl Ly.cs 13 w lA ln lc L) (hok : Hid (∀ y ∈ L, LyOk w m y)) (hm : m ≤ 20000) (hln : ln ≤ 9223372036854775807) (hT : Hid (Tab w)) :
    Calls Tryd.prog 9 #[.agg #[.int .i64 inp, .slice lA ln lc]] w fun e w' => e = .returned (.int .i64 (checkF inp L)) ∧ Below w.heap.size w w' := by
  cases hz : sizesF inp L with
  | error z => exact Check_er h hok hm hln (Lib.hid hz) (Lib.hid (by unfold checkF; rw [hz])) hT
  | ok l => exact Check_ok h hok hm hln (Lib.hid hz) (Lib.hid (by unfold checkF; rw [hz])) hT
/-- A state of the loop of SameInts. -/
def SI1 (w : World) (L M : List Int) (n gk : Nat) (s : Value) (wr : World) : Prop := ∃ i : Nat, i ≤ n ∧ n - i = gk ∧ s = .int .i64 (i : Int) ∧ Below w.heap.size w wr ∧ L.take i = M.take i
set_option maxRecDepth 100000 in
set_option maxHeartbeats 4000000 in
theorem sameInts_q {w : World} {A A' : Option Addr} {n n' c c' : Nat} {L M : List Int} (h : Sl ics 1 w A n c L) (h' : Sl ics 1 w A' n' c' M) (hn : n ≤ 9223372036854775807) (hn' : n' ≤ 9223372036854775807) (r : Bool) (hr : Hid (decide (L = M) = r)) :
    Calls Tryd.prog 11 #[.slice A n c, .slice A' n' c'] w fun e w' => e = .returned (.bool r) ∧ Below w.heap.size w w' := by
  have H := Lib.hid h
  have H' := Lib.hid h'
  have HLN := Lib.hid h.1
  have HMN := Lib.hid h'.1
  by_cases hnn : n = n'
  · subst hnn
    have g0 : ((n : Int) != (n : Int)) = false := by simp
    have hst : SI1 w L M n n (.int .i64 ((0 : Nat) : Int)) w := ⟨0, Nat.zero_le _, rfl, rfl, Below.refl _ _, by simp⟩
    have HST := Lib.hid hst
    clear h h' hst
    go_enter Tryd.func11, Tryd.ntmps11
    go_wp2_with fail
    go_loopg [5] n (fun gk s wr => SI1 w L M n gk s wr)
    case atStart => exact HST.out
    case round =>
      clear HST
      obtain ⟨i, hi, hgk, rfl, hB, hd⟩ := hrel
      have HGK := Lib.hid hgk
      have HD := Lib.hid hd
      clear hgk hd
      by_cases hlt : i < n
      · obtain ⟨b, off, rfl, hel⟩ := H.out.at ics_len (by omega) (by omega)
        obtain ⟨b', off', rfl, hel'⟩ := H'.out.at ics_len (by omega) (by omega)
        obtain ⟨x, hx⟩ : ∃ x, L[i]? = some x := ⟨L[i]'(by rw [HLN.out]; exact hlt), List.getElem?_eq_getElem _⟩
        obtain ⟨y, hy⟩ : ∃ y, M[i]? = some y := ⟨M[i]'(by rw [HMN.out]; exact hlt), List.getElem?_eq_getElem _⟩
        have hnd : ElA w b (off + i) (ics x) := by have := hel i x hx; rwa [Nat.mul_one] at this
        have hnd' : ElA w b' (off' + i) (ics y) := by have := hel' i y hy; rwa [Nat.mul_one] at this
        have HX := Lib.hid hx
        have HY := Lib.hid hy
        have i1 : (i : Int) < (n : Int) := by omega
        have i2 : (0 : Int) ≤ (i : Int) := by omega
        clear hx hel hy hel'
        by_cases hxy : x = y
        · subst hxy
          have q0 : (x != x) = false := by simp
          have Bz := Below.refl wr.heap.size wr
          have p50_0 := (hnd.below (below_trans hB Bz)).c0 (u := .int .i64 x) rfl
          have p51_0 := (hnd'.below (below_trans hB Bz)).c0 (u := .int .i64 x) rfl
          go_wp2_with fail
          (try simp only [List.append_eq, List.cons_append, List.nil_append])
          refine wp_region_plan (.pure 0 (.pure 1 (.pure 2 (.take 3 (.pure 4 (.pure 5 (.pure 6 (.take 7 (.pure 8 .done))))))))) [] (fun w' => w'.cell? ⟨b, off + i, none⟩ = some (.int .i64 x) ∧ w'.cell? ⟨b', off' + i, none⟩ = some (.int .i64 x)) (by kernel_rfl) (by kernel_rfl) ⟨p50_0, p51_0⟩ ?_
          refine wpPlan_pure (o := ⟨some 17, _, _, _, _, _⟩) (v := ?_) rfl rfl (fun w' => ?_) ?_
          rotate_left
          · go_simp <;> with_reducible rfl
          try simp only [Act.put, List.setIfInBounds_toArray, List.set_cons_zero, List.set_cons_succ]
          refine wpPlan_pure (o := ⟨some 18, _, _, _, _, _⟩) (v := ?_) rfl rfl (fun w' => ?_) ?_
          rotate_left
          · go_simp <;> with_reducible rfl
          try simp only [Act.put, List.setIfInBounds_toArray, List.set_cons_zero, List.set_cons_succ]
          refine wpPlan_pure (o := ⟨some 19, _, _, _, _, _⟩) (v := ?_) rfl rfl (fun w' => ?_) ?_
          rotate_left
          · go_simp <;> with_reducible rfl
          try simp only [Act.put, List.setIfInBounds_toArray, List.set_cons_zero, List.set_cons_succ]
          refine wpPlan_take (o := ⟨some 20, _, _, _, _, _⟩) (v := ?_) rfl rfl (fun w' hS => ?_) ?_
          rotate_left
          · obtain ⟨p50_0, p51_0⟩ := hS; go_simp <;> with_reducible rfl
          try simp only [Act.put, List.setIfInBounds_toArray, List.set_cons_zero, List.set_cons_succ]
          refine wpPlan_pure (o := ⟨some 21, _, _, _, _, _⟩) (v := ?_) rfl rfl (fun w' => ?_) ?_
          rotate_left
          · go_simp <;> with_reducible rfl
          try simp only [Act.put, List.setIfInBounds_toArray, List.set_cons_zero, List.set_cons_succ]
          refine wpPlan_pure (o := ⟨some 22, _, _, _, _, _⟩) (v := ?_) rfl rfl (fun w' => ?_) ?_
          rotate_left
          · go_simp <;> with_reducible rfl
          try simp only [Act.put, List.setIfInBounds_toArray, List.set_cons_zero, List.set_cons_succ]
          refine wpPlan_pure (o := ⟨some 23, _, _, _, _, _⟩) (v := ?_) rfl rfl (fun w' => ?_) ?_
          rotate_left
          · go_simp <;> with_reducible rfl
          try simp only [Act.put, List.setIfInBounds_toArray, List.set_cons_zero, List.set_cons_succ]
          refine wpPlan_take (o := ⟨some 24, _, _, _, _, _⟩) (v := ?_) rfl rfl (fun w' hS => ?_) ?_
          rotate_left
          · obtain ⟨p50_0, p51_0⟩ := hS; go_simp <;> with_reducible rfl
          try simp only [Act.put, List.setIfInBounds_toArray, List.set_cons_zero, List.set_cons_succ]
          refine wpPlan_pure (o := ⟨some 25, _, _, _, _, _⟩) (v := ?_) rfl rfl (fun w' => ?_) ?_
          rotate_left
          · go_simp <;> with_reducible rfl
          try simp only [Act.put, List.setIfInBounds_toArray, List.set_cons_zero, List.set_cons_succ]
          refine wpPlan_done ?_
          go_wp2_with fail
          go_roundg (n - (i + 1))
          case measure => have := HGK.out; omega
          case rel => exact ⟨i + 1, by omega, rfl, by go_num, below_trans (below_trans hB Bz) (by go_grown), by rw [take_snoc HX.out, take_snoc HY.out, HD.out]⟩
        · have q0 : (x != y) = true := by simpa using hxy
          have HNE := Lib.hid hxy
          clear hxy
          have Bz := Below.refl wr.heap.size wr
          have p50_0 := (hnd.below (below_trans hB Bz)).c0 (u := .int .i64 x) rfl
          have p51_0 := (hnd'.below (below_trans hB Bz)).c0 (u := .int .i64 y) rfl
          go_wp2_with fail
          (try simp only [List.append_eq, List.cons_append, List.nil_append])
          refine wp_region_plan (.pure 0 (.pure 1 (.pure 2 (.take 3 (.pure 4 (.pure 5 (.pure 6 (.take 7 (.pure 8 .done))))))))) [] (fun w' => w'.cell? ⟨b, off + i, none⟩ = some (.int .i64 x) ∧ w'.cell? ⟨b', off' + i, none⟩ = some (.int .i64 y)) (by kernel_rfl) (by kernel_rfl) ⟨p50_0, p51_0⟩ ?_
          refine wpPlan_pure (o := ⟨some 17, _, _, _, _, _⟩) (v := ?_) rfl rfl (fun w' => ?_) ?_
          rotate_left
          · go_simp <;> with_reducible rfl
          try simp only [Act.put, List.setIfInBounds_toArray, List.set_cons_zero, List.set_cons_succ]
          refine wpPlan_pure (o := ⟨some 18, _, _, _, _, _⟩) (v := ?_) rfl rfl (fun w' => ?_) ?_
          rotate_left
          · go_simp <;> with_reducible rfl
          try simp only [Act.put, List.setIfInBounds_toArray, List.set_cons_zero, List.set_cons_succ]
          refine wpPlan_pure (o := ⟨some 19, _, _, _, _, _⟩) (v := ?_) rfl rfl (fun w' => ?_) ?_
          rotate_left
          · go_simp <;> with_reducible rfl
          try simp only [Act.put, List.setIfInBounds_toArray, List.set_cons_zero, List.set_cons_succ]
          refine wpPlan_take (o := ⟨some 20, _, _, _, _, _⟩) (v := ?_) rfl rfl (fun w' hS => ?_) ?_
          rotate_left
          · obtain ⟨p50_0, p51_0⟩ := hS; go_simp <;> with_reducible rfl
          try simp only [Act.put, List.setIfInBounds_toArray, List.set_cons_zero, List.set_cons_succ]
          refine wpPlan_pure (o := ⟨some 21, _, _, _, _, _⟩) (v := ?_) rfl rfl (fun w' => ?_) ?_
          rotate_left
          · go_simp <;> with_reducible rfl
          try simp only [Act.put, List.setIfInBounds_toArray, List.set_cons_zero, List.set_cons_succ]
          refine wpPlan_pure (o := ⟨some 22, _, _, _, _, _⟩) (v := ?_) rfl rfl (fun w' => ?_) ?_
          rotate_left
          · go_simp <;> with_reducible rfl
          try simp only [Act.put, List.setIfInBounds_toArray, List.set_cons_zero, List.set_cons_succ]
          refine wpPlan_pure (o := ⟨some 23, _, _, _, _, _⟩) (v := ?_) rfl rfl (fun w' => ?_) ?_
          rotate_left
          · go_simp <;> with_reducible rfl
          try simp only [Act.put, List.setIfInBounds_toArray, List.set_cons_zero, List.set_cons_succ]
          refine wpPlan_take (o := ⟨some 24, _, _, _, _, _⟩) (v := ?_) rfl rfl (fun w' hS => ?_) ?_
          rotate_left
          · obtain ⟨p50_0, p51_0⟩ := hS; go_simp <;> with_reducible rfl
          try simp only [Act.put, List.setIfInBounds_toArray, List.set_cons_zero, List.set_cons_succ]
          refine wpPlan_pure (o := ⟨some 25, _, _, _, _, _⟩) (v := ?_) rfl rfl (fun w' => ?_) ?_
          rotate_left
          · go_simp <;> with_reducible rfl
          try simp only [Act.put, List.setIfInBounds_toArray, List.set_cons_zero, List.set_cons_succ]
          refine wpPlan_done ?_
          go_wp2_with fail
          go_ret
          have hF := below_trans (c := wr) hB Bz
          obtain rfl : r = false := by rw [← hr.out]; exact decide_eq_false (fun e => by have h1 := HX.out; rw [e, HY.out] at h1; simp at h1; exact HNE.out h1.symm)
          exact ⟨rfl, below_trans (below_trans hB Bz) (by go_grown)⟩
      · obtain rfl : i = n := by omega
        have i1 : ¬ (i : Int) < (i : Int) := by omega
        have e : L = M := by have := HD.out; rwa [List.take_of_length_le (by rw [HLN.out]; exact Nat.le_refl _), List.take_of_length_le (by rw [HMN.out]; exact Nat.le_refl _)] at this
        obtain rfl : r = true := by rw [← hr.out]; exact decide_eq_true e
        clear e
        go_wp2_with fail
        go_ret
        exact ⟨rfl, hB⟩
  · have g0 : ((n : Int) != (n' : Int)) = true := by simp; omega
    obtain rfl : r = false := by rw [← hr.out]; exact decide_eq_false (fun e => hnn (by rw [← HLN.out, ← HMN.out, e]))
    clear h h' hr
    have hB := Below.refl w.heap.size w
    have Bz := Below.refl w.heap.size w
    go_enter Tryd.func11, Tryd.ntmps11
    go_wp2_with fail
    go_ret
    have hF := below_trans (c := w) hB Bz
    exact ⟨rfl, below_trans hF (by go_grown)⟩
end Go.Proofs.YtionhpangenhnaaDoor
