/-
  Whole numbers: Cmp, Of, Small.
-/
import Derived.Test.YtjlfcnkndndgaaaDoorW7
namespace Go.Proofs.YtjlfcnkndndgaaaDoor
open Go.RowKit Tw

theorem cmpI_sign {z z' s s' : Int} (h : z.sign = s) (h' : z'.sign = s') (hne : s ≠ s') : cmpI s s' = cmpI z z' := by
  subst h; subst h'
  have e : ∀ x : Int, (x < 0 ∧ x.sign = -1) ∨ (x = 0 ∧ x.sign = 0) ∨ (0 < x ∧ x.sign = 1) := fun x => by
    rcases Int.lt_trichotomy x 0 with h | h | h
    · exact .inl ⟨h, Int.sign_eq_neg_one_of_neg h⟩
    · subst h; exact .inr (.inl ⟨rfl, rfl⟩)
    · exact .inr (.inr ⟨h, Int.sign_eq_one_of_pos h⟩)
  rcases e z with ⟨h1, h2⟩ | ⟨h1, h2⟩ | ⟨h1, h2⟩ <;> rcases e z' with ⟨h3, h4⟩ | ⟨h3, h4⟩ | ⟨h3, h4⟩ <;> rw [h2, h4] at hne ⊢ <;> first | (exact absurd rfl hne) | (unfold cmpI; repeat (split <;> try omega))
theorem cmpI_neg {b b' : Bool} {n n' : Nat} (h : (sgn b n).sign = -1) (h' : (sgn b' n').sign = -1) : cmpI (n' : Int) (n : Int) = cmpI (sgn b n) (sgn b' n') := by
  have e : ∀ (b : Bool) (n : Nat), (sgn b n).sign = -1 → sgn b n = -(n : Int) := fun b n h => by
    have : sgn b n < 0 := Int.sign_eq_neg_one_iff_neg.1 h
    unfold sgn at this ⊢
    cases b
    · simp at this; omega
    · rfl
  rw [e b n h, e b' n' h']
  unfold cmpI
  repeat (split <;> try omega)
theorem cmpI_pos {b b' : Bool} {n n' : Nat} (h : 0 ≤ (sgn b n).sign) (h' : 0 ≤ (sgn b' n').sign) : cmpI (n : Int) (n' : Int) = cmpI (sgn b n) (sgn b' n') := by
  have e : ∀ (b : Bool) (n : Nat), 0 ≤ (sgn b n).sign → sgn b n = (n : Int) := fun b n h => by
    have : 0 ≤ sgn b n := by
      rcases Int.lt_or_le (sgn b n) 0 with h1 | h1
      · rw [Int.sign_eq_neg_one_of_neg h1] at h; omega
      · exact h1
    unfold sgn at this ⊢
    cases b
    · rfl
    · simp at this ⊢; omega
  rw [e b n h, e b' n' h']
theorem sign_range (z : Int) : -1 ≤ z.sign ∧ z.sign ≤ 1 := by
  rcases Int.lt_trichotomy z 0 with h | h | h
  · rw [Int.sign_eq_neg_one_of_neg h]; omega
  · subst h; decide
  · rw [Int.sign_eq_one_of_pos h]; omega

section
variable {w : World} {A A' : Option Addr} {c c' l l' : Nat} {b b' : Bool} {z z' : Int}
set_option maxRecDepth 100000 in
set_option maxHeartbeats 1000000 in
theorem cmp_ne (h : I w b A c l z) (h' : I w b' A' c' l' z') (hl : l + l' ≤ 800000) (s s' : Int) (hs : Hid (z.sign = s)) (hs' : Hid (z'.sign = s')) (p1 : (s != s') = true) :
    Calls Tryd.prog 44 #[.agg #[.bool b, .slice A l c], .agg #[.bool b', .slice A' l' c']] w fun e w' => e = .returned (.int .i64 (cmpI z z')) ∧ Below w.heap.size w w' := by
  have HE := Lib.hid (cmpI_sign hs.out hs'.out (by simpa using p1))
  obtain ⟨W, hW, x0, x1, hB⟩ := box1 w (.bool b) (.slice A l c) (.bool b') (.slice A' l' c')
  have HI := Lib.hid (h.below hB)
  have HI' := Lib.hid (h'.below hB)
  have HX := Lib.hid x0
  have HX' := Lib.hid x1
  obtain ⟨⟨a1, a2⟩, _, a4⟩ := x0.look
  obtain ⟨⟨a1', a2'⟩, _, a4'⟩ := x1.look
  have Bz := Below.refl W.heap.size W
  clear h h' x0 x1
  go_enter Tryd.func44, Tryd.ntmps44
  go_wp2_with fail
  rw [← hW]
  clear hW
  go_region_held3 (fun w' => w'.cell? ⟨w.heap.size, 0, none⟩ = some (.bool b) ∧ w'.cell? ⟨w.heap.size, 1, none⟩ = some (.slice A l c) ∧ w'.cell? ⟨w.heap.size + 1, 0, none⟩ = some (.bool b') ∧ w'.cell? ⟨w.heap.size + 1, 1, none⟩ = some (.slice A' l' c'))
    (first | exact ⟨a1, a2, a1', a2'⟩ | go_keep)
    (first
      | (go_at_call 43; (with_reducible refine (sign_z (HI.out.below (below_trans Bz (by go_grown))) (by omega) s hs.out).mono ?_); rintro e wz ⟨rfl, bz⟩; have Bz := below_trans (below_trans Bz (by go_grown)) bz; obtain ⟨⟨a1, a2⟩, a3, a4⟩ := (HX.out.below Bz).look; obtain ⟨⟨a1', a2'⟩, a3', a4'⟩ := (HX'.out.below Bz).look)
      | (go_at_call 43; (with_reducible refine (sign_z (HI'.out.below (below_trans Bz (by go_grown))) (by omega) s' hs'.out).mono ?_); rintro e wz ⟨rfl, bz⟩; have Bz := below_trans (below_trans Bz (by go_grown)) bz; obtain ⟨⟨a1, a2⟩, a3, a4⟩ := (HX.out.below Bz).look; obtain ⟨⟨a1', a2'⟩, a3', a4'⟩ := (HX'.out.below Bz).look))
  all_goals
    go_wp2_with fail
    refine (compare_int s s' _).mono ?_
    rintro e w' ⟨rfl, rfl⟩
    go_wp2_with fail
    go_ret
    exact ⟨ret_int HE.out, below_trans hB (below_trans Bz (by go_grown))⟩
set_option maxRecDepth 100000 in
set_option maxHeartbeats 1000000 in
theorem cmp_eq (n n' : Nat) (h : V w A c l n) (h' : V w A' c' l' n') (hl : l + l' ≤ 800000) (s : Int) (hs : Hid ((sgn b n).sign = s)) (hs' : Hid ((sgn b' n').sign = s)) (t : Bool) (p2 : decide (s < 0) = t) (HE : Hid ((if t then cmpI (n' : Int) n else cmpI (n : Int) n') = z)) :
    Calls Tryd.prog 44 #[.agg #[.bool b, .slice A l c], .agg #[.bool b', .slice A' l' c']] w fun e w' => e = .returned (.int .i64 z) ∧ Below w.heap.size w w' := by
  have p1 : (s != s) = false := by simp
  obtain ⟨W, hW, x0, x1, hB⟩ := box1 w (.bool b) (.slice A l c) (.bool b') (.slice A' l' c')
  have HV := Lib.hid (h.below hB)
  have HV' := Lib.hid (h'.below hB)
  have HX := Lib.hid x0
  have HX' := Lib.hid x1
  obtain ⟨⟨a1, a2⟩, _, a4⟩ := x0.look
  obtain ⟨⟨a1', a2'⟩, _, a4'⟩ := x1.look
  have Bz := Below.refl W.heap.size W
  clear h h' x0 x1
  cases t
  all_goals
    go_enter Tryd.func44, Tryd.ntmps44
    go_wp2_with fail
    rw [← hW]
    clear hW
    go_region_held3 (fun w' => w'.cell? ⟨w.heap.size, 0, none⟩ = some (.bool b) ∧ w'.cell? ⟨w.heap.size, 1, none⟩ = some (.slice A l c) ∧ w'.cell? ⟨w.heap.size + 1, 0, none⟩ = some (.bool b') ∧ w'.cell? ⟨w.heap.size + 1, 1, none⟩ = some (.slice A' l' c'))
      (first | exact ⟨a1, a2, a1', a2'⟩ | go_keep)
      (first
        | (go_at_call 43; (with_reducible refine (sign_v b (HV.out.below (below_trans Bz (by go_grown))) (by omega) s hs.out).mono ?_); rintro e wz ⟨rfl, bz⟩; have Bz := below_trans (below_trans Bz (by go_grown)) bz; obtain ⟨⟨a1, a2⟩, a3, a4⟩ := (HX.out.below Bz).look; obtain ⟨⟨a1', a2'⟩, a3', a4'⟩ := (HX'.out.below Bz).look)
        | (go_at_call 43; (with_reducible refine (sign_v b' (HV'.out.below (below_trans Bz (by go_grown))) (by omega) s hs'.out).mono ?_); rintro e wz ⟨rfl, bz⟩; have Bz := below_trans (below_trans Bz (by go_grown)) bz; obtain ⟨⟨a1, a2⟩, a3, a4⟩ := (HX.out.below Bz).look; obtain ⟨⟨a1', a2'⟩, a3', a4'⟩ := (HX'.out.below Bz).look))
  · all_goals
      go_wp2_with fail
      refine (cmp_v z (HV.out.below (below_trans Bz (by go_grown))) (HV'.out.below (below_trans Bz (by go_grown))) hl HE.out).mono ?_
      rintro e w' ⟨rfl, b1⟩
      go_wp2_with fail
      go_ret
      exact ⟨rfl, below_trans hB (below_trans (below_trans Bz (by go_grown)) b1)⟩
  · all_goals
      go_wp2_with fail
      refine (cmp_v z (HV'.out.below (below_trans Bz (by go_grown))) (HV.out.below (below_trans Bz (by go_grown))) (by omega) HE.out).mono ?_
      rintro e w' ⟨rfl, b1⟩
      go_wp2_with fail
      go_ret
      exact ⟨rfl, below_trans hB (below_trans (below_trans Bz (by go_grown)) b1)⟩
theorem cmp_z (h : I w b A c l z) (h' : I w b' A' c' l' z') (hl : l + l' ≤ 800000) (k : Int) (hk : cmpI z z' = k) :
    Calls Tryd.prog 44 #[.agg #[.bool b, .slice A l c], .agg #[.bool b', .slice A' l' c']] w fun e w' => e = .returned (.int .i64 k) ∧ Below w.heap.size w w' := by
  subst hk
  by_cases hs : z'.sign = z.sign
  · obtain ⟨n, h1, rfl⟩ := h
    obtain ⟨n', h1', rfl⟩ := h'
    refine cmp_eq n n' h1 h1' hl _ (Lib.hid rfl) (Lib.hid hs) _ rfl (Lib.hid ?_)
    have hr := sign_range (sgn b n)
    by_cases hn : (sgn b n).sign < 0
    · rw [if_pos (by simpa using hn)]
      exact cmpI_neg (by omega) (by omega)
    · rw [if_neg (by simpa using hn)]
      exact cmpI_pos (by omega) (by omega)
  · exact cmp_ne h h' hl _ _ (Lib.hid rfl) (Lib.hid rfl) (by simpa using fun e => hs e.symm)
end
end Go.Proofs.YtjlfcnkndndgaaaDoor
