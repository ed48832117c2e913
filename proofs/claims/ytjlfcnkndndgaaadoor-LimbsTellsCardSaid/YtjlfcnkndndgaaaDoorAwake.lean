/-
  The chapter's examples, which every statement of layer 1 asks.
-/
import Derived.Test.YtjlfcnkndndgaaaDoorVG
namespace Go.Proofs.YtjlfcnkndndgaaaDoor
open Go.RowKit Tw

/-- The block of a literal. -/
def L (xs : List Nat) : Obj := .cells (cellsOf xs) 29
theorem size_L (W : World) (xs : List Nat) : (W.alloc (L xs)).heap.size = W.heap.size + 1 := by simp
/-- Two literals, the second behind the first. -/
theorem two_lits (W : World) (xs ys : List Nat) (hx : Ok xs) (hy : Ok ys) : V ((W.alloc (L xs)).alloc (L ys)) (some ⟨W.heap.size, 0, none⟩) xs.length xs.length (val xs) ∧ V ((W.alloc (L xs)).alloc (L ys)) (some ⟨W.heap.size + 1, 0, none⟩) ys.length ys.length (val ys) ∧ Below W.heap.size W ((W.alloc (L xs)).alloc (L ys)) := by
  refine ⟨(lit_v W xs _ _ hx rfl rfl).below (lit_below _ _), ?_, below_trans (lit_below W (L xs)) (lit_below _ _)⟩
  have := lit_v (W.alloc (L xs)) ys _ _ hy rfl rfl
  rw [size_L] at this
  exact this
theorem one_lit (W : World) (xs : List Nat) (n : Nat) (hx : Ok xs) (ht : xs = [] ∨ xs.getD (xs.length - 1) 0 ≠ 0) (hn : val xs = n) : C (W.alloc (L xs)) (some ⟨W.heap.size, 0, none⟩) xs.length xs.length n :=
  lit_c W xs _ n hx rfl (by rw [← hn]; exact (limbs_of hx ht).symm)
theorem ok_dec {xs : List Nat} (h : xs.all (fun x => decide (x < B)) = true) : Ok xs := fun x hx => by simpa using List.all_eq_true.1 h x hx

set_option maxRecDepth 100000 in
set_option maxHeartbeats 1000000 in
theorem awake_any (w : World) (hT : Hid (Tab w)) : Calls Tryd.prog 11 #[] w fun e w' => e = .returned (.bool true) ∧ Below w.heap.size w w' := by
  go_enter Tryd.func11, Tryd.ntmps11
  go_wp2_with fail
  obtain ⟨a1, a2, a3⟩ := two_lits w [0, 0, 1] [3] (ok_dec (by decide)) (ok_dec (by decide))
  refine (divmod_v a1 a2 (by decide) (by decide)).mono ?_
  rintro e w1 ⟨A1, c1, l1, A2, c2, l2, rfl, q1, q2, m1, m2, b1⟩
  go_wp2_with fail
  obtain ⟨x2, y2, t2⟩ := two_lits w1 [18446744073709551615] [1] (ok_dec (by decide)) (ok_dec (by decide))
  refine (add_v x2 y2 (by decide)).mono ?_
  rintro e w2 ⟨A12, c12, l12, rfl, q12, m12, b2⟩
  go_wp2_with fail
  have z3 := one_lit w2 [0, 1] (val [18446744073709551615] + val [1]) (ok_dec (by decide)) (.inr (by decide)) (by decide)
  refine (is_v (q12.below (lit_below w2 (L [0, 1]))) z3 (by simp at m12; omega) rfl).mono ?_
  rintro e w3 ⟨rfl, b3⟩
  go_wp2_with fail
  obtain ⟨x4, y4, t4⟩ := two_lits w3 [18446744073709551615] [18446744073709551615] (ok_dec (by decide)) (ok_dec (by decide))
  refine (mul_v x4 y4 (by decide)).mono ?_
  rintro e w4 ⟨A14, c14, l14, rfl, q14, m14, b4⟩
  go_wp2_with fail
  have z5 := one_lit w4 [1, 18446744073709551614] (val [18446744073709551615] * val [18446744073709551615]) (ok_dec (by decide)) (.inr (by decide)) (by decide)
  refine (is_v (q14.below (lit_below w4 (L [1, 18446744073709551614]))) z5 (by simp at m14; omega) rfl).mono ?_
  rintro e w5 ⟨rfl, b5⟩
  go_wp2_with fail
  have z6 := one_lit w5 [6148914691236517205, 6148914691236517205] (val [0, 0, 1] / val [3]) (ok_dec (by decide)) (.inr (by decide)) (by decide)
  refine (is_v (q1.below (below_trans (below_trans (below_trans (below_trans (below_trans (below_trans (below_trans (below_trans t2 b2) (lit_below w2 (L [0, 1]))) b3) t4) b4) (lit_below w4 (L [1, 18446744073709551614]))) b5) (lit_below w5 (L [6148914691236517205, 6148914691236517205])))) z6 (by simp at m1; omega) rfl).mono ?_
  rintro e w6 ⟨rfl, b6⟩
  go_wp2_with fail
  have z7 := one_lit w6 [1] (val [0, 0, 1] % val [3]) (ok_dec (by decide)) (.inr (by decide)) (by decide)
  refine (is_v (q2.below (below_trans (below_trans (below_trans (below_trans (below_trans (below_trans (below_trans (below_trans (below_trans (below_trans t2 b2) (lit_below w2 (L [0, 1]))) b3) t4) b4) (lit_below w4 (L [1, 18446744073709551614]))) b5) (lit_below w5 (L [6148914691236517205, 6148914691236517205]))) b6) (lit_below w6 (L [1])))) z7 (by simp at m2; omega) rfl).mono ?_
  rintro e w7 ⟨rfl, b7⟩
  go_wp2_with fail
  obtain ⟨x8, y8, t8⟩ := two_lits w7 [12] [18] (ok_dec (by decide)) (ok_dec (by decide))
  refine (gcd_v x8 y8 (by decide) (hT.out.below (below_trans (below_trans (below_trans (below_trans (below_trans (below_trans (below_trans (below_trans (below_trans (below_trans (below_trans (below_trans (below_trans (below_trans a3 b1) t2) b2) (lit_below w2 (L [0, 1]))) b3) t4) b4) (lit_below w4 (L [1, 18446744073709551614]))) b5) (lit_below w5 (L [6148914691236517205, 6148914691236517205]))) b6) (lit_below w6 (L [1]))) b7) t8))).mono ?_
  rintro e w8 ⟨A18, c18, l18, rfl, q18, m18, b8⟩
  go_wp2_with fail
  have z9 := one_lit w8 [6] (Nat.gcd (val [12]) (val [18])) (ok_dec (by decide)) (.inr (by decide)) (by decide)
  refine (is_v (q18.below (lit_below w8 (L [6]))) z9 (by simp at m18; omega) rfl).mono ?_
  rintro e w9 ⟨rfl, b9⟩
  go_wp2_with fail
  go_ret
  exact ⟨rfl, (below_trans (below_trans (below_trans (below_trans (below_trans (below_trans (below_trans (below_trans (below_trans (below_trans (below_trans (below_trans (below_trans (below_trans (below_trans (below_trans (below_trans a3 b1) t2) b2) (lit_below w2 (L [0, 1]))) b3) t4) b4) (lit_below w4 (L [1, 18446744073709551614]))) b5) (lit_below w5 (L [6148914691236517205, 6148914691236517205]))) b6) (lit_below w6 (L [1]))) b7) t8) b8) (lit_below w8 (L [6]))) b9)⟩
end Go.Proofs.YtjlfcnkndndgaaaDoor
