/-
  Plain facts for the law WholeOrder. Written by wip/gen/order.py.
-/
import Derived.Test.YtjlfcnkndndgaaaW12
import Derived.Test.YtjlfcnkndndgaaaIn
import Derived.Test.YtjlfcnkndndgaaaSched
namespace Go.Proofs.Ytjlfcnkndndgaaa
open Go.RowKit Tw

theorem I.drew {w : World} {b : Bool} {A : Option Addr} {c l : Nat} {z : Int} (h : I w b A c l z) : I w.drew b A c l z := h.below (Below.drew (Below.refl _ _))
theorem J.drew {w : World} {b : Bool} {A : Option Addr} {c l : Nat} {z : Int} (h : J w b A c l z) : J w.drew b A c l z := h.below (Below.drew (Below.refl _ _))
theorem cmpI_sub (a b : Int) : (a - b).sign = cmpI a b := by
  unfold cmpI
  rcases Int.lt_trichotomy a b with h | h | h
  · rw [if_pos h, Int.sign_eq_neg_one_of_neg (by omega)]
  · rw [if_neg (by omega), if_neg (by omega), h, Int.sub_self]; rfl
  · rw [if_neg (by omega), if_pos h, Int.sign_eq_one_of_pos (by omega)]
theorem cmpI_swap (a b : Int) : cmpI b a = -cmpI a b := by
  unfold cmpI
  rcases Int.lt_trichotomy a b with h | h | h <;> repeat (split <;> try omega)
theorem cmpI_add (a b c : Int) : cmpI (a + c) (b + c) = cmpI a b := by
  rw [← cmpI_sub, ← cmpI_sub]; congr 1; omega
theorem cmpI_mul (a b c : Int) : cmpI (a * c) (b * c) = cmpI a b * c.sign := by
  rw [← cmpI_sub, ← cmpI_sub, ← Int.sub_mul, Int.sign_mul]
theorem cmpI_bd (a b : Int) : -1 ≤ cmpI a b ∧ cmpI a b ≤ 1 := by unfold cmpI; split <;> (try split) <;> omega
theorem cmpI_trans {a b c : Int} (h : ¬ 0 < cmpI a b) (h' : ¬ 0 < cmpI b c) : cmpI a c ≤ 0 := by
  unfold cmpI at *
  repeat (split at h <;> try omega)
  all_goals repeat (split at h' <;> try omega)
  all_goals repeat (split <;> try omega)
theorem mul_bd {x y : Int} (h : -1 ≤ x ∧ x ≤ 1) (h' : -1 ≤ y ∧ y ≤ 1) : -1 ≤ x * y ∧ x * y ≤ 1 := by
  obtain rfl | rfl | rfl : x = -1 ∨ x = 0 ∨ x = 1 := by omega
  all_goals omega
section
variable {w : World} {A A' : Option Addr} {c c' l l' : Nat} {b b' : Bool} {z z' : Int}
theorem abs_z (h : I w b A c l z) (hl : l ≤ 800000) :
    Calls Try.prog 17 #[.agg #[.bool b, .slice A l c]] w (TellsZ w (z.natAbs : Int) l) := by
  obtain ⟨n, h1, rfl⟩ := h
  exact (abs_v b h1 hl).mono fun e w' he => he.z (by rw [sgn_abs]) (Nat.le_refl _)
theorem divmod_e0 (h' : I w b' A' c' l' z') (hl : l' ≤ 800000) (hz : z' = 0) :
    Calls Try.prog 16 #[.agg #[.bool b, .slice A l c], .agg #[.bool b', .slice A' l' c']] w (TellsZ2 w 0 0 0 0) := by
  subst hz
  exact divmod_z0 h' hl
end
theorem wrap_id {x : Int} (h : -1 ≤ x ∧ x ≤ 1) : IntKind.i64.wrap x = x := IntWalk.i64_in x (by omega)

end Go.Proofs.Ytjlfcnkndndgaaa
