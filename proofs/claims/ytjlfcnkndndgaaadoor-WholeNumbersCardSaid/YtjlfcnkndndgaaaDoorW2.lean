/-
  Whole numbers: signs, products, sums, order.
-/
import Derived.Test.YtjlfcnkndndgaaaDoorW
namespace Go.Proofs.YtjlfcnkndndgaaaDoor
open Go.RowKit Tw

theorem sgn_sign (b : Bool) (n : Nat) : (sgn b n).sign = if n = 0 then 0 else if b = true then -1 else 1 := by
  unfold sgn
  by_cases h : n = 0
  · subst h; cases b <;> rfl
  · rw [if_neg h]
    cases b
    · exact Int.sign_eq_one_of_pos (by simp; omega)
    · exact Int.sign_eq_neg_one_of_neg (by simp; omega)

theorem bits_x {w : World} {A : Option Addr} {c l a : Nat} (z : Int) (h : V w A c l a) (hl : l ≤ 800000) (hz : (nbits a : Int) = z) : Calls Tryd.prog 23 #[.slice A l c] w fun e w' => e = .returned (.int .i64 z) ∧ w = w' := by
  rw [← hz]
  exact bits_v h hl

section
variable {w : World} {A A' : Option Addr} {c c' l l' n n' : Nat}
theorem sign_x (b : Bool) (h : V w A c l n) (hl : l ≤ 800000) (s : Int) (hs : (sgn b n).sign = s) :
    Calls Tryd.prog 43 #[.agg #[.bool b, .slice A l c]] w fun e w' => e = .returned (.int .i64 s) ∧ w' = w.alloc (.cells #[.bool b, .slice A l c] 43) := by
  rw [sgn_sign] at hs
  have HV := Lib.hid (h.below (lit_below w (.cells #[.bool b, .slice A l c] 43)))
  obtain ⟨k, hk⟩ : ∃ k : Nat, nbits n = k := ⟨_, rfl⟩
  have HK : Hid ((nbits n : Int) = (k : Int)) := by show (nbits n : Int) = k; rw [hk]
  have hz : k = 0 ↔ n = 0 := by rw [← hk]; unfold nbits; split <;> omega
  clear h
  by_cases h0 : n = 0
  · have p1 : ((k : Int) == 0) = true := by simp; omega
    rw [if_pos h0] at hs
    subst hs
    clear hk hz h0
    go_enter Tryd.func43, Tryd.ntmps43
    go_wp2_with fail
    refine (bits_x (k : Int) HV.out hl HK.out).mono ?_
    rintro e _ ⟨rfl, rfl⟩
    go_wp2_with fail
    go_returns
    exact ⟨rfl, rfl⟩
  · have p1 : ((k : Int) == 0) = false := by simp; omega
    rw [if_neg h0] at hs
    clear hk hz h0
    cases b
    · have hs' : s = 1 := by simpa using hs.symm
      clear hs
      subst hs'
      go_enter Tryd.func43, Tryd.ntmps43
      go_wp2_with fail
      refine (bits_x (k : Int) HV.out hl HK.out).mono ?_
      rintro e _ ⟨rfl, rfl⟩
      go_wp2_with fail
      go_returns
      exact ⟨rfl, rfl⟩
    · have hs' : s = -1 := by simpa using hs.symm
      clear hs
      subst hs'
      go_enter Tryd.func43, Tryd.ntmps43
      go_wp2_with fail
      refine (bits_x (k : Int) HV.out hl HK.out).mono ?_
      rintro e _ ⟨rfl, rfl⟩
      go_wp2_with fail
      go_returns
      exact ⟨rfl, rfl⟩
theorem sign_v (b : Bool) (h : V w A c l n) (hl : l ≤ 800000) (s : Int) (hs : (sgn b n).sign = s) :
    Calls Tryd.prog 43 #[.agg #[.bool b, .slice A l c]] w fun e w' => e = .returned (.int .i64 s) ∧ Below w.heap.size w w' :=
  (sign_x b h hl s hs).mono fun e w' ⟨he, hw⟩ => ⟨he, by rw [hw]; exact lit_below _ _⟩
theorem below_x (b : Bool) (h : V w A c l n) (hl : l ≤ 800000) (t : Bool) (ht : decide (sgn b n < 0) = t) :
    Calls Tryd.prog 86 #[.agg #[.bool b, .slice A l c]] w fun e w' => e = .returned (.bool t) ∧ w' = (w.alloc (.cells #[.bool b, .slice A l c] 43)).alloc (.cells #[.bool b, .slice A l c] 43) := by
  have HV := Lib.hid (h.below (lit_below w (.cells #[.bool b, .slice A l c] 43)))
  obtain ⟨s, hs⟩ : ∃ s, (sgn b n).sign = s := ⟨_, rfl⟩
  have p1 : decide (s < 0) = t := by
    rw [← ht, ← hs]
    rw [Bool.eq_iff_iff]; simp
  have HS := Lib.hid hs
  clear h hs ht
  go_enter Tryd.func86, Tryd.ntmps86
  go_wp2_with fail
  refine (sign_x b HV.out hl s HS.out).mono ?_
  rintro e _ ⟨rfl, rfl⟩
  go_wp2_with fail
  go_returns
  exact ⟨rfl, rfl⟩
end
end Go.Proofs.YtjlfcnkndndgaaaDoor
