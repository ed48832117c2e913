/-
  tripwirelow.Pick; shifts by a number of bits; the bits of a power.
-/
import Derived.Test.YtjlfcnkndndgaaaDoorKit
namespace Go.Proofs.YtjlfcnkndndgaaaDoor
open Go.RowKit Tw

/-- Pick tells a number from 0 on, below n. -/
theorem pick_any (x : Int) (n : Nat) (w : World) (hx : -9223372036854775808 ≤ x ∧ x ≤ 9223372036854775807) (hn : 1 ≤ n) (hn2 : n ≤ 1000000000) :
    Calls Tryd.prog 21 #[.int .i64 x, .int .i64 (n : Int)] w fun e w' => (∃ m : Nat, m < n ∧ e = .returned (.int .i64 (m : Int))) ∧ w = w' := by
  have t1 : Int.tmod x n < n := Int.tmod_lt_of_pos _ (by omega)
  have t2 : -(n : Int) < Int.tmod x n := by
    have := Int.lt_tmod_of_pos x (b := (n : Int)) (by omega)
    omega
  obtain ⟨y, hy⟩ : ∃ y, y = Int.tmod x n := ⟨_, rfl⟩
  rw [← hy] at t1 t2
  have r1 : Int.tmod x n = y := hy.symm
  clear hy
  by_cases h : y < 0
  · go_enter Tryd.func21, Tryd.ntmps21
    go_wp2_with fail
    go_ret
    exact ⟨⟨(y + n).toNat, by omega, by rw [Int.toNat_of_nonneg (by omega)]; rfl⟩, rfl⟩
  · go_enter Tryd.func21, Tryd.ntmps21
    go_wp2_with fail
    go_ret
    exact ⟨⟨y.toNat, by omega, by rw [Int.toNat_of_nonneg (by omega)]; rfl⟩, rfl⟩

section
variable {w : World} {A A' : Option Addr} {c c' l l' a b : Nat}
theorem shl_p (m n : Nat) {z : Int} (h : V w A c l a) (hl : l ≤ 800000) (hz : z.toNat = m) (hm : m ≤ 1048576) (hn : a * 2 ^ m = n) : Calls Tryd.prog 22 #[.slice A l c, .int .i64 z] w (Tells w n (l + 16385)) := by
  have h1 := shl_v z h hl
  rw [shlv_small (by omega), hz, hn] at h1
  exact h1
theorem shr_p (m n : Nat) {z : Int} (h : V w A c l a) (hl : l ≤ 800000) (hz : z.toNat = m) (hm : m ≤ 1048576) (hn : a / 2 ^ m = n) : Calls Tryd.prog 24 #[.slice A l c, .int .i64 z] w (Tells w n l) := by
  have h1 := shr_v z h hl (by omega)
  rw [hz, hn] at h1
  exact h1
end
theorem nbits_lt (v : Nat) : v < 2 ^ nbits v := by
  unfold nbits
  split
  · omega
  · exact Nat.lt_log2_self
theorem nbits_ge {v : Nat} (h : v ≠ 0) : 2 ^ (nbits v - 1) ≤ v := by
  unfold nbits
  rw [if_neg h]
  exact Nat.log2_self_le h
theorem nbits_pow (m : Nat) : nbits (2 ^ m) = m + 1 := (nbits_of (Nat.pos_iff_ne_zero.1 (Nat.two_pow_pos m)) (Nat.le_refl _) (Nat.pow_lt_pow_right (by omega) (by omega))).symm
theorem nbits_zero {v : Nat} : nbits v = 0 ↔ v = 0 := by unfold nbits; split <;> omega
theorem nbits_le {w : World} {A : Option Addr} {c l a : Nat} (h : V w A c l a) : nbits a ≤ 64 * l := by
  by_cases h0 : a = 0
  · rw [h0]; unfold nbits; simp
  · have h1 := nbits_ge h0
    have h2 := h.lt
    rw [← pow_B] at h2
    have := (Nat.pow_lt_pow_iff_right (a := 2) (by omega)).1 (Nat.lt_of_le_of_lt h1 h2)
    omega
end Go.Proofs.YtjlfcnkndndgaaaDoor
