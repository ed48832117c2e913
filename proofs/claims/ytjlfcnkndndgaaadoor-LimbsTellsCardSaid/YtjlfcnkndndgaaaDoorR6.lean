/-
  The reference of layer 1: Bits, told of numbers.
-/
import Derived.Test.YtjlfcnkndndgaaaDoorR5
namespace Go.Proofs.YtjlfcnkndndgaaaDoor
open Go.RowKit Tw

theorem nb_lt (v : Nat) : v < 2 ^ nbits v := by
  unfold nbits
  split
  · subst_vars; decide
  · exact Nat.lt_log2_self
theorem nb_ge {v : Nat} (h : v ≠ 0) : 2 ^ (nbits v - 1) ≤ v := by
  unfold nbits
  rw [if_neg h, Nat.add_sub_cancel]
  exact Nat.log2_self_le h
theorem nb_half {d : Nat} (h : d ≠ 0) : nbits d = nbits (d / 2) + 1 := by
  have h1 := nb_lt (d / 2)
  by_cases h2 : d / 2 = 0
  · have : d = 1 := by omega
    subst this; rfl
  · have h3 := nb_ge h2
    have h4 : nbits (d / 2) ≠ 0 := by unfold nbits; rw [if_neg h2]; omega
    refine (nbits_of h ?_ ?_).symm
    · have e : 2 ^ nbits (d / 2) = 2 ^ (nbits (d / 2) - 1) * 2 := by rw [← Nat.pow_succ]; congr 1; omega
      omega
    · rw [Nat.pow_succ]; omega
theorem nb_top {a l : Nat} (h : a ≠ 0) (hl : Te.nl a = l) : nbits a = 8 * (l - 1) + nbits (dg (Te.limbs a) (l - 1)) := by
  have hl0 : l ≠ 0 := by rintro rfl; exact h (Te.nl_eq_zero.1 hl)
  have ht : dg (Te.limbs a) (l - 1) ≠ 0 := by rw [← hl]; exact Te.top_ne h
  obtain ⟨t, et⟩ : ∃ t, dg (Te.limbs a) (l - 1) = t := ⟨_, rfl⟩
  rw [et] at ht ⊢
  have h1 : a = Te.val ((Te.limbs a).take (l - 1)) + 256 ^ (l - 1) * t := by
    have h2 := Te.val_take_succ' (Te.limbs a) (l - 1)
    have e : (Te.limbs a).getD (l - 1) 0 = t := et
    rw [show l - 1 + 1 = l from by omega, List.take_of_length_le (by show Te.nl a ≤ l; omega), Te.val_limbs, e, Te.B_eq] at h2
    exact h2
  have h2 := Te.val_take_lt (Te.ok_limbs a) (l - 1)
  rw [Te.B_eq] at h2
  have h3 := nb_lt t
  have h4 := nb_ge ht
  have h5 : nbits t ≠ 0 := by unfold nbits; rw [if_neg ht]; omega
  have e1 : 2 ^ (8 * (l - 1) + (nbits t - 1)) = 256 ^ (l - 1) * 2 ^ (nbits t - 1) := by rw [Nat.pow_add, Nat.pow_mul]
  have e2 : 2 ^ (8 * (l - 1) + (nbits t - 1) + 1) = 256 ^ (l - 1) * 2 ^ nbits t := by rw [show 8 * (l - 1) + (nbits t - 1) + 1 = 8 * (l - 1) + nbits t from by omega, Nat.pow_add, Nat.pow_mul]
  have h6 : 256 ^ (l - 1) * 2 ^ (nbits t - 1) ≤ 256 ^ (l - 1) * t := Nat.mul_le_mul_left _ h4
  have h7 : 256 ^ (l - 1) * (t + 1) ≤ 256 ^ (l - 1) * 2 ^ nbits t := Nat.mul_le_mul_left _ h3
  rw [Nat.mul_add, Nat.mul_one] at h7
  have := nbits_of (v := a) (m := 8 * (l - 1) + (nbits t - 1)) h (by rw [e1]; omega) (by rw [e2]; omega)
  omega
theorem bits_r {w : World} {A : Option Addr} {c l a : Nat} (h : V w A c l a) (hl : l ≤ 50000) (z : Int) (hz : (nbits a : Int) = z) :
    Calls Tryd.prog 32 #[.slice A l c] w fun e w' => e = .returned (.int .i64 z) ∧ Below w.heap.size w w' := by
  have hn := h.lt
  have HZ := Lib.hid hz
  clear hz
  go_enter Tryd.func32, Tryd.ntmps32
  go_wp2_with fail
  refine (small_v h (by omega)).mono ?_
  rintro e w0 ⟨A0, c0, l0, rfl, h0, b0⟩
  have s0 := h0.small hn
  clear h hn
  rcases Nat.eq_zero_or_pos l0 with rfl | hp
  · have ha := h0.zero
    have hz' : 0 = z := by rw [← HZ.out, ha]; rfl
    clear HZ
    subst hz'
    go_wp2_with fail
    go_ret
    exact ⟨rfl, b0⟩
  · have t1 : ((l0 : Int) == 0) = false := by simp; omega
    have HT := Lib.hid (nb_top (h0.pos hp) h0.2)
    have ht : dg (Te.limbs a) (l0 - 1) < 256 := Te.dg_lt (Te.ok_limbs a) _
    obtain ⟨b, off, rfl, hcell⟩ := h0.1.cells (by show 0 < Te.nl _; rw [h0.2]; exact hp)
    have c1 := hcell (l0 - 1) (by show l0 - 1 < Te.nl _; rw [h0.2]; omega)
    obtain ⟨j, rfl⟩ : ∃ j, l0 = j + 1 := ⟨l0 - 1, by omega⟩
    rw [Nat.add_sub_cancel] at c1 ht HT
    obtain ⟨t, et⟩ : ∃ t, dg (Te.limbs a) j = t := ⟨_, rfl⟩
    rw [et] at c1 ht HT
    clear hcell et h0
    go_wp2_with fail
    go_loop [4, 5] (fun m d => ∃ k y : Nat, m = .int .i64 (8 * (j : Int) + (k : Int)) ∧ d = .int .i64 (y : Int) ∧ k + nbits y = nbits t ∧ y ≤ t ∧ k ≤ 8) (fun _ d => (intOf d).toNat)
    case atStart => exact ⟨0, t, by simp, rfl, by omega, Nat.le_refl _, by omega⟩
    case round =>
      obtain ⟨k, y, rfl, rfl, hk, hy, hk8⟩ := hrel
      rcases Nat.eq_zero_or_pos y with rfl | hyp
      · have hfin : 8 * (j : Int) + (k : Int) = z := by
          have h1 := HT.out
          have h2 : nbits 0 = 0 := rfl
          rw [← HZ.out, h1]; omega
        have HF := Lib.hid hfin
        clear hfin hk
        go_wp2_with fail
        go_ret
        exact ⟨ret_int HF.out, b0⟩
      · have hk2 : k + 1 + nbits (y / 2) = nbits t := by have := nb_half (d := y) (by omega); omega
        have hk9 : k + 1 ≤ 8 := by
          have h1 := nb_lt t
          have h2 : nbits t ≤ 8 := by
            rcases Nat.lt_or_ge 8 (nbits t) with h3 | h3
            · have h4 := nb_ge (v := t) (by omega)
              have h5 : 2 ^ 8 ≤ 2 ^ (nbits t - 1) := Nat.pow_le_pow_right (by omega) (by omega)
              omega
            · exact h3
          omega
        have HK := Lib.hid hk2
        clear hk hk2
        go_wp2_with fail
        go_round
        case rel => exact ⟨k + 1, y / 2, by go_num, by go_num, HK.out, by omega, hk9⟩
        case measure => simp [intOf]; omega
end Go.Proofs.YtjlfcnkndndgaaaDoor
