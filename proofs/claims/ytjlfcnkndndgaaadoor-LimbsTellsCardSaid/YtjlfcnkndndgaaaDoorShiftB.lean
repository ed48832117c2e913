/-
  Contracts of limbs: Shl, Shr, Bits, twos.
-/
import Derived.Test.YtjlfcnkndndgaaaDoorShift
import Derived.Test.YtjlfcnkndndgaaaDoorDiv
namespace Go.Proofs.YtjlfcnkndndgaaaDoor
open Go.RowKit Tw

/-- What Shl tells. -/
def shlv (v : Nat) (z : Int) : Nat := if 1048576 < z then 0 else v * 2 ^ z.toNat
theorem shlv_big {v : Nat} {z : Int} (h : 1048576 < z) : shlv v z = 0 := by unfold shlv; rw [if_pos h]
theorem shlv_small {v : Nat} {z : Int} (h : ¬ 1048576 < z) : shlv v z = v * 2 ^ z.toNat := by unfold shlv; rw [if_neg h]

theorem max_zero (z : Int) : max z 0 = ((z.toNat : Nat) : Int) := by omega

theorem shl_any (A : Option Addr) (c : Nat) (z : Int) (xs : List Nat) (w : World) (h : Nums w A c xs) (hs : xs.length ≤ 1000000) :
    Calls Tryd.prog 22 #[.slice A xs.length c, .int .i64 z] w (Ret w (shlv (val xs) z)) := by
  by_cases hz : 1048576 < z
  · have HR : Hid (Ret w (shlv (val xs) z) (.returned (.slice none 0 0)) w) := by rw [shlv_big hz]; exact ⟨none, 0, rfl, .inl ⟨rfl, rfl, rfl⟩, Below.refl _ _⟩
    have t : decide (1048576 < z) = true := dec_true hz
    clear hz
    go_enter Tryd.func22, Tryd.ntmps22
    go_wp2_with fail
    go_ret
    exact HR.out
  · have t : decide (1048576 < z) = false := dec_false hz
    have hm := max_zero z
    have hz2 : z.toNat ≤ 1048576 := by omega
    rw [shlv_small hz]
    generalize z.toNat = m at hm hz2 ⊢
    have HU := Lib.hid (up_any A c m xs w h hs (by omega))
    clear hz hz2
    go_enter Tryd.func22, Tryd.ntmps22
    go_wp2_with fail
    refine HU.out.mono ?_; rintro e w1 ⟨A1, c1, rfl, ho1, hb1⟩
    go_wp2_with fail
    go_ret
    exact ⟨A1, c1, rfl, ho1, hb1⟩

theorem down_nil (m : Nat) (w : World) (hm : m ≤ 9223372036854775807) : Calls Tryd.prog 79 #[.slice none 0 0, .int .i64 (m : Int)] w fun e w' => e = .returned (.slice none 0 0) ∧ w = w' := by
  have q : ∃ W : Nat, (m : Int) / 64 = (W : Int) ∧ wrap64 (W : Int) = (W : Int) := ⟨m / 64, by omega, IntWalk.wrap64_in _ ⟨by omega, by omega⟩⟩
  obtain ⟨W, q1, q2⟩ := q
  clear hm
  go_enter Tryd.func79, Tryd.ntmps79
  go_wp2_with fail
  go_ret
  exact ⟨rfl, rfl⟩

theorem shr_any (A : Option Addr) (c : Nat) (z : Int) (xs : List Nat) (w : World) (h : Nums w A c xs) (hs : xs.length ≤ 1000000) (hz : z ≤ 9223372036854775807) :
    Calls Tryd.prog 24 #[.slice A xs.length c, .int .i64 z] w (Ret w (val xs / 2 ^ z.toNat)) := by
  have hm := max_zero z
  have hz2 : z.toNat ≤ 9223372036854775807 := by omega
  generalize z.toNat = m at hm hz2 ⊢
  have HZ := Lib.hid hz2
  clear hz hz2
  have hl := nl_val h.ok
  have HT := Lib.hid (trim_any A c xs w h (by omega))
  go_enter Tryd.func24, Tryd.ntmps24
  go_wp2_with fail
  refine HT.out.mono ?_; rintro e w1 ⟨A1, c1, rfl, ho1, hb1⟩
  rcases ho1 with ⟨h0, rfl, rfl⟩ | ⟨h0, g, zs, rfl, hg, hr, rfl, hln, ht, ho⟩
  · have HR : Hid (Ret w (val xs / 2 ^ m) (.returned (.slice none 0 0)) w1) := by rw [h0, Nat.zero_div]; exact ⟨none, 0, rfl, .inl ⟨rfl, rfl, rfl⟩, hb1⟩
    rw [h0]
    go_wp2_with fail
    refine (down_nil m w1 HZ.out).mono ?_; rintro e w2 ⟨rfl, rfl⟩
    go_wp2_with fail
    go_ret
    exact HR.out
  · have hd := down_any g (nl (val xs)) m zs w1 hr ho hln (by omega) HZ.out
    rw [ht, val_limbs] at hd
    have HD := Lib.hid hd
    clear hd
    go_wp2_with fail
    refine HD.out.mono ?_; rintro e w2 ⟨A2, c2, rfl, ho2, hgr⟩
    go_wp2_with fail
    go_ret
    exact ⟨A2, c2, rfl, ho2.own hg, below_row hb1 hgr hg⟩

/-- How many bits a number has. -/
def nbits (v : Nat) : Nat := if v = 0 then 0 else Nat.log2 v + 1
theorem nbits_of {v m : Nat} (h0 : v ≠ 0) (h1 : 2 ^ m ≤ v) (h2 : v < 2 ^ (m + 1)) : m + 1 = nbits v := by
  unfold nbits
  rw [if_neg h0]
  have a := (Nat.le_log2 h0).2 h1
  have b := (Nat.log2_lt h0).2 h2
  omega
theorem top_digit {v : Nat} (h : v ≠ 0) : v = val ((limbs v).take (nl v - 1)) + B ^ (nl v - 1) * dg (limbs v) (nl v - 1) ∧ val ((limbs v).take (nl v - 1)) < B ^ (nl v - 1) := by
  have hp := nl_pos h
  have h1 := val_take_succ' (limbs v) (nl v - 1)
  rw [show nl v - 1 + 1 = nl v from by omega, List.take_of_length_le (by exact Nat.le_refl _), val_limbs] at h1
  exact ⟨h1, val_take_lt (ok_limbs v) _⟩
theorem nbits_top {v : Nat} (h : v ≠ 0) : 64 * (nl v - 1) + Lib.bitLen (dg (limbs v) (nl v - 1)) = nbits v := by
  obtain ⟨e, hlt⟩ := top_digit h
  have ht : dg (limbs v) (nl v - 1) ≠ 0 := top_ne h
  obtain ⟨b1, b2, b3, b4⟩ := bitLen_bounds ht (dg_lt (ok_limbs v) _)
  generalize dg (limbs v) (nl v - 1) = d at *
  generalize val ((limbs v).take (nl v - 1)) = r at *
  generalize nl v - 1 = k at *
  have := nbits_of (v := v) (m := 64 * k + (Lib.bitLen d - 1)) h ?_ ?_
  · omega
  · rw [Nat.pow_add, pow_B]
    exact Nat.le_trans (Nat.mul_le_mul_left _ b3) (by omega)
  · rw [show 64 * k + (Lib.bitLen d - 1) + 1 = 64 * k + Lib.bitLen d from by omega, Nat.pow_add, pow_B]
    have h1 : B ^ k * (d + 1) ≤ B ^ k * 2 ^ Lib.bitLen d := Nat.mul_le_mul_left _ b4
    rw [Nat.mul_add, Nat.mul_one] at h1
    omega

theorem bitLen_le64 {d : Nat} (h : d < B) : Lib.bitLen d ≤ 64 := Lib.bitLen_le d 64 (Nat.le_refl _) h

theorem bits_any (A : Option Addr) (c : Nat) (xs : List Nat) (w : World) (h : Nums w A c xs) (hs : xs.length ≤ 1000000) :
    Calls Tryd.prog 23 #[.slice A xs.length c] w fun e w' => e = .returned (.int .i64 (nbits (val xs))) ∧ w = w' := by
  have hl := nl_val h.ok
  have HU := Lib.hid (used_any A c xs w h (by omega))
  by_cases h0 : val xs = 0
  · rw [h0] at HU ⊢
    rw [nl_zero] at HU
    clear h0
    go_enter Tryd.func23, Tryd.ntmps23
    go_wp2_with fail
    refine HU.out.mono ?_; rintro e w1 ⟨rfl, rfl⟩
    go_wp2_with fail
    go_ret
    exact ⟨rfl, rfl⟩
  · have hp := nl_pos h0
    have hb := nbits_top h0
    have hd : dg (limbs (val xs)) (nl (val xs) - 1) = dg xs (nl (val xs) - 1) := (getD_limbs h.ok _).symm
    rw [hd] at hb
    obtain ⟨m, hm⟩ : ∃ m, nl (val xs) = m + 1 := ⟨nl (val xs) - 1, by omega⟩
    rw [hm] at HU hl hb
    rw [Nat.add_sub_cancel] at hb
    obtain ⟨b, off, rfl, hcx⟩ := h.cells (by omega)
    have hc := hcx m (by omega)
    have hbl := (bitLen_le64 (dg_lt h.ok m))
    have HB := Lib.hid hb
    have HL := Lib.hid (fun W => len64 (dg xs m) (dg_lt h.ok m) W)
    clear hcx hp hd hm h0 hb
    go_enter Tryd.func23, Tryd.ntmps23
    go_wp2_with fail
    refine HU.out.mono ?_; rintro e w1 ⟨rfl, rfl⟩
    go_wp2_with fail
    refine (HL.out _).mono ?_; rintro e w1 ⟨rfl, rfl⟩
    go_wp2_with fail
    go_ret
    exact ⟨ret_int (by have := HB.out; omega), rfl⟩
end Go.Proofs.YtjlfcnkndndgaaaDoor
