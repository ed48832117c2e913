/-
  Plain numbers: a division of two digits by one, in halves.
-/
import Derived.Test.YtjlfcnkndndgaaaDoorNum
namespace Tw

def H : Nat := 4294967296
theorem H_eq : H = 4294967296 := rfl
theorem HH : H * H = B := rfl
theorem H_pos : 0 < H := by rw [H_eq]; omega

/-- The guess q with rest r: never too small. -/
def HInv (u d y1 y0 q r : Nat) : Prop := q * y1 + r = u ∧ (u * H + d) / (y1 * H + y0) ≤ q ∧ q ≤ H + 1
/-- What a half step is given. -/
structure HIn (u d y1 y0 : Nat) : Prop where
  hu : u < y1 * H + y0
  hd : d < H
  hy0 : y0 < H
  hy1 : y1 < H
  half : H ≤ 2 * y1

theorem HIn.pos {u d y1 y0 : Nat} (h : HIn u d y1 y0) : 0 < y1 := by have := h.half; have := H_pos; omega
theorem HIn.ypos {u d y1 y0 : Nat} (h : HIn u d y1 y0) : 0 < y1 * H + y0 := by have := h.hu; omega
theorem HIn.qlt {u d y1 y0 : Nat} (h : HIn u d y1 y0) : (u * H + d) / (y1 * H + y0) < H := by
  rw [Nat.div_lt_iff_lt_mul h.ypos]
  have h1 : (u + 1) * H ≤ (y1 * H + y0) * H := Nat.mul_le_mul_right _ h.hu
  have h2 := h.hd
  rw [Nat.add_mul, Nat.one_mul] at h1
  rw [Nat.mul_comm H]
  omega

theorem HInv.start {u d y1 y0 : Nat} (h : HIn u d y1 y0) : HInv u d y1 y0 (u / y1) (u % y1) ∧ u % y1 < H := by
  have hp := h.pos
  have h1 := h.hy1
  have hr := Nat.mod_lt u hp
  refine ⟨⟨by rw [Nat.mul_comm]; exact Nat.div_add_mod u y1, ?_, ?_⟩, by omega⟩
  · rcases Nat.lt_or_ge (u / y1) ((u * H + d) / (y1 * H + y0)) with hlt | hge
    · exfalso
      have h2 := (Nat.le_div_iff_mul_le h.ypos).1 hlt
      have h3 := Nat.div_add_mod u y1
      have h4 : u < (u / y1 + 1) * y1 := by rw [Nat.add_mul, Nat.one_mul, Nat.mul_comm]; omega
      have h5 : (u + 1) * H ≤ (u / y1 + 1) * y1 * H := Nat.mul_le_mul_right _ h4
      have h6 := h.hd
      rw [Nat.add_mul, Nat.one_mul] at h5
      have h7 : (u / y1).succ * (y1 * H + y0) = (u / y1 + 1) * y1 * H + (u / y1 + 1) * y0 := by rw [Nat.succ_eq_add_one, Nat.mul_add, Nat.mul_assoc]
      rw [h7] at h2
      omega
    · exact hge
  · have h2 : u < (H + 2) * y1 := by
      have h3 := h.hu
      have h4 := h.half
      have h5 := h.hy0
      rw [Nat.add_mul, Nat.mul_comm H]
      omega
    have h3 := (Nat.div_lt_iff_lt_mul hp).2 h2
    omega

theorem HInv.mulY {u d y1 y0 q r : Nat} (h : HInv u d y1 y0 q r) : q * (y1 * H + y0) + H * r = u * H + q * y0 := by
  have h1 : u * H = q * y1 * H + r * H := by rw [← h.1, Nat.add_mul]
  rw [Nat.mul_add, ← Nat.mul_assoc, h1, Nat.mul_comm H r]
  omega

theorem HInv.dec {u d y1 y0 q r : Nat} (h : HInv u d y1 y0 q r) (hi : HIn u d y1 y0) (ht : H ≤ q ∨ H * r + d < q * y0) :
    1 ≤ q ∧ HInv u d y1 y0 (q - 1) (r + y1) ∧ q - 1 ≤ H := by
  have hq : (u * H + d) / (y1 * H + y0) < q := by
    rcases ht with ht | ht
    · have := hi.qlt; omega
    · rw [Nat.div_lt_iff_lt_mul hi.ypos]
      have := h.mulY
      omega
  obtain ⟨h1, h2, h3⟩ := h
  have hq0 : 0 < q := Nat.lt_of_le_of_lt (Nat.zero_le _) hq
  obtain ⟨p, rfl⟩ : ∃ p, q = p + 1 := ⟨q - 1, by omega⟩
  refine ⟨by omega, ⟨?_, Nat.le_of_lt_succ hq, by omega⟩, by omega⟩
  rw [Nat.add_sub_cancel]
  rw [Nat.add_mul, Nat.one_mul] at h1
  omega

theorem HInv.test {u d y1 y0 q r : Nat} (h : HInv u d y1 y0 q r) (hi : HIn u d y1 y0) (ht : q * y0 ≤ H * r + d) : q = (u * H + d) / (y1 * H + y0) := by
  have := h.mulY
  have : q ≤ (u * H + d) / (y1 * H + y0) := (Nat.le_div_iff_mul_le hi.ypos).2 (by omega)
  have := h.2.1
  omega

theorem HInv.break_ {u d y1 y0 q r : Nat} (h : HInv u d y1 y0 q r) (hi : HIn u d y1 y0) (hq : q ≤ H) (hr : H ≤ r) : q = (u * H + d) / (y1 * H + y0) := by
  refine h.test hi ?_
  have h1 : q * y0 ≤ H * y0 := Nat.mul_le_mul_right _ hq
  have h2 : H * y0 ≤ H * r := Nat.mul_le_mul_left _ (by have := hi.hy0; omega)
  omega

/-- The two half steps make the whole. -/
theorem halves {N Y u d1 d0 q1 r1 q0 r0 : Nat} (hN : N = u * B + (d1 * H + d0)) (h1 : q1 = (u * H + d1) / Y) (e1 : r1 = (u * H + d1) % Y) (h0 : q0 = (r1 * H + d0) / Y) (e0 : r0 = (r1 * H + d0) % Y) (hY : 0 < Y) :
    N / Y = q1 * H + q0 ∧ N % Y = r0 := by
  have a1 : Y * q1 + r1 = u * H + d1 := by rw [h1, e1]; exact Nat.div_add_mod _ _
  have a0 : Y * q0 + r0 = r1 * H + d0 := by rw [h0, e0]; exact Nat.div_add_mod _ _
  have hr : r0 < Y := by rw [e0]; exact Nat.mod_lt _ hY
  have e : N = r0 + Y * (q1 * H + q0) := by
    rw [hN, ← HH, ← Nat.mul_assoc]
    have b1 : (Y * q1 + r1) * H = (u * H + d1) * H := by rw [a1]
    rw [Nat.add_mul, Nat.add_mul, Nat.mul_assoc] at b1
    rw [Nat.mul_add]
    omega
  exact ⟨by rw [e, Nat.add_mul_div_left _ _ hY, Nat.div_eq_of_lt hr, Nat.zero_add], by rw [e, Nat.add_mul_mod_self_left, Nat.mod_eq_of_lt hr]⟩

theorem scaled {n y p : Nat} (hp : 0 < p) : n * p / (y * p) = n / y ∧ n * p % (y * p) / p = n % y := by
  refine ⟨Nat.mul_div_mul_right n y hp, ?_⟩
  rw [Nat.mul_mod_mul_right, Nat.mul_div_cancel _ hp]

theorem pow_split {s : Nat} (h : s ≤ 64) : 2 ^ (64 - s) * 2 ^ s = B := by
  rw [← Nat.pow_add, Nat.sub_add_cancel h]; rfl

/-- hi, lo and y, all moved up by s, where y's highest bit is then set. -/
theorem moved {hi lo y s : Nat} (hs : s ≤ 64) (h : hi < y) (hlo : lo < B) (_hY : y * 2 ^ s < B) :
    (hi * B + lo) * 2 ^ s = (hi * 2 ^ s + lo / 2 ^ (64 - s)) * B + lo * 2 ^ s % B ∧ hi * 2 ^ s + lo / 2 ^ (64 - s) < y * 2 ^ s ∧ lo / 2 ^ (64 - s) < 2 ^ s := by
  have hp := pow_split hs
  have h1 : 0 < 2 ^ s := Nat.two_pow_pos s
  have h2 : 0 < 2 ^ (64 - s) := Nat.two_pow_pos _
  have e1 : lo * 2 ^ s / B = lo / 2 ^ (64 - s) := by rw [← hp]; exact Nat.mul_div_mul_right _ _ h1
  have e2 : lo / 2 ^ (64 - s) < 2 ^ s := by rw [Nat.div_lt_iff_lt_mul h2, Nat.mul_comm, hp]; exact hlo
  refine ⟨?_, ?_, e2⟩
  · have := Nat.div_add_mod (lo * 2 ^ s) B
    rw [e1, Nat.mul_comm B] at this
    rw [Nat.add_mul, Nat.add_mul, Nat.mul_assoc, Nat.mul_comm B, ← Nat.mul_assoc]
    omega
  · have : (hi + 1) * 2 ^ s ≤ y * 2 ^ s := Nat.mul_le_mul_right _ h
    rw [Nat.add_mul, Nat.one_mul] at this
    omega
end Tw
