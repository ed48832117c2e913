/-
  Plain numbers: shifts.
-/
import Derived.Test.YtjlfcnkndndgaaaDoorNum
namespace Tw

theorem pow64 {p : Nat} (h : p ≤ 64) : 2 ^ p * 2 ^ (64 - p) = B := by
  rw [← Nat.pow_add, Nat.add_sub_cancel' h]; rfl
theorem pow_B (w : Nat) : 2 ^ (64 * w) = B ^ w := by rw [Nat.pow_mul]; rfl

/-- A digit moved up by p: what stays, what goes over. -/
theorem shl_digit {x p : Nat} (hp : p ≤ 64) : x * 2 ^ p % B = 2 ^ p * (x % 2 ^ (64 - p)) ∧ x * 2 ^ p / B = x / 2 ^ (64 - p) := by
  rw [← pow64 hp, Nat.mul_comm x]
  exact ⟨Nat.mul_mod_mul_left _ _ _, Nat.mul_div_mul_left _ _ (Nat.two_pow_pos p)⟩

/-- i digits are moved up. -/
def UpInv (xs ts : List Nat) (W p i : Nat) : Prop := Ok ts ∧ val (ts.take (i + W + 1)) = val (xs.take i) * 2 ^ p * B ^ W ∧ dg ts (i + W) < 2 ^ p ∧ ∀ k, i + W < k → dg ts k = 0
theorem dg_replicate (n k : Nat) : dg (List.replicate n 0) k = 0 := by
  unfold dg; rw [List.getD_eq_getElem?_getD, List.getElem?_replicate]; split <;> rfl
theorem UpInv.start (xs : List Nat) (W p n : Nat) : UpInv xs (List.replicate n 0) W p 0 :=
  ⟨Ok.replicate n, by simp [List.take_replicate, val_replicate, val], by rw [dg_replicate]; exact Nat.two_pow_pos p, fun k _ => dg_replicate n k⟩
/-- What is put at i + W. -/
theorem UpInv.or_ {xs ts : List Nat} {W p i x : Nat} (h : UpInv xs ts W p i) (hp : p ≤ 64) : dg ts (i + W) ||| x * 2 ^ p % B = dg ts (i + W) + x * 2 ^ p % B := by
  rw [(shl_digit hp).1, Nat.or_comm, ← Nat.two_pow_add_eq_or_of_lt h.2.2.1, Nat.add_comm]
theorem UpInv.low {xs ts : List Nat} {W p i x : Nat} (h : UpInv xs ts W p i) (hp : p ≤ 64) : dg ts (i + W) + x * 2 ^ p % B < B := by
  have h1 := h.2.2.1
  have h2 : x % 2 ^ (64 - p) + 1 ≤ 2 ^ (64 - p) := Nat.mod_lt _ (Nat.two_pow_pos _)
  have h3 : 2 ^ p * (x % 2 ^ (64 - p) + 1) ≤ 2 ^ p * 2 ^ (64 - p) := Nat.mul_le_mul_left _ h2
  rw [pow64 hp, Nat.mul_add, Nat.mul_one] at h3
  rw [(shl_digit hp).1]
  omega
theorem UpInv.step {xs ts : List Nat} {W p i : Nat} (h : UpInv xs ts W p i) (hx : Ok xs) (hp : p ≤ 64) (hk : i + W + 1 < ts.length) :
    UpInv xs ((ts.set (i + W) (dg ts (i + W) + dg xs i * 2 ^ p % B)).set (i + W + 1) (dg xs i / 2 ^ (64 - p))) W p (i + 1) := by
  have hlow := h.low (x := dg xs i) hp
  obtain ⟨ho, hv, hc, hz⟩ := h
  have hxi := dg_lt hx i
  have hhi : dg xs i / 2 ^ (64 - p) < 2 ^ p := by rw [Nat.div_lt_iff_lt_mul (Nat.two_pow_pos _), pow64 hp]; exact hxi
  have hhB : dg xs i / 2 ^ (64 - p) < B := Nat.lt_of_le_of_lt (Nat.div_le_self _ _) hxi
  have h1 : i + W < ts.length := by omega
  refine ⟨(ho.set _ _ hlow).set _ _ hhB, ?_, ?_, fun k hk' => ?_⟩
  · rw [show i + 1 + W + 1 = (i + W + 1) + 1 from by omega, val_set_take _ _ _ (by rw [List.length_set]; exact hk), val_set_take _ _ _ h1]
    rw [val_take_succ'] at hv
    rw [val_take_succ', Nat.add_mul, Nat.add_mul, ← hv, ← (shl_digit hp).2]
    show _ + B ^ (i + W) * (dg ts (i + W) + dg xs i * 2 ^ p % B) + _ = _ + B ^ (i + W) * dg ts (i + W) + B ^ i * dg xs i * 2 ^ p * B ^ W
    have e := Nat.div_add_mod (dg xs i * 2 ^ p) B
    have e2 : B ^ i * dg xs i * 2 ^ p * B ^ W = B ^ (i + W) * (dg xs i * 2 ^ p) := by
      rw [Nat.pow_add, Nat.mul_assoc (B ^ i), Nat.mul_assoc (B ^ i), Nat.mul_assoc (B ^ i), Nat.mul_comm _ (B ^ W)]
    rw [e2, Nat.mul_add, Nat.pow_succ, Nat.mul_assoc]
    conv => rhs; rw [← e, Nat.mul_add]
    omega
  · rw [show i + 1 + W = i + W + 1 from by omega]
    unfold dg
    rw [List.getD_eq_getElem?_getD, List.getElem?_set_self (by rw [List.length_set]; exact hk)]
    exact hhi
  · rw [dg_set_ne (by omega), dg_set_ne (by omega)]; exact hz k (by omega)
theorem UpInv.done {xs ts : List Nat} {W p n : Nat} (h : UpInv xs ts W p n) (hx : Ok xs) (hn : nl (val xs) ≤ n) (hl : ts.length = n + W + 1) : val ts = val xs * 2 ^ (64 * W + p) := by
  have := h.2.1
  rw [List.take_of_length_le (by omega), val_take_nl hx hn] at this
  rw [this, Nat.add_comm (64 * W), Nat.pow_add, pow_B, Nat.mul_assoc]

/-- i digits are moved down. -/
def DownInv (xs us : List Nat) (W p i : Nat) : Prop := Ok us ∧ 2 ^ p * val (us.take i) + dg xs W % 2 ^ p = val ((xs.drop W).take i) + dg xs (W + i) % 2 ^ p * B ^ i ∧ ∀ k, i ≤ k → k < xs.length → dg us k = dg xs k
theorem DownInv.start {zs : List Nat} (W p n : Nat) (h : Ok zs) : DownInv (zs.take n) zs W p 0 := ⟨h, by simp [val], fun k _ hk => by rw [List.length_take] at hk; rw [dg_take (by omega)]⟩
/-- What the reader of the first digits tells. -/
theorem DownInv.read {xs us : List Nat} {W p i k : Nat} (h : DownInv xs us W p i) (hk : i ≤ k) (hl : xs.length ≤ us.length) : dg (us.take xs.length) k = dg xs k := by
  rcases Nat.lt_or_ge k xs.length with hk' | hk'
  · rw [dg_take hk']; exact h.2.2 k hk hk'
  · rw [dg_past hk', dg_past (by rw [List.length_take]; omega)]
theorem shr_digit {x y p : Nat} (hx : x < B) (hp : p ≤ 64) : x / 2 ^ p ||| y * 2 ^ (64 - p) % B = x / 2 ^ p + y % 2 ^ p * 2 ^ (64 - p) ∧ x / 2 ^ p + y % 2 ^ p * 2 ^ (64 - p) < B := by
  have e1 : y * 2 ^ (64 - p) % B = 2 ^ (64 - p) * (y % 2 ^ p) := by
    have := (shl_digit (x := y) (p := 64 - p) (by omega)).1
    rwa [show 64 - (64 - p) = p from by omega] at this
  have e2 : x / 2 ^ p < 2 ^ (64 - p) := by rw [Nat.div_lt_iff_lt_mul (Nat.two_pow_pos _), Nat.mul_comm, pow64 hp]; exact hx
  have e3 : 2 ^ (64 - p) * (y % 2 ^ p + 1) ≤ 2 ^ (64 - p) * 2 ^ p := Nat.mul_le_mul_left _ (Nat.mod_lt _ (Nat.two_pow_pos _))
  rw [Nat.mul_comm _ (2 ^ p), pow64 hp, Nat.mul_add, Nat.mul_one] at e3
  refine ⟨?_, ?_⟩
  · rw [e1, Nat.or_comm, ← Nat.two_pow_add_eq_or_of_lt e2, Nat.add_comm, Nat.mul_comm (2 ^ (64 - p))]
  · rw [Nat.mul_comm (y % 2 ^ p)]; omega
theorem DownInv.step {xs us : List Nat} {W p i : Nat} (h : DownInv xs us W p i) (hx : Ok xs) (hp : p ≤ 64) (hk : i < us.length) :
    DownInv xs (us.set i (dg xs (W + i) / 2 ^ p + dg xs (W + i + 1) % 2 ^ p * 2 ^ (64 - p))) W p (i + 1) := by
  obtain ⟨ho, hv, hr⟩ := h
  have hlow := (shr_digit (x := dg xs (W + i)) (y := dg xs (W + i + 1)) (dg_lt hx _) hp).2
  refine ⟨ho.set _ _ hlow, ?_, fun k hk' hl => ?_⟩
  · rw [val_set_take _ _ _ hk, val_take_succ']
    show _ = val ((xs.drop W).take i) + B ^ i * dg (xs.drop W) i + _
    rw [dg_drop, Nat.mul_add, Nat.pow_succ, ← Nat.add_assoc W i 1]
    generalize dg xs (W + i) = x at hv ⊢
    generalize dg xs (W + i + 1) % 2 ^ p = y at ⊢
    have e := Nat.div_add_mod x (2 ^ p)
    have e1 : 2 ^ p * (B ^ i * (x / 2 ^ p + y * 2 ^ (64 - p))) = B ^ i * (2 ^ p * (x / 2 ^ p)) + y * (B ^ i * B) := by
      rw [Nat.mul_left_comm, Nat.mul_add, Nat.mul_add, Nat.mul_left_comm (2 ^ p) y, pow64 hp, Nat.mul_left_comm (B ^ i) y]
    rw [e1]
    have e2 : B ^ i * (2 ^ p * (x / 2 ^ p)) + x % 2 ^ p * B ^ i = B ^ i * x := by
      rw [Nat.mul_comm (x % 2 ^ p), ← Nat.mul_add, e]
    omega
  · rw [dg_set_ne (by omega)]; exact hr k (by omega) hl
theorem DownInv.done {xs us : List Nat} {W p k : Nat} (h : DownInv xs us W p k) (hx : Ok xs) (hk : W + k = xs.length) : val (us.take k) = val xs / 2 ^ (64 * W + p) := by
  obtain ⟨ho, hv, hr⟩ := h
  rw [dg_past (xs := xs) (k := W + k) (by omega), Nat.zero_mod, Nat.zero_mul, Nat.add_zero, List.take_of_length_le (l := xs.drop W) (by rw [List.length_drop]; omega)] at hv
  have h1 : dg xs W % 2 ^ p < 2 ^ p := Nat.mod_lt _ (Nat.two_pow_pos _)
  have h2 : val (us.take k) = val (xs.drop W) / 2 ^ p := by
    rw [← hv, Nat.mul_add_div (Nat.two_pow_pos _), Nat.div_eq_of_lt h1, Nat.add_zero]
  have h3 : val (xs.drop W) = val xs / B ^ W := by
    have e := val_split xs W
    have e1 := val_take_lt hx W
    rw [e, Nat.add_mul_div_left _ _ (Nat.pow_pos B_pos), Nat.div_eq_of_lt e1, Nat.zero_add]
  rw [h2, h3, Nat.div_div_eq_div_mul, Nat.pow_add, pow_B]
end Tw
