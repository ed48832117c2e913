/-
  Plain numbers: lists of digits of 64 bits, what they count, their one form. No program in sight.
-/
namespace Tw

def B : Nat := 18446744073709551616
theorem B_eq : B = 18446744073709551616 := rfl
theorem B_pos : 0 < B := by rw [B_eq]; omega
theorem B_two : 2 ≤ B := by rw [B_eq]; omega

def val : List Nat → Nat
  | [] => 0
  | x :: xs => x + B * val xs

theorem val_nil : val [] = 0 := rfl
theorem val_cons (x : Nat) (xs : List Nat) : val (x :: xs) = x + B * val xs := rfl

theorem val_append (xs ys : List Nat) : val (xs ++ ys) = val xs + B ^ xs.length * val ys := by
  induction xs with
  | nil => simp [val]
  | cons x xs ih =>
    simp only [List.cons_append, val, ih, List.length_cons, Nat.pow_succ, Nat.mul_add]
    rw [show B * (B ^ xs.length * val ys) = B ^ xs.length * B * val ys from by rw [Nat.mul_comm (B ^ xs.length) B, Nat.mul_assoc]]
    omega

theorem val_snoc (xs : List Nat) (x : Nat) : val (xs ++ [x]) = val xs + B ^ xs.length * x := by
  rw [val_append]; simp [val]

theorem val_replicate (n : Nat) : val (List.replicate n 0) = 0 := by
  induction n with
  | zero => rfl
  | succ n ih => simp [List.replicate_succ, val, ih]

def Ok (xs : List Nat) : Prop := ∀ x ∈ xs, x < B

theorem Ok.nil : Ok [] := fun _ h => by cases h
theorem Ok.cons {x : Nat} {xs : List Nat} (hx : x < B) (h : Ok xs) : Ok (x :: xs) := fun y hy => by
  rcases List.mem_cons.1 hy with rfl | hy
  · exact hx
  · exact h y hy
theorem Ok.head {x : Nat} {xs : List Nat} (h : Ok (x :: xs)) : x < B := h x (by simp)
theorem Ok.tail {x : Nat} {xs : List Nat} (h : Ok (x :: xs)) : Ok xs := fun y hy => h y (by simp [hy])
theorem Ok.append {xs ys : List Nat} (h : Ok xs) (k : Ok ys) : Ok (xs ++ ys) := fun y hy => by
  rcases List.mem_append.1 hy with hy | hy
  · exact h y hy
  · exact k y hy
theorem Ok.take {xs : List Nat} (h : Ok xs) (n : Nat) : Ok (xs.take n) := fun y hy => h y (List.mem_of_mem_take hy)
theorem Ok.drop {xs : List Nat} (h : Ok xs) (n : Nat) : Ok (xs.drop n) := fun y hy => h y (List.mem_of_mem_drop hy)
theorem Ok.get {xs : List Nat} (h : Ok xs) (n : Nat) : xs.getD n 0 < B := by
  rw [List.getD_eq_getElem?_getD]
  rcases Nat.lt_or_ge n xs.length with hn | hn
  · rw [List.getElem?_eq_getElem hn]; exact h _ (List.getElem_mem hn)
  · rw [List.getElem?_eq_none hn]; exact B_pos
theorem Ok.replicate (n : Nat) : Ok (List.replicate n 0) := fun y hy => by
  rw [List.eq_of_mem_replicate hy]; exact B_pos
theorem Ok.set {xs : List Nat} (h : Ok xs) (i x : Nat) (hx : x < B) : Ok (xs.set i x) := fun y hy => by
  rcases List.mem_or_eq_of_mem_set hy with hy | rfl
  · exact h y hy
  · exact hx

theorem val_lt {xs : List Nat} (h : Ok xs) : val xs < B ^ xs.length := by
  induction xs with
  | nil => simp [val]
  | cons x xs ih =>
    have h1 := ih h.tail
    have h2 := h.head
    simp only [val, List.length_cons, Nat.pow_succ]
    have h3 : B * (val xs + 1) ≤ B * B ^ xs.length := Nat.mul_le_mul_left _ h1
    rw [Nat.mul_comm (B ^ xs.length) B, ]
    rw [Nat.mul_add] at h3
    omega

/-- The digits of n, the least first, none on top that is 0. -/
def limbsF : Nat → Nat → List Nat
  | 0, _ => []
  | f + 1, n => if n = 0 then [] else n % B :: limbsF f (n / B)
def limbs (n : Nat) : List Nat := limbsF n n

theorem div_B_lt {n : Nat} (h : n ≠ 0) : n / B < n := Nat.div_lt_self (by omega) (by rw [B_eq]; omega)

theorem limbsF_eq (f g n : Nat) (hf : n ≤ f) (hg : n ≤ g) : limbsF f n = limbsF g n := by
  induction f generalizing g n with
  | zero => have : n = 0 := by omega
            subst this; cases g <;> simp [limbsF]
  | succ f ih =>
    cases g with
    | zero => have : n = 0 := by omega
              subst this; simp [limbsF]
    | succ g =>
      simp only [limbsF]
      by_cases h : n = 0
      · simp [h]
      · rw [if_neg h, if_neg h]
        have := div_B_lt h
        rw [ih g (n / B) (by omega) (by omega)]

theorem limbs_zero : limbs 0 = [] := rfl
theorem limbs_pos {n : Nat} (h : n ≠ 0) : limbs n = n % B :: limbs (n / B) := by
  have h1 := div_B_lt h
  unfold limbs
  conv => lhs; rw [show n = (n - 1) + 1 from by omega]
  rw [limbsF, show n - 1 + 1 = n from by omega, if_neg h, limbsF_eq (n - 1) (n / B) (n / B) (by omega) (Nat.le_refl _)]

theorem limbs_ind {p : Nat → Prop} (h0 : p 0) (h : ∀ n, n ≠ 0 → p (n / B) → p n) (n : Nat) : p n := by
  induction n using Nat.strongRecOn with
  | ind n ih =>
    by_cases hn : n = 0
    · subst hn; exact h0
    · exact h n hn (ih _ (div_B_lt hn))

theorem val_limbs (n : Nat) : val (limbs n) = n := by
  induction n using limbs_ind with
  | h0 => rfl
  | h n hn ih => rw [limbs_pos hn, val, ih, Nat.mod_add_div]

theorem ok_limbs (n : Nat) : Ok (limbs n) := by
  induction n using limbs_ind with
  | h0 => exact Ok.nil
  | h n hn ih => rw [limbs_pos hn]; exact Ok.cons (Nat.mod_lt _ B_pos) ih

/-- How many digits n has. -/
def nl (n : Nat) : Nat := (limbs n).length

theorem nl_zero : nl 0 = 0 := rfl
theorem nl_pos {n : Nat} (h : n ≠ 0) : nl n = nl (n / B) + 1 := by unfold nl; rw [limbs_pos h]; rfl
theorem nl_eq_zero {n : Nat} : nl n = 0 ↔ n = 0 := by
  constructor
  · intro h
    by_cases hn : n = 0
    · exact hn
    · rw [nl_pos hn] at h; omega
  · rintro rfl; rfl
theorem limbs_eq_nil {n : Nat} : limbs n = [] ↔ n = 0 := by
  rw [← nl_eq_zero]; unfold nl; exact List.length_eq_zero_iff.symm

theorem lt_pow_nl (n : Nat) : n < B ^ nl n := by
  have := val_lt (ok_limbs n); rw [val_limbs] at this; exact this

theorem nl_le_of_lt {n k : Nat} (h : n < B ^ k) : nl n ≤ k := by
  induction k generalizing n with
  | zero => simp at h; subst h; simp [nl_zero]
  | succ k ih =>
    by_cases hn : n = 0
    · subst hn; simp [nl_zero]
    · rw [nl_pos hn]
      have : n / B < B ^ k := by
        rw [Nat.div_lt_iff_lt_mul B_pos]; rw [Nat.pow_succ] at h; exact h
      have := ih this
      omega
theorem nl_le_iff {n k : Nat} : nl n ≤ k ↔ n < B ^ k :=
  ⟨fun h => Nat.lt_of_lt_of_le (lt_pow_nl n) (Nat.pow_le_pow_right B_pos h), nl_le_of_lt⟩
theorem pow_le_of_nl {n k : Nat} (h : k < nl n) : B ^ k ≤ n := by
  rcases Nat.lt_or_ge n (B ^ k) with h' | h'
  · have := nl_le_of_lt h'; omega
  · exact h'
theorem nl_mono {a b : Nat} (h : a ≤ b) : nl a ≤ nl b := nl_le_of_lt (Nat.lt_of_le_of_lt h (lt_pow_nl b))
theorem nl_val {xs : List Nat} (h : Ok xs) : nl (val xs) ≤ xs.length := nl_le_of_lt (val_lt h)

/-- What lies beyond the digits that count is 0. -/
theorem limbs_val {xs : List Nat} (h : Ok xs) : xs = limbs (val xs) ++ List.replicate (xs.length - nl (val xs)) 0 := by
  induction xs with
  | nil => rfl
  | cons x xs ih =>
    have ih := ih h.tail
    have hx := h.head
    have hl := nl_val h.tail
    by_cases h0 : val (x :: xs) = 0
    · rw [h0]
      have h1 : x = 0 ∧ val xs = 0 := by
        rw [val_cons] at h0
        have : B * val xs = 0 := by omega
        rcases Nat.mul_eq_zero.1 this with h | h
        · have := B_pos; omega
        · exact ⟨by omega, h⟩
      rw [h1.2] at ih
      simp [limbs_zero, nl_zero] at ih ⊢
      rw [List.replicate_succ, h1.1, ← ih]
    · rw [nl_pos h0, limbs_pos h0]
      have e1 : val (x :: xs) % B = x := by rw [val_cons, Nat.add_mul_mod_self_left, Nat.mod_eq_of_lt hx]
      have e2 : val (x :: xs) / B = val xs := by rw [val_cons, Nat.add_mul_div_left _ _ B_pos, Nat.div_eq_of_lt hx, Nat.zero_add]
      rw [e1, e2, List.length_cons, Nat.add_sub_add_right, List.cons_append, ← ih]

theorem limbs_take {xs : List Nat} (h : Ok xs) : xs.take (nl (val xs)) = limbs (val xs) := by
  have e := limbs_val h
  generalize val xs = v at e ⊢
  rw [e, List.take_append_of_le_length (by unfold nl; exact Nat.le_refl _), List.take_of_length_le (by unfold nl; exact Nat.le_refl _)]

theorem getD_past {xs : List Nat} (h : Ok xs) {i : Nat} (hi : nl (val xs) ≤ i) : xs.getD i 0 = 0 := by
  rw [List.getD_eq_getElem?_getD, limbs_val h, List.getElem?_append_right (by exact hi), List.getElem?_replicate]
  split <;> rfl

theorem getD_limbs {xs : List Nat} (h : Ok xs) (i : Nat) : xs.getD i 0 = (limbs (val xs)).getD i 0 := by
  rcases Nat.lt_or_ge i (nl (val xs)) with hi | hi
  · rw [← limbs_take h, List.getD_eq_getElem?_getD, List.getD_eq_getElem?_getD, List.getElem?_take, if_pos hi]
  · rw [getD_past h hi, List.getD_eq_getElem?_getD, List.getElem?_eq_none (by exact hi)]; rfl

theorem top_ne {n : Nat} (h : n ≠ 0) : (limbs n).getD (nl n - 1) 0 ≠ 0 := by
  intro h0
  have hp : 0 < nl n := by have := nl_pos h; omega
  have e : limbs n = (limbs n).take (nl n - 1) ++ [0] := by
    have hlen : nl n - 1 < (limbs n).length := by unfold nl at *; omega
    have h1 : (limbs n).drop (nl n - 1) = [(limbs n).getD (nl n - 1) 0] := by
      rw [List.drop_eq_getElem_cons hlen, List.drop_eq_nil_of_le (by unfold nl at *; omega), List.getD_eq_getElem?_getD, List.getElem?_eq_getElem hlen]; rfl
    rw [h0] at h1
    rw [← h1, List.take_append_drop]
  have : val (limbs n) < B ^ (nl n - 1) := by
    rw [e, val_snoc, Nat.mul_zero, Nat.add_zero]
    have := val_lt ((ok_limbs n).take (nl n - 1))
    rw [List.length_take, Nat.min_eq_left (by unfold nl; omega)] at this
    exact this
  rw [val_limbs] at this
  have := nl_le_of_lt this
  omega

/-- A list with no 0 on top is the digits of what it counts. -/
theorem limbs_of {xs : List Nat} (h : Ok xs) (ht : xs = [] ∨ xs.getD (xs.length - 1) 0 ≠ 0) : limbs (val xs) = xs := by
  have hl : nl (val xs) = xs.length := by
    have h1 := nl_val h
    rcases Nat.lt_or_ge (nl (val xs)) xs.length with h2 | h2
    · rcases ht with rfl | ht
      · simp at h2
      · exact absurd (getD_past h (by omega)) ht
    · omega
  conv => rhs; rw [limbs_val h]
  rw [hl]; simp

theorem limbs_inj {a b : Nat} (h : limbs a = limbs b) : a = b := by rw [← val_limbs a, ← val_limbs b, h]

/-- The number of digits that count, found from the top. -/
theorem nl_of {xs : List Nat} (h : Ok xs) {n : Nat} (hn : n ≤ xs.length) (h0 : ∀ i, n ≤ i → i < xs.length → xs.getD i 0 = 0) (ht : n = 0 ∨ xs.getD (n - 1) 0 ≠ 0) : nl (val xs) = n := by
  rcases Nat.lt_trichotomy (nl (val xs)) n with h1 | h1 | h1
  · rcases ht with rfl | ht
    · omega
    · exact absurd (getD_past h (by omega)) ht
  · exact h1
  · have hv : val xs ≠ 0 := fun e => by rw [e, nl_zero] at h1; omega
    have hl := nl_val h
    have := top_ne hv
    rw [← getD_limbs h] at this
    exact absurd (h0 _ (by omega) (by omega)) this

theorem val_take_succ (xs : List Nat) (k : Nat) (h : k < xs.length) : val (xs.take (k + 1)) = val (xs.take k) + B ^ k * xs.getD k 0 := by
  rw [List.take_succ_eq_append_getElem h, val_snoc, List.length_take, Nat.min_eq_left (by omega), List.getD_eq_getElem?_getD, List.getElem?_eq_getElem h]; rfl
theorem val_take_past (xs : List Nat) (k : Nat) (h : xs.length ≤ k) : val (xs.take k) = val xs := by rw [List.take_of_length_le h]
theorem val_take_succ' (xs : List Nat) (k : Nat) : val (xs.take (k + 1)) = val (xs.take k) + B ^ k * xs.getD k 0 := by
  rcases Nat.lt_or_ge k xs.length with h | h
  · exact val_take_succ xs k h
  · rw [val_take_past _ _ h, val_take_past _ _ (by omega), List.getD_eq_getElem?_getD, List.getElem?_eq_none h]; simp
theorem val_drop (xs : List Nat) (k : Nat) (h : k ≤ xs.length) : val xs = val (xs.take k) + B ^ k * val (xs.drop k) := by
  conv => lhs; rw [← List.take_append_drop k xs, val_append, List.length_take, Nat.min_eq_left h]

/-- Digit k; 0 where there is none. -/
def dg (xs : List Nat) (k : Nat) : Nat := xs.getD k 0
theorem dg_get {xs : List Nat} {k : Nat} (h : k < xs.length) : xs[k]? = some (dg xs k) := by
  unfold dg; rw [List.getD_eq_getElem?_getD, List.getElem?_eq_getElem h]; rfl
theorem dg_lt {xs : List Nat} (h : Ok xs) (k : Nat) : dg xs k < B := h.get k
theorem dg_past {xs : List Nat} {k : Nat} (h : xs.length ≤ k) : dg xs k = 0 := by
  unfold dg; rw [List.getD_eq_getElem?_getD, List.getElem?_eq_none h]; rfl

theorem val_congr {xs ys : List Nat} (h : ∀ i, dg xs i = dg ys i) : val xs = val ys := by
  induction xs generalizing ys with
  | nil =>
    induction ys with
    | nil => rfl
    | cons y ys ih =>
      have h0 := h 0
      simp only [dg, List.getD_cons_zero, List.getD_nil] at h0
      have := ih (fun i => by have := h (i + 1); simpa [dg] using this)
      rw [val_cons, ← h0, ← this]; rfl
  | cons x xs ih =>
    cases ys with
    | nil =>
      have h0 := h 0
      simp only [dg, List.getD_cons_zero, List.getD_nil] at h0
      have := @ih [] (fun i => by have := h (i + 1); simpa [dg] using this)
      rw [val_cons, h0, this]; rfl
    | cons y ys =>
      have h0 := h 0
      simp only [dg, List.getD_cons_zero] at h0
      rw [val_cons, val_cons, h0, ih (fun i => by have := h (i + 1); simpa [dg] using this)]
theorem dg_drop (xs : List Nat) (k i : Nat) : dg (xs.drop k) i = dg xs (k + i) := by
  unfold dg; rw [List.getD_eq_getElem?_getD, List.getD_eq_getElem?_getD, List.getElem?_drop]
theorem dg_take {xs : List Nat} {k i : Nat} (h : i < k) : dg (xs.take k) i = dg xs i := by
  unfold dg; rw [List.getD_eq_getElem?_getD, List.getD_eq_getElem?_getD, List.getElem?_take, if_pos h]
theorem val_split (xs : List Nat) (k : Nat) : val xs = val (xs.take k) + B ^ k * val (xs.drop k) := by
  rcases Nat.lt_or_ge xs.length k with h | h
  · rw [List.take_of_length_le (by omega), List.drop_eq_nil_of_le (by omega), val_nil, Nat.mul_zero, Nat.add_zero]
  · exact val_drop xs k h
theorem val_take_lt {xs : List Nat} (h : Ok xs) (k : Nat) : val (xs.take k) < B ^ k :=
  Nat.lt_of_lt_of_le (val_lt (h.take k)) (Nat.pow_le_pow_right B_pos (by rw [List.length_take]; omega))

theorem val_take_nl {xs : List Nat} (h : Ok xs) {n : Nat} (hn : nl (val xs) ≤ n) : val (xs.take n) = val xs := by
  have e : val (xs.drop n) = 0 := by
    have := val_congr (xs := xs.drop n) (ys := []) (fun i => by rw [dg_drop]; unfold dg; rw [getD_past h (by omega)]; rfl)
    rw [this]; rfl
  have := val_split xs n
  rw [e, Nat.mul_zero, Nat.add_zero] at this
  exact this.symm
theorem take_set_succ (zs : List Nat) (k v : Nat) (h : k < zs.length) : (zs.set k v).take (k + 1) = zs.take k ++ [v] := by
  rw [List.take_succ_eq_append_getElem (by simpa using h), List.take_set_of_le (Nat.le_refl k), List.getElem_set_self]
theorem val_set_take (zs : List Nat) (k v : Nat) (h : k < zs.length) : val ((zs.set k v).take (k + 1)) = val (zs.take k) + B ^ k * v := by
  rw [take_set_succ zs k v h, val_snoc, List.length_take, Nat.min_eq_left (by omega)]

/-- The first k digits of a sum are made; cy is carried. -/
def AddInv (xs ys zs : List Nat) (k cy : Nat) : Prop := Ok zs ∧ cy ≤ 1 ∧ val (zs.take k) + B ^ k * cy = val (xs.take k) + val (ys.take k)
theorem AddInv.start (xs ys : List Nat) (n : Nat) : AddInv xs ys (List.replicate n 0) 0 0 := ⟨Ok.replicate n, by omega, by simp [val]⟩
theorem AddInv.step {xs ys zs : List Nat} {k cy : Nat} (h : AddInv xs ys zs k cy) (hx : Ok xs) (hy : Ok ys) (hk : k < zs.length) :
    AddInv xs ys (zs.set k ((dg xs k + dg ys k + cy) % B)) (k + 1) ((dg xs k + dg ys k + cy) / B) := by
  obtain ⟨ho, hc, hv⟩ := h
  have h1 := dg_lt hx k
  have h2 := dg_lt hy k
  refine ⟨ho.set _ _ (Nat.mod_lt _ B_pos), ?_, ?_⟩
  · have : (dg xs k + dg ys k + cy) / B < 2 := by rw [Nat.div_lt_iff_lt_mul B_pos]; omega
    omega
  · rw [val_set_take _ _ _ hk, val_take_succ', val_take_succ', Nat.pow_succ, Nat.mul_assoc, Nat.add_assoc, ← Nat.mul_add]
    show val (zs.take k) + B ^ k * _ = _ + B ^ k * dg xs k + (_ + B ^ k * dg ys k)
    rw [Nat.mod_add_div, Nat.mul_add, Nat.mul_add]
    omega
theorem AddInv.done {xs ys zs : List Nat} {n cy : Nat} (h : AddInv xs ys zs n cy) (hx : Ok xs) (hy : Ok ys) (hl : zs.length = n + 1) (h1 : nl (val xs) ≤ n) (h2 : nl (val ys) ≤ n) : Ok (zs.set n cy) ∧ val (zs.set n cy) = val xs + val ys := by
  obtain ⟨ho, hc, hv⟩ := h
  refine ⟨ho.set _ _ (by have := B_two; omega), ?_⟩
  have := val_set_take zs n cy (by omega)
  rw [List.take_of_length_le (by simp; omega)] at this
  rw [this, hv, val_take_nl hx h1, val_take_nl hy h2]

/-- The first k digits of a difference are made; bw is borrowed. -/
def SubInv (xs ys zs : List Nat) (k bw : Nat) : Prop := Ok zs ∧ bw ≤ 1 ∧ val (zs.take k) + val (ys.take k) = val (xs.take k) + B ^ k * bw ∧ ∀ i, k ≤ i → dg zs i = dg xs i
theorem SubInv.start {xs : List Nat} (ys : List Nat) (h : Ok xs) : SubInv xs ys xs 0 0 := ⟨h, by omega, by simp [val], fun _ _ => rfl⟩
theorem dg_set_ne {zs : List Nat} {k i x : Nat} (h : k ≠ i) : dg (zs.set k x) i = dg zs i := by
  unfold dg; rw [List.getD_eq_getElem?_getD, List.getD_eq_getElem?_getD, List.getElem?_set_ne h]
theorem sub_digit {x y b : Nat} (hx : x < B) (hy : y < B) (hb : b ≤ 1) : (x + B - y - b) % B + y + b = x + B * (if x < y + b then 1 else 0) := by
  by_cases h : x < y + b
  · rw [if_pos h, Nat.mod_eq_of_lt (by omega)]; omega
  · rw [if_neg h, show x + B - y - b = (x - y - b) + B from by omega, Nat.add_mod_right, Nat.mod_eq_of_lt (by omega)]; omega
theorem SubInv.step {xs ys zs : List Nat} {k bw : Nat} (h : SubInv xs ys zs k bw) (_hx : Ok xs) (hy : Ok ys) (hk : k < zs.length) :
    SubInv xs ys (zs.set k ((dg zs k + B - dg ys k - bw) % B)) (k + 1) (if dg zs k < dg ys k + bw then 1 else 0) := by
  obtain ⟨ho, hc, hv, hr⟩ := h
  have h1 := dg_lt ho k
  have h2 := dg_lt hy k
  have h3 := sub_digit h1 h2 hc
  refine ⟨ho.set _ _ (Nat.mod_lt _ B_pos), by split <;> omega, ?_, fun i hi => ?_⟩
  · rw [val_set_take _ _ _ hk, val_take_succ', val_take_succ', Nat.pow_succ, Nat.mul_assoc]
    rw [← show dg zs k = xs.getD k 0 from hr k (Nat.le_refl _)]
    show val (zs.take k) + B ^ k * _ + (_ + B ^ k * dg ys k) = _ + B ^ k * dg zs k + B ^ k * _
    generalize (dg zs k + B - dg ys k - bw) % B = d at h3 ⊢
    generalize (B * if dg zs k < dg ys k + bw then 1 else 0) = e at h3 ⊢
    have h4 : B ^ k * (d + dg ys k + bw) = B ^ k * (dg zs k + e) := by rw [h3]
    rw [Nat.mul_add, Nat.mul_add, Nat.mul_add] at h4
    omega
  · rw [dg_set_ne (by omega)]; exact hr i (by omega)
theorem SubInv.done {xs ys zs : List Nat} {n bw : Nat} (h : SubInv xs ys zs n bw) (_hz : Ok xs) (hy : Ok ys) (hn : nl (val ys) ≤ n) (hle : val ys ≤ val (xs.take n)) : bw = 0 ∧ val (zs.take n) = val (xs.take n) - val ys := by
  obtain ⟨ho, hc, hv, hr⟩ := h
  rw [val_take_nl hy hn] at hv
  have h1 := val_take_lt ho n
  rcases Nat.eq_zero_or_pos bw with rfl | hb
  · exact ⟨rfl, by omega⟩
  · obtain rfl : bw = 1 := by omega
    rw [Nat.mul_one] at hv
    omega

/-- i rows of a product are made. -/
def MulOut (xs ys zs : List Nat) (m i : Nat) : Prop := Ok zs ∧ val (zs.take (i + m)) = val (xs.take i) * val (ys.take m)
/-- j places of row i, by the digit x, are added to zs0; cy is carried. -/
def MulIn (x : Nat) (ys zs0 zs : List Nat) (i j cy : Nat) : Prop := Ok zs ∧ cy < B ∧ val (zs.take (i + j)) + B ^ (i + j) * cy = val (zs0.take (i + j)) + B ^ i * (x * val (ys.take j)) ∧ ∀ k, i + j ≤ k → dg zs k = dg zs0 k
theorem MulOut.start (xs ys : List Nat) (m l : Nat) : MulOut xs ys (List.replicate l 0) m 0 := ⟨Ok.replicate l, by simp [List.take_replicate, val_replicate, val]⟩
theorem MulIn.start (x : Nat) (ys : List Nat) {zs : List Nat} (h : Ok zs) (i : Nat) : MulIn x ys zs zs i 0 0 := ⟨h, B_pos, by simp [val], fun _ _ => rfl⟩
/-- A digit's product, with what is there and what is carried, in two additions. -/
theorem mul_digit {x y z c : Nat} (hx : x < B) (hy : y < B) (hz : z < B) (hc : c < B) :
    ((x * y % B + z) % B + c) % B + B * (x * y / B + (x * y % B + z) / B + ((x * y % B + z) % B + c) / B) = x * y + z + c ∧ x * y / B + (x * y % B + z) / B + ((x * y % B + z) % B + c) / B < B := by
  have h1 := Nat.div_add_mod (x * y) B
  have h2 := Nat.div_add_mod (x * y % B + z) B
  have h3 := Nat.div_add_mod ((x * y % B + z) % B + c) B
  have e : ((x * y % B + z) % B + c) % B + B * (x * y / B + (x * y % B + z) / B + ((x * y % B + z) % B + c) / B) = x * y + z + c := by
    rw [Nat.mul_add, Nat.mul_add]; omega
  refine ⟨e, ?_⟩
  have h4 : x * y ≤ (B - 1) * (B - 1) := Nat.mul_le_mul (by omega) (by omega)
  have h5 : (B - 1) * (B - 1) + (B - 1) + (B - 1) < B * B := by decide
  have h6 : B * (x * y / B + (x * y % B + z) / B + ((x * y % B + z) % B + c) / B) < B * B := by omega
  exact Nat.lt_of_mul_lt_mul_left h6
theorem MulIn.step {x : Nat} {ys zs0 zs : List Nat} {i j cy lo hi : Nat} (h : MulIn x ys zs0 zs i j cy) (hk : i + j < zs.length) (hlo : lo < B) (hhi : hi < B) (he : lo + B * hi = x * dg ys j + dg zs (i + j) + cy) :
    MulIn x ys zs0 (zs.set (i + j) lo) i (j + 1) hi := by
  obtain ⟨ho, hc, hv, hr⟩ := h
  refine ⟨ho.set _ _ hlo, hhi, ?_, fun k hk => ?_⟩
  · rw [← Nat.add_assoc, val_set_take _ _ _ hk, val_take_succ', val_take_succ', Nat.pow_succ, Nat.mul_assoc]
    rw [← show dg zs (i + j) = zs0.getD (i + j) 0 from hr _ (Nat.le_refl _)]
    show val (zs.take (i + j)) + B ^ (i + j) * lo + _ = _ + _ + B ^ i * (x * (_ + B ^ j * dg ys j))
    have h1 : B ^ (i + j) * (lo + B * hi) = B ^ (i + j) * (x * dg ys j + dg zs (i + j) + cy) := by rw [he]
    rw [Nat.mul_add, Nat.mul_add, Nat.mul_add] at h1
    have h2 : B ^ i * (x * (val (ys.take j) + B ^ j * dg ys j)) = B ^ i * (x * val (ys.take j)) + B ^ (i + j) * (x * dg ys j) := by
      rw [Nat.mul_add, Nat.mul_add, Nat.pow_add, Nat.mul_assoc, Nat.mul_left_comm x]
    rw [h2]
    omega
  · rw [dg_set_ne (by omega)]; exact hr k (by omega)
theorem MulIn.done {xs ys zs0 zs : List Nat} {i m cy : Nat} (h : MulIn (dg xs i) ys zs0 zs i m cy) (h0 : MulOut xs ys zs0 m i) (hk : i + m < zs.length) : MulOut xs ys (zs.set (i + m) cy) m (i + 1) := by
  obtain ⟨ho, hc, hv, hr⟩ := h
  refine ⟨ho.set _ _ hc, ?_⟩
  rw [Nat.add_right_comm, val_set_take _ _ _ hk, hv, h0.2, val_take_succ', Nat.add_mul]
  show _ + B ^ i * (dg xs i * _) = _ + B ^ i * dg xs i * _
  rw [Nat.mul_assoc]
theorem MulOut.done {xs ys zs : List Nat} {n m : Nat} (h : MulOut xs ys zs m n) (hx : Ok xs) (hy : Ok ys) (hn : nl (val xs) ≤ n) (hm : nl (val ys) ≤ m) (hl : zs.length = n + m) : val zs = val xs * val ys := by
  have := h.2
  rwa [List.take_of_length_le (by omega), val_take_nl hx hn, val_take_nl hy hm] at this

/-- From place k on both have the same digits. -/
def Agree (xs ys : List Nat) (k : Nat) : Prop := ∀ i, k ≤ i → dg xs i = dg ys i
theorem Agree.start {xs ys : List Nat} (hx : Ok xs) (hy : Ok ys) (h : nl (val xs) = nl (val ys)) : Agree xs ys (nl (val xs)) := fun i hi => by
  unfold dg; rw [getD_past hx hi, getD_past hy (by omega)]
theorem Agree.down {xs ys : List Nat} {k : Nat} (h : Agree xs ys (k + 1)) (hk : dg xs k = dg ys k) : Agree xs ys k := fun i hi => by
  rcases Nat.eq_or_lt_of_le hi with rfl | hi
  · exact hk
  · exact h i hi
theorem Agree.all {xs ys : List Nat} (h : Agree xs ys 0) : val xs = val ys := val_congr fun i => h i (Nat.zero_le _)
theorem Agree.less {xs ys : List Nat} {k : Nat} (hx : Ok xs) (h : Agree xs ys (k + 1)) (hk : dg xs k < dg ys k) : val xs < val ys := by
  have e : val (xs.drop (k + 1)) = val (ys.drop (k + 1)) := val_congr fun i => by rw [dg_drop, dg_drop]; exact h _ (by omega)
  rw [val_split xs (k + 1), val_split ys (k + 1), e, val_take_succ', val_take_succ']
  have h1 := val_take_lt hx k
  have h2 : B ^ k * (dg xs k + 1) ≤ B ^ k * dg ys k := Nat.mul_le_mul_left _ hk
  rw [Nat.mul_add] at h2
  show val (xs.take k) + B ^ k * dg xs k + _ < val (ys.take k) + B ^ k * dg ys k + _
  omega
theorem Agree.symm {xs ys : List Nat} {k : Nat} (h : Agree xs ys k) : Agree ys xs k := fun i hi => (h i hi).symm
theorem lt_of_nl {a b : Nat} (h : nl a < nl b) : a < b := by
  rcases Nat.lt_or_ge a b with h' | h'
  · exact h'
  · have := nl_mono h'; omega

/-- From place k on all digits are 0. -/
def ZeroFrom (xs : List Nat) (k : Nat) : Prop := ∀ i, k ≤ i → i < xs.length → dg xs i = 0
theorem ZeroFrom.start (xs : List Nat) : ZeroFrom xs xs.length := fun _ h k => by omega
theorem ZeroFrom.down {xs : List Nat} {k : Nat} (h : ZeroFrom xs (k + 1)) (hk : dg xs k = 0) : ZeroFrom xs k := fun i hi hl => by
  rcases Nat.eq_or_lt_of_le hi with rfl | hi
  · exact hk
  · exact h i hi hl
theorem ZeroFrom.done {xs : List Nat} {k : Nat} (h : ZeroFrom xs k) (ho : Ok xs) (hk : k ≤ xs.length) (ht : k = 0 ∨ dg xs (k - 1) ≠ 0) : k = nl (val xs) := (nl_of ho hk h ht).symm
end Tw
