/-
  Plain numbers: division by school: one digit at a time; a digit of a long division.
-/
import Derived.Test.YtjlfcnkndndgaaaDoorNum
import Derived.Test.YtjlfcnkndndgaaaDoorDivNum
namespace Tw

/-! ### By one digit -/

/-- From place k on the quotient is made; r is left. -/
def ShortInv (xs : List Nat) (d : Nat) (qs : List Nat) (k r : Nat) : Prop := Ok qs ∧ val (qs.drop k) = val (xs.drop k) / d ∧ r = val (xs.drop k) % d
theorem val_drop_cons {xs : List Nat} {k : Nat} (h : k < xs.length) : val (xs.drop k) = dg xs k + B * val (xs.drop (k + 1)) := by
  rw [List.drop_eq_getElem_cons h, val_cons]
  unfold dg
  rw [List.getD_eq_getElem?_getD, List.getElem?_eq_getElem h]; rfl
theorem drop_set {xs : List Nat} {k x : Nat} (h : k < xs.length) : (xs.set k x).drop k = x :: xs.drop (k + 1) := by
  rw [List.drop_eq_getElem_cons (by simpa using h), List.getElem_set_self, List.drop_set_of_lt (by omega)]
theorem ShortInv.start {xs qs : List Nat} {d : Nat} (h : Ok qs) (hl : qs.length = xs.length) : ShortInv xs d qs xs.length 0 := by
  refine ⟨h, ?_, ?_⟩ <;> simp [List.drop_eq_nil_of_le, hl, val]
theorem ShortInv.step {xs qs : List Nat} {d k r : Nat} (h : ShortInv xs d qs (k + 1) r) (hd : 0 < d) (_hdB : d < B) (hx : Ok xs) (hk : k < xs.length) (hl : qs.length = xs.length) :
    ShortInv xs d (qs.set k ((r * B + dg xs k) / d)) k ((r * B + dg xs k) % d) ∧ r < d := by
  obtain ⟨ho, hq, hr⟩ := h
  have hrd : r < d := by rw [hr]; exact Nat.mod_lt _ hd
  have hxk := dg_lt hx k
  have hqB : (r * B + dg xs k) / d < B := by
    rw [Nat.div_lt_iff_lt_mul hd]
    have : (r + 1) * B ≤ d * B := Nat.mul_le_mul_right _ hrd
    rw [Nat.add_mul, Nat.one_mul] at this
    rw [Nat.mul_comm B]; omega
  have e := Nat.div_add_mod (val (xs.drop (k + 1))) d
  have e1 : val (xs.drop k) = (r * B + dg xs k) + d * (B * (val (xs.drop (k + 1)) / d)) := by
    rw [val_drop_cons hk]
    conv => lhs; rw [← e]
    rw [Nat.mul_add, hr, Nat.mul_comm (_ % d) B, Nat.mul_left_comm]
    omega
  refine ⟨⟨ho.set _ _ hqB, ?_, ?_⟩, hrd⟩
  · rw [drop_set (by omega), val_cons, hq, e1, Nat.add_mul_div_left _ _ hd]
  · rw [e1, Nat.add_mul_mod_self_left]

/-! ### A window of a row -/

theorem dg_mid (P X S : List Nat) {i : Nat} (h : i < X.length) : dg (P ++ (X ++ S)) (P.length + i) = dg X i := by
  unfold dg
  rw [List.getD_eq_getElem?_getD, List.getD_eq_getElem?_getD, List.getElem?_append_right (by omega), Nat.add_sub_cancel_left, List.getElem?_append_left h]
theorem set_mid (P X S : List Nat) {i x : Nat} (h : i < X.length) : (P ++ (X ++ S)).set (P.length + i) x = P ++ (X.set i x ++ S) := by
  rw [List.set_append_right _ _ (by omega), Nat.add_sub_cancel_left, List.set_append_left _ _ h]

/-- v, so many times, is taken off the first i digits. -/
def TInv (X vs Y : List Nat) (t i cy bw : Nat) : Prop := Ok Y ∧ Y.length = X.length ∧ cy < B ∧ bw ≤ 1 ∧ val (Y.take i) + t * val (vs.take i) = val (X.take i) + B ^ i * (cy + bw) ∧ ∀ k, i ≤ k → dg Y k = dg X k
theorem TInv.start {X : List Nat} (vs : List Nat) (t : Nat) (h : Ok X) : TInv X vs X t 0 0 0 := ⟨h, rfl, B_pos, by omega, by simp [val], fun _ _ => rfl⟩
theorem times_digit {v t cy : Nat} (hv : v < B) (ht : t < B) (hc : cy < B) : (v * t % B + cy) % B + B * (v * t / B + (v * t % B + cy) / B) = v * t + cy ∧ v * t / B + (v * t % B + cy) / B < B := by
  have h1 := Nat.div_add_mod (v * t) B
  have h2 := Nat.div_add_mod (v * t % B + cy) B
  have e : (v * t % B + cy) % B + B * (v * t / B + (v * t % B + cy) / B) = v * t + cy := by rw [Nat.mul_add]; omega
  refine ⟨e, ?_⟩
  have h4 : v * t ≤ (B - 1) * (B - 1) := Nat.mul_le_mul (by omega) (by omega)
  have h5 : (B - 1) * (B - 1) + (B - 1) < B * B := by decide
  have h6 : B * (v * t / B + (v * t % B + cy) / B) < B * B := by omega
  exact Nat.lt_of_mul_lt_mul_left h6
theorem TInv.step {X vs Y : List Nat} {t i cy bw lo hi x' bw' : Nat} (h : TInv X vs Y t i cy bw) (hk : i < X.length) (hhi : hi < B) (hx' : x' < B) (hb' : bw' ≤ 1)
    (he : lo + B * hi = dg vs i * t + cy) (hs : x' + lo + bw = dg Y i + B * bw') : TInv X vs (Y.set i x') t (i + 1) hi bw' := by
  obtain ⟨ho, hl, hc, hb, hv, hr⟩ := h
  refine ⟨ho.set _ _ hx', by rw [List.length_set]; exact hl, hhi, hb', ?_, fun k hk' => by rw [dg_set_ne (by omega)]; exact hr k (by omega)⟩
  rw [val_set_take _ _ _ (by omega), val_take_succ', val_take_succ', Nat.pow_succ, Nat.mul_assoc, ← show dg Y i = X.getD i 0 from hr i (Nat.le_refl _)]
  show val (Y.take i) + B ^ i * x' + t * (val (vs.take i) + B ^ i * dg vs i) = val (X.take i) + B ^ i * dg Y i + B ^ i * (B * (hi + bw'))
  have e : B ^ i * (x' + dg vs i * t + cy + bw) = B ^ i * (dg Y i + B * (hi + bw')) := by
    congr 1; rw [Nat.mul_add]; omega
  rw [Nat.mul_add t, Nat.mul_left_comm t, Nat.mul_comm t (dg vs i)]
  rw [Nat.mul_add, Nat.mul_add, Nat.mul_add, Nat.mul_add (B ^ i) (dg Y i)] at e
  rw [Nat.mul_add (B ^ i) cy bw] at hv
  omega
/-- The last digit. -/
theorem TInv.done {X vs Y : List Nat} {t n cy bw x' bw' : Nat} (h : TInv X vs Y t n cy bw) (hl : X.length = n + 1) (hn : vs.length ≤ n) (hx' : x' < B) (hs : x' + cy + bw = dg Y n + B * bw') :
    Ok (Y.set n x') ∧ (Y.set n x').length = n + 1 ∧ val (Y.set n x') + t * val vs = val X + B ^ (n + 1) * bw' := by
  obtain ⟨ho, hl', hc, hb, hv, hr⟩ := h
  refine ⟨ho.set _ _ hx', by rw [List.length_set]; omega, ?_⟩
  have e1 := val_set_take Y n x' (by omega)
  rw [List.take_of_length_le (by rw [List.length_set]; omega)] at e1
  have e2 := val_take_succ' X n
  rw [List.take_of_length_le (by omega), ← show dg Y n = X.getD n 0 from hr n (Nat.le_refl _)] at e2
  rw [List.take_of_length_le (l := vs) hn] at hv
  have e3 : B ^ n * (x' + cy + bw) = B ^ n * (dg Y n + B * bw') := by rw [hs]
  rw [e1, e2, Nat.pow_succ, Nat.mul_assoc]
  rw [Nat.mul_add, Nat.mul_add, Nat.mul_add] at e3
  rw [Nat.mul_add] at hv
  omega

/-- v is added to the first i digits. -/
def GInv (X vs Y : List Nat) (i cy : Nat) : Prop := Ok Y ∧ Y.length = X.length ∧ cy ≤ 1 ∧ val (Y.take i) + B ^ i * cy = val (X.take i) + val (vs.take i) ∧ ∀ k, i ≤ k → dg Y k = dg X k
theorem GInv.start {X : List Nat} (vs : List Nat) (h : Ok X) : GInv X vs X 0 0 := ⟨h, rfl, by omega, by simp [val], fun _ _ => rfl⟩
theorem GInv.step {X vs Y : List Nat} {i cy : Nat} (h : GInv X vs Y i cy) (hv : Ok vs) (hk : i < X.length) : GInv X vs (Y.set i ((dg Y i + dg vs i + cy) % B)) (i + 1) ((dg Y i + dg vs i + cy) / B) := by
  obtain ⟨ho, hl, hc, he, hr⟩ := h
  have h1 := dg_lt ho i
  have h2 := dg_lt hv i
  refine ⟨ho.set _ _ (Nat.mod_lt _ B_pos), by rw [List.length_set]; exact hl, ?_, ?_, fun k hk' => by rw [dg_set_ne (by omega)]; exact hr k (by omega)⟩
  · have : (dg Y i + dg vs i + cy) / B < 2 := by rw [Nat.div_lt_iff_lt_mul B_pos]; omega
    omega
  · rw [val_set_take _ _ _ (by omega), val_take_succ', val_take_succ', Nat.pow_succ, Nat.mul_assoc, Nat.add_assoc, ← Nat.mul_add, ← show dg Y i = X.getD i 0 from hr i (Nat.le_refl _)]
    show val (Y.take i) + B ^ i * _ = _ + B ^ i * dg Y i + (_ + B ^ i * dg vs i)
    rw [Nat.mod_add_div, Nat.mul_add, Nat.mul_add]
    omega
theorem GInv.done {X vs Y : List Nat} {n cy : Nat} (h : GInv X vs Y n cy) (hl : X.length = n + 1) (hn : vs.length ≤ n) :
    Ok (Y.set n ((dg Y n + cy) % B)) ∧ (Y.set n ((dg Y n + cy) % B)).length = n + 1 ∧ (dg Y n + cy) / B ≤ 1 ∧ val (Y.set n ((dg Y n + cy) % B)) + B ^ (n + 1) * ((dg Y n + cy) / B) = val X + val vs := by
  obtain ⟨ho, hl', hc, he, hr⟩ := h
  have h1 := dg_lt ho n
  refine ⟨ho.set _ _ (Nat.mod_lt _ B_pos), by rw [List.length_set]; omega, ?_, ?_⟩
  · have : (dg Y n + cy) / B < 2 := by rw [Nat.div_lt_iff_lt_mul B_pos]; omega
    omega
  · have e1 := val_set_take Y n ((dg Y n + cy) % B) (by omega)
    rw [List.take_of_length_le (by rw [List.length_set]; omega)] at e1
    have e2 := val_take_succ' X n
    rw [List.take_of_length_le (by omega), ← show dg Y n = X.getD n 0 from hr n (Nat.le_refl _)] at e2
    rw [List.take_of_length_le (l := vs) hn] at he
    rw [e1, e2, Nat.pow_succ, Nat.mul_assoc, Nat.add_assoc, ← Nat.mul_add, Nat.mod_add_div, Nat.mul_add]
    omega

/-! ### The guess -/

/-- q of the window X by v, both told by their top digits. -/
structure GuessIn (X vs : List Nat) (n : Nat) : Prop where
  okX : Ok X
  okV : Ok vs
  lX : X.length = n + 1
  lV : vs.length = n
  two : 2 ≤ n
  top : 0 < dg vs (n - 1)
  below : val X < B * val vs

theorem top2 {xs : List Nat} {n : Nat} (hl : xs.length = n + 1) : val xs = val (xs.take n) + B ^ n * dg xs n := by
  have := val_take_succ' xs n
  rwa [List.take_of_length_le (by omega)] at this
theorem GuessIn.vpos {X vs : List Nat} {n : Nat} (h : GuessIn X vs n) : 0 < val vs := by
  have := h.below
  rcases Nat.eq_zero_or_pos (val vs) with e | e
  · rw [e] at this; omega
  · exact e
theorem GuessIn.q_lt {X vs : List Nat} {n : Nat} (h : GuessIn X vs n) : val X / val vs < B := by
  rw [Nat.div_lt_iff_lt_mul h.vpos]; exact h.below
/-- By one digit of v the guess is never too small. -/
theorem GuessIn.start {X vs : List Nat} {n : Nat} (h : GuessIn X vs n) : val X / val vs ≤ (dg X n * B + dg X (n - 1)) / dg vs (n - 1) := by
  obtain ⟨oX, oV, lX, lV, h2, ht, hb⟩ := h
  obtain ⟨m, rfl⟩ : ∃ m, n = m + 1 := ⟨n - 1, by omega⟩
  rw [Nat.add_sub_cancel] at ht ⊢
  rw [Nat.le_div_iff_mul_le ht]
  have hq : val X / val vs * val vs ≤ val X := Nat.div_mul_le_self _ _
  generalize val X / val vs = q at *
  have e1 := top2 lV
  have e2 := top2 lX
  have e3 := val_take_succ' X m
  have l1 := val_take_lt oX m
  have h3 : q * (B ^ m * dg vs m) ≤ q * val vs := Nat.mul_le_mul_left _ (by omega)
  have h4 : B ^ m * (q * dg vs m) < B ^ m * (dg X (m + 1) * B + dg X m + 1) := by
    rw [Nat.mul_left_comm, Nat.mul_add, Nat.mul_add, Nat.mul_one]
    rw [Nat.pow_succ, Nat.mul_assoc, Nat.mul_comm B] at e2
    have e4 : val (X.take (m + 1)) = val (X.take m) + B ^ m * dg X m := e3
    omega
  have := Nat.lt_of_mul_lt_mul_left h4
  omega
/-- By two digits: where the guess is too great for them it is too great. -/
theorem GuessIn.two_digits {X vs : List Nat} {n g r : Nat} (h : GuessIn X vs n) (he : g * dg vs (n - 1) + r = dg X n * B + dg X (n - 1)) (hgt : r * B + dg X (n - 2) < g * dg vs (n - 2)) : val X / val vs < g := by
  obtain ⟨oX, oV, lX, lV, h2, ht, hb⟩ := h
  obtain ⟨m, rfl⟩ : ∃ m, n = m + 2 := ⟨n - 2, by omega⟩
  rw [show m + 2 - 1 = m + 1 from by omega] at *
  rw [show m + 2 - 2 = m from by omega] at hgt
  rcases Nat.lt_or_ge (val X / val vs) g with hlt | hge
  · exact hlt
  exfalso
  have hq : g * val vs ≤ val X := Nat.le_trans (Nat.mul_le_mul_right _ hge) (Nat.div_mul_le_self _ _)
  have e1 := top2 lV
  have e1' := val_take_succ' vs m
  have e2 := top2 lX
  have e3 := val_take_succ' X (m + 1)
  have e4 := val_take_succ' X m
  have l1 := val_take_lt oX m
  have hp : B ^ m * (B * dg vs (m + 1)) = B ^ (m + 1) * dg vs (m + 1) := by rw [Nat.pow_succ, Nat.mul_assoc]
  have h3 : g * (B ^ m * (B * dg vs (m + 1) + dg vs m)) ≤ g * val vs := Nat.mul_le_mul_left _ (by
    rw [Nat.mul_add, hp]
    have e5 : val (vs.take (m + 1)) = val (vs.take m) + B ^ m * dg vs m := e1'
    omega)
  have h4 : B ^ m * (g * (B * dg vs (m + 1) + dg vs m)) < B ^ m * ((dg X (m + 2) * B + dg X (m + 1)) * B + dg X m + 1) := by
    have eL : B ^ m * (g * (B * dg vs (m + 1) + dg vs m)) = g * (B ^ m * (B * dg vs (m + 1) + dg vs m)) := Nat.mul_left_comm _ _ _
    have eR : B ^ m * ((dg X (m + 2) * B + dg X (m + 1)) * B + dg X m + 1) = B ^ m * ((dg X (m + 2) * B + dg X (m + 1)) * B) + B ^ m * dg X m + B ^ m := by rw [Nat.mul_add, Nat.mul_add, Nat.mul_one]
    have e6 : val (X.take (m + 1)) = val (X.take m) + B ^ m * dg X m := e4
    have e7 : val (X.take (m + 2)) = val (X.take (m + 1)) + B ^ (m + 1) * dg X (m + 1) := e3
    have e8 : B ^ m * ((dg X (m + 2) * B + dg X (m + 1)) * B) = B ^ (m + 2) * dg X (m + 2) + B ^ (m + 1) * dg X (m + 1) := by
      have a1 : B ^ m * (dg X (m + 2) * B * B) = B ^ m * B * B * dg X (m + 2) := by ac_rfl
      have a2 : B ^ m * (dg X (m + 1) * B) = B ^ m * B * dg X (m + 1) := by ac_rfl
      rw [Nat.add_mul, Nat.mul_add, Nat.pow_succ, Nat.pow_succ, a1, a2]
    rw [eL, eR, e8]
    omega
  have h5 := Nat.lt_of_mul_lt_mul_left h4
  rw [← he] at h5
  rw [Nat.mul_add, Nat.add_mul, Nat.mul_comm B (dg vs (m + 1)), ← Nat.mul_assoc] at h5
  omega
end Tw
