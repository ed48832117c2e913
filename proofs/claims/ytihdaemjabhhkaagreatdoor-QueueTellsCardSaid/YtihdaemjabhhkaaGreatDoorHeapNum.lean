/-
  Plain heaps on lists: what an exchange does, one step up, one step down. No program in sight.
-/

namespace Hp
section
variable {α : Type} [Inhabited α] (lt : α → α → Bool)
def ix (L : List α) (i : Nat) : α := L.getD i default
/-- Two elements are exchanged. -/
def swp (L : List α) (i j : Nat) : List α := (L.set i (ix L j)).set j (ix L i)
theorem ix_set_ne {L : List α} {i j : Nat} {x : α} (h : i ≠ j) : ix (L.set i x) j = ix L j := by
  unfold ix; rw [List.getD_eq_getElem?_getD, List.getElem?_set_ne h, ← List.getD_eq_getElem?_getD]
theorem ix_set_eq {L : List α} {i : Nat} {x : α} (h : i < L.length) : ix (L.set i x) i = x := by
  unfold ix; rw [List.getD_eq_getElem?_getD, List.getElem?_set_self h]; rfl
theorem len_swp (L : List α) (i j : Nat) : (swp L i j).length = L.length := by simp [swp]
theorem ix_swp_l {L : List α} {i j : Nat} (hi : i < L.length) (h : i ≠ j) : ix (swp L i j) i = ix L j := by
  unfold swp; rw [ix_set_ne (Ne.symm h), ix_set_eq hi]
theorem ix_swp_r {L : List α} {i j : Nat} (hj : j < L.length) : ix (swp L i j) j = ix L i := by
  unfold swp; rw [ix_set_eq (by simpa using hj)]
theorem ix_swp_o {L : List α} {i j k : Nat} (h1 : k ≠ i) (h2 : k ≠ j) : ix (swp L i j) k = ix L k := by
  unfold swp; rw [ix_set_ne (Ne.symm h2), ix_set_ne (Ne.symm h1)]
theorem ix_get {L : List α} {i : Nat} (h : i < L.length) : ix L i = L[i] := by unfold ix; rw [List.getD_eq_getElem?_getD, List.getElem?_eq_getElem h]; rfl
theorem swp_perm (L : List α) {i j : Nat} (hi : i < L.length) (hj : j < L.length) : (swp L i j).Perm L := by
  have h := Array.swap_perm (xs := L.toArray) (i := i) (j := j) (by simpa using hi) (by simpa using hj)
  have e : (L.toArray.swap i j (by simpa using hi) (by simpa using hj)).toList = swp L i j := by
    unfold swp; rw [ix_get hi, ix_get hj]; simp [Array.swap]
  rw [Array.perm_iff_toList_perm] at h
  rw [e] at h
  simpa using h
/-- The parent. -/
def par (k : Nat) : Nat := (k - 1) / 2
/-- No element is ahead of its parent, among the first n. -/
def Heap (L : List α) (n : Nat) : Prop := ∀ k, 0 < k → k < n → lt (ix L k) (ix L (par k)) = false
/-- All but that at j. -/
def UpInv (L : List α) (j : Nat) : Prop := (∀ k, 0 < k → k < L.length → k ≠ j → lt (ix L k) (ix L (par k)) = false) ∧ (0 < j → ∀ k, k < L.length → 0 < k → par k = j → lt (ix L k) (ix L (par j)) = false)
structure Swo : Prop where
  irr : ∀ a, lt a a = false
  tr : ∀ a b c, lt b a = false → lt c b = false → lt c a = false
  asym : ∀ a b, lt a b = true → lt b a = false
variable {lt}
theorem UpInv.done {L : List α} {j : Nat} (h : UpInv lt L j) (hj : j = 0 ∨ lt (ix L j) (ix L (par j)) = false) : Heap lt L L.length := fun k h0 hk => by
  by_cases e : k = j
  · subst e; rcases hj with rfl | hj
    · omega
    · exact hj
  · exact h.1 k h0 hk e
theorem UpInv.step (S : Swo lt) {L : List α} {j : Nat} (h : UpInv lt L j) (h0 : 0 < j) (hj : j < L.length) (hl : lt (ix L j) (ix L (par j)) = true) : UpInv lt (swp L (par j) j) (par j) := by
  have hp : par j < j := by unfold par; omega
  have hpl : par j < L.length := by omega
  refine ⟨fun k k0 kl kn => ?_, fun p0 k kl k0 kp => ?_⟩
  · rw [len_swp] at kl
    by_cases e : k = j
    · subst e; rw [ix_swp_r kl, ix_swp_l hpl (by omega)]; exact S.asym _ _ hl
    · rw [ix_swp_o kn e]
      by_cases e2 : par k = j
      · rw [e2, ix_swp_r hj]; exact h.2 h0 k kl k0 e2
      · by_cases e3 : par k = par j
        · rw [e3, ix_swp_l hpl (by omega)]
          exact S.tr _ _ _ (S.asym _ _ hl) (by have := h.1 k k0 kl e; rwa [e3] at this)
        · rw [ix_swp_o e3 e2]; exact h.1 k k0 kl e
  · rw [len_swp] at kl
    have hq : par (par j) ≠ par j := by unfold par at *; omega
    have hq2 : par (par j) ≠ j := by unfold par at *; omega
    rw [ix_swp_o hq hq2]
    have hpp := h.1 (par j) p0 hpl (by omega)
    by_cases e : k = j
    · subst e; rw [ix_swp_r kl]; exact hpp
    · have kn : k ≠ par j := by unfold par at *; omega
      rw [ix_swp_o kn e]
      exact S.tr _ _ _ hpp (by have := h.1 k k0 kl e; rwa [kp] at this)
/-- A new one behind a heap. -/
theorem UpInv.start {L : List α} {x : α} (h : Heap lt L L.length) : UpInv lt (L ++ [x]) L.length := by
  have hx : ∀ k, k < L.length → ix (L ++ [x]) k = ix L k := fun k hk => by
    unfold ix; rw [List.getD_eq_getElem?_getD, List.getElem?_append_left hk, ← List.getD_eq_getElem?_getD]
  refine ⟨fun k k0 kl kn => ?_, fun p0 k kl k0 kp => ?_⟩
  · simp at kl
    rw [hx k (by omega), hx (par k) (by unfold par; omega)]; exact h k k0 (by omega)
  · simp at kl; unfold par at kp; omega
/-- All but that the children of i may be ahead of it, among the first n. -/
def DownInv (lt : α → α → Bool) (L : List α) (n i : Nat) : Prop := (∀ k, 0 < k → k < n → par k ≠ i → lt (ix L k) (ix L (par k)) = false) ∧ (0 < i → ∀ k, 0 < k → k < n → par k = i → lt (ix L k) (ix L (par i)) = false)
theorem DownInv.done {L : List α} {n i : Nat} (h : DownInv lt L n i) (hc : ∀ k, 0 < k → k < n → par k = i → lt (ix L k) (ix L i) = false) : Heap lt L n := fun k h0 hk => by
  by_cases e : par k = i
  · rw [e]; exact hc k h0 hk e
  · exact h.1 k h0 hk e
/-- j is a child of i that is ahead of it, and not behind the other one. -/
theorem DownInv.step (S : Swo lt) {L : List α} {n i j : Nat} (h : DownInv lt L n i) (hn : n ≤ L.length) (hj : j < n) (j0 : 0 < j) (hp : par j = i) (hl : lt (ix L j) (ix L i) = true)
    (ho : ∀ k, 0 < k → k < n → par k = i → lt (ix L k) (ix L j) = false) : DownInv lt (swp L i j) n j := by
  have hij : i < j := by unfold par at hp; omega
  have hjl : j < L.length := by omega
  have hil : i < L.length := by omega
  refine ⟨fun k k0 kn kp => ?_, fun _ k k0 kn kp => ?_⟩
  · by_cases e : k = j
    · subst e; rw [ix_swp_r hjl, hp, ix_swp_l hil (by omega)]; exact S.asym _ _ hl
    · by_cases e1 : k = i
      · subst e1
        rw [ix_swp_l hil (by omega), ix_swp_o (by unfold par at *; omega) kp]
        exact h.2 k0 j j0 hj hp
      · rw [ix_swp_o e1 e]
        by_cases e2 : par k = i
        · rw [e2, ix_swp_l hil (by omega)]; exact ho k k0 kn e2
        · rw [ix_swp_o e2 kp]; exact h.1 k k0 kn e2
  · rw [hp, ix_swp_l hil (by omega)]
    have k1 : k ≠ i := by unfold par at *; omega
    have k2 : k ≠ j := by unfold par at *; omega
    rw [ix_swp_o k1 k2]
    have := h.1 k k0 kn (by omega)
    rwa [kp] at this
/-- The first of a heap is not behind any. -/
theorem Heap.first (S : Swo lt) {L : List α} {n : Nat} (h : Heap lt L n) : ∀ k, k < n → lt (ix L k) (ix L 0) = false := by
  intro k
  induction k using Nat.strongRecOn with
  | ind k ih =>
    intro hk
    rcases Nat.eq_zero_or_pos k with rfl | h0
    · exact S.irr _
    · exact S.tr _ _ _ (ih (par k) (by unfold par; omega) (by unfold par; omega)) (h k h0 hk)
/-- The last is put first. -/
theorem DownInv.start {L : List α} {n : Nat} (h : Heap lt L (n + 1)) (_hl : L.length = n + 1) : DownInv lt (swp L 0 n) n 0 := by
  refine ⟨fun k k0 kn kp => ?_, fun h0 => by omega⟩
  have : par k < k := by unfold par; omega
  rw [ix_swp_o (by omega) (by omega), ix_swp_o kp (by omega)]
  exact h k k0 (by omega)
end
end Hp
