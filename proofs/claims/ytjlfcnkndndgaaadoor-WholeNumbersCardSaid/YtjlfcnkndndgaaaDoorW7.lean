/-
  Whole numbers: Add, Sub, SameInt, ShortInt, Of, told of numbers.
-/
import Derived.Test.YtjlfcnkndndgaaaDoorW6
namespace Go.Proofs.YtjlfcnkndndgaaaDoor
open Go.RowKit Tw

/-- A sign and a size that count z. -/
def I (w : World) (b : Bool) (A : Option Addr) (c l : Nat) (z : Int) : Prop := ∃ n, V w A c l n ∧ sgn b n = z
/-- The one form of z. -/
def J (w : World) (b : Bool) (A : Option Addr) (c l : Nat) (z : Int) : Prop := C w A c l z.natAbs ∧ b = decide (z < 0)
theorem sgn_self (z : Int) : sgn (decide (z < 0)) z.natAbs = z := by
  unfold sgn
  by_cases h : z < 0
  · rw [if_pos (by simpa using h)]; omega
  · rw [if_neg (by simpa using h)]; omega
theorem J.i {w : World} {b : Bool} {A : Option Addr} {c l : Nat} {z : Int} (h : J w b A c l z) : I w b A c l z := by
  obtain ⟨h1, rfl⟩ := h
  exact ⟨_, h1.v, sgn_self z⟩
theorem I.below {w w' : World} {b : Bool} {A : Option Addr} {c l : Nat} {z : Int} (h : I w b A c l z) (hb : Below w.heap.size w w') : I w' b A c l z := by
  obtain ⟨n, h1, h2⟩ := h; exact ⟨n, h1.below hb, h2⟩
theorem J.below {w w' : World} {b : Bool} {A : Option Addr} {c l : Nat} {z : Int} (h : J w b A c l z) (hb : Below w.heap.size w w') : J w' b A c l z := ⟨h.1.below hb, h.2⟩
theorem I.neg {w : World} {b : Bool} {A : Option Addr} {c l : Nat} {z : Int} (h : I w b A c l z) : I w (!b) A c l (-z) := by
  obtain ⟨n, h1, rfl⟩ := h
  exact ⟨n, h1, by unfold sgn; cases b <;> simp⟩
theorem J.box {w : World} {s : Bool} {A : Option Addr} {c l b : Nat} {z : Int} {s' : Bool} {v' u v : Value} (h : J w s A c l z) (x : w.cell? ⟨b, 0, none⟩ = some (.bool s')) (y : w.cell? ⟨b, 1, none⟩ = some v') (hv : ∀ m, v' ≠ .int .u64 m) :
    J ((w.setCell ⟨b, 0, none⟩ u).setCell ⟨b, 1, none⟩ v) s A c l z := ⟨h.1.box x y hv, h.2⟩
/-- A whole number told: its one form, of at most m digits, in new memory. -/
def TellsZ (w : World) (z : Int) (m : Nat) (e : Ending) (w' : World) : Prop :=
  ∃ b A c l, e = .returned (.agg #[.bool b, .slice A l c]) ∧ J w' b A c l z ∧ l ≤ m ∧ Below w.heap.size w w'
theorem TellsI.z {w : World} {z z' : Int} {m m' : Nat} {e : Ending} {w' : World} (h : TellsI w z m e w') (hz : z = z') (hm : m ≤ m') : TellsZ w z' m' e w' := by
  subst hz
  obtain ⟨A, c, l, he, h1, h2, h3⟩ := h
  exact ⟨_, A, c, l, he, ⟨h1, rfl⟩, by omega, h3⟩
theorem sgn_dec (b : Bool) (n : Nat) : sgn b n = sgn (decide (sgn b n < 0)) n := by
  rw [sgn_neg]
  unfold sgn
  by_cases h : n = 0
  · subst h; cases b <;> rfl
  · cases b <;> simp [h]
theorem sgn_add (b b' t : Bool) (n n' : Nat) (h : decide (sgn b n < 0) = t) (h' : decide (sgn b' n' < 0) = t) : sgn t (n + n') = sgn b n + sgn b' n' := by
  rw [sgn_dec b n, sgn_dec b' n', h, h']
  unfold sgn
  cases t <;> simp <;> omega
theorem sgn_sub (b b' t : Bool) (n n' : Nat) (h : decide (sgn b n < 0) = t) (h' : decide (sgn b' n' < 0) = !t) (hn : n' ≤ n) : sgn t (n - n') = sgn b n + sgn b' n' := by
  rw [sgn_dec b n, sgn_dec b' n', h, h']
  unfold sgn
  cases t <;> simp <;> omega

section
variable {w : World} {A A' : Option Addr} {c c' l l' : Nat} {b b' : Bool} {z z' : Int}
theorem add_z (h : I w b A c l z) (h' : I w b' A' c' l' z') (hl : l + l' ≤ 800000) :
    Calls Tryd.prog 53 #[.agg #[.bool b, .slice A l c], .agg #[.bool b', .slice A' l' c']] w (TellsZ w (z + z') (max l l' + 1)) := by
  obtain ⟨n, h1, rfl⟩ := h
  obtain ⟨n', h1', rfl⟩ := h'
  by_cases ht : decide (sgn b' n' < 0) = decide (sgn b n < 0)
  · exact (add_same b b' _ h1 h1' hl (Lib.hid rfl) (Lib.hid ht)).mono fun e w' he => he.z (sgn_add b b' _ n n' rfl ht) (Nat.le_refl _)
  · have ht' : decide (sgn b' n' < 0) = !decide (sgn b n < 0) := by
      revert ht
      cases decide (sgn b' n' < 0) <;> cases decide (sgn b n < 0) <;> simp
    by_cases hc : n < n'
    · refine (add_swap b b' _ h1 h1' hl (Lib.hid rfl) (Lib.hid ht') (-1) (Lib.hid (cmpI_lt (by omega))) (by decide)).mono fun e w' he => he.z ?_ (by omega)
      rw [sgn_sub b' b (!decide (sgn b n < 0)) n' n ht' (by simp) (by omega), Int.add_comm]
    · have hz : decide (cmpI (n : Int) (n' : Int) < 0) = false := by
        unfold cmpI
        rw [if_neg (by omega)]
        split <;> rfl
      refine (add_keep b b' _ h1 h1' hl (Lib.hid rfl) (Lib.hid ht') _ (Lib.hid rfl) hz).mono fun e w' he => he.z ?_ (by omega)
      exact sgn_sub b b' _ n n' rfl ht' (by omega)
theorem mul_z (h : I w b A c l z) (h' : I w b' A' c' l' z') (hl : l + l' ≤ 800000) :
    Calls Tryd.prog 57 #[.agg #[.bool b, .slice A l c], .agg #[.bool b', .slice A' l' c']] w (TellsZ w (z * z') (l + l')) := by
  obtain ⟨n, h1, rfl⟩ := h
  obtain ⟨n', h1', rfl⟩ := h'
  exact (mul_i b b' h1 h1' hl).mono fun e w' he => he.z rfl (Nat.le_refl _)
theorem norm_z (h : I w b A c l z) (hl : l ≤ 800000) :
    Calls Tryd.prog 42 #[.agg #[.bool b, .slice A l c]] w (TellsZ w z l) := by
  obtain ⟨n, h1, rfl⟩ := h
  exact (norm_v b h1 hl).mono fun e w' he => he.z rfl (Nat.le_refl _)
theorem neg_z (h : I w b A c l z) (hl : l ≤ 800000) :
    Calls Tryd.prog 39 #[.agg #[.bool b, .slice A l c]] w (TellsZ w (-z) l) := by
  obtain ⟨n, h1, rfl⟩ := h
  exact (neg_v b h1 hl).mono fun e w' he => he.z (by unfold sgn; cases b <;> simp) (Nat.le_refl _)
theorem sign_z (h : I w b A c l z) (hl : l ≤ 800000) (s : Int) (hs : z.sign = s) :
    Calls Tryd.prog 43 #[.agg #[.bool b, .slice A l c]] w fun e w' => e = .returned (.int .i64 s) ∧ Below w.heap.size w w' := by
  obtain ⟨n, h1, rfl⟩ := h
  exact sign_v b h1 hl s hs
theorem sub_z (h : I w b A c l z) (h' : I w b' A' c' l' z') (hl : l + l' ≤ 800000) :
    Calls Tryd.prog 55 #[.agg #[.bool b, .slice A l c], .agg #[.bool b', .slice A' l' c']] w (TellsZ w (z - z') (max l l' + 1)) := by
  obtain ⟨W, hW, x0, x1, x2, hB⟩ := box2 w (.bool b) (.slice A l c) (.bool b') (.slice A' l' c') (.bool false) (.slice none 0 0)
  have HI := Lib.hid (h.below hB)
  have HI' := Lib.hid (h'.below hB).neg
  have HY := Lib.hid x2
  have HE := Lib.hid (Int.sub_eq_add_neg (a := z) (b := z'))
  clear h h' x0 x1 x2
  go_enter Tryd.func55, Tryd.ntmps55
  go_wp2_with fail
  rw [← hW]
  clear hW
  refine (add_z HI.out HI'.out hl).mono ?_
  rintro e w1 ⟨s1, A1, c1, l1, rfl, h1, m1, b1⟩
  obtain ⟨⟨y1, y2⟩, ⟨y3, y4⟩, y5⟩ := (HY.out.below b1).look
  go_wp2_with fail
  (try simp only [Exit.inBlock, Exit.then])
  refine bodyPost_ret (by simp [results, Tryd.results55, go_sem, y1, y2]; try rfl) rfl ?_
  exact ⟨s1, A1, c1, l1, rfl, by rw [HE.out]; exact h1.box y1 y2 (fun _ e => by cases e), m1, ((below_trans hB b1).setCell (by simp only []; omega) _).setCell (by simp only []; omega) _⟩
theorem same_z (h : J w b A c l z) (h' : J w b' A' c' l' z') (hl : l ≤ 800000) (he : z = z') :
    Calls Tryd.prog 40 #[.agg #[.bool b, .slice A l c], .agg #[.bool b', .slice A' l' c']] w fun e w' => e = .returned (.bool true) ∧ Below w.heap.size w w' := by
  subst he
  obtain ⟨h1, hb⟩ := h
  obtain ⟨h1', hb'⟩ := h'
  obtain rfl : b = b' := hb.trans hb'.symm
  have p1 : (b == b) = true := by simp
  have hB : Below w.heap.size w ((w.alloc (.cells #[.bool b, .slice A l c] 43)).alloc (.cells #[.bool b, .slice A' l' c'] 43)) := by go_grown
  have HC := Lib.hid (h1.below hB)
  have HC' := Lib.hid (h1'.below hB)
  clear h1 h1' hb hb'
  go_enter Tryd.func40, Tryd.ntmps40
  go_wp2_with fail
  refine (same_v HC.out HC'.out hl rfl).mono ?_
  rintro e w1 ⟨rfl, b1⟩
  go_wp2_with fail
  go_ret
  exact ⟨rfl, below_trans hB b1⟩
theorem short_z (k : Int) (t : Bool) (ht : decide ((l : Int) ≤ k) = t) :
    Calls Tryd.prog 49 #[.agg #[.bool b, .slice A l c], .int .i64 k] w fun e w' => e = .returned (.bool t) ∧ Below w.heap.size w w' := by
  have hB : Below w.heap.size w (w.alloc (.cells #[.bool b, .slice A l c] 43)) := by go_grown
  go_enter Tryd.func49, Tryd.ntmps49
  go_wp2_with fail
  go_ret
  exact ⟨rfl, hB⟩
end
end Go.Proofs.YtjlfcnkndndgaaaDoor
