/-
  QueueOrders: nodes that are too long; sums of numbers.
-/
import Derived.Test.YtihdaemjabhhkaaGreatDoorReadN
namespace Go.Proofs.YtihdaemjabhhkaaGreatDoor
open Go.RowKit Tw Hp

/-- Has a node more than is looked at? -/
def longB (fl l l' : Nat) : Bool := decide (1000 < fl) || (decide (4 < l) || decide (4 < l'))
set_option maxRecDepth 100000 in
set_option maxHeartbeats 4000000 in
theorem longrat_q {w : World} {s s' : Bool} {A A' : Option Addr} {c c' l l' : Nat} (t : Bool) (ht : (decide (4 < l) || decide (4 < l')) = t) (hl : l ≤ maxLen) (hl' : l' ≤ maxLen) :
    Calls Tryz.prog 64 #[.agg #[.bool s, .slice A l c, .bool s', .slice A' l' c'], .int .i64 4] w fun e w' => e = .returned (.bool t) ∧ Below w.heap.size w w' := by
  unfold maxLen at hl hl'
  by_cases h1 : 4 < l
  · obtain rfl : t = true := by rw [← ht]; simp [h1]
    have g1 : decide ((4 : Int) < (l : Int)) = true := by simp; omega
    clear ht
    go_enter Tryz.func64, Tryz.ntmps64
    go_wp2_with fail
    go_ret
    exact ⟨rfl, by go_grown⟩
  · have g1 : decide ((4 : Int) < (l : Int)) = false := by simp; omega
    have ht' : decide ((4 : Int) < (l' : Int)) = t := by rw [← ht]; simp [h1]; omega
    clear ht
    cases t
    · go_enter Tryz.func64, Tryz.ntmps64
      go_wp2_with fail
      go_ret
      exact ⟨rfl, by go_grown⟩
    · go_enter Tryz.func64, Tryz.ntmps64
      go_wp2_with fail
      go_ret
      exact ⟨rfl, by go_grown⟩
set_option maxRecDepth 100000 in
set_option maxHeartbeats 4000000 in
theorem long_q {w : World} {x : Itm} (t : Bool) (ht : longB x.fl x.l x.l' = t) (hf : x.fl ≤ maxLen) (hl : x.l ≤ maxLen) (hl' : x.l' ≤ maxLen) :
    Calls Tryz.prog 8 #[.agg #[.bool x.s, .slice x.A x.l x.c, .bool x.s', .slice x.A' x.l' x.c', .int .i64 x.dep, .int .i64 x.num, .slice x.F x.fl x.fc]] w fun e w' => e = .returned (.bool t) ∧ Below w.heap.size w w' := by
  unfold maxLen at hf hl hl'
  obtain ⟨W, hW, x0, hB⟩ := boxes1 w #[.bool x.s, .slice x.A x.l x.c, .bool x.s', .slice x.A' x.l' x.c', .int .i64 x.dep, .int .i64 x.num, .slice x.F x.fl x.fc] 36
  by_cases h1 : 1000 < x.fl
  · obtain rfl : t = true := by rw [← ht]; simp [longB, h1]
    have g1 : decide ((1000 : Int) < (x.fl : Int)) = true := by simp; omega
    clear ht x0
    go_enter Tryz.func8, Tryz.ntmps8
    go_wp2_with fail
    go_ret
    rw [← hW]
    exact ⟨rfl, hB⟩
  · have g1 : decide ((1000 : Int) < (x.fl : Int)) = false := by simp; omega
    have HT : Hid ((decide (4 < x.l) || decide (4 < x.l')) = t) := Lib.hid (by rw [← ht]; simp [longB, h1])
    clear ht x0
    go_enter Tryz.func8, Tryz.ntmps8
    go_wp2_with fail
    rw [← hW]
    clear hW
    with_reducible refine (longrat_q t HT.out (by unfold maxLen; omega) (by unfold maxLen; omega)).mono ?_
    rintro e w1 ⟨rfl, b1⟩
    go_wp2_with fail
    go_ret
    exact ⟨rfl, below_trans hB b1⟩
/-- The sum of the numbers, each less its thousands. -/
def sumN : List Itm → Int
  | [] => 0
  | x :: L => x.num.tmod 1000 + sumN L
theorem sumN_perm {L L' : List Itm} (h : L.Perm L') : sumN L = sumN L' := by
  induction h with
  | nil => rfl
  | cons x _ ih => simp only [sumN, ih]
  | swap x y l => simp only [sumN]; omega
  | trans _ _ h1 h2 => exact h1.trans h2
theorem sumN_snoc (L : List Itm) (x : Itm) : sumN (L ++ [x]) = sumN L + x.num.tmod 1000 := by
  induction L with
  | nil => simp [sumN]
  | cons y L ih => simp only [List.cons_append, sumN, ih]; omega
theorem tmod_bd (z : Int) : -999 ≤ z.tmod 1000 ∧ z.tmod 1000 ≤ 999 := by
  have h1 := Int.tmod_lt_of_pos z (show (0 : Int) < 1000 by omega)
  have h2 := Int.lt_tmod_of_pos z (show (0 : Int) < 1000 by omega)
  omega
theorem sumN_bd (L : List Itm) : -(999 * (L.length : Int)) ≤ sumN L ∧ sumN L ≤ 999 * (L.length : Int) := by
  induction L with
  | nil => simp [sumN]
  | cons x L ih =>
    have := tmod_bd x.num
    simp only [sumN, List.length_cons]
    omega
end Go.Proofs.YtihdaemjabhhkaaGreatDoor
