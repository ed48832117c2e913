/-
  Whole numbers: the greatest divisor; numbers that a text lays; quotients by 0.
-/
import Derived.Test.YtihdaemjabhhkaaDoorZWb
import Derived.Test.YtihdaemjabhhkaaDoorZGcd
namespace Go.Proofs.YtihdaemjabhhkaaDoor
open Go.RowKit Tw

section
variable {w : World} {A A' : Option Addr} {c c' l l' : Nat} {b b' : Bool} {z z' : Int}
set_option maxRecDepth 100000 in
theorem gcd_z (h : I w b A c l z) (h' : I w b' A' c' l' z') (hl : l + l' ≤ 800000) (hT : Hid (Tab w)) :
    Calls Tryd.prog 25 #[.agg #[.bool b, .slice A l c], .agg #[.bool b', .slice A' l' c']] w (TellsZ w (Int.gcd z z' : Int) (l + l')) := by
  obtain ⟨n, h1, rfl⟩ := h
  obtain ⟨n', h1', rfl⟩ := h'
  have HE : Hid ((Int.gcd (sgn b n) (sgn b' n') : Int) = (Nat.gcd n n' : Int)) := by
    show _ = _
    unfold Int.gcd
    rw [sgn_abs, sgn_abs]
  obtain ⟨W, hW, x0, x1, x2, hB⟩ := box2 w (.bool b) (.slice A l c) (.bool b') (.slice A' l' c') (.bool false) (.slice none 0 0)
  have HV := Lib.hid (h1.below hB)
  have HV' := Lib.hid (h1'.below hB)
  have HT := Lib.hid (Tab.below hT.out hB)
  have HY := Lib.hid x2
  obtain ⟨⟨a1, a2⟩, _, a4⟩ := x0.look
  obtain ⟨⟨a1', a2'⟩, _, a4'⟩ := x1.look
  clear h1 h1' x0 x1 x2 hT
  go_enter Tryd.func25, Tryd.ntmps25
  go_wp2_with fail
  rw [← hW]
  clear hW
  with_reducible refine (gcd_v HV.out HV'.out hl HT).mono ?_
  rintro e w1 ⟨A1, c1, l1, rfl, h1, m1, b1⟩
  go_wp2_with fail
  with_reducible refine (signed_c false (Nat.gcd n n' : Int) h1 rfl).mono ?_
  rintro e w2 ⟨rfl, b2⟩
  have b3 := below_trans b1 b2
  obtain ⟨⟨y1, y2⟩, ⟨y3, y4⟩, y5⟩ := (HY.out.below b3).look
  go_wp2_with fail
  (try simp only [Exit.inBlock, Exit.then])
  refine bodyPost_ret (by simp [results, Tryd.results25, go_sem, y1, y2]; try rfl) rfl ?_
  exact ⟨_, A1, c1, l1, rfl, ⟨by rw [HE.out]; exact (h1.below b2).box y1 y2 (fun _ e => by cases e), by rw [HE.out]⟩, m1, ((below_trans hB b3).setCell (by simp only []; omega) _).setCell (by simp only []; omega) _⟩
set_option maxRecDepth 100000 in
/-- Quotient and rest of small numbers, by 0. -/
theorem by_z0 (x : Int) (hx : Hid (isSmall x = true)) :
    Calls Tryd.prog 83 #[.int .i64 x, .int .i64 0, .int .i64 0, .int .i64 0] w fun e w' => e = .returned (.bool true) ∧ Below w.heap.size w w' := by
  go_enter Tryd.func83, Tryd.ntmps83
  go_wp2_with fail
  with_reducible refine (of_z x (small_bd hx)).mono ?_
  rintro e w1 ⟨s1, A1, c1, l1, rfl, h1, m1, b1⟩
  go_wp2_with fail
  with_reducible refine (of_z 0 (small_bd (Lib.hid (by decide)))).mono ?_
  rintro e w2 ⟨s2, A2, c2, l2, rfl, h2, m2, b2⟩
  go_wp2_with fail
  with_reducible refine (divmod_z0 h2.i (by omega)).mono ?_
  rintro e w3 ⟨s3, A3, c3, l3, s4, A4, c4, l4, rfl, h3, h4, m3, m4, b3⟩
  have H3 := Lib.hid h3
  have H4 := Lib.hid h4
  clear h1 h2 h3 h4
  have hB := below_trans (below_trans b1 b2) b3
  obtain ⟨W, hW, x0, x1, hB2⟩ := box1 w3 (.bool s3) (.slice A3 l3 c3) (.bool s4) (.slice A4 l4 c4)
  have HX := Lib.hid x1
  clear x0 x1
  go_wp2_with fail
  rw [← hW]
  clear hW
  with_reducible refine (is_z (H3.out.below hB2) (Lib.hid (by decide))).mono ?_
  rintro e w5 ⟨rfl, b5⟩
  obtain ⟨⟨x1, x2⟩, x3, x4⟩ := (HX.out.below b5).look
  go_wp2_with fail
  with_reducible refine (is_z (H4.out.below (below_trans hB2 b5)) (Lib.hid (by decide))).mono ?_
  rintro e w6 ⟨rfl, b6⟩
  go_wp2_with fail
  go_ret
  exact ⟨rfl, below_trans hB (below_trans hB2 (below_trans b5 b6))⟩
end
/-- A number whose digits a text lays. -/
theorem i_lit (w : World) (b : Bool) (xs : List Nat) (l : Nat) (z : Int) (ho : Ok xs) (hl : xs.length = l) (hz : sgn b (val xs) = z) : I (w.alloc (.cells (cellsOf xs) 63)) b (some ⟨w.heap.size, 0, none⟩) l l z :=
  ⟨_, lit_v w xs l _ ho hl rfl, hz⟩
theorem i_none (w : World) (b : Bool) : I w b none 0 0 0 := ⟨0, ⟨[], Nums.nil _ _ _, rfl, rfl⟩, by unfold sgn; cases b <;> rfl⟩
end Go.Proofs.YtihdaemjabhhkaaDoor
