/-
  The looks of the laws of layer 2: is, by; the chapter's examples.
-/
import Derived.Test.YtjlfcnkndndgaaaDoorW10
namespace Go.Proofs.YtjlfcnkndndgaaaDoor
open Go.RowKit Tw

theorem small_bd {z : Int} (h : Hid (isSmall z = true)) : Hid (-9223372036854775808 ≤ z ∧ z ≤ 9223372036854775807) := Lib.hid (of_decide_eq_true h.out)
section
variable {w : World} {A A' : Option Addr} {c c' l l' : Nat} {b b' : Bool} {z z' : Int}
theorem is_z (h : J w b A c l z) (hz : Hid (isSmall z = true)) :
    Calls Tryd.prog 41 #[.agg #[.bool b, .slice A l c], .int .i64 z] w fun e w' => e = .returned (.bool true) ∧ Below w.heap.size w w' := by
  have hB : Below w.heap.size w (w.alloc (.cells #[.bool b, .slice A l c] 43)) := by go_grown
  have HI := Lib.hid (h.below hB).i
  have HX := Lib.hid (IBox.new w (.bool b) (.slice A l c))
  have hl : l ≤ 1 := by
    rw [← h.1.2, nl_le_iff, Nat.pow_one, B_eq]
    have := of_decide_eq_true hz.out
    omega
  obtain ⟨t, ht⟩ : ∃ t, decide (z < 0) = t := ⟨_, rfl⟩
  obtain rfl : b = t := h.2.trans ht
  have p1 : (z == z) = true := by simp
  have p2 : (b == b) = true := by simp
  by_cases h0 : z = 0
  · obtain rfl : l = 0 := by rw [← h.1.2, h0]; rfl
    subst h0
    obtain rfl : b = false := ht.symm.trans rfl
    clear h ht
    go_enter Tryd.func41, Tryd.ntmps41
    go_wp2_with fail
    with_reducible refine (small_z HI.out (by omega) 0 true hz.out rfl).mono ?_
    rintro e w1 ⟨rfl, b1⟩
    obtain ⟨⟨x1, x2⟩, x3, x4⟩ := (HX.out.below b1).look
    go_wp2_with fail
    go_ret
    exact ⟨rfl, below_trans hB b1⟩
  · have p3 : (z != 0) = true := by simpa using h0
    have p4 : (z == 0) = false := by simpa using h0
    clear h h0
    go_enter Tryd.func41, Tryd.ntmps41
    go_wp2_with fail
    with_reducible refine (small_z HI.out (by omega) z true hz.out rfl).mono ?_
    rintro e w1 ⟨rfl, b1⟩
    obtain ⟨⟨x1, x2⟩, x3, x4⟩ := (HX.out.below b1).look
    go_wp2_with fail
    go_ret
    exact ⟨rfl, below_trans hB b1⟩
/-- Quotient and rest of small numbers. -/
theorem by_z (x y q r : Int) (hx : Hid (isSmall x = true)) (hy : Hid (isSmall y = true)) (h0 : Hid (y ≠ 0)) (hq : Hid (x / y = q)) (hr : Hid (x % y = r)) (sq : Hid (isSmall q = true)) (sr : Hid (isSmall r = true)) :
    Calls Tryd.prog 45 #[.int .i64 x, .int .i64 y, .int .i64 q, .int .i64 r] w fun e w' => e = .returned (.bool true) ∧ Below w.heap.size w w' := by
  go_enter Tryd.func45, Tryd.ntmps45
  go_wp2_with fail
  with_reducible refine (of_z x (small_bd hx)).mono ?_
  rintro e w1 ⟨s1, A1, c1, l1, rfl, h1, m1, b1⟩
  go_wp2_with fail
  with_reducible refine (of_z y (small_bd hy)).mono ?_
  rintro e w2 ⟨s2, A2, c2, l2, rfl, h2, m2, b2⟩
  go_wp2_with fail
  with_reducible refine (divmod_z (h1.below b2).i h2.i (by omega) h0.out).mono ?_
  rintro e w3 ⟨s3, A3, c3, l3, s4, A4, c4, l4, rfl, h3, h4, m3, m4, b3⟩
  rw [hq.out] at h3
  rw [hr.out] at h4
  have H3 := Lib.hid h3
  have H4 := Lib.hid h4
  clear h1 h2 h3 h4
  have hB := below_trans (below_trans b1 b2) b3
  obtain ⟨W, hW, x0, x1, hB2⟩ := box1 w3 (.bool s3) (.slice A3 l3 c3) (.bool s4) (.slice A4 l4 c4)
  have HX := Lib.hid x1
  clear x0 x1
  go_wp2_with fail
  rw [← hW]
  clear hW
  with_reducible refine (is_z (H3.out.below hB2) sq).mono ?_
  rintro e w5 ⟨rfl, b5⟩
  obtain ⟨⟨x1, x2⟩, x3, x4⟩ := (HX.out.below b5).look
  go_wp2_with fail
  with_reducible refine (is_z (H4.out.below (below_trans hB2 b5)) sr).mono ?_
  rintro e w6 ⟨rfl, b6⟩
  go_wp2_with fail
  go_ret
  exact ⟨rfl, below_trans (below_trans (below_trans hB hB2) b5) b6⟩
end
end Go.Proofs.YtjlfcnkndndgaaaDoor
