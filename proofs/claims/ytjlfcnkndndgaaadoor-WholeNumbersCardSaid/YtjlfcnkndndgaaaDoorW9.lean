/-
  Whole numbers: Of, Small.
-/
import Derived.Test.YtjlfcnkndndgaaaDoorW8
namespace Go.Proofs.YtjlfcnkndndgaaaDoor
open Go.RowKit Tw

theorem u64_id (x : Nat) (h : x < 18446744073709551616) : IntKind.u64.wrap (x : Int) = (x : Int) := by
  simp only [IntKind.wrap, IntKind.bits, IntKind.signed]
  have : ((x : Int) % (2 ^ 64 : Int)) = x := by omega
  simp; omega
theorem u64_neg (x : Nat) (h : 0 < x) (h' : x < 18446744073709551616) : IntKind.u64.wrap (-IntKind.u64.wrap (-(x : Int))) = (x : Int) := by
  simp [IntKind.wrap, IntKind.bits, IntKind.signed]
  omega
theorem lit1 (w : World) (o : Obj) (x : Nat) (hx : x < 18446744073709551616) : V ((w.alloc o).alloc (.cells #[.int .u64 (x : Int)] 29)) (some ⟨w.heap.size + 1, 0, none⟩) 1 1 x := by
  have := lit_v (w.alloc o) [x] 1 x (fun y hy => by simp at hy; rw [B_eq]; omega) rfl (by simp [val])
  have e : (w.alloc o).heap.size = w.heap.size + 1 := by simp
  rw [e] at this
  exact this

section
variable {w : World} {A A' : Option Addr} {c c' l l' : Nat} {b b' : Bool} {z z' : Int}
theorem of_pos (x : Nat) (hx : Hid (x < 9223372036854775808)) :
    Calls Tryd.prog 37 #[.int .i64 (x : Int)] w (TellsZ w (x : Int) 1) := by
  have p1 : decide ((x : Int) < 0) = false := by simp
  have u1 := u64_id x (by have := hx.out; omega)
  have HL := Lib.hid (lit1 w (.cells #[.bool false, .slice none 0 0] 43) x (by have := hx.out; omega))
  have HY := Lib.hid ((IBox.new w (.bool false) (.slice none 0 0)).below (lit_below _ (.cells #[.int .u64 (x : Int)] 29)))
  have hB : Below w.heap.size w ((w.alloc (.cells #[.bool false, .slice none 0 0] 43)).alloc (.cells #[.int .u64 (x : Int)] 29)) := by go_grown
  go_enter Tryd.func37, Tryd.ntmps37
  go_wp2_with fail
  refine (trim_v HL.out (by decide)).mono ?_
  rintro e w1 ⟨A1, c1, l1, rfl, h1, m1, b1⟩
  go_wp2_with fail
  refine (signed_c false (x : Int) h1 rfl).mono ?_
  rintro e w2 ⟨rfl, b2⟩
  obtain ⟨⟨y1, y2⟩, ⟨y3, y4⟩, y5⟩ := (HY.out.below (below_trans b1 b2)).look
  go_wp2_with fail
  (try simp only [Exit.inBlock, Exit.then])
  refine bodyPost_ret (by simp [results, Tryd.results37, go_sem, y1, y2]; try rfl) rfl ?_
  exact ⟨_, A1, c1, l1, rfl, ⟨(h1.below b2).box y1 y2 (fun _ e => by cases e), rfl⟩, m1, ((below_trans hB (below_trans b1 b2)).setCell (by simp only []; omega) _).setCell (by simp only []; omega) _⟩
theorem of_neg (x : Nat) (hx : Hid (0 < x ∧ x ≤ 9223372036854775808)) :
    Calls Tryd.prog 37 #[.int .i64 (-(x : Int))] w (TellsZ w (-(x : Int)) 1) := by
  have p1 : decide (-(x : Int) < 0) = true := by have := hx.out.1; simp; omega
  have p2 : decide (0 < x) = true := by have := hx.out.1; simp; omega
  have u1 := u64_neg x hx.out.1 (by have := hx.out; omega)
  have HL := Lib.hid (lit1 w (.cells #[.bool false, .slice none 0 0] 43) x (by have := hx.out; omega))
  have HY := Lib.hid ((IBox.new w (.bool false) (.slice none 0 0)).below (lit_below _ (.cells #[.int .u64 (x : Int)] 29)))
  have hB : Below w.heap.size w ((w.alloc (.cells #[.bool false, .slice none 0 0] 43)).alloc (.cells #[.int .u64 (x : Int)] 29)) := by go_grown
  go_enter Tryd.func37, Tryd.ntmps37
  go_wp2_with fail
  refine (trim_v HL.out (by decide)).mono ?_
  rintro e w1 ⟨A1, c1, l1, rfl, h1, m1, b1⟩
  go_wp2_with fail
  refine (signed_c true (-(x : Int)) h1 rfl).mono ?_
  rintro e w2 ⟨rfl, b2⟩
  obtain ⟨⟨y1, y2⟩, ⟨y3, y4⟩, y5⟩ := (HY.out.below (below_trans b1 b2)).look
  go_wp2_with fail
  (try simp only [Exit.inBlock, Exit.then])
  refine bodyPost_ret (by simp [results, Tryd.results37, go_sem, y1, y2]; try rfl) rfl ?_
  exact ⟨_, A1, c1, l1, rfl, ⟨by rw [Int.natAbs_neg]; exact (h1.below b2).box y1 y2 (fun _ e => by cases e), p1.symm⟩, m1, ((below_trans hB (below_trans b1 b2)).setCell (by simp only []; omega) _).setCell (by simp only []; omega) _⟩
theorem of_z (z : Int) (h : Hid (-9223372036854775808 ≤ z ∧ z ≤ 9223372036854775807)) :
    Calls Tryd.prog 37 #[.int .i64 z] w (TellsZ w z 1) := by
  have h1 := h.out
  by_cases hz : z < 0
  · obtain ⟨x, hx⟩ := Int.eq_ofNat_of_zero_le (a := -z) (by omega)
    obtain rfl : z = -(x : Int) := by omega
    exact of_neg x (Lib.hid (by omega))
  · obtain ⟨x, rfl⟩ := Int.eq_ofNat_of_zero_le (a := z) (by omega)
    exact of_pos x (Lib.hid (by omega))

/-- A number told, and whether it is small. -/
def TellsS (w : World) (z : Int) (t : Bool) (e : Ending) (w' : World) : Prop := e = .returned (.tuple #[.int .i64 z, .bool t]) ∧ Below w.heap.size w w'
theorem i64_neg (x : Nat) (h : Hid (x ≤ 9223372036854775808)) : IntKind.i64.wrap (IntKind.u64.wrap (-(x : Int))) = -(x : Int) := by
  have := h.out
  simp [IntKind.wrap, IntKind.bits, IntKind.signed]
  omega
theorem i64_id (x : Nat) (h : Hid (x < 9223372036854775808)) : IntKind.i64.wrap (x : Int) = (x : Int) := by
  have := h.out
  simp [IntKind.wrap, IntKind.bits, IntKind.signed]
  omega
theorem small_0 (h : V w A c l 0) (hl : l ≤ 800000) :
    Calls Tryd.prog 38 #[.agg #[.bool b, .slice A l c]] w (TellsS w 0 true) := by
  have hB : Below w.heap.size w (w.alloc (.cells #[.bool b, .slice A l c] 43)) := by go_grown
  have HV := Lib.hid (h.below hB)
  clear h
  go_enter Tryd.func38, Tryd.ntmps38
  go_wp2_with fail
  refine (trim_v HV.out hl).mono ?_
  rintro e w1 ⟨A1, c1, l1, rfl, h1, m1, b1⟩
  obtain rfl : l1 = 0 := by rw [← h1.2]; exact nl_zero
  clear h1
  go_wp2_with fail
  go_ret2
  exact ⟨rfl, below_trans hB b1⟩
theorem small_long (n : Nat) (h : V w A c l n) (hl : l ≤ 800000) (hn : Hid (18446744073709551616 ≤ n)) :
    Calls Tryd.prog 38 #[.agg #[.bool b, .slice A l c]] w (TellsS w 0 false) := by
  have hB : Below w.heap.size w (w.alloc (.cells #[.bool b, .slice A l c] 43)) := by go_grown
  have HV := Lib.hid (h.below hB)
  have HN : Hid (1 < nl n) := by
    rcases Nat.lt_or_ge 1 (nl n) with h1 | h1
    · exact h1
    · have h2 := nl_le_iff.1 h1
      rw [Nat.pow_one, B_eq] at h2
      have := hn.out
      omega
  clear h hn
  go_enter Tryd.func38, Tryd.ntmps38
  go_wp2_with fail
  refine (trim_v HV.out hl).mono ?_
  rintro e w1 ⟨A1, c1, l1, rfl, h1, m1, b1⟩
  have p1 : ((l1 : Int) == 0) = false := by have := h1.2; have := HN.out; simp; omega
  have p2 : decide ((1 : Int) < (l1 : Int)) = true := by have := h1.2; have := HN.out; simp; omega
  clear h1
  go_wp2_with fail
  go_ret2
  exact ⟨rfl, below_trans hB b1⟩
theorem digit_one {w : World} {A : Option Addr} {c l n : Nat} (h : C w A c l n) (h0 : n ≠ 0) (hn : n < B) : l = 1 ∧ ∃ k off, A = some ⟨k, off, none⟩ ∧ w.cell? ⟨k, off, none⟩ = some (.int .u64 (n : Int)) := by
  have e : limbs n = [n] := by
    have := limbs_of (xs := [n]) (fun x hx => by simp at hx; omega) (.inr (by simpa using h0))
    rw [show val [n] = n by simp [val]] at this
    exact this
  obtain ⟨h1, h2⟩ := h
  rw [e] at h1
  obtain ⟨k, off, hA, hc⟩ := h1.cells (by simp)
  refine ⟨by rw [← h2]; unfold nl; rw [e]; rfl, k, off, hA, ?_⟩
  have := hc 0 (by simp)
  simpa [dg] using this
theorem small_neg (n : Nat) (h : V w A c l n) (hl : l ≤ 800000) (h0 : Hid (n ≠ 0)) (hn : Hid (n ≤ 9223372036854775808)) :
    Calls Tryd.prog 38 #[.agg #[.bool true, .slice A l c]] w (TellsS w (-(n : Int)) true) := by
  have hB : Below w.heap.size w (w.alloc (.cells #[.bool true, .slice A l c] 43)) := by go_grown
  have HV := Lib.hid (h.below hB)
  have HX := Lib.hid (IBox.new w (.bool true) (.slice A l c))
  have u1 := i64_neg n hn
  have p3 : decide ((n : Int) ≤ 9223372036854775808) = true := by have := hn.out; simp; omega
  clear h
  go_enter Tryd.func38, Tryd.ntmps38
  go_wp2_with fail
  refine (trim_v HV.out hl).mono ?_
  rintro e w1 ⟨A1, c1, l1, rfl, h1, m1, b1⟩
  obtain ⟨rfl, k, off, rfl, hc⟩ := digit_one h1 h0.out (by have := hn.out; rw [B_eq]; omega)
  obtain ⟨⟨x1, x2⟩, x3, x4⟩ := (HX.out.below b1).look
  clear h1
  go_wp2_with fail
  go_ret2
  exact ⟨rfl, below_trans hB b1⟩
theorem small_pos (n : Nat) (h : V w A c l n) (hl : l ≤ 800000) (h0 : Hid (n ≠ 0)) (hn : Hid (n < 9223372036854775808)) :
    Calls Tryd.prog 38 #[.agg #[.bool false, .slice A l c]] w (TellsS w (n : Int) true) := by
  have hB : Below w.heap.size w (w.alloc (.cells #[.bool false, .slice A l c] 43)) := by go_grown
  have HV := Lib.hid (h.below hB)
  have HX := Lib.hid (IBox.new w (.bool false) (.slice A l c))
  have u1 := i64_id n hn
  have p3 : decide ((n : Int) ≤ 9223372036854775807) = true := by have := hn.out; simp; omega
  clear h
  go_enter Tryd.func38, Tryd.ntmps38
  go_wp2_with fail
  refine (trim_v HV.out hl).mono ?_
  rintro e w1 ⟨A1, c1, l1, rfl, h1, m1, b1⟩
  obtain ⟨rfl, k, off, rfl, hc⟩ := digit_one h1 h0.out (by have := hn.out; rw [B_eq]; omega)
  obtain ⟨⟨x1, x2⟩, x3, x4⟩ := (HX.out.below b1).look
  clear h1
  go_wp2_with fail
  go_ret2
  exact ⟨rfl, below_trans hB b1⟩
theorem small_no (n : Nat) (h : V w A c l n) (hl : l ≤ 800000) (hn : Hid ((if b then 9223372036854775808 else 9223372036854775807) < n)) (hB' : Hid (n < 18446744073709551616)) :
    Calls Tryd.prog 38 #[.agg #[.bool b, .slice A l c]] w (TellsS w 0 false) := by
  have hB : Below w.heap.size w (w.alloc (.cells #[.bool b, .slice A l c] 43)) := by go_grown
  have HV := Lib.hid (h.below hB)
  have HX := Lib.hid (IBox.new w (.bool b) (.slice A l c))
  clear h
  cases b
  · have p3 : decide ((n : Int) ≤ 9223372036854775807) = false := by have : 9223372036854775807 < n := hn.out; simp; omega
    go_enter Tryd.func38, Tryd.ntmps38
    go_wp2_with fail
    refine (trim_v HV.out hl).mono ?_
    rintro e w1 ⟨A1, c1, l1, rfl, h1, m1, b1⟩
    obtain ⟨rfl, k, off, rfl, hc⟩ := digit_one h1 (by have : 9223372036854775807 < n := hn.out; omega) (by have := hB'.out; rw [B_eq]; omega)
    obtain ⟨⟨x1, x2⟩, x3, x4⟩ := (HX.out.below b1).look
    clear h1
    go_wp2_with fail
    go_ret2
    exact ⟨rfl, below_trans hB b1⟩
  · have p3 : decide ((n : Int) ≤ 9223372036854775808) = false := by have : 9223372036854775808 < n := hn.out; simp; omega
    go_enter Tryd.func38, Tryd.ntmps38
    go_wp2_with fail
    refine (trim_v HV.out hl).mono ?_
    rintro e w1 ⟨A1, c1, l1, rfl, h1, m1, b1⟩
    obtain ⟨rfl, k, off, rfl, hc⟩ := digit_one h1 (by have : 9223372036854775808 < n := hn.out; omega) (by have := hB'.out; rw [B_eq]; omega)
    obtain ⟨⟨x1, x2⟩, x3, x4⟩ := (HX.out.below b1).look
    clear h1
    go_wp2_with fail
    go_ret2
    exact ⟨rfl, below_trans hB b1⟩
/-- An int64? -/
def isSmall (z : Int) : Bool := decide (-9223372036854775808 ≤ z ∧ z ≤ 9223372036854775807)
theorem small_z (h : I w b A c l z) (hl : l ≤ 800000) (r : Int) (t : Bool) (ht : isSmall z = t) (hr : (if t then z else 0) = r) :
    Calls Tryd.prog 38 #[.agg #[.bool b, .slice A l c]] w (TellsS w r t) := by
  subst hr ht
  obtain ⟨n, h1, rfl⟩ := h
  by_cases h0 : n = 0
  · subst h0
    have e : sgn b 0 = 0 := by unfold sgn; cases b <;> rfl
    rw [e]
    exact small_0 h1 hl
  · by_cases hs : isSmall (sgn b n) = true
    · rw [hs]
      simp only [if_true]
      unfold isSmall at hs
      have hs := of_decide_eq_true hs
      cases b
      · exact small_pos n h1 hl (Lib.hid h0) (Lib.hid (by simp [sgn] at hs; omega))
      · exact small_neg n h1 hl (Lib.hid h0) (Lib.hid (by simp [sgn] at hs; omega))
    · have hs' : isSmall (sgn b n) = false := by simpa using hs
      rw [hs']
      simp only [Bool.false_eq_true, if_false]
      unfold isSmall at hs'
      have hs' := of_decide_eq_false hs'
      by_cases hB : n < 18446744073709551616
      · refine small_no n h1 hl (Lib.hid ?_) (Lib.hid hB)
        cases b
        · simp [sgn] at hs' ⊢; omega
        · simp [sgn] at hs' ⊢; omega
      · exact small_long n h1 hl (Lib.hid (by omega))
end
end Go.Proofs.YtjlfcnkndndgaaaDoor
