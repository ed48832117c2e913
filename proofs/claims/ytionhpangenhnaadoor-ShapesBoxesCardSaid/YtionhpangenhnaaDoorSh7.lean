/-
  Which layers fit: conv. Written by wip/gen/sh7.py.
-/
import Derived.Test.YtionhpangenhnaaDoorSh6
namespace Go.Proofs.YtionhpangenhnaaDoor
open Go.RowKit Tw

/-- The sizes of a picture. -/
def sides (y : Ly) : List Int := [y.ch, y.high, y.wide, y.out, y.kh, y.kw, y.st]
def cHigh (y : Ly) : Int := y.high + 2 * y.pad - y.kh
def cWide (y : Ly) : Int := y.wide + 2 * y.pad - y.kw
def cEach (y : Ly) : Int := y.ch * y.kh * y.kw
def cUnits (y : Ly) : Int := y.out * (cHigh y / y.st + 1) * (cWide y / y.st + 1)
/-- A Conv: how many units are behind it, how many terms it has; nothing, if it does not fit. -/
def convF (y : Ly) (n : Int) : Option (Int × Int) :=
  if ((sides y).all fun z => decide (1 ≤ z) && decide (z ≤ 256)) = false then none
  else if y.pad < 0 then none else if y.kh ≤ y.pad then none else if y.kw ≤ y.pad then none else if y.ch * y.high * y.wide ≠ n then none
  else if cHigh y < 0 then none else if cWide y < 0 then none else if (y.kn : Int) ≠ y.out * cEach y then none else if (y.bn : Int) ≠ y.out then none
  else if 0 < y.rn then none else if 0 < y.gn then none else if (y.kern.all fun x => x.ex) = false then none else if (y.bias.all fun x => x.ex) = false then none
  else some (cUnits y, cUnits y * cEach y)
theorem mulb {a b A B : Int} (h0 : 0 ≤ a) (h1 : a ≤ A) (k0 : 0 ≤ b) (k1 : b ≤ B) : 0 ≤ a * b ∧ a * b ≤ A * B :=
  ⟨Int.mul_nonneg h0 k0, Int.mul_le_mul h1 k1 k0 (by omega)⟩
/-- What the bounds of a picture's sizes tell of products. -/
structure ConvOk (y : Ly) : Prop where
  ch : 1 ≤ y.ch ∧ y.ch ≤ 256
  high : 1 ≤ y.high ∧ y.high ≤ 256
  wide : 1 ≤ y.wide ∧ y.wide ≤ 256
  out : 1 ≤ y.out ∧ y.out ≤ 256
  kh : 1 ≤ y.kh ∧ y.kh ≤ 256
  kw : 1 ≤ y.kw ∧ y.kw ≤ 256
  st : 1 ≤ y.st ∧ y.st ≤ 256
theorem sides_ok {y : Ly} (h : ((sides y).all fun z => decide (1 ≤ z) && decide (z ≤ 256)) = true) : ConvOk y := by
  simp only [sides, List.all_cons, List.all_nil, Bool.and_true, Bool.and_eq_true, decide_eq_true_eq] at h
  obtain ⟨h1, h2, h3, h4, h5, h6, h7⟩ := h
  exact ⟨h1, h2, h3, h4, h5, h6, h7⟩
set_option maxRecDepth 100000 in
set_option maxHeartbeats 4000000 in
theorem conv_0 {w : World} {m : Nat} {y : Ly} {n : Int} (_h : LyOk w m y) (_hm : m ≤ 20000) (_hl : y.rn ≤ 100000 ∧ y.bn ≤ 100000 ∧ y.kn ≤ 100000 ∧ y.gn ≤ 100000) (HS : Hid (((sides y).all fun z => decide (1 ≤ z) && decide (z ≤ 256)) = false))   (HA : Hid (convF y n = none)) (_hT : Hid (Tab w)) :
    Calls Tryd.prog 102 #[.agg #[.int .u8 y.kind, .slice y.rA y.rn y.rc, .slice y.bA y.bn y.bc, .int .i64 y.ch, .int .i64 y.high, .int .i64 y.wide, .int .i64 y.out, .int .i64 y.kh, .int .i64 y.kw, .int .i64 y.st, .int .i64 y.pad, .slice y.kA y.kn y.kc, .slice y.gA y.gn y.gc], .int .i64 n] w (TellsB w (convF y n)) := by
  obtain ⟨W, hW, x0, hB⟩ := boxes1 w #[.int .u8 y.kind, .slice y.rA y.rn y.rc, .slice y.bA y.bn y.bc, .int .i64 y.ch, .int .i64 y.high, .int .i64 y.wide, .int .i64 y.out, .int .i64 y.kh, .int .i64 y.kw, .int .i64 y.st, .int .i64 y.pad, .slice y.kA y.kn y.kc, .slice y.gA y.gn y.gc] 38
  have HX0 := Lib.hid x0
  clear x0
  have Bz := Below.refl W.heap.size W
  have p0_3 := (HX0.out.below Bz).cell 3 (.int .i64 y.ch) rfl
  have p0_4 := (HX0.out.below Bz).cell 4 (.int .i64 y.high) rfl
  have p0_5 := (HX0.out.below Bz).cell 5 (.int .i64 y.wide) rfl
  have p0_6 := (HX0.out.below Bz).cell 6 (.int .i64 y.out) rfl
  have p0_7 := (HX0.out.below Bz).cell 7 (.int .i64 y.kh) rfl
  have p0_8 := (HX0.out.below Bz).cell 8 (.int .i64 y.kw) rfl
  have p0_9 := (HX0.out.below Bz).cell 9 (.int .i64 y.st) rfl
  go_enter Tryd.func102, Tryd.ntmps102
  go_upto_region 1 with (fail)
  rw [← hW]
  clear hW
  go_upto_region 2 with (fail)
  obtain ⟨V1, hW, x1, hN⟩ := boxes1 W #[.int .i64 y.ch, .int .i64 y.high, .int .i64 y.wide, .int .i64 y.out, .int .i64 y.kh, .int .i64 y.kw, .int .i64 y.st] 3
  rw [← hW]
  clear hW
  obtain ⟨v1, hb1⟩ : ∃ b, b = W.heap.size := ⟨_, rfl⟩
  rw [← hb1] at x1 ⊢
  have o0_1 : w.heap.size < v1 := by have := (HX0.out.below Bz).lt; omega
  have ow_1 : w.heap.size ≤ v1 := by have := hB.size; have := Bz.size; omega
  replace hB := below_trans (below_trans hB Bz) hN
  replace HX0 := Lib.hid ((HX0.out.below Bz).below hN)
  have HX1 := Lib.hid x1
  clear x1 hN Bz hb1
  have Bz := Below.refl V1.heap.size V1
  clear p0_3 p0_4 p0_5 p0_6 p0_7 p0_8 p0_9
  go_wp2_with fail
  with_reducible refine (all_conv (ints_sl (sides y) (HX1.out.below (below_trans Bz (by go_grown))) 7 rfl) (by omega) false HS).mono ?_
  rintro e w1 ⟨rfl, b1⟩
  replace b1 := below_trans (a := V1) (by go_grown) b1
  replace Bz := below_trans Bz b1
  clear b1
  go_wp2_with fail
  go_ret3
  have hF := below_trans (c := w1) hB Bz
  exact ⟨by rw [HA.out]; rfl, below_trans hF (by go_grown)⟩
set_option maxRecDepth 100000 in
set_option maxHeartbeats 4000000 in
theorem conv_1 {w : World} {m : Nat} {y : Ly} {n : Int} (_h : LyOk w m y) (_hm : m ≤ 20000) (_hl : y.rn ≤ 100000 ∧ y.bn ≤ 100000 ∧ y.kn ≤ 100000 ∧ y.gn ≤ 100000) (HS : Hid (((sides y).all fun z => decide (1 ≤ z) && decide (z ≤ 256)) = true)) (g1 : y.pad < 0) (_r1 : 1 ≤ y.ch ∧ y.ch ≤ 256) (_r2 : 1 ≤ y.high ∧ y.high ≤ 256) (_r3 : 1 ≤ y.wide ∧ y.wide ≤ 256) (_r4 : 1 ≤ y.out ∧ y.out ≤ 256) (_r5 : 1 ≤ y.kh ∧ y.kh ≤ 256) (_r6 : 1 ≤ y.kw ∧ y.kw ≤ 256) (_r7 : 1 ≤ y.st ∧ y.st ≤ 256)  (HA : Hid (convF y n = none)) (_hT : Hid (Tab w)) :
    Calls Tryd.prog 102 #[.agg #[.int .u8 y.kind, .slice y.rA y.rn y.rc, .slice y.bA y.bn y.bc, .int .i64 y.ch, .int .i64 y.high, .int .i64 y.wide, .int .i64 y.out, .int .i64 y.kh, .int .i64 y.kw, .int .i64 y.st, .int .i64 y.pad, .slice y.kA y.kn y.kc, .slice y.gA y.gn y.gc], .int .i64 n] w (TellsB w (convF y n)) := by
  obtain ⟨W, hW, x0, hB⟩ := boxes1 w #[.int .u8 y.kind, .slice y.rA y.rn y.rc, .slice y.bA y.bn y.bc, .int .i64 y.ch, .int .i64 y.high, .int .i64 y.wide, .int .i64 y.out, .int .i64 y.kh, .int .i64 y.kw, .int .i64 y.st, .int .i64 y.pad, .slice y.kA y.kn y.kc, .slice y.gA y.gn y.gc] 38
  have HX0 := Lib.hid x0
  clear x0
  have Bz := Below.refl W.heap.size W
  have p0_3 := (HX0.out.below Bz).cell 3 (.int .i64 y.ch) rfl
  have p0_4 := (HX0.out.below Bz).cell 4 (.int .i64 y.high) rfl
  have p0_5 := (HX0.out.below Bz).cell 5 (.int .i64 y.wide) rfl
  have p0_6 := (HX0.out.below Bz).cell 6 (.int .i64 y.out) rfl
  have p0_7 := (HX0.out.below Bz).cell 7 (.int .i64 y.kh) rfl
  have p0_8 := (HX0.out.below Bz).cell 8 (.int .i64 y.kw) rfl
  have p0_9 := (HX0.out.below Bz).cell 9 (.int .i64 y.st) rfl
  go_enter Tryd.func102, Tryd.ntmps102
  go_upto_region 1 with (fail)
  rw [← hW]
  clear hW
  go_upto_region 2 with (fail)
  obtain ⟨V1, hW, x1, hN⟩ := boxes1 W #[.int .i64 y.ch, .int .i64 y.high, .int .i64 y.wide, .int .i64 y.out, .int .i64 y.kh, .int .i64 y.kw, .int .i64 y.st] 3
  rw [← hW]
  clear hW
  obtain ⟨v1, hb1⟩ : ∃ b, b = W.heap.size := ⟨_, rfl⟩
  rw [← hb1] at x1 ⊢
  have o0_1 : w.heap.size < v1 := by have := (HX0.out.below Bz).lt; omega
  have ow_1 : w.heap.size ≤ v1 := by have := hB.size; have := Bz.size; omega
  replace hB := below_trans (below_trans hB Bz) hN
  replace HX0 := Lib.hid ((HX0.out.below Bz).below hN)
  have HX1 := Lib.hid x1
  clear x1 hN Bz hb1
  have Bz := Below.refl V1.heap.size V1
  clear p0_3 p0_4 p0_5 p0_6 p0_7 p0_8 p0_9
  go_wp2_with fail
  with_reducible refine (all_conv (ints_sl (sides y) (HX1.out.below (below_trans Bz (by go_grown))) 7 rfl) (by omega) true HS).mono ?_
  rintro e w1 ⟨rfl, b1⟩
  replace b1 := below_trans (a := V1) (by go_grown) b1
  replace Bz := below_trans Bz b1
  clear b1
  have p0_10 := (HX0.out.below Bz).cell 10 (.int .i64 y.pad) rfl
  go_wp2_with fail
  go_ret3
  have hF := below_trans (c := w1) hB Bz
  exact ⟨by rw [HA.out]; rfl, below_trans hF (by go_grown)⟩
set_option maxRecDepth 100000 in
set_option maxHeartbeats 4000000 in
theorem conv_2 {w : World} {m : Nat} {y : Ly} {n : Int} (_h : LyOk w m y) (_hm : m ≤ 20000) (_hl : y.rn ≤ 100000 ∧ y.bn ≤ 100000 ∧ y.kn ≤ 100000 ∧ y.gn ≤ 100000) (HS : Hid (((sides y).all fun z => decide (1 ≤ z) && decide (z ≤ 256)) = true)) (g1 : ¬ y.pad < 0) (g2 : y.kh ≤ y.pad) (_r1 : 1 ≤ y.ch ∧ y.ch ≤ 256) (_r2 : 1 ≤ y.high ∧ y.high ≤ 256) (_r3 : 1 ≤ y.wide ∧ y.wide ≤ 256) (_r4 : 1 ≤ y.out ∧ y.out ≤ 256) (_r5 : 1 ≤ y.kh ∧ y.kh ≤ 256) (_r6 : 1 ≤ y.kw ∧ y.kw ≤ 256) (_r7 : 1 ≤ y.st ∧ y.st ≤ 256)  (HA : Hid (convF y n = none)) (_hT : Hid (Tab w)) :
    Calls Tryd.prog 102 #[.agg #[.int .u8 y.kind, .slice y.rA y.rn y.rc, .slice y.bA y.bn y.bc, .int .i64 y.ch, .int .i64 y.high, .int .i64 y.wide, .int .i64 y.out, .int .i64 y.kh, .int .i64 y.kw, .int .i64 y.st, .int .i64 y.pad, .slice y.kA y.kn y.kc, .slice y.gA y.gn y.gc], .int .i64 n] w (TellsB w (convF y n)) := by
  obtain ⟨W, hW, x0, hB⟩ := boxes1 w #[.int .u8 y.kind, .slice y.rA y.rn y.rc, .slice y.bA y.bn y.bc, .int .i64 y.ch, .int .i64 y.high, .int .i64 y.wide, .int .i64 y.out, .int .i64 y.kh, .int .i64 y.kw, .int .i64 y.st, .int .i64 y.pad, .slice y.kA y.kn y.kc, .slice y.gA y.gn y.gc] 38
  have HX0 := Lib.hid x0
  clear x0
  have Bz := Below.refl W.heap.size W
  have p0_3 := (HX0.out.below Bz).cell 3 (.int .i64 y.ch) rfl
  have p0_4 := (HX0.out.below Bz).cell 4 (.int .i64 y.high) rfl
  have p0_5 := (HX0.out.below Bz).cell 5 (.int .i64 y.wide) rfl
  have p0_6 := (HX0.out.below Bz).cell 6 (.int .i64 y.out) rfl
  have p0_7 := (HX0.out.below Bz).cell 7 (.int .i64 y.kh) rfl
  have p0_8 := (HX0.out.below Bz).cell 8 (.int .i64 y.kw) rfl
  have p0_9 := (HX0.out.below Bz).cell 9 (.int .i64 y.st) rfl
  go_enter Tryd.func102, Tryd.ntmps102
  go_upto_region 1 with (fail)
  rw [← hW]
  clear hW
  go_upto_region 2 with (fail)
  obtain ⟨V1, hW, x1, hN⟩ := boxes1 W #[.int .i64 y.ch, .int .i64 y.high, .int .i64 y.wide, .int .i64 y.out, .int .i64 y.kh, .int .i64 y.kw, .int .i64 y.st] 3
  rw [← hW]
  clear hW
  obtain ⟨v1, hb1⟩ : ∃ b, b = W.heap.size := ⟨_, rfl⟩
  rw [← hb1] at x1 ⊢
  have o0_1 : w.heap.size < v1 := by have := (HX0.out.below Bz).lt; omega
  have ow_1 : w.heap.size ≤ v1 := by have := hB.size; have := Bz.size; omega
  replace hB := below_trans (below_trans hB Bz) hN
  replace HX0 := Lib.hid ((HX0.out.below Bz).below hN)
  have HX1 := Lib.hid x1
  clear x1 hN Bz hb1
  have Bz := Below.refl V1.heap.size V1
  clear p0_3 p0_4 p0_5 p0_6 p0_7 p0_8 p0_9
  go_wp2_with fail
  with_reducible refine (all_conv (ints_sl (sides y) (HX1.out.below (below_trans Bz (by go_grown))) 7 rfl) (by omega) true HS).mono ?_
  rintro e w1 ⟨rfl, b1⟩
  replace b1 := below_trans (a := V1) (by go_grown) b1
  replace Bz := below_trans Bz b1
  clear b1
  have p0_7 := (HX0.out.below Bz).cell 7 (.int .i64 y.kh) rfl
  have p0_10 := (HX0.out.below Bz).cell 10 (.int .i64 y.pad) rfl
  go_wp2_with fail
  go_ret3
  have hF := below_trans (c := w1) hB Bz
  exact ⟨by rw [HA.out]; rfl, below_trans hF (by go_grown)⟩
set_option maxRecDepth 100000 in
set_option maxHeartbeats 4000000 in
theorem conv_3 {w : World} {m : Nat} {y : Ly} {n : Int} (_h : LyOk w m y) (_hm : m ≤ 20000) (_hl : y.rn ≤ 100000 ∧ y.bn ≤ 100000 ∧ y.kn ≤ 100000 ∧ y.gn ≤ 100000) (HS : Hid (((sides y).all fun z => decide (1 ≤ z) && decide (z ≤ 256)) = true)) (g1 : ¬ y.pad < 0) (g2 : ¬ y.kh ≤ y.pad) (g3 : y.kw ≤ y.pad) (_r1 : 1 ≤ y.ch ∧ y.ch ≤ 256) (_r2 : 1 ≤ y.high ∧ y.high ≤ 256) (_r3 : 1 ≤ y.wide ∧ y.wide ≤ 256) (_r4 : 1 ≤ y.out ∧ y.out ≤ 256) (_r5 : 1 ≤ y.kh ∧ y.kh ≤ 256) (_r6 : 1 ≤ y.kw ∧ y.kw ≤ 256) (_r7 : 1 ≤ y.st ∧ y.st ≤ 256)  (HA : Hid (convF y n = none)) (_hT : Hid (Tab w)) :
    Calls Tryd.prog 102 #[.agg #[.int .u8 y.kind, .slice y.rA y.rn y.rc, .slice y.bA y.bn y.bc, .int .i64 y.ch, .int .i64 y.high, .int .i64 y.wide, .int .i64 y.out, .int .i64 y.kh, .int .i64 y.kw, .int .i64 y.st, .int .i64 y.pad, .slice y.kA y.kn y.kc, .slice y.gA y.gn y.gc], .int .i64 n] w (TellsB w (convF y n)) := by
  obtain ⟨W, hW, x0, hB⟩ := boxes1 w #[.int .u8 y.kind, .slice y.rA y.rn y.rc, .slice y.bA y.bn y.bc, .int .i64 y.ch, .int .i64 y.high, .int .i64 y.wide, .int .i64 y.out, .int .i64 y.kh, .int .i64 y.kw, .int .i64 y.st, .int .i64 y.pad, .slice y.kA y.kn y.kc, .slice y.gA y.gn y.gc] 38
  have HX0 := Lib.hid x0
  clear x0
  have Bz := Below.refl W.heap.size W
  have p0_3 := (HX0.out.below Bz).cell 3 (.int .i64 y.ch) rfl
  have p0_4 := (HX0.out.below Bz).cell 4 (.int .i64 y.high) rfl
  have p0_5 := (HX0.out.below Bz).cell 5 (.int .i64 y.wide) rfl
  have p0_6 := (HX0.out.below Bz).cell 6 (.int .i64 y.out) rfl
  have p0_7 := (HX0.out.below Bz).cell 7 (.int .i64 y.kh) rfl
  have p0_8 := (HX0.out.below Bz).cell 8 (.int .i64 y.kw) rfl
  have p0_9 := (HX0.out.below Bz).cell 9 (.int .i64 y.st) rfl
  go_enter Tryd.func102, Tryd.ntmps102
  go_upto_region 1 with (fail)
  rw [← hW]
  clear hW
  go_upto_region 2 with (fail)
  obtain ⟨V1, hW, x1, hN⟩ := boxes1 W #[.int .i64 y.ch, .int .i64 y.high, .int .i64 y.wide, .int .i64 y.out, .int .i64 y.kh, .int .i64 y.kw, .int .i64 y.st] 3
  rw [← hW]
  clear hW
  obtain ⟨v1, hb1⟩ : ∃ b, b = W.heap.size := ⟨_, rfl⟩
  rw [← hb1] at x1 ⊢
  have o0_1 : w.heap.size < v1 := by have := (HX0.out.below Bz).lt; omega
  have ow_1 : w.heap.size ≤ v1 := by have := hB.size; have := Bz.size; omega
  replace hB := below_trans (below_trans hB Bz) hN
  replace HX0 := Lib.hid ((HX0.out.below Bz).below hN)
  have HX1 := Lib.hid x1
  clear x1 hN Bz hb1
  have Bz := Below.refl V1.heap.size V1
  clear p0_3 p0_4 p0_5 p0_6 p0_7 p0_8 p0_9
  go_wp2_with fail
  with_reducible refine (all_conv (ints_sl (sides y) (HX1.out.below (below_trans Bz (by go_grown))) 7 rfl) (by omega) true HS).mono ?_
  rintro e w1 ⟨rfl, b1⟩
  replace b1 := below_trans (a := V1) (by go_grown) b1
  replace Bz := below_trans Bz b1
  clear b1
  have p0_7 := (HX0.out.below Bz).cell 7 (.int .i64 y.kh) rfl
  have p0_8 := (HX0.out.below Bz).cell 8 (.int .i64 y.kw) rfl
  have p0_10 := (HX0.out.below Bz).cell 10 (.int .i64 y.pad) rfl
  go_wp2_with fail
  go_ret3
  have hF := below_trans (c := w1) hB Bz
  exact ⟨by rw [HA.out]; rfl, below_trans hF (by go_grown)⟩
set_option maxRecDepth 100000 in
set_option maxHeartbeats 4000000 in
theorem conv_4 {w : World} {m : Nat} {y : Ly} {n : Int} (_h : LyOk w m y) (_hm : m ≤ 20000) (_hl : y.rn ≤ 100000 ∧ y.bn ≤ 100000 ∧ y.kn ≤ 100000 ∧ y.gn ≤ 100000) (HS : Hid (((sides y).all fun z => decide (1 ≤ z) && decide (z ≤ 256)) = true)) (g1 : ¬ y.pad < 0) (g2 : ¬ y.kh ≤ y.pad) (g3 : ¬ y.kw ≤ y.pad) (g4 : (y.ch * y.high * y.wide != n) = true) (_r1 : 1 ≤ y.ch ∧ y.ch ≤ 256) (_r2 : 1 ≤ y.high ∧ y.high ≤ 256) (_r3 : 1 ≤ y.wide ∧ y.wide ≤ 256) (_r4 : 1 ≤ y.out ∧ y.out ≤ 256) (_r5 : 1 ≤ y.kh ∧ y.kh ≤ 256) (_r6 : 1 ≤ y.kw ∧ y.kw ≤ 256) (_r7 : 1 ≤ y.st ∧ y.st ≤ 256) (lP1 : 0 ≤ y.ch * y.high) (uP1 : y.ch * y.high ≤ 65536) (lP2 : 0 ≤ y.ch * y.high * y.wide) (uP2 : y.ch * y.high * y.wide ≤ 16777216) (HA : Hid (convF y n = none)) (_hT : Hid (Tab w)) :
    Calls Tryd.prog 102 #[.agg #[.int .u8 y.kind, .slice y.rA y.rn y.rc, .slice y.bA y.bn y.bc, .int .i64 y.ch, .int .i64 y.high, .int .i64 y.wide, .int .i64 y.out, .int .i64 y.kh, .int .i64 y.kw, .int .i64 y.st, .int .i64 y.pad, .slice y.kA y.kn y.kc, .slice y.gA y.gn y.gc], .int .i64 n] w (TellsB w (convF y n)) := by
  obtain ⟨W, hW, x0, hB⟩ := boxes1 w #[.int .u8 y.kind, .slice y.rA y.rn y.rc, .slice y.bA y.bn y.bc, .int .i64 y.ch, .int .i64 y.high, .int .i64 y.wide, .int .i64 y.out, .int .i64 y.kh, .int .i64 y.kw, .int .i64 y.st, .int .i64 y.pad, .slice y.kA y.kn y.kc, .slice y.gA y.gn y.gc] 38
  have HX0 := Lib.hid x0
  clear x0
  have Bz := Below.refl W.heap.size W
  have p0_3 := (HX0.out.below Bz).cell 3 (.int .i64 y.ch) rfl
  have p0_4 := (HX0.out.below Bz).cell 4 (.int .i64 y.high) rfl
  have p0_5 := (HX0.out.below Bz).cell 5 (.int .i64 y.wide) rfl
  have p0_6 := (HX0.out.below Bz).cell 6 (.int .i64 y.out) rfl
  have p0_7 := (HX0.out.below Bz).cell 7 (.int .i64 y.kh) rfl
  have p0_8 := (HX0.out.below Bz).cell 8 (.int .i64 y.kw) rfl
  have p0_9 := (HX0.out.below Bz).cell 9 (.int .i64 y.st) rfl
  go_enter Tryd.func102, Tryd.ntmps102
  go_upto_region 1 with (fail)
  rw [← hW]
  clear hW
  go_upto_region 2 with (fail)
  obtain ⟨V1, hW, x1, hN⟩ := boxes1 W #[.int .i64 y.ch, .int .i64 y.high, .int .i64 y.wide, .int .i64 y.out, .int .i64 y.kh, .int .i64 y.kw, .int .i64 y.st] 3
  rw [← hW]
  clear hW
  obtain ⟨v1, hb1⟩ : ∃ b, b = W.heap.size := ⟨_, rfl⟩
  rw [← hb1] at x1 ⊢
  have o0_1 : w.heap.size < v1 := by have := (HX0.out.below Bz).lt; omega
  have ow_1 : w.heap.size ≤ v1 := by have := hB.size; have := Bz.size; omega
  replace hB := below_trans (below_trans hB Bz) hN
  replace HX0 := Lib.hid ((HX0.out.below Bz).below hN)
  have HX1 := Lib.hid x1
  clear x1 hN Bz hb1
  have Bz := Below.refl V1.heap.size V1
  clear p0_3 p0_4 p0_5 p0_6 p0_7 p0_8 p0_9
  go_wp2_with fail
  with_reducible refine (all_conv (ints_sl (sides y) (HX1.out.below (below_trans Bz (by go_grown))) 7 rfl) (by omega) true HS).mono ?_
  rintro e w1 ⟨rfl, b1⟩
  replace b1 := below_trans (a := V1) (by go_grown) b1
  replace Bz := below_trans Bz b1
  clear b1
  have p0_3 := (HX0.out.below Bz).cell 3 (.int .i64 y.ch) rfl
  have p0_4 := (HX0.out.below Bz).cell 4 (.int .i64 y.high) rfl
  have p0_5 := (HX0.out.below Bz).cell 5 (.int .i64 y.wide) rfl
  have p0_7 := (HX0.out.below Bz).cell 7 (.int .i64 y.kh) rfl
  have p0_8 := (HX0.out.below Bz).cell 8 (.int .i64 y.kw) rfl
  have p0_10 := (HX0.out.below Bz).cell 10 (.int .i64 y.pad) rfl
  go_wp2_with fail
  go_ret3
  have hF := below_trans (c := w1) hB Bz
  exact ⟨by rw [HA.out]; rfl, below_trans hF (by go_grown)⟩
set_option maxRecDepth 100000 in
set_option maxHeartbeats 4000000 in
theorem conv_5 {w : World} {m : Nat} {y : Ly} {n : Int} (_h : LyOk w m y) (_hm : m ≤ 20000) (_hl : y.rn ≤ 100000 ∧ y.bn ≤ 100000 ∧ y.kn ≤ 100000 ∧ y.gn ≤ 100000) (HS : Hid (((sides y).all fun z => decide (1 ≤ z) && decide (z ≤ 256)) = true)) (g1 : ¬ y.pad < 0) (g2 : ¬ y.kh ≤ y.pad) (g3 : ¬ y.kw ≤ y.pad) (g4 : (y.ch * y.high * y.wide != n) = false) (g5 : y.high + 2 * y.pad - y.kh < 0) (_r1 : 1 ≤ y.ch ∧ y.ch ≤ 256) (r2 : 1 ≤ y.high ∧ y.high ≤ 256) (r3 : 1 ≤ y.wide ∧ y.wide ≤ 256) (_r4 : 1 ≤ y.out ∧ y.out ≤ 256) (r5 : 1 ≤ y.kh ∧ y.kh ≤ 256) (r6 : 1 ≤ y.kw ∧ y.kw ≤ 256) (_r7 : 1 ≤ y.st ∧ y.st ≤ 256) (lP1 : 0 ≤ y.ch * y.high) (uP1 : y.ch * y.high ≤ 65536) (lP2 : 0 ≤ y.ch * y.high * y.wide) (uP2 : y.ch * y.high * y.wide ≤ 16777216) (lP3 : 0 ≤ y.ch * y.kh) (uP3 : y.ch * y.kh ≤ 65536) (lP4 : 0 ≤ y.ch * y.kh * y.kw) (uP4 : y.ch * y.kh * y.kw ≤ 16777216) (HA : Hid (convF y n = none)) (_hT : Hid (Tab w)) :
    Calls Tryd.prog 102 #[.agg #[.int .u8 y.kind, .slice y.rA y.rn y.rc, .slice y.bA y.bn y.bc, .int .i64 y.ch, .int .i64 y.high, .int .i64 y.wide, .int .i64 y.out, .int .i64 y.kh, .int .i64 y.kw, .int .i64 y.st, .int .i64 y.pad, .slice y.kA y.kn y.kc, .slice y.gA y.gn y.gc], .int .i64 n] w (TellsB w (convF y n)) := by
  obtain ⟨W, hW, x0, hB⟩ := boxes1 w #[.int .u8 y.kind, .slice y.rA y.rn y.rc, .slice y.bA y.bn y.bc, .int .i64 y.ch, .int .i64 y.high, .int .i64 y.wide, .int .i64 y.out, .int .i64 y.kh, .int .i64 y.kw, .int .i64 y.st, .int .i64 y.pad, .slice y.kA y.kn y.kc, .slice y.gA y.gn y.gc] 38
  have HX0 := Lib.hid x0
  clear x0
  have Bz := Below.refl W.heap.size W
  have p0_3 := (HX0.out.below Bz).cell 3 (.int .i64 y.ch) rfl
  have p0_4 := (HX0.out.below Bz).cell 4 (.int .i64 y.high) rfl
  have p0_5 := (HX0.out.below Bz).cell 5 (.int .i64 y.wide) rfl
  have p0_6 := (HX0.out.below Bz).cell 6 (.int .i64 y.out) rfl
  have p0_7 := (HX0.out.below Bz).cell 7 (.int .i64 y.kh) rfl
  have p0_8 := (HX0.out.below Bz).cell 8 (.int .i64 y.kw) rfl
  have p0_9 := (HX0.out.below Bz).cell 9 (.int .i64 y.st) rfl
  go_enter Tryd.func102, Tryd.ntmps102
  go_upto_region 1 with (fail)
  rw [← hW]
  clear hW
  go_upto_region 2 with (fail)
  obtain ⟨V1, hW, x1, hN⟩ := boxes1 W #[.int .i64 y.ch, .int .i64 y.high, .int .i64 y.wide, .int .i64 y.out, .int .i64 y.kh, .int .i64 y.kw, .int .i64 y.st] 3
  rw [← hW]
  clear hW
  obtain ⟨v1, hb1⟩ : ∃ b, b = W.heap.size := ⟨_, rfl⟩
  rw [← hb1] at x1 ⊢
  have o0_1 : w.heap.size < v1 := by have := (HX0.out.below Bz).lt; omega
  have ow_1 : w.heap.size ≤ v1 := by have := hB.size; have := Bz.size; omega
  replace hB := below_trans (below_trans hB Bz) hN
  replace HX0 := Lib.hid ((HX0.out.below Bz).below hN)
  have HX1 := Lib.hid x1
  clear x1 hN Bz hb1
  have Bz := Below.refl V1.heap.size V1
  clear p0_3 p0_4 p0_5 p0_6 p0_7 p0_8 p0_9
  go_wp2_with fail
  with_reducible refine (all_conv (ints_sl (sides y) (HX1.out.below (below_trans Bz (by go_grown))) 7 rfl) (by omega) true HS).mono ?_
  rintro e w1 ⟨rfl, b1⟩
  replace b1 := below_trans (a := V1) (by go_grown) b1
  replace Bz := below_trans Bz b1
  clear b1
  have p0_3 := (HX0.out.below Bz).cell 3 (.int .i64 y.ch) rfl
  have p0_4 := (HX0.out.below Bz).cell 4 (.int .i64 y.high) rfl
  have p0_5 := (HX0.out.below Bz).cell 5 (.int .i64 y.wide) rfl
  have p0_7 := (HX0.out.below Bz).cell 7 (.int .i64 y.kh) rfl
  have p0_8 := (HX0.out.below Bz).cell 8 (.int .i64 y.kw) rfl
  have p0_10 := (HX0.out.below Bz).cell 10 (.int .i64 y.pad) rfl
  go_wp2_with fail
  (try simp only [List.append_eq, List.cons_append, List.nil_append])
  refine wp_region_plan (.pure 0 (.take 1 (.pure 2 (.take 3 (.pure 4 (.pure 5 (.pure 6 (.take 7 (.pure 8 (.pure 9 (.take 10 (.pure 11 (.take 12 (.pure 13 (.pure 14 (.pure 15 (.take 16 (.pure 17 (.pure 18 (.pure 19 .done)))))))))))))))))))) [] (fun w' => w'.cell? ⟨w.heap.size, 4, none⟩ = some (.int .i64 y.high) ∧ w'.cell? ⟨w.heap.size, 5, none⟩ = some (.int .i64 y.wide) ∧ w'.cell? ⟨w.heap.size, 7, none⟩ = some (.int .i64 y.kh) ∧ w'.cell? ⟨w.heap.size, 8, none⟩ = some (.int .i64 y.kw) ∧ w'.cell? ⟨w.heap.size, 10, none⟩ = some (.int .i64 y.pad)) (by kernel_rfl) (by kernel_rfl) ⟨p0_4, p0_5, p0_7, p0_8, p0_10⟩ ?_
  refine wpPlan_pure (o := ⟨some 60, _, _, _, _, _⟩) (v := ?_) rfl rfl (fun w' => ?_) ?_
  rotate_left
  · go_simp <;> with_reducible rfl
  try simp only [Act.put, List.setIfInBounds_toArray, List.set_cons_zero, List.set_cons_succ]
  refine wpPlan_take (o := ⟨some 61, _, _, _, _, _⟩) (v := ?_) rfl rfl (fun w' hS => ?_) ?_
  rotate_left
  · obtain ⟨p0_4, p0_5, p0_7, p0_8, p0_10⟩ := hS; go_simp <;> with_reducible rfl
  try simp only [Act.put, List.setIfInBounds_toArray, List.set_cons_zero, List.set_cons_succ]
  refine wpPlan_pure (o := ⟨some 62, _, _, _, _, _⟩) (v := ?_) rfl rfl (fun w' => ?_) ?_
  rotate_left
  · go_simp <;> with_reducible rfl
  try simp only [Act.put, List.setIfInBounds_toArray, List.set_cons_zero, List.set_cons_succ]
  refine wpPlan_take (o := ⟨some 63, _, _, _, _, _⟩) (v := ?_) rfl rfl (fun w' hS => ?_) ?_
  rotate_left
  · obtain ⟨p0_4, p0_5, p0_7, p0_8, p0_10⟩ := hS; go_simp <;> with_reducible rfl
  try simp only [Act.put, List.setIfInBounds_toArray, List.set_cons_zero, List.set_cons_succ]
  refine wpPlan_pure (o := ⟨some 64, _, _, _, _, _⟩) (v := ?_) rfl rfl (fun w' => ?_) ?_
  rotate_left
  · go_simp <;> with_reducible rfl
  try simp only [Act.put, List.setIfInBounds_toArray, List.set_cons_zero, List.set_cons_succ]
  refine wpPlan_pure (o := ⟨some 65, _, _, _, _, _⟩) (v := ?_) rfl rfl (fun w' => ?_) ?_
  rotate_left
  · go_simp <;> with_reducible rfl
  try simp only [Act.put, List.setIfInBounds_toArray, List.set_cons_zero, List.set_cons_succ]
  refine wpPlan_pure (o := ⟨some 66, _, _, _, _, _⟩) (v := ?_) rfl rfl (fun w' => ?_) ?_
  rotate_left
  · go_simp <;> with_reducible rfl
  try simp only [Act.put, List.setIfInBounds_toArray, List.set_cons_zero, List.set_cons_succ]
  refine wpPlan_take (o := ⟨some 67, _, _, _, _, _⟩) (v := ?_) rfl rfl (fun w' hS => ?_) ?_
  rotate_left
  · obtain ⟨p0_4, p0_5, p0_7, p0_8, p0_10⟩ := hS; go_simp <;> with_reducible rfl
  try simp only [Act.put, List.setIfInBounds_toArray, List.set_cons_zero, List.set_cons_succ]
  refine wpPlan_pure (o := ⟨some 68, _, _, _, _, _⟩) (v := ?_) rfl rfl (fun w' => ?_) ?_
  rotate_left
  · go_simp <;> with_reducible rfl
  try simp only [Act.put, List.setIfInBounds_toArray, List.set_cons_zero, List.set_cons_succ]
  refine wpPlan_pure (o := ⟨some 69, _, _, _, _, _⟩) (v := ?_) rfl rfl (fun w' => ?_) ?_
  rotate_left
  · go_simp <;> with_reducible rfl
  try simp only [Act.put, List.setIfInBounds_toArray, List.set_cons_zero, List.set_cons_succ]
  refine wpPlan_take (o := ⟨some 70, _, _, _, _, _⟩) (v := ?_) rfl rfl (fun w' hS => ?_) ?_
  rotate_left
  · obtain ⟨p0_4, p0_5, p0_7, p0_8, p0_10⟩ := hS; go_simp <;> with_reducible rfl
  try simp only [Act.put, List.setIfInBounds_toArray, List.set_cons_zero, List.set_cons_succ]
  refine wpPlan_pure (o := ⟨some 71, _, _, _, _, _⟩) (v := ?_) rfl rfl (fun w' => ?_) ?_
  rotate_left
  · go_simp <;> with_reducible rfl
  try simp only [Act.put, List.setIfInBounds_toArray, List.set_cons_zero, List.set_cons_succ]
  refine wpPlan_take (o := ⟨some 72, _, _, _, _, _⟩) (v := ?_) rfl rfl (fun w' hS => ?_) ?_
  rotate_left
  · obtain ⟨p0_4, p0_5, p0_7, p0_8, p0_10⟩ := hS; go_simp <;> with_reducible rfl
  try simp only [Act.put, List.setIfInBounds_toArray, List.set_cons_zero, List.set_cons_succ]
  refine wpPlan_pure (o := ⟨some 73, _, _, _, _, _⟩) (v := ?_) rfl rfl (fun w' => ?_) ?_
  rotate_left
  · go_simp <;> with_reducible rfl
  try simp only [Act.put, List.setIfInBounds_toArray, List.set_cons_zero, List.set_cons_succ]
  refine wpPlan_pure (o := ⟨some 74, _, _, _, _, _⟩) (v := ?_) rfl rfl (fun w' => ?_) ?_
  rotate_left
  · go_simp <;> with_reducible rfl
  try simp only [Act.put, List.setIfInBounds_toArray, List.set_cons_zero, List.set_cons_succ]
  refine wpPlan_pure (o := ⟨some 75, _, _, _, _, _⟩) (v := ?_) rfl rfl (fun w' => ?_) ?_
  rotate_left
  · go_simp <;> with_reducible rfl
  try simp only [Act.put, List.setIfInBounds_toArray, List.set_cons_zero, List.set_cons_succ]
  refine wpPlan_take (o := ⟨some 76, _, _, _, _, _⟩) (v := ?_) rfl rfl (fun w' hS => ?_) ?_
  rotate_left
  · obtain ⟨p0_4, p0_5, p0_7, p0_8, p0_10⟩ := hS; go_simp <;> with_reducible rfl
  try simp only [Act.put, List.setIfInBounds_toArray, List.set_cons_zero, List.set_cons_succ]
  refine wpPlan_pure (o := ⟨some 77, _, _, _, _, _⟩) (v := ?_) rfl rfl (fun w' => ?_) ?_
  rotate_left
  · go_simp <;> with_reducible rfl
  try simp only [Act.put, List.setIfInBounds_toArray, List.set_cons_zero, List.set_cons_succ]
  refine wpPlan_pure (o := ⟨some 8, _, _, _, _, _⟩) (v := ?_) rfl rfl (fun w' => ?_) ?_
  rotate_left
  · go_simp <;> with_reducible rfl
  try simp only [Act.put, List.setIfInBounds_toArray, List.set_cons_zero, List.set_cons_succ]
  refine wpPlan_pure (o := ⟨some 9, _, _, _, _, _⟩) (v := ?_) rfl rfl (fun w' => ?_) ?_
  rotate_left
  · go_simp <;> with_reducible rfl
  try simp only [Act.put, List.setIfInBounds_toArray, List.set_cons_zero, List.set_cons_succ]
  refine wpPlan_done ?_
  go_wp2_with fail
  go_ret3
  have hF := below_trans (c := w1) hB Bz
  exact ⟨by rw [HA.out]; rfl, below_trans hF (by go_grown)⟩
set_option maxRecDepth 100000 in
set_option maxHeartbeats 4000000 in
theorem conv_6 {w : World} {m : Nat} {y : Ly} {n : Int} (_h : LyOk w m y) (_hm : m ≤ 20000) (_hl : y.rn ≤ 100000 ∧ y.bn ≤ 100000 ∧ y.kn ≤ 100000 ∧ y.gn ≤ 100000) (HS : Hid (((sides y).all fun z => decide (1 ≤ z) && decide (z ≤ 256)) = true)) (g1 : ¬ y.pad < 0) (g2 : ¬ y.kh ≤ y.pad) (g3 : ¬ y.kw ≤ y.pad) (g4 : (y.ch * y.high * y.wide != n) = false) (g5 : ¬ y.high + 2 * y.pad - y.kh < 0) (g6 : y.wide + 2 * y.pad - y.kw < 0) (_r1 : 1 ≤ y.ch ∧ y.ch ≤ 256) (r2 : 1 ≤ y.high ∧ y.high ≤ 256) (r3 : 1 ≤ y.wide ∧ y.wide ≤ 256) (_r4 : 1 ≤ y.out ∧ y.out ≤ 256) (r5 : 1 ≤ y.kh ∧ y.kh ≤ 256) (r6 : 1 ≤ y.kw ∧ y.kw ≤ 256) (_r7 : 1 ≤ y.st ∧ y.st ≤ 256) (lP1 : 0 ≤ y.ch * y.high) (uP1 : y.ch * y.high ≤ 65536) (lP2 : 0 ≤ y.ch * y.high * y.wide) (uP2 : y.ch * y.high * y.wide ≤ 16777216) (lP3 : 0 ≤ y.ch * y.kh) (uP3 : y.ch * y.kh ≤ 65536) (lP4 : 0 ≤ y.ch * y.kh * y.kw) (uP4 : y.ch * y.kh * y.kw ≤ 16777216) (HA : Hid (convF y n = none)) (_hT : Hid (Tab w)) :
    Calls Tryd.prog 102 #[.agg #[.int .u8 y.kind, .slice y.rA y.rn y.rc, .slice y.bA y.bn y.bc, .int .i64 y.ch, .int .i64 y.high, .int .i64 y.wide, .int .i64 y.out, .int .i64 y.kh, .int .i64 y.kw, .int .i64 y.st, .int .i64 y.pad, .slice y.kA y.kn y.kc, .slice y.gA y.gn y.gc], .int .i64 n] w (TellsB w (convF y n)) := by
  obtain ⟨W, hW, x0, hB⟩ := boxes1 w #[.int .u8 y.kind, .slice y.rA y.rn y.rc, .slice y.bA y.bn y.bc, .int .i64 y.ch, .int .i64 y.high, .int .i64 y.wide, .int .i64 y.out, .int .i64 y.kh, .int .i64 y.kw, .int .i64 y.st, .int .i64 y.pad, .slice y.kA y.kn y.kc, .slice y.gA y.gn y.gc] 38
  have HX0 := Lib.hid x0
  clear x0
  have Bz := Below.refl W.heap.size W
  have p0_3 := (HX0.out.below Bz).cell 3 (.int .i64 y.ch) rfl
  have p0_4 := (HX0.out.below Bz).cell 4 (.int .i64 y.high) rfl
  have p0_5 := (HX0.out.below Bz).cell 5 (.int .i64 y.wide) rfl
  have p0_6 := (HX0.out.below Bz).cell 6 (.int .i64 y.out) rfl
  have p0_7 := (HX0.out.below Bz).cell 7 (.int .i64 y.kh) rfl
  have p0_8 := (HX0.out.below Bz).cell 8 (.int .i64 y.kw) rfl
  have p0_9 := (HX0.out.below Bz).cell 9 (.int .i64 y.st) rfl
  go_enter Tryd.func102, Tryd.ntmps102
  go_upto_region 1 with (fail)
  rw [← hW]
  clear hW
  go_upto_region 2 with (fail)
  obtain ⟨V1, hW, x1, hN⟩ := boxes1 W #[.int .i64 y.ch, .int .i64 y.high, .int .i64 y.wide, .int .i64 y.out, .int .i64 y.kh, .int .i64 y.kw, .int .i64 y.st] 3
  rw [← hW]
  clear hW
  obtain ⟨v1, hb1⟩ : ∃ b, b = W.heap.size := ⟨_, rfl⟩
  rw [← hb1] at x1 ⊢
  have o0_1 : w.heap.size < v1 := by have := (HX0.out.below Bz).lt; omega
  have ow_1 : w.heap.size ≤ v1 := by have := hB.size; have := Bz.size; omega
  replace hB := below_trans (below_trans hB Bz) hN
  replace HX0 := Lib.hid ((HX0.out.below Bz).below hN)
  have HX1 := Lib.hid x1
  clear x1 hN Bz hb1
  have Bz := Below.refl V1.heap.size V1
  clear p0_3 p0_4 p0_5 p0_6 p0_7 p0_8 p0_9
  go_wp2_with fail
  with_reducible refine (all_conv (ints_sl (sides y) (HX1.out.below (below_trans Bz (by go_grown))) 7 rfl) (by omega) true HS).mono ?_
  rintro e w1 ⟨rfl, b1⟩
  replace b1 := below_trans (a := V1) (by go_grown) b1
  replace Bz := below_trans Bz b1
  clear b1
  have p0_3 := (HX0.out.below Bz).cell 3 (.int .i64 y.ch) rfl
  have p0_4 := (HX0.out.below Bz).cell 4 (.int .i64 y.high) rfl
  have p0_5 := (HX0.out.below Bz).cell 5 (.int .i64 y.wide) rfl
  have p0_7 := (HX0.out.below Bz).cell 7 (.int .i64 y.kh) rfl
  have p0_8 := (HX0.out.below Bz).cell 8 (.int .i64 y.kw) rfl
  have p0_10 := (HX0.out.below Bz).cell 10 (.int .i64 y.pad) rfl
  go_wp2_with fail
  (try simp only [List.append_eq, List.cons_append, List.nil_append])
  refine wp_region_plan (.pure 0 (.take 1 (.pure 2 (.take 3 (.pure 4 (.pure 5 (.pure 6 (.take 7 (.pure 8 (.pure 9 (.take 10 (.pure 11 (.take 12 (.pure 13 (.pure 14 (.pure 15 (.take 16 (.pure 17 (.pure 18 (.pure 19 .done)))))))))))))))))))) [] (fun w' => w'.cell? ⟨w.heap.size, 4, none⟩ = some (.int .i64 y.high) ∧ w'.cell? ⟨w.heap.size, 5, none⟩ = some (.int .i64 y.wide) ∧ w'.cell? ⟨w.heap.size, 7, none⟩ = some (.int .i64 y.kh) ∧ w'.cell? ⟨w.heap.size, 8, none⟩ = some (.int .i64 y.kw) ∧ w'.cell? ⟨w.heap.size, 10, none⟩ = some (.int .i64 y.pad)) (by kernel_rfl) (by kernel_rfl) ⟨p0_4, p0_5, p0_7, p0_8, p0_10⟩ ?_
  refine wpPlan_pure (o := ⟨some 60, _, _, _, _, _⟩) (v := ?_) rfl rfl (fun w' => ?_) ?_
  rotate_left
  · go_simp <;> with_reducible rfl
  try simp only [Act.put, List.setIfInBounds_toArray, List.set_cons_zero, List.set_cons_succ]
  refine wpPlan_take (o := ⟨some 61, _, _, _, _, _⟩) (v := ?_) rfl rfl (fun w' hS => ?_) ?_
  rotate_left
  · obtain ⟨p0_4, p0_5, p0_7, p0_8, p0_10⟩ := hS; go_simp <;> with_reducible rfl
  try simp only [Act.put, List.setIfInBounds_toArray, List.set_cons_zero, List.set_cons_succ]
  refine wpPlan_pure (o := ⟨some 62, _, _, _, _, _⟩) (v := ?_) rfl rfl (fun w' => ?_) ?_
  rotate_left
  · go_simp <;> with_reducible rfl
  try simp only [Act.put, List.setIfInBounds_toArray, List.set_cons_zero, List.set_cons_succ]
  refine wpPlan_take (o := ⟨some 63, _, _, _, _, _⟩) (v := ?_) rfl rfl (fun w' hS => ?_) ?_
  rotate_left
  · obtain ⟨p0_4, p0_5, p0_7, p0_8, p0_10⟩ := hS; go_simp <;> with_reducible rfl
  try simp only [Act.put, List.setIfInBounds_toArray, List.set_cons_zero, List.set_cons_succ]
  refine wpPlan_pure (o := ⟨some 64, _, _, _, _, _⟩) (v := ?_) rfl rfl (fun w' => ?_) ?_
  rotate_left
  · go_simp <;> with_reducible rfl
  try simp only [Act.put, List.setIfInBounds_toArray, List.set_cons_zero, List.set_cons_succ]
  refine wpPlan_pure (o := ⟨some 65, _, _, _, _, _⟩) (v := ?_) rfl rfl (fun w' => ?_) ?_
  rotate_left
  · go_simp <;> with_reducible rfl
  try simp only [Act.put, List.setIfInBounds_toArray, List.set_cons_zero, List.set_cons_succ]
  refine wpPlan_pure (o := ⟨some 66, _, _, _, _, _⟩) (v := ?_) rfl rfl (fun w' => ?_) ?_
  rotate_left
  · go_simp <;> with_reducible rfl
  try simp only [Act.put, List.setIfInBounds_toArray, List.set_cons_zero, List.set_cons_succ]
  refine wpPlan_take (o := ⟨some 67, _, _, _, _, _⟩) (v := ?_) rfl rfl (fun w' hS => ?_) ?_
  rotate_left
  · obtain ⟨p0_4, p0_5, p0_7, p0_8, p0_10⟩ := hS; go_simp <;> with_reducible rfl
  try simp only [Act.put, List.setIfInBounds_toArray, List.set_cons_zero, List.set_cons_succ]
  refine wpPlan_pure (o := ⟨some 68, _, _, _, _, _⟩) (v := ?_) rfl rfl (fun w' => ?_) ?_
  rotate_left
  · go_simp <;> with_reducible rfl
  try simp only [Act.put, List.setIfInBounds_toArray, List.set_cons_zero, List.set_cons_succ]
  refine wpPlan_pure (o := ⟨some 69, _, _, _, _, _⟩) (v := ?_) rfl rfl (fun w' => ?_) ?_
  rotate_left
  · go_simp <;> with_reducible rfl
  try simp only [Act.put, List.setIfInBounds_toArray, List.set_cons_zero, List.set_cons_succ]
  refine wpPlan_take (o := ⟨some 70, _, _, _, _, _⟩) (v := ?_) rfl rfl (fun w' hS => ?_) ?_
  rotate_left
  · obtain ⟨p0_4, p0_5, p0_7, p0_8, p0_10⟩ := hS; go_simp <;> with_reducible rfl
  try simp only [Act.put, List.setIfInBounds_toArray, List.set_cons_zero, List.set_cons_succ]
  refine wpPlan_pure (o := ⟨some 71, _, _, _, _, _⟩) (v := ?_) rfl rfl (fun w' => ?_) ?_
  rotate_left
  · go_simp <;> with_reducible rfl
  try simp only [Act.put, List.setIfInBounds_toArray, List.set_cons_zero, List.set_cons_succ]
  refine wpPlan_take (o := ⟨some 72, _, _, _, _, _⟩) (v := ?_) rfl rfl (fun w' hS => ?_) ?_
  rotate_left
  · obtain ⟨p0_4, p0_5, p0_7, p0_8, p0_10⟩ := hS; go_simp <;> with_reducible rfl
  try simp only [Act.put, List.setIfInBounds_toArray, List.set_cons_zero, List.set_cons_succ]
  refine wpPlan_pure (o := ⟨some 73, _, _, _, _, _⟩) (v := ?_) rfl rfl (fun w' => ?_) ?_
  rotate_left
  · go_simp <;> with_reducible rfl
  try simp only [Act.put, List.setIfInBounds_toArray, List.set_cons_zero, List.set_cons_succ]
  refine wpPlan_pure (o := ⟨some 74, _, _, _, _, _⟩) (v := ?_) rfl rfl (fun w' => ?_) ?_
  rotate_left
  · go_simp <;> with_reducible rfl
  try simp only [Act.put, List.setIfInBounds_toArray, List.set_cons_zero, List.set_cons_succ]
  refine wpPlan_pure (o := ⟨some 75, _, _, _, _, _⟩) (v := ?_) rfl rfl (fun w' => ?_) ?_
  rotate_left
  · go_simp <;> with_reducible rfl
  try simp only [Act.put, List.setIfInBounds_toArray, List.set_cons_zero, List.set_cons_succ]
  refine wpPlan_take (o := ⟨some 76, _, _, _, _, _⟩) (v := ?_) rfl rfl (fun w' hS => ?_) ?_
  rotate_left
  · obtain ⟨p0_4, p0_5, p0_7, p0_8, p0_10⟩ := hS; go_simp <;> with_reducible rfl
  try simp only [Act.put, List.setIfInBounds_toArray, List.set_cons_zero, List.set_cons_succ]
  refine wpPlan_pure (o := ⟨some 77, _, _, _, _, _⟩) (v := ?_) rfl rfl (fun w' => ?_) ?_
  rotate_left
  · go_simp <;> with_reducible rfl
  try simp only [Act.put, List.setIfInBounds_toArray, List.set_cons_zero, List.set_cons_succ]
  refine wpPlan_pure (o := ⟨some 8, _, _, _, _, _⟩) (v := ?_) rfl rfl (fun w' => ?_) ?_
  rotate_left
  · go_simp <;> with_reducible rfl
  try simp only [Act.put, List.setIfInBounds_toArray, List.set_cons_zero, List.set_cons_succ]
  refine wpPlan_pure (o := ⟨some 9, _, _, _, _, _⟩) (v := ?_) rfl rfl (fun w' => ?_) ?_
  rotate_left
  · go_simp <;> with_reducible rfl
  try simp only [Act.put, List.setIfInBounds_toArray, List.set_cons_zero, List.set_cons_succ]
  refine wpPlan_done ?_
  go_wp2_with fail
  go_ret3
  have hF := below_trans (c := w1) hB Bz
  exact ⟨by rw [HA.out]; rfl, below_trans hF (by go_grown)⟩
set_option maxRecDepth 100000 in
set_option maxHeartbeats 4000000 in
theorem conv_7 {w : World} {m : Nat} {y : Ly} {n : Int} (_h : LyOk w m y) (_hm : m ≤ 20000) (_hl : y.rn ≤ 100000 ∧ y.bn ≤ 100000 ∧ y.kn ≤ 100000 ∧ y.gn ≤ 100000) (HS : Hid (((sides y).all fun z => decide (1 ≤ z) && decide (z ≤ 256)) = true)) (g1 : ¬ y.pad < 0) (g2 : ¬ y.kh ≤ y.pad) (g3 : ¬ y.kw ≤ y.pad) (g4 : (y.ch * y.high * y.wide != n) = false) (g5 : ¬ y.high + 2 * y.pad - y.kh < 0) (g6 : ¬ y.wide + 2 * y.pad - y.kw < 0) (g7 : ((y.kn : Int) != y.out * (y.ch * y.kh * y.kw)) = true) (_r1 : 1 ≤ y.ch ∧ y.ch ≤ 256) (r2 : 1 ≤ y.high ∧ y.high ≤ 256) (r3 : 1 ≤ y.wide ∧ y.wide ≤ 256) (_r4 : 1 ≤ y.out ∧ y.out ≤ 256) (r5 : 1 ≤ y.kh ∧ y.kh ≤ 256) (_r6 : 1 ≤ y.kw ∧ y.kw ≤ 256) (_r7 : 1 ≤ y.st ∧ y.st ≤ 256) (lP1 : 0 ≤ y.ch * y.high) (uP1 : y.ch * y.high ≤ 65536) (lP2 : 0 ≤ y.ch * y.high * y.wide) (uP2 : y.ch * y.high * y.wide ≤ 16777216) (lP3 : 0 ≤ y.ch * y.kh) (uP3 : y.ch * y.kh ≤ 65536) (lP4 : 0 ≤ y.ch * y.kh * y.kw) (uP4 : y.ch * y.kh * y.kw ≤ 16777216) (lP5 : 0 ≤ y.out * (y.ch * y.kh * y.kw)) (uP5 : y.out * (y.ch * y.kh * y.kw) ≤ 4294967296) (HA : Hid (convF y n = none)) (_hT : Hid (Tab w)) :
    Calls Tryd.prog 102 #[.agg #[.int .u8 y.kind, .slice y.rA y.rn y.rc, .slice y.bA y.bn y.bc, .int .i64 y.ch, .int .i64 y.high, .int .i64 y.wide, .int .i64 y.out, .int .i64 y.kh, .int .i64 y.kw, .int .i64 y.st, .int .i64 y.pad, .slice y.kA y.kn y.kc, .slice y.gA y.gn y.gc], .int .i64 n] w (TellsB w (convF y n)) := by
  obtain ⟨W, hW, x0, hB⟩ := boxes1 w #[.int .u8 y.kind, .slice y.rA y.rn y.rc, .slice y.bA y.bn y.bc, .int .i64 y.ch, .int .i64 y.high, .int .i64 y.wide, .int .i64 y.out, .int .i64 y.kh, .int .i64 y.kw, .int .i64 y.st, .int .i64 y.pad, .slice y.kA y.kn y.kc, .slice y.gA y.gn y.gc] 38
  have HX0 := Lib.hid x0
  clear x0
  have Bz := Below.refl W.heap.size W
  have p0_3 := (HX0.out.below Bz).cell 3 (.int .i64 y.ch) rfl
  have p0_4 := (HX0.out.below Bz).cell 4 (.int .i64 y.high) rfl
  have p0_5 := (HX0.out.below Bz).cell 5 (.int .i64 y.wide) rfl
  have p0_6 := (HX0.out.below Bz).cell 6 (.int .i64 y.out) rfl
  have p0_7 := (HX0.out.below Bz).cell 7 (.int .i64 y.kh) rfl
  have p0_8 := (HX0.out.below Bz).cell 8 (.int .i64 y.kw) rfl
  have p0_9 := (HX0.out.below Bz).cell 9 (.int .i64 y.st) rfl
  go_enter Tryd.func102, Tryd.ntmps102
  go_upto_region 1 with (fail)
  rw [← hW]
  clear hW
  go_upto_region 2 with (fail)
  obtain ⟨V1, hW, x1, hN⟩ := boxes1 W #[.int .i64 y.ch, .int .i64 y.high, .int .i64 y.wide, .int .i64 y.out, .int .i64 y.kh, .int .i64 y.kw, .int .i64 y.st] 3
  rw [← hW]
  clear hW
  obtain ⟨v1, hb1⟩ : ∃ b, b = W.heap.size := ⟨_, rfl⟩
  rw [← hb1] at x1 ⊢
  have o0_1 : w.heap.size < v1 := by have := (HX0.out.below Bz).lt; omega
  have ow_1 : w.heap.size ≤ v1 := by have := hB.size; have := Bz.size; omega
  replace hB := below_trans (below_trans hB Bz) hN
  replace HX0 := Lib.hid ((HX0.out.below Bz).below hN)
  have HX1 := Lib.hid x1
  clear x1 hN Bz hb1
  have Bz := Below.refl V1.heap.size V1
  clear p0_3 p0_4 p0_5 p0_6 p0_7 p0_8 p0_9
  go_wp2_with fail
  with_reducible refine (all_conv (ints_sl (sides y) (HX1.out.below (below_trans Bz (by go_grown))) 7 rfl) (by omega) true HS).mono ?_
  rintro e w1 ⟨rfl, b1⟩
  replace b1 := below_trans (a := V1) (by go_grown) b1
  replace Bz := below_trans Bz b1
  clear b1
  have p0_3 := (HX0.out.below Bz).cell 3 (.int .i64 y.ch) rfl
  have p0_4 := (HX0.out.below Bz).cell 4 (.int .i64 y.high) rfl
  have p0_5 := (HX0.out.below Bz).cell 5 (.int .i64 y.wide) rfl
  have p0_6 := (HX0.out.below Bz).cell 6 (.int .i64 y.out) rfl
  have p0_7 := (HX0.out.below Bz).cell 7 (.int .i64 y.kh) rfl
  have p0_8 := (HX0.out.below Bz).cell 8 (.int .i64 y.kw) rfl
  have p0_10 := (HX0.out.below Bz).cell 10 (.int .i64 y.pad) rfl
  have p0_11 := (HX0.out.below Bz).cell 11 (.slice y.kA y.kn y.kc) rfl
  go_wp2_with fail
  (try simp only [List.append_eq, List.cons_append, List.nil_append])
  refine wp_region_plan (.pure 0 (.take 1 (.pure 2 (.take 3 (.pure 4 (.pure 5 (.pure 6 (.take 7 (.pure 8 (.pure 9 (.take 10 (.pure 11 (.take 12 (.pure 13 (.pure 14 (.pure 15 (.take 16 (.pure 17 (.pure 18 (.pure 19 .done)))))))))))))))))))) [] (fun w' => w'.cell? ⟨w.heap.size, 4, none⟩ = some (.int .i64 y.high) ∧ w'.cell? ⟨w.heap.size, 5, none⟩ = some (.int .i64 y.wide) ∧ w'.cell? ⟨w.heap.size, 7, none⟩ = some (.int .i64 y.kh) ∧ w'.cell? ⟨w.heap.size, 8, none⟩ = some (.int .i64 y.kw) ∧ w'.cell? ⟨w.heap.size, 10, none⟩ = some (.int .i64 y.pad)) (by kernel_rfl) (by kernel_rfl) ⟨p0_4, p0_5, p0_7, p0_8, p0_10⟩ ?_
  refine wpPlan_pure (o := ⟨some 60, _, _, _, _, _⟩) (v := ?_) rfl rfl (fun w' => ?_) ?_
  rotate_left
  · go_simp <;> with_reducible rfl
  try simp only [Act.put, List.setIfInBounds_toArray, List.set_cons_zero, List.set_cons_succ]
  refine wpPlan_take (o := ⟨some 61, _, _, _, _, _⟩) (v := ?_) rfl rfl (fun w' hS => ?_) ?_
  rotate_left
  · obtain ⟨p0_4, p0_5, p0_7, p0_8, p0_10⟩ := hS; go_simp <;> with_reducible rfl
  try simp only [Act.put, List.setIfInBounds_toArray, List.set_cons_zero, List.set_cons_succ]
  refine wpPlan_pure (o := ⟨some 62, _, _, _, _, _⟩) (v := ?_) rfl rfl (fun w' => ?_) ?_
  rotate_left
  · go_simp <;> with_reducible rfl
  try simp only [Act.put, List.setIfInBounds_toArray, List.set_cons_zero, List.set_cons_succ]
  refine wpPlan_take (o := ⟨some 63, _, _, _, _, _⟩) (v := ?_) rfl rfl (fun w' hS => ?_) ?_
  rotate_left
  · obtain ⟨p0_4, p0_5, p0_7, p0_8, p0_10⟩ := hS; go_simp <;> with_reducible rfl
  try simp only [Act.put, List.setIfInBounds_toArray, List.set_cons_zero, List.set_cons_succ]
  refine wpPlan_pure (o := ⟨some 64, _, _, _, _, _⟩) (v := ?_) rfl rfl (fun w' => ?_) ?_
  rotate_left
  · go_simp <;> with_reducible rfl
  try simp only [Act.put, List.setIfInBounds_toArray, List.set_cons_zero, List.set_cons_succ]
  refine wpPlan_pure (o := ⟨some 65, _, _, _, _, _⟩) (v := ?_) rfl rfl (fun w' => ?_) ?_
  rotate_left
  · go_simp <;> with_reducible rfl
  try simp only [Act.put, List.setIfInBounds_toArray, List.set_cons_zero, List.set_cons_succ]
  refine wpPlan_pure (o := ⟨some 66, _, _, _, _, _⟩) (v := ?_) rfl rfl (fun w' => ?_) ?_
  rotate_left
  · go_simp <;> with_reducible rfl
  try simp only [Act.put, List.setIfInBounds_toArray, List.set_cons_zero, List.set_cons_succ]
  refine wpPlan_take (o := ⟨some 67, _, _, _, _, _⟩) (v := ?_) rfl rfl (fun w' hS => ?_) ?_
  rotate_left
  · obtain ⟨p0_4, p0_5, p0_7, p0_8, p0_10⟩ := hS; go_simp <;> with_reducible rfl
  try simp only [Act.put, List.setIfInBounds_toArray, List.set_cons_zero, List.set_cons_succ]
  refine wpPlan_pure (o := ⟨some 68, _, _, _, _, _⟩) (v := ?_) rfl rfl (fun w' => ?_) ?_
  rotate_left
  · go_simp <;> with_reducible rfl
  try simp only [Act.put, List.setIfInBounds_toArray, List.set_cons_zero, List.set_cons_succ]
  refine wpPlan_pure (o := ⟨some 69, _, _, _, _, _⟩) (v := ?_) rfl rfl (fun w' => ?_) ?_
  rotate_left
  · go_simp <;> with_reducible rfl
  try simp only [Act.put, List.setIfInBounds_toArray, List.set_cons_zero, List.set_cons_succ]
  refine wpPlan_take (o := ⟨some 70, _, _, _, _, _⟩) (v := ?_) rfl rfl (fun w' hS => ?_) ?_
  rotate_left
  · obtain ⟨p0_4, p0_5, p0_7, p0_8, p0_10⟩ := hS; go_simp <;> with_reducible rfl
  try simp only [Act.put, List.setIfInBounds_toArray, List.set_cons_zero, List.set_cons_succ]
  refine wpPlan_pure (o := ⟨some 71, _, _, _, _, _⟩) (v := ?_) rfl rfl (fun w' => ?_) ?_
  rotate_left
  · go_simp <;> with_reducible rfl
  try simp only [Act.put, List.setIfInBounds_toArray, List.set_cons_zero, List.set_cons_succ]
  refine wpPlan_take (o := ⟨some 72, _, _, _, _, _⟩) (v := ?_) rfl rfl (fun w' hS => ?_) ?_
  rotate_left
  · obtain ⟨p0_4, p0_5, p0_7, p0_8, p0_10⟩ := hS; go_simp <;> with_reducible rfl
  try simp only [Act.put, List.setIfInBounds_toArray, List.set_cons_zero, List.set_cons_succ]
  refine wpPlan_pure (o := ⟨some 73, _, _, _, _, _⟩) (v := ?_) rfl rfl (fun w' => ?_) ?_
  rotate_left
  · go_simp <;> with_reducible rfl
  try simp only [Act.put, List.setIfInBounds_toArray, List.set_cons_zero, List.set_cons_succ]
  refine wpPlan_pure (o := ⟨some 74, _, _, _, _, _⟩) (v := ?_) rfl rfl (fun w' => ?_) ?_
  rotate_left
  · go_simp <;> with_reducible rfl
  try simp only [Act.put, List.setIfInBounds_toArray, List.set_cons_zero, List.set_cons_succ]
  refine wpPlan_pure (o := ⟨some 75, _, _, _, _, _⟩) (v := ?_) rfl rfl (fun w' => ?_) ?_
  rotate_left
  · go_simp <;> with_reducible rfl
  try simp only [Act.put, List.setIfInBounds_toArray, List.set_cons_zero, List.set_cons_succ]
  refine wpPlan_take (o := ⟨some 76, _, _, _, _, _⟩) (v := ?_) rfl rfl (fun w' hS => ?_) ?_
  rotate_left
  · obtain ⟨p0_4, p0_5, p0_7, p0_8, p0_10⟩ := hS; go_simp <;> with_reducible rfl
  try simp only [Act.put, List.setIfInBounds_toArray, List.set_cons_zero, List.set_cons_succ]
  refine wpPlan_pure (o := ⟨some 77, _, _, _, _, _⟩) (v := ?_) rfl rfl (fun w' => ?_) ?_
  rotate_left
  · go_simp <;> with_reducible rfl
  try simp only [Act.put, List.setIfInBounds_toArray, List.set_cons_zero, List.set_cons_succ]
  refine wpPlan_pure (o := ⟨some 8, _, _, _, _, _⟩) (v := ?_) rfl rfl (fun w' => ?_) ?_
  rotate_left
  · go_simp <;> with_reducible rfl
  try simp only [Act.put, List.setIfInBounds_toArray, List.set_cons_zero, List.set_cons_succ]
  refine wpPlan_pure (o := ⟨some 9, _, _, _, _, _⟩) (v := ?_) rfl rfl (fun w' => ?_) ?_
  rotate_left
  · go_simp <;> with_reducible rfl
  try simp only [Act.put, List.setIfInBounds_toArray, List.set_cons_zero, List.set_cons_succ]
  refine wpPlan_done ?_
  go_wp2_with fail
  go_ret3
  have hF := below_trans (c := w1) hB Bz
  exact ⟨by rw [HA.out]; rfl, below_trans hF (by go_grown)⟩
set_option maxRecDepth 100000 in
set_option maxHeartbeats 4000000 in
theorem conv_8 {w : World} {m : Nat} {y : Ly} {n : Int} (_h : LyOk w m y) (_hm : m ≤ 20000) (_hl : y.rn ≤ 100000 ∧ y.bn ≤ 100000 ∧ y.kn ≤ 100000 ∧ y.gn ≤ 100000) (HS : Hid (((sides y).all fun z => decide (1 ≤ z) && decide (z ≤ 256)) = true)) (g1 : ¬ y.pad < 0) (g2 : ¬ y.kh ≤ y.pad) (g3 : ¬ y.kw ≤ y.pad) (g4 : (y.ch * y.high * y.wide != n) = false) (g5 : ¬ y.high + 2 * y.pad - y.kh < 0) (g6 : ¬ y.wide + 2 * y.pad - y.kw < 0) (g7 : ((y.kn : Int) != y.out * (y.ch * y.kh * y.kw)) = false) (g8 : ((y.bn : Int) != y.out) = true) (_r1 : 1 ≤ y.ch ∧ y.ch ≤ 256) (r2 : 1 ≤ y.high ∧ y.high ≤ 256) (r3 : 1 ≤ y.wide ∧ y.wide ≤ 256) (_r4 : 1 ≤ y.out ∧ y.out ≤ 256) (r5 : 1 ≤ y.kh ∧ y.kh ≤ 256) (_r6 : 1 ≤ y.kw ∧ y.kw ≤ 256) (_r7 : 1 ≤ y.st ∧ y.st ≤ 256) (lP1 : 0 ≤ y.ch * y.high) (uP1 : y.ch * y.high ≤ 65536) (lP2 : 0 ≤ y.ch * y.high * y.wide) (uP2 : y.ch * y.high * y.wide ≤ 16777216) (lP3 : 0 ≤ y.ch * y.kh) (uP3 : y.ch * y.kh ≤ 65536) (lP4 : 0 ≤ y.ch * y.kh * y.kw) (uP4 : y.ch * y.kh * y.kw ≤ 16777216) (lP5 : 0 ≤ y.out * (y.ch * y.kh * y.kw)) (uP5 : y.out * (y.ch * y.kh * y.kw) ≤ 4294967296) (HA : Hid (convF y n = none)) (_hT : Hid (Tab w)) :
    Calls Tryd.prog 102 #[.agg #[.int .u8 y.kind, .slice y.rA y.rn y.rc, .slice y.bA y.bn y.bc, .int .i64 y.ch, .int .i64 y.high, .int .i64 y.wide, .int .i64 y.out, .int .i64 y.kh, .int .i64 y.kw, .int .i64 y.st, .int .i64 y.pad, .slice y.kA y.kn y.kc, .slice y.gA y.gn y.gc], .int .i64 n] w (TellsB w (convF y n)) := by
  obtain ⟨W, hW, x0, hB⟩ := boxes1 w #[.int .u8 y.kind, .slice y.rA y.rn y.rc, .slice y.bA y.bn y.bc, .int .i64 y.ch, .int .i64 y.high, .int .i64 y.wide, .int .i64 y.out, .int .i64 y.kh, .int .i64 y.kw, .int .i64 y.st, .int .i64 y.pad, .slice y.kA y.kn y.kc, .slice y.gA y.gn y.gc] 38
  have HX0 := Lib.hid x0
  clear x0
  have Bz := Below.refl W.heap.size W
  have p0_3 := (HX0.out.below Bz).cell 3 (.int .i64 y.ch) rfl
  have p0_4 := (HX0.out.below Bz).cell 4 (.int .i64 y.high) rfl
  have p0_5 := (HX0.out.below Bz).cell 5 (.int .i64 y.wide) rfl
  have p0_6 := (HX0.out.below Bz).cell 6 (.int .i64 y.out) rfl
  have p0_7 := (HX0.out.below Bz).cell 7 (.int .i64 y.kh) rfl
  have p0_8 := (HX0.out.below Bz).cell 8 (.int .i64 y.kw) rfl
  have p0_9 := (HX0.out.below Bz).cell 9 (.int .i64 y.st) rfl
  go_enter Tryd.func102, Tryd.ntmps102
  go_upto_region 1 with (fail)
  rw [← hW]
  clear hW
  go_upto_region 2 with (fail)
  obtain ⟨V1, hW, x1, hN⟩ := boxes1 W #[.int .i64 y.ch, .int .i64 y.high, .int .i64 y.wide, .int .i64 y.out, .int .i64 y.kh, .int .i64 y.kw, .int .i64 y.st] 3
  rw [← hW]
  clear hW
  obtain ⟨v1, hb1⟩ : ∃ b, b = W.heap.size := ⟨_, rfl⟩
  rw [← hb1] at x1 ⊢
  have o0_1 : w.heap.size < v1 := by have := (HX0.out.below Bz).lt; omega
  have ow_1 : w.heap.size ≤ v1 := by have := hB.size; have := Bz.size; omega
  replace hB := below_trans (below_trans hB Bz) hN
  replace HX0 := Lib.hid ((HX0.out.below Bz).below hN)
  have HX1 := Lib.hid x1
  clear x1 hN Bz hb1
  have Bz := Below.refl V1.heap.size V1
  clear p0_3 p0_4 p0_5 p0_6 p0_7 p0_8 p0_9
  go_wp2_with fail
  with_reducible refine (all_conv (ints_sl (sides y) (HX1.out.below (below_trans Bz (by go_grown))) 7 rfl) (by omega) true HS).mono ?_
  rintro e w1 ⟨rfl, b1⟩
  replace b1 := below_trans (a := V1) (by go_grown) b1
  replace Bz := below_trans Bz b1
  clear b1
  have p0_2 := (HX0.out.below Bz).cell 2 (.slice y.bA y.bn y.bc) rfl
  have p0_3 := (HX0.out.below Bz).cell 3 (.int .i64 y.ch) rfl
  have p0_4 := (HX0.out.below Bz).cell 4 (.int .i64 y.high) rfl
  have p0_5 := (HX0.out.below Bz).cell 5 (.int .i64 y.wide) rfl
  have p0_6 := (HX0.out.below Bz).cell 6 (.int .i64 y.out) rfl
  have p0_7 := (HX0.out.below Bz).cell 7 (.int .i64 y.kh) rfl
  have p0_8 := (HX0.out.below Bz).cell 8 (.int .i64 y.kw) rfl
  have p0_10 := (HX0.out.below Bz).cell 10 (.int .i64 y.pad) rfl
  have p0_11 := (HX0.out.below Bz).cell 11 (.slice y.kA y.kn y.kc) rfl
  go_wp2_with fail
  (try simp only [List.append_eq, List.cons_append, List.nil_append])
  refine wp_region_plan (.pure 0 (.take 1 (.pure 2 (.take 3 (.pure 4 (.pure 5 (.pure 6 (.take 7 (.pure 8 (.pure 9 (.take 10 (.pure 11 (.take 12 (.pure 13 (.pure 14 (.pure 15 (.take 16 (.pure 17 (.pure 18 (.pure 19 .done)))))))))))))))))))) [] (fun w' => w'.cell? ⟨w.heap.size, 4, none⟩ = some (.int .i64 y.high) ∧ w'.cell? ⟨w.heap.size, 5, none⟩ = some (.int .i64 y.wide) ∧ w'.cell? ⟨w.heap.size, 7, none⟩ = some (.int .i64 y.kh) ∧ w'.cell? ⟨w.heap.size, 8, none⟩ = some (.int .i64 y.kw) ∧ w'.cell? ⟨w.heap.size, 10, none⟩ = some (.int .i64 y.pad)) (by kernel_rfl) (by kernel_rfl) ⟨p0_4, p0_5, p0_7, p0_8, p0_10⟩ ?_
  refine wpPlan_pure (o := ⟨some 60, _, _, _, _, _⟩) (v := ?_) rfl rfl (fun w' => ?_) ?_
  rotate_left
  · go_simp <;> with_reducible rfl
  try simp only [Act.put, List.setIfInBounds_toArray, List.set_cons_zero, List.set_cons_succ]
  refine wpPlan_take (o := ⟨some 61, _, _, _, _, _⟩) (v := ?_) rfl rfl (fun w' hS => ?_) ?_
  rotate_left
  · obtain ⟨p0_4, p0_5, p0_7, p0_8, p0_10⟩ := hS; go_simp <;> with_reducible rfl
  try simp only [Act.put, List.setIfInBounds_toArray, List.set_cons_zero, List.set_cons_succ]
  refine wpPlan_pure (o := ⟨some 62, _, _, _, _, _⟩) (v := ?_) rfl rfl (fun w' => ?_) ?_
  rotate_left
  · go_simp <;> with_reducible rfl
  try simp only [Act.put, List.setIfInBounds_toArray, List.set_cons_zero, List.set_cons_succ]
  refine wpPlan_take (o := ⟨some 63, _, _, _, _, _⟩) (v := ?_) rfl rfl (fun w' hS => ?_) ?_
  rotate_left
  · obtain ⟨p0_4, p0_5, p0_7, p0_8, p0_10⟩ := hS; go_simp <;> with_reducible rfl
  try simp only [Act.put, List.setIfInBounds_toArray, List.set_cons_zero, List.set_cons_succ]
  refine wpPlan_pure (o := ⟨some 64, _, _, _, _, _⟩) (v := ?_) rfl rfl (fun w' => ?_) ?_
  rotate_left
  · go_simp <;> with_reducible rfl
  try simp only [Act.put, List.setIfInBounds_toArray, List.set_cons_zero, List.set_cons_succ]
  refine wpPlan_pure (o := ⟨some 65, _, _, _, _, _⟩) (v := ?_) rfl rfl (fun w' => ?_) ?_
  rotate_left
  · go_simp <;> with_reducible rfl
  try simp only [Act.put, List.setIfInBounds_toArray, List.set_cons_zero, List.set_cons_succ]
  refine wpPlan_pure (o := ⟨some 66, _, _, _, _, _⟩) (v := ?_) rfl rfl (fun w' => ?_) ?_
  rotate_left
  · go_simp <;> with_reducible rfl
  try simp only [Act.put, List.setIfInBounds_toArray, List.set_cons_zero, List.set_cons_succ]
  refine wpPlan_take (o := ⟨some 67, _, _, _, _, _⟩) (v := ?_) rfl rfl (fun w' hS => ?_) ?_
  rotate_left
  · obtain ⟨p0_4, p0_5, p0_7, p0_8, p0_10⟩ := hS; go_simp <;> with_reducible rfl
  try simp only [Act.put, List.setIfInBounds_toArray, List.set_cons_zero, List.set_cons_succ]
  refine wpPlan_pure (o := ⟨some 68, _, _, _, _, _⟩) (v := ?_) rfl rfl (fun w' => ?_) ?_
  rotate_left
  · go_simp <;> with_reducible rfl
  try simp only [Act.put, List.setIfInBounds_toArray, List.set_cons_zero, List.set_cons_succ]
  refine wpPlan_pure (o := ⟨some 69, _, _, _, _, _⟩) (v := ?_) rfl rfl (fun w' => ?_) ?_
  rotate_left
  · go_simp <;> with_reducible rfl
  try simp only [Act.put, List.setIfInBounds_toArray, List.set_cons_zero, List.set_cons_succ]
  refine wpPlan_take (o := ⟨some 70, _, _, _, _, _⟩) (v := ?_) rfl rfl (fun w' hS => ?_) ?_
  rotate_left
  · obtain ⟨p0_4, p0_5, p0_7, p0_8, p0_10⟩ := hS; go_simp <;> with_reducible rfl
  try simp only [Act.put, List.setIfInBounds_toArray, List.set_cons_zero, List.set_cons_succ]
  refine wpPlan_pure (o := ⟨some 71, _, _, _, _, _⟩) (v := ?_) rfl rfl (fun w' => ?_) ?_
  rotate_left
  · go_simp <;> with_reducible rfl
  try simp only [Act.put, List.setIfInBounds_toArray, List.set_cons_zero, List.set_cons_succ]
  refine wpPlan_take (o := ⟨some 72, _, _, _, _, _⟩) (v := ?_) rfl rfl (fun w' hS => ?_) ?_
  rotate_left
  · obtain ⟨p0_4, p0_5, p0_7, p0_8, p0_10⟩ := hS; go_simp <;> with_reducible rfl
  try simp only [Act.put, List.setIfInBounds_toArray, List.set_cons_zero, List.set_cons_succ]
  refine wpPlan_pure (o := ⟨some 73, _, _, _, _, _⟩) (v := ?_) rfl rfl (fun w' => ?_) ?_
  rotate_left
  · go_simp <;> with_reducible rfl
  try simp only [Act.put, List.setIfInBounds_toArray, List.set_cons_zero, List.set_cons_succ]
  refine wpPlan_pure (o := ⟨some 74, _, _, _, _, _⟩) (v := ?_) rfl rfl (fun w' => ?_) ?_
  rotate_left
  · go_simp <;> with_reducible rfl
  try simp only [Act.put, List.setIfInBounds_toArray, List.set_cons_zero, List.set_cons_succ]
  refine wpPlan_pure (o := ⟨some 75, _, _, _, _, _⟩) (v := ?_) rfl rfl (fun w' => ?_) ?_
  rotate_left
  · go_simp <;> with_reducible rfl
  try simp only [Act.put, List.setIfInBounds_toArray, List.set_cons_zero, List.set_cons_succ]
  refine wpPlan_take (o := ⟨some 76, _, _, _, _, _⟩) (v := ?_) rfl rfl (fun w' hS => ?_) ?_
  rotate_left
  · obtain ⟨p0_4, p0_5, p0_7, p0_8, p0_10⟩ := hS; go_simp <;> with_reducible rfl
  try simp only [Act.put, List.setIfInBounds_toArray, List.set_cons_zero, List.set_cons_succ]
  refine wpPlan_pure (o := ⟨some 77, _, _, _, _, _⟩) (v := ?_) rfl rfl (fun w' => ?_) ?_
  rotate_left
  · go_simp <;> with_reducible rfl
  try simp only [Act.put, List.setIfInBounds_toArray, List.set_cons_zero, List.set_cons_succ]
  refine wpPlan_pure (o := ⟨some 8, _, _, _, _, _⟩) (v := ?_) rfl rfl (fun w' => ?_) ?_
  rotate_left
  · go_simp <;> with_reducible rfl
  try simp only [Act.put, List.setIfInBounds_toArray, List.set_cons_zero, List.set_cons_succ]
  refine wpPlan_pure (o := ⟨some 9, _, _, _, _, _⟩) (v := ?_) rfl rfl (fun w' => ?_) ?_
  rotate_left
  · go_simp <;> with_reducible rfl
  try simp only [Act.put, List.setIfInBounds_toArray, List.set_cons_zero, List.set_cons_succ]
  refine wpPlan_done ?_
  go_wp2_with fail
  go_ret3
  have hF := below_trans (c := w1) hB Bz
  exact ⟨by rw [HA.out]; rfl, below_trans hF (by go_grown)⟩
set_option maxRecDepth 100000 in
set_option maxHeartbeats 4000000 in
theorem conv_9 {w : World} {m : Nat} {y : Ly} {n : Int} (_h : LyOk w m y) (_hm : m ≤ 20000) (_hl : y.rn ≤ 100000 ∧ y.bn ≤ 100000 ∧ y.kn ≤ 100000 ∧ y.gn ≤ 100000) (HS : Hid (((sides y).all fun z => decide (1 ≤ z) && decide (z ≤ 256)) = true)) (g1 : ¬ y.pad < 0) (g2 : ¬ y.kh ≤ y.pad) (g3 : ¬ y.kw ≤ y.pad) (g4 : (y.ch * y.high * y.wide != n) = false) (g5 : ¬ y.high + 2 * y.pad - y.kh < 0) (g6 : ¬ y.wide + 2 * y.pad - y.kw < 0) (g7 : ((y.kn : Int) != y.out * (y.ch * y.kh * y.kw)) = false) (g8 : ((y.bn : Int) != y.out) = false) (g9 : 0 < y.rn) (_r1 : 1 ≤ y.ch ∧ y.ch ≤ 256) (r2 : 1 ≤ y.high ∧ y.high ≤ 256) (r3 : 1 ≤ y.wide ∧ y.wide ≤ 256) (_r4 : 1 ≤ y.out ∧ y.out ≤ 256) (r5 : 1 ≤ y.kh ∧ y.kh ≤ 256) (_r6 : 1 ≤ y.kw ∧ y.kw ≤ 256) (_r7 : 1 ≤ y.st ∧ y.st ≤ 256) (lP1 : 0 ≤ y.ch * y.high) (uP1 : y.ch * y.high ≤ 65536) (lP2 : 0 ≤ y.ch * y.high * y.wide) (uP2 : y.ch * y.high * y.wide ≤ 16777216) (lP3 : 0 ≤ y.ch * y.kh) (uP3 : y.ch * y.kh ≤ 65536) (lP4 : 0 ≤ y.ch * y.kh * y.kw) (uP4 : y.ch * y.kh * y.kw ≤ 16777216) (lP5 : 0 ≤ y.out * (y.ch * y.kh * y.kw)) (uP5 : y.out * (y.ch * y.kh * y.kw) ≤ 4294967296) (HA : Hid (convF y n = none)) (_hT : Hid (Tab w)) :
    Calls Tryd.prog 102 #[.agg #[.int .u8 y.kind, .slice y.rA y.rn y.rc, .slice y.bA y.bn y.bc, .int .i64 y.ch, .int .i64 y.high, .int .i64 y.wide, .int .i64 y.out, .int .i64 y.kh, .int .i64 y.kw, .int .i64 y.st, .int .i64 y.pad, .slice y.kA y.kn y.kc, .slice y.gA y.gn y.gc], .int .i64 n] w (TellsB w (convF y n)) := by
  obtain ⟨W, hW, x0, hB⟩ := boxes1 w #[.int .u8 y.kind, .slice y.rA y.rn y.rc, .slice y.bA y.bn y.bc, .int .i64 y.ch, .int .i64 y.high, .int .i64 y.wide, .int .i64 y.out, .int .i64 y.kh, .int .i64 y.kw, .int .i64 y.st, .int .i64 y.pad, .slice y.kA y.kn y.kc, .slice y.gA y.gn y.gc] 38
  have HX0 := Lib.hid x0
  clear x0
  have Bz := Below.refl W.heap.size W
  have p0_3 := (HX0.out.below Bz).cell 3 (.int .i64 y.ch) rfl
  have p0_4 := (HX0.out.below Bz).cell 4 (.int .i64 y.high) rfl
  have p0_5 := (HX0.out.below Bz).cell 5 (.int .i64 y.wide) rfl
  have p0_6 := (HX0.out.below Bz).cell 6 (.int .i64 y.out) rfl
  have p0_7 := (HX0.out.below Bz).cell 7 (.int .i64 y.kh) rfl
  have p0_8 := (HX0.out.below Bz).cell 8 (.int .i64 y.kw) rfl
  have p0_9 := (HX0.out.below Bz).cell 9 (.int .i64 y.st) rfl
  go_enter Tryd.func102, Tryd.ntmps102
  go_upto_region 1 with (fail)
  rw [← hW]
  clear hW
  go_upto_region 2 with (fail)
  obtain ⟨V1, hW, x1, hN⟩ := boxes1 W #[.int .i64 y.ch, .int .i64 y.high, .int .i64 y.wide, .int .i64 y.out, .int .i64 y.kh, .int .i64 y.kw, .int .i64 y.st] 3
  rw [← hW]
  clear hW
  obtain ⟨v1, hb1⟩ : ∃ b, b = W.heap.size := ⟨_, rfl⟩
  rw [← hb1] at x1 ⊢
  have o0_1 : w.heap.size < v1 := by have := (HX0.out.below Bz).lt; omega
  have ow_1 : w.heap.size ≤ v1 := by have := hB.size; have := Bz.size; omega
  replace hB := below_trans (below_trans hB Bz) hN
  replace HX0 := Lib.hid ((HX0.out.below Bz).below hN)
  have HX1 := Lib.hid x1
  clear x1 hN Bz hb1
  have Bz := Below.refl V1.heap.size V1
  clear p0_3 p0_4 p0_5 p0_6 p0_7 p0_8 p0_9
  go_wp2_with fail
  with_reducible refine (all_conv (ints_sl (sides y) (HX1.out.below (below_trans Bz (by go_grown))) 7 rfl) (by omega) true HS).mono ?_
  rintro e w1 ⟨rfl, b1⟩
  replace b1 := below_trans (a := V1) (by go_grown) b1
  replace Bz := below_trans Bz b1
  clear b1
  have p0_1 := (HX0.out.below Bz).cell 1 (.slice y.rA y.rn y.rc) rfl
  have p0_2 := (HX0.out.below Bz).cell 2 (.slice y.bA y.bn y.bc) rfl
  have p0_3 := (HX0.out.below Bz).cell 3 (.int .i64 y.ch) rfl
  have p0_4 := (HX0.out.below Bz).cell 4 (.int .i64 y.high) rfl
  have p0_5 := (HX0.out.below Bz).cell 5 (.int .i64 y.wide) rfl
  have p0_6 := (HX0.out.below Bz).cell 6 (.int .i64 y.out) rfl
  have p0_7 := (HX0.out.below Bz).cell 7 (.int .i64 y.kh) rfl
  have p0_8 := (HX0.out.below Bz).cell 8 (.int .i64 y.kw) rfl
  have p0_10 := (HX0.out.below Bz).cell 10 (.int .i64 y.pad) rfl
  have p0_11 := (HX0.out.below Bz).cell 11 (.slice y.kA y.kn y.kc) rfl
  go_wp2_with fail
  (try simp only [List.append_eq, List.cons_append, List.nil_append])
  refine wp_region_plan (.pure 0 (.take 1 (.pure 2 (.take 3 (.pure 4 (.pure 5 (.pure 6 (.take 7 (.pure 8 (.pure 9 (.take 10 (.pure 11 (.take 12 (.pure 13 (.pure 14 (.pure 15 (.take 16 (.pure 17 (.pure 18 (.pure 19 .done)))))))))))))))))))) [] (fun w' => w'.cell? ⟨w.heap.size, 4, none⟩ = some (.int .i64 y.high) ∧ w'.cell? ⟨w.heap.size, 5, none⟩ = some (.int .i64 y.wide) ∧ w'.cell? ⟨w.heap.size, 7, none⟩ = some (.int .i64 y.kh) ∧ w'.cell? ⟨w.heap.size, 8, none⟩ = some (.int .i64 y.kw) ∧ w'.cell? ⟨w.heap.size, 10, none⟩ = some (.int .i64 y.pad)) (by kernel_rfl) (by kernel_rfl) ⟨p0_4, p0_5, p0_7, p0_8, p0_10⟩ ?_
  refine wpPlan_pure (o := ⟨some 60, _, _, _, _, _⟩) (v := ?_) rfl rfl (fun w' => ?_) ?_
  rotate_left
  · go_simp <;> with_reducible rfl
  try simp only [Act.put, List.setIfInBounds_toArray, List.set_cons_zero, List.set_cons_succ]
  refine wpPlan_take (o := ⟨some 61, _, _, _, _, _⟩) (v := ?_) rfl rfl (fun w' hS => ?_) ?_
  rotate_left
  · obtain ⟨p0_4, p0_5, p0_7, p0_8, p0_10⟩ := hS; go_simp <;> with_reducible rfl
  try simp only [Act.put, List.setIfInBounds_toArray, List.set_cons_zero, List.set_cons_succ]
  refine wpPlan_pure (o := ⟨some 62, _, _, _, _, _⟩) (v := ?_) rfl rfl (fun w' => ?_) ?_
  rotate_left
  · go_simp <;> with_reducible rfl
  try simp only [Act.put, List.setIfInBounds_toArray, List.set_cons_zero, List.set_cons_succ]
  refine wpPlan_take (o := ⟨some 63, _, _, _, _, _⟩) (v := ?_) rfl rfl (fun w' hS => ?_) ?_
  rotate_left
  · obtain ⟨p0_4, p0_5, p0_7, p0_8, p0_10⟩ := hS; go_simp <;> with_reducible rfl
  try simp only [Act.put, List.setIfInBounds_toArray, List.set_cons_zero, List.set_cons_succ]
  refine wpPlan_pure (o := ⟨some 64, _, _, _, _, _⟩) (v := ?_) rfl rfl (fun w' => ?_) ?_
  rotate_left
  · go_simp <;> with_reducible rfl
  try simp only [Act.put, List.setIfInBounds_toArray, List.set_cons_zero, List.set_cons_succ]
  refine wpPlan_pure (o := ⟨some 65, _, _, _, _, _⟩) (v := ?_) rfl rfl (fun w' => ?_) ?_
  rotate_left
  · go_simp <;> with_reducible rfl
  try simp only [Act.put, List.setIfInBounds_toArray, List.set_cons_zero, List.set_cons_succ]
  refine wpPlan_pure (o := ⟨some 66, _, _, _, _, _⟩) (v := ?_) rfl rfl (fun w' => ?_) ?_
  rotate_left
  · go_simp <;> with_reducible rfl
  try simp only [Act.put, List.setIfInBounds_toArray, List.set_cons_zero, List.set_cons_succ]
  refine wpPlan_take (o := ⟨some 67, _, _, _, _, _⟩) (v := ?_) rfl rfl (fun w' hS => ?_) ?_
  rotate_left
  · obtain ⟨p0_4, p0_5, p0_7, p0_8, p0_10⟩ := hS; go_simp <;> with_reducible rfl
  try simp only [Act.put, List.setIfInBounds_toArray, List.set_cons_zero, List.set_cons_succ]
  refine wpPlan_pure (o := ⟨some 68, _, _, _, _, _⟩) (v := ?_) rfl rfl (fun w' => ?_) ?_
  rotate_left
  · go_simp <;> with_reducible rfl
  try simp only [Act.put, List.setIfInBounds_toArray, List.set_cons_zero, List.set_cons_succ]
  refine wpPlan_pure (o := ⟨some 69, _, _, _, _, _⟩) (v := ?_) rfl rfl (fun w' => ?_) ?_
  rotate_left
  · go_simp <;> with_reducible rfl
  try simp only [Act.put, List.setIfInBounds_toArray, List.set_cons_zero, List.set_cons_succ]
  refine wpPlan_take (o := ⟨some 70, _, _, _, _, _⟩) (v := ?_) rfl rfl (fun w' hS => ?_) ?_
  rotate_left
  · obtain ⟨p0_4, p0_5, p0_7, p0_8, p0_10⟩ := hS; go_simp <;> with_reducible rfl
  try simp only [Act.put, List.setIfInBounds_toArray, List.set_cons_zero, List.set_cons_succ]
  refine wpPlan_pure (o := ⟨some 71, _, _, _, _, _⟩) (v := ?_) rfl rfl (fun w' => ?_) ?_
  rotate_left
  · go_simp <;> with_reducible rfl
  try simp only [Act.put, List.setIfInBounds_toArray, List.set_cons_zero, List.set_cons_succ]
  refine wpPlan_take (o := ⟨some 72, _, _, _, _, _⟩) (v := ?_) rfl rfl (fun w' hS => ?_) ?_
  rotate_left
  · obtain ⟨p0_4, p0_5, p0_7, p0_8, p0_10⟩ := hS; go_simp <;> with_reducible rfl
  try simp only [Act.put, List.setIfInBounds_toArray, List.set_cons_zero, List.set_cons_succ]
  refine wpPlan_pure (o := ⟨some 73, _, _, _, _, _⟩) (v := ?_) rfl rfl (fun w' => ?_) ?_
  rotate_left
  · go_simp <;> with_reducible rfl
  try simp only [Act.put, List.setIfInBounds_toArray, List.set_cons_zero, List.set_cons_succ]
  refine wpPlan_pure (o := ⟨some 74, _, _, _, _, _⟩) (v := ?_) rfl rfl (fun w' => ?_) ?_
  rotate_left
  · go_simp <;> with_reducible rfl
  try simp only [Act.put, List.setIfInBounds_toArray, List.set_cons_zero, List.set_cons_succ]
  refine wpPlan_pure (o := ⟨some 75, _, _, _, _, _⟩) (v := ?_) rfl rfl (fun w' => ?_) ?_
  rotate_left
  · go_simp <;> with_reducible rfl
  try simp only [Act.put, List.setIfInBounds_toArray, List.set_cons_zero, List.set_cons_succ]
  refine wpPlan_take (o := ⟨some 76, _, _, _, _, _⟩) (v := ?_) rfl rfl (fun w' hS => ?_) ?_
  rotate_left
  · obtain ⟨p0_4, p0_5, p0_7, p0_8, p0_10⟩ := hS; go_simp <;> with_reducible rfl
  try simp only [Act.put, List.setIfInBounds_toArray, List.set_cons_zero, List.set_cons_succ]
  refine wpPlan_pure (o := ⟨some 77, _, _, _, _, _⟩) (v := ?_) rfl rfl (fun w' => ?_) ?_
  rotate_left
  · go_simp <;> with_reducible rfl
  try simp only [Act.put, List.setIfInBounds_toArray, List.set_cons_zero, List.set_cons_succ]
  refine wpPlan_pure (o := ⟨some 8, _, _, _, _, _⟩) (v := ?_) rfl rfl (fun w' => ?_) ?_
  rotate_left
  · go_simp <;> with_reducible rfl
  try simp only [Act.put, List.setIfInBounds_toArray, List.set_cons_zero, List.set_cons_succ]
  refine wpPlan_pure (o := ⟨some 9, _, _, _, _, _⟩) (v := ?_) rfl rfl (fun w' => ?_) ?_
  rotate_left
  · go_simp <;> with_reducible rfl
  try simp only [Act.put, List.setIfInBounds_toArray, List.set_cons_zero, List.set_cons_succ]
  refine wpPlan_done ?_
  go_wp2_with fail
  go_ret3
  have hF := below_trans (c := w1) hB Bz
  exact ⟨by rw [HA.out]; rfl, below_trans hF (by go_grown)⟩
set_option maxRecDepth 100000 in
set_option maxHeartbeats 4000000 in
theorem conv_10 {w : World} {m : Nat} {y : Ly} {n : Int} (_h : LyOk w m y) (_hm : m ≤ 20000) (_hl : y.rn ≤ 100000 ∧ y.bn ≤ 100000 ∧ y.kn ≤ 100000 ∧ y.gn ≤ 100000) (HS : Hid (((sides y).all fun z => decide (1 ≤ z) && decide (z ≤ 256)) = true)) (g1 : ¬ y.pad < 0) (g2 : ¬ y.kh ≤ y.pad) (g3 : ¬ y.kw ≤ y.pad) (g4 : (y.ch * y.high * y.wide != n) = false) (g5 : ¬ y.high + 2 * y.pad - y.kh < 0) (g6 : ¬ y.wide + 2 * y.pad - y.kw < 0) (g7 : ((y.kn : Int) != y.out * (y.ch * y.kh * y.kw)) = false) (g8 : ((y.bn : Int) != y.out) = false) (g9 : ¬ 0 < y.rn) (g10 : 0 < y.gn) (_r1 : 1 ≤ y.ch ∧ y.ch ≤ 256) (r2 : 1 ≤ y.high ∧ y.high ≤ 256) (r3 : 1 ≤ y.wide ∧ y.wide ≤ 256) (_r4 : 1 ≤ y.out ∧ y.out ≤ 256) (r5 : 1 ≤ y.kh ∧ y.kh ≤ 256) (_r6 : 1 ≤ y.kw ∧ y.kw ≤ 256) (_r7 : 1 ≤ y.st ∧ y.st ≤ 256) (lP1 : 0 ≤ y.ch * y.high) (uP1 : y.ch * y.high ≤ 65536) (lP2 : 0 ≤ y.ch * y.high * y.wide) (uP2 : y.ch * y.high * y.wide ≤ 16777216) (lP3 : 0 ≤ y.ch * y.kh) (uP3 : y.ch * y.kh ≤ 65536) (lP4 : 0 ≤ y.ch * y.kh * y.kw) (uP4 : y.ch * y.kh * y.kw ≤ 16777216) (lP5 : 0 ≤ y.out * (y.ch * y.kh * y.kw)) (uP5 : y.out * (y.ch * y.kh * y.kw) ≤ 4294967296) (HA : Hid (convF y n = none)) (_hT : Hid (Tab w)) :
    Calls Tryd.prog 102 #[.agg #[.int .u8 y.kind, .slice y.rA y.rn y.rc, .slice y.bA y.bn y.bc, .int .i64 y.ch, .int .i64 y.high, .int .i64 y.wide, .int .i64 y.out, .int .i64 y.kh, .int .i64 y.kw, .int .i64 y.st, .int .i64 y.pad, .slice y.kA y.kn y.kc, .slice y.gA y.gn y.gc], .int .i64 n] w (TellsB w (convF y n)) := by
  obtain ⟨W, hW, x0, hB⟩ := boxes1 w #[.int .u8 y.kind, .slice y.rA y.rn y.rc, .slice y.bA y.bn y.bc, .int .i64 y.ch, .int .i64 y.high, .int .i64 y.wide, .int .i64 y.out, .int .i64 y.kh, .int .i64 y.kw, .int .i64 y.st, .int .i64 y.pad, .slice y.kA y.kn y.kc, .slice y.gA y.gn y.gc] 38
  have HX0 := Lib.hid x0
  clear x0
  have Bz := Below.refl W.heap.size W
  have p0_3 := (HX0.out.below Bz).cell 3 (.int .i64 y.ch) rfl
  have p0_4 := (HX0.out.below Bz).cell 4 (.int .i64 y.high) rfl
  have p0_5 := (HX0.out.below Bz).cell 5 (.int .i64 y.wide) rfl
  have p0_6 := (HX0.out.below Bz).cell 6 (.int .i64 y.out) rfl
  have p0_7 := (HX0.out.below Bz).cell 7 (.int .i64 y.kh) rfl
  have p0_8 := (HX0.out.below Bz).cell 8 (.int .i64 y.kw) rfl
  have p0_9 := (HX0.out.below Bz).cell 9 (.int .i64 y.st) rfl
  go_enter Tryd.func102, Tryd.ntmps102
  go_upto_region 1 with (fail)
  rw [← hW]
  clear hW
  go_upto_region 2 with (fail)
  obtain ⟨V1, hW, x1, hN⟩ := boxes1 W #[.int .i64 y.ch, .int .i64 y.high, .int .i64 y.wide, .int .i64 y.out, .int .i64 y.kh, .int .i64 y.kw, .int .i64 y.st] 3
  rw [← hW]
  clear hW
  obtain ⟨v1, hb1⟩ : ∃ b, b = W.heap.size := ⟨_, rfl⟩
  rw [← hb1] at x1 ⊢
  have o0_1 : w.heap.size < v1 := by have := (HX0.out.below Bz).lt; omega
  have ow_1 : w.heap.size ≤ v1 := by have := hB.size; have := Bz.size; omega
  replace hB := below_trans (below_trans hB Bz) hN
  replace HX0 := Lib.hid ((HX0.out.below Bz).below hN)
  have HX1 := Lib.hid x1
  clear x1 hN Bz hb1
  have Bz := Below.refl V1.heap.size V1
  clear p0_3 p0_4 p0_5 p0_6 p0_7 p0_8 p0_9
  go_wp2_with fail
  with_reducible refine (all_conv (ints_sl (sides y) (HX1.out.below (below_trans Bz (by go_grown))) 7 rfl) (by omega) true HS).mono ?_
  rintro e w1 ⟨rfl, b1⟩
  replace b1 := below_trans (a := V1) (by go_grown) b1
  replace Bz := below_trans Bz b1
  clear b1
  have p0_1 := (HX0.out.below Bz).cell 1 (.slice y.rA y.rn y.rc) rfl
  have p0_2 := (HX0.out.below Bz).cell 2 (.slice y.bA y.bn y.bc) rfl
  have p0_3 := (HX0.out.below Bz).cell 3 (.int .i64 y.ch) rfl
  have p0_4 := (HX0.out.below Bz).cell 4 (.int .i64 y.high) rfl
  have p0_5 := (HX0.out.below Bz).cell 5 (.int .i64 y.wide) rfl
  have p0_6 := (HX0.out.below Bz).cell 6 (.int .i64 y.out) rfl
  have p0_7 := (HX0.out.below Bz).cell 7 (.int .i64 y.kh) rfl
  have p0_8 := (HX0.out.below Bz).cell 8 (.int .i64 y.kw) rfl
  have p0_10 := (HX0.out.below Bz).cell 10 (.int .i64 y.pad) rfl
  have p0_11 := (HX0.out.below Bz).cell 11 (.slice y.kA y.kn y.kc) rfl
  have p0_12 := (HX0.out.below Bz).cell 12 (.slice y.gA y.gn y.gc) rfl
  go_wp2_with fail
  (try simp only [List.append_eq, List.cons_append, List.nil_append])
  refine wp_region_plan (.pure 0 (.take 1 (.pure 2 (.take 3 (.pure 4 (.pure 5 (.pure 6 (.take 7 (.pure 8 (.pure 9 (.take 10 (.pure 11 (.take 12 (.pure 13 (.pure 14 (.pure 15 (.take 16 (.pure 17 (.pure 18 (.pure 19 .done)))))))))))))))))))) [] (fun w' => w'.cell? ⟨w.heap.size, 4, none⟩ = some (.int .i64 y.high) ∧ w'.cell? ⟨w.heap.size, 5, none⟩ = some (.int .i64 y.wide) ∧ w'.cell? ⟨w.heap.size, 7, none⟩ = some (.int .i64 y.kh) ∧ w'.cell? ⟨w.heap.size, 8, none⟩ = some (.int .i64 y.kw) ∧ w'.cell? ⟨w.heap.size, 10, none⟩ = some (.int .i64 y.pad)) (by kernel_rfl) (by kernel_rfl) ⟨p0_4, p0_5, p0_7, p0_8, p0_10⟩ ?_
  refine wpPlan_pure (o := ⟨some 60, _, _, _, _, _⟩) (v := ?_) rfl rfl (fun w' => ?_) ?_
  rotate_left
  · go_simp <;> with_reducible rfl
  try simp only [Act.put, List.setIfInBounds_toArray, List.set_cons_zero, List.set_cons_succ]
  refine wpPlan_take (o := ⟨some 61, _, _, _, _, _⟩) (v := ?_) rfl rfl (fun w' hS => ?_) ?_
  rotate_left
  · obtain ⟨p0_4, p0_5, p0_7, p0_8, p0_10⟩ := hS; go_simp <;> with_reducible rfl
  try simp only [Act.put, List.setIfInBounds_toArray, List.set_cons_zero, List.set_cons_succ]
  refine wpPlan_pure (o := ⟨some 62, _, _, _, _, _⟩) (v := ?_) rfl rfl (fun w' => ?_) ?_
  rotate_left
  · go_simp <;> with_reducible rfl
  try simp only [Act.put, List.setIfInBounds_toArray, List.set_cons_zero, List.set_cons_succ]
  refine wpPlan_take (o := ⟨some 63, _, _, _, _, _⟩) (v := ?_) rfl rfl (fun w' hS => ?_) ?_
  rotate_left
  · obtain ⟨p0_4, p0_5, p0_7, p0_8, p0_10⟩ := hS; go_simp <;> with_reducible rfl
  try simp only [Act.put, List.setIfInBounds_toArray, List.set_cons_zero, List.set_cons_succ]
  refine wpPlan_pure (o := ⟨some 64, _, _, _, _, _⟩) (v := ?_) rfl rfl (fun w' => ?_) ?_
  rotate_left
  · go_simp <;> with_reducible rfl
  try simp only [Act.put, List.setIfInBounds_toArray, List.set_cons_zero, List.set_cons_succ]
  refine wpPlan_pure (o := ⟨some 65, _, _, _, _, _⟩) (v := ?_) rfl rfl (fun w' => ?_) ?_
  rotate_left
  · go_simp <;> with_reducible rfl
  try simp only [Act.put, List.setIfInBounds_toArray, List.set_cons_zero, List.set_cons_succ]
  refine wpPlan_pure (o := ⟨some 66, _, _, _, _, _⟩) (v := ?_) rfl rfl (fun w' => ?_) ?_
  rotate_left
  · go_simp <;> with_reducible rfl
  try simp only [Act.put, List.setIfInBounds_toArray, List.set_cons_zero, List.set_cons_succ]
  refine wpPlan_take (o := ⟨some 67, _, _, _, _, _⟩) (v := ?_) rfl rfl (fun w' hS => ?_) ?_
  rotate_left
  · obtain ⟨p0_4, p0_5, p0_7, p0_8, p0_10⟩ := hS; go_simp <;> with_reducible rfl
  try simp only [Act.put, List.setIfInBounds_toArray, List.set_cons_zero, List.set_cons_succ]
  refine wpPlan_pure (o := ⟨some 68, _, _, _, _, _⟩) (v := ?_) rfl rfl (fun w' => ?_) ?_
  rotate_left
  · go_simp <;> with_reducible rfl
  try simp only [Act.put, List.setIfInBounds_toArray, List.set_cons_zero, List.set_cons_succ]
  refine wpPlan_pure (o := ⟨some 69, _, _, _, _, _⟩) (v := ?_) rfl rfl (fun w' => ?_) ?_
  rotate_left
  · go_simp <;> with_reducible rfl
  try simp only [Act.put, List.setIfInBounds_toArray, List.set_cons_zero, List.set_cons_succ]
  refine wpPlan_take (o := ⟨some 70, _, _, _, _, _⟩) (v := ?_) rfl rfl (fun w' hS => ?_) ?_
  rotate_left
  · obtain ⟨p0_4, p0_5, p0_7, p0_8, p0_10⟩ := hS; go_simp <;> with_reducible rfl
  try simp only [Act.put, List.setIfInBounds_toArray, List.set_cons_zero, List.set_cons_succ]
  refine wpPlan_pure (o := ⟨some 71, _, _, _, _, _⟩) (v := ?_) rfl rfl (fun w' => ?_) ?_
  rotate_left
  · go_simp <;> with_reducible rfl
  try simp only [Act.put, List.setIfInBounds_toArray, List.set_cons_zero, List.set_cons_succ]
  refine wpPlan_take (o := ⟨some 72, _, _, _, _, _⟩) (v := ?_) rfl rfl (fun w' hS => ?_) ?_
  rotate_left
  · obtain ⟨p0_4, p0_5, p0_7, p0_8, p0_10⟩ := hS; go_simp <;> with_reducible rfl
  try simp only [Act.put, List.setIfInBounds_toArray, List.set_cons_zero, List.set_cons_succ]
  refine wpPlan_pure (o := ⟨some 73, _, _, _, _, _⟩) (v := ?_) rfl rfl (fun w' => ?_) ?_
  rotate_left
  · go_simp <;> with_reducible rfl
  try simp only [Act.put, List.setIfInBounds_toArray, List.set_cons_zero, List.set_cons_succ]
  refine wpPlan_pure (o := ⟨some 74, _, _, _, _, _⟩) (v := ?_) rfl rfl (fun w' => ?_) ?_
  rotate_left
  · go_simp <;> with_reducible rfl
  try simp only [Act.put, List.setIfInBounds_toArray, List.set_cons_zero, List.set_cons_succ]
  refine wpPlan_pure (o := ⟨some 75, _, _, _, _, _⟩) (v := ?_) rfl rfl (fun w' => ?_) ?_
  rotate_left
  · go_simp <;> with_reducible rfl
  try simp only [Act.put, List.setIfInBounds_toArray, List.set_cons_zero, List.set_cons_succ]
  refine wpPlan_take (o := ⟨some 76, _, _, _, _, _⟩) (v := ?_) rfl rfl (fun w' hS => ?_) ?_
  rotate_left
  · obtain ⟨p0_4, p0_5, p0_7, p0_8, p0_10⟩ := hS; go_simp <;> with_reducible rfl
  try simp only [Act.put, List.setIfInBounds_toArray, List.set_cons_zero, List.set_cons_succ]
  refine wpPlan_pure (o := ⟨some 77, _, _, _, _, _⟩) (v := ?_) rfl rfl (fun w' => ?_) ?_
  rotate_left
  · go_simp <;> with_reducible rfl
  try simp only [Act.put, List.setIfInBounds_toArray, List.set_cons_zero, List.set_cons_succ]
  refine wpPlan_pure (o := ⟨some 8, _, _, _, _, _⟩) (v := ?_) rfl rfl (fun w' => ?_) ?_
  rotate_left
  · go_simp <;> with_reducible rfl
  try simp only [Act.put, List.setIfInBounds_toArray, List.set_cons_zero, List.set_cons_succ]
  refine wpPlan_pure (o := ⟨some 9, _, _, _, _, _⟩) (v := ?_) rfl rfl (fun w' => ?_) ?_
  rotate_left
  · go_simp <;> with_reducible rfl
  try simp only [Act.put, List.setIfInBounds_toArray, List.set_cons_zero, List.set_cons_succ]
  refine wpPlan_done ?_
  go_wp2_with fail
  go_ret3
  have hF := below_trans (c := w1) hB Bz
  exact ⟨by rw [HA.out]; rfl, below_trans hF (by go_grown)⟩
set_option maxRecDepth 100000 in
set_option maxHeartbeats 4000000 in
theorem conv_11 {w : World} {m : Nat} {y : Ly} {n : Int} (h : LyOk w m y) (hm : m ≤ 20000) (hl : y.rn ≤ 100000 ∧ y.bn ≤ 100000 ∧ y.kn ≤ 100000 ∧ y.gn ≤ 100000) (HS : Hid (((sides y).all fun z => decide (1 ≤ z) && decide (z ≤ 256)) = true)) (g1 : ¬ y.pad < 0) (g2 : ¬ y.kh ≤ y.pad) (g3 : ¬ y.kw ≤ y.pad) (g4 : (y.ch * y.high * y.wide != n) = false) (g5 : ¬ y.high + 2 * y.pad - y.kh < 0) (g6 : ¬ y.wide + 2 * y.pad - y.kw < 0) (g7 : ((y.kn : Int) != y.out * (y.ch * y.kh * y.kw)) = false) (g8 : ((y.bn : Int) != y.out) = false) (g9 : ¬ 0 < y.rn) (g10 : ¬ 0 < y.gn) (HK : Hid ((y.kern.all fun x => x.ex) = false)) (_r1 : 1 ≤ y.ch ∧ y.ch ≤ 256) (r2 : 1 ≤ y.high ∧ y.high ≤ 256) (r3 : 1 ≤ y.wide ∧ y.wide ≤ 256) (_r4 : 1 ≤ y.out ∧ y.out ≤ 256) (r5 : 1 ≤ y.kh ∧ y.kh ≤ 256) (_r6 : 1 ≤ y.kw ∧ y.kw ≤ 256) (_r7 : 1 ≤ y.st ∧ y.st ≤ 256) (lP1 : 0 ≤ y.ch * y.high) (uP1 : y.ch * y.high ≤ 65536) (lP2 : 0 ≤ y.ch * y.high * y.wide) (uP2 : y.ch * y.high * y.wide ≤ 16777216) (lP3 : 0 ≤ y.ch * y.kh) (uP3 : y.ch * y.kh ≤ 65536) (lP4 : 0 ≤ y.ch * y.kh * y.kw) (uP4 : y.ch * y.kh * y.kw ≤ 16777216) (lP5 : 0 ≤ y.out * (y.ch * y.kh * y.kw)) (uP5 : y.out * (y.ch * y.kh * y.kw) ≤ 4294967296) (HA : Hid (convF y n = none)) (hT : Hid (Tab w)) :
    Calls Tryd.prog 102 #[.agg #[.int .u8 y.kind, .slice y.rA y.rn y.rc, .slice y.bA y.bn y.bc, .int .i64 y.ch, .int .i64 y.high, .int .i64 y.wide, .int .i64 y.out, .int .i64 y.kh, .int .i64 y.kw, .int .i64 y.st, .int .i64 y.pad, .slice y.kA y.kn y.kc, .slice y.gA y.gn y.gc], .int .i64 n] w (TellsB w (convF y n)) := by
  obtain ⟨W, hW, x0, hB⟩ := boxes1 w #[.int .u8 y.kind, .slice y.rA y.rn y.rc, .slice y.bA y.bn y.bc, .int .i64 y.ch, .int .i64 y.high, .int .i64 y.wide, .int .i64 y.out, .int .i64 y.kh, .int .i64 y.kw, .int .i64 y.st, .int .i64 y.pad, .slice y.kA y.kn y.kc, .slice y.gA y.gn y.gc] 38
  have HX0 := Lib.hid x0
  clear x0
  have Bz := Below.refl W.heap.size W
  have p0_3 := (HX0.out.below Bz).cell 3 (.int .i64 y.ch) rfl
  have p0_4 := (HX0.out.below Bz).cell 4 (.int .i64 y.high) rfl
  have p0_5 := (HX0.out.below Bz).cell 5 (.int .i64 y.wide) rfl
  have p0_6 := (HX0.out.below Bz).cell 6 (.int .i64 y.out) rfl
  have p0_7 := (HX0.out.below Bz).cell 7 (.int .i64 y.kh) rfl
  have p0_8 := (HX0.out.below Bz).cell 8 (.int .i64 y.kw) rfl
  have p0_9 := (HX0.out.below Bz).cell 9 (.int .i64 y.st) rfl
  go_enter Tryd.func102, Tryd.ntmps102
  go_upto_region 1 with (fail)
  rw [← hW]
  clear hW
  go_upto_region 2 with (fail)
  obtain ⟨V1, hW, x1, hN⟩ := boxes1 W #[.int .i64 y.ch, .int .i64 y.high, .int .i64 y.wide, .int .i64 y.out, .int .i64 y.kh, .int .i64 y.kw, .int .i64 y.st] 3
  rw [← hW]
  clear hW
  obtain ⟨v1, hb1⟩ : ∃ b, b = W.heap.size := ⟨_, rfl⟩
  rw [← hb1] at x1 ⊢
  have o0_1 : w.heap.size < v1 := by have := (HX0.out.below Bz).lt; omega
  have ow_1 : w.heap.size ≤ v1 := by have := hB.size; have := Bz.size; omega
  replace hB := below_trans (below_trans hB Bz) hN
  replace HX0 := Lib.hid ((HX0.out.below Bz).below hN)
  have HX1 := Lib.hid x1
  clear x1 hN Bz hb1
  have Bz := Below.refl V1.heap.size V1
  clear p0_3 p0_4 p0_5 p0_6 p0_7 p0_8 p0_9
  go_wp2_with fail
  with_reducible refine (all_conv (ints_sl (sides y) (HX1.out.below (below_trans Bz (by go_grown))) 7 rfl) (by omega) true HS).mono ?_
  rintro e w1 ⟨rfl, b1⟩
  replace b1 := below_trans (a := V1) (by go_grown) b1
  replace Bz := below_trans Bz b1
  clear b1
  have p0_1 := (HX0.out.below Bz).cell 1 (.slice y.rA y.rn y.rc) rfl
  have p0_2 := (HX0.out.below Bz).cell 2 (.slice y.bA y.bn y.bc) rfl
  have p0_3 := (HX0.out.below Bz).cell 3 (.int .i64 y.ch) rfl
  have p0_4 := (HX0.out.below Bz).cell 4 (.int .i64 y.high) rfl
  have p0_5 := (HX0.out.below Bz).cell 5 (.int .i64 y.wide) rfl
  have p0_6 := (HX0.out.below Bz).cell 6 (.int .i64 y.out) rfl
  have p0_7 := (HX0.out.below Bz).cell 7 (.int .i64 y.kh) rfl
  have p0_8 := (HX0.out.below Bz).cell 8 (.int .i64 y.kw) rfl
  have p0_10 := (HX0.out.below Bz).cell 10 (.int .i64 y.pad) rfl
  have p0_11 := (HX0.out.below Bz).cell 11 (.slice y.kA y.kn y.kc) rfl
  have p0_12 := (HX0.out.below Bz).cell 12 (.slice y.gA y.gn y.gc) rfl
  go_wp2_with fail
  (try simp only [List.append_eq, List.cons_append, List.nil_append])
  refine wp_region_plan (.pure 0 (.take 1 (.pure 2 (.take 3 (.pure 4 (.pure 5 (.pure 6 (.take 7 (.pure 8 (.pure 9 (.take 10 (.pure 11 (.take 12 (.pure 13 (.pure 14 (.pure 15 (.take 16 (.pure 17 (.pure 18 (.pure 19 .done)))))))))))))))))))) [] (fun w' => w'.cell? ⟨w.heap.size, 4, none⟩ = some (.int .i64 y.high) ∧ w'.cell? ⟨w.heap.size, 5, none⟩ = some (.int .i64 y.wide) ∧ w'.cell? ⟨w.heap.size, 7, none⟩ = some (.int .i64 y.kh) ∧ w'.cell? ⟨w.heap.size, 8, none⟩ = some (.int .i64 y.kw) ∧ w'.cell? ⟨w.heap.size, 10, none⟩ = some (.int .i64 y.pad)) (by kernel_rfl) (by kernel_rfl) ⟨p0_4, p0_5, p0_7, p0_8, p0_10⟩ ?_
  refine wpPlan_pure (o := ⟨some 60, _, _, _, _, _⟩) (v := ?_) rfl rfl (fun w' => ?_) ?_
  rotate_left
  · go_simp <;> with_reducible rfl
  try simp only [Act.put, List.setIfInBounds_toArray, List.set_cons_zero, List.set_cons_succ]
  refine wpPlan_take (o := ⟨some 61, _, _, _, _, _⟩) (v := ?_) rfl rfl (fun w' hS => ?_) ?_
  rotate_left
  · obtain ⟨p0_4, p0_5, p0_7, p0_8, p0_10⟩ := hS; go_simp <;> with_reducible rfl
  try simp only [Act.put, List.setIfInBounds_toArray, List.set_cons_zero, List.set_cons_succ]
  refine wpPlan_pure (o := ⟨some 62, _, _, _, _, _⟩) (v := ?_) rfl rfl (fun w' => ?_) ?_
  rotate_left
  · go_simp <;> with_reducible rfl
  try simp only [Act.put, List.setIfInBounds_toArray, List.set_cons_zero, List.set_cons_succ]
  refine wpPlan_take (o := ⟨some 63, _, _, _, _, _⟩) (v := ?_) rfl rfl (fun w' hS => ?_) ?_
  rotate_left
  · obtain ⟨p0_4, p0_5, p0_7, p0_8, p0_10⟩ := hS; go_simp <;> with_reducible rfl
  try simp only [Act.put, List.setIfInBounds_toArray, List.set_cons_zero, List.set_cons_succ]
  refine wpPlan_pure (o := ⟨some 64, _, _, _, _, _⟩) (v := ?_) rfl rfl (fun w' => ?_) ?_
  rotate_left
  · go_simp <;> with_reducible rfl
  try simp only [Act.put, List.setIfInBounds_toArray, List.set_cons_zero, List.set_cons_succ]
  refine wpPlan_pure (o := ⟨some 65, _, _, _, _, _⟩) (v := ?_) rfl rfl (fun w' => ?_) ?_
  rotate_left
  · go_simp <;> with_reducible rfl
  try simp only [Act.put, List.setIfInBounds_toArray, List.set_cons_zero, List.set_cons_succ]
  refine wpPlan_pure (o := ⟨some 66, _, _, _, _, _⟩) (v := ?_) rfl rfl (fun w' => ?_) ?_
  rotate_left
  · go_simp <;> with_reducible rfl
  try simp only [Act.put, List.setIfInBounds_toArray, List.set_cons_zero, List.set_cons_succ]
  refine wpPlan_take (o := ⟨some 67, _, _, _, _, _⟩) (v := ?_) rfl rfl (fun w' hS => ?_) ?_
  rotate_left
  · obtain ⟨p0_4, p0_5, p0_7, p0_8, p0_10⟩ := hS; go_simp <;> with_reducible rfl
  try simp only [Act.put, List.setIfInBounds_toArray, List.set_cons_zero, List.set_cons_succ]
  refine wpPlan_pure (o := ⟨some 68, _, _, _, _, _⟩) (v := ?_) rfl rfl (fun w' => ?_) ?_
  rotate_left
  · go_simp <;> with_reducible rfl
  try simp only [Act.put, List.setIfInBounds_toArray, List.set_cons_zero, List.set_cons_succ]
  refine wpPlan_pure (o := ⟨some 69, _, _, _, _, _⟩) (v := ?_) rfl rfl (fun w' => ?_) ?_
  rotate_left
  · go_simp <;> with_reducible rfl
  try simp only [Act.put, List.setIfInBounds_toArray, List.set_cons_zero, List.set_cons_succ]
  refine wpPlan_take (o := ⟨some 70, _, _, _, _, _⟩) (v := ?_) rfl rfl (fun w' hS => ?_) ?_
  rotate_left
  · obtain ⟨p0_4, p0_5, p0_7, p0_8, p0_10⟩ := hS; go_simp <;> with_reducible rfl
  try simp only [Act.put, List.setIfInBounds_toArray, List.set_cons_zero, List.set_cons_succ]
  refine wpPlan_pure (o := ⟨some 71, _, _, _, _, _⟩) (v := ?_) rfl rfl (fun w' => ?_) ?_
  rotate_left
  · go_simp <;> with_reducible rfl
  try simp only [Act.put, List.setIfInBounds_toArray, List.set_cons_zero, List.set_cons_succ]
  refine wpPlan_take (o := ⟨some 72, _, _, _, _, _⟩) (v := ?_) rfl rfl (fun w' hS => ?_) ?_
  rotate_left
  · obtain ⟨p0_4, p0_5, p0_7, p0_8, p0_10⟩ := hS; go_simp <;> with_reducible rfl
  try simp only [Act.put, List.setIfInBounds_toArray, List.set_cons_zero, List.set_cons_succ]
  refine wpPlan_pure (o := ⟨some 73, _, _, _, _, _⟩) (v := ?_) rfl rfl (fun w' => ?_) ?_
  rotate_left
  · go_simp <;> with_reducible rfl
  try simp only [Act.put, List.setIfInBounds_toArray, List.set_cons_zero, List.set_cons_succ]
  refine wpPlan_pure (o := ⟨some 74, _, _, _, _, _⟩) (v := ?_) rfl rfl (fun w' => ?_) ?_
  rotate_left
  · go_simp <;> with_reducible rfl
  try simp only [Act.put, List.setIfInBounds_toArray, List.set_cons_zero, List.set_cons_succ]
  refine wpPlan_pure (o := ⟨some 75, _, _, _, _, _⟩) (v := ?_) rfl rfl (fun w' => ?_) ?_
  rotate_left
  · go_simp <;> with_reducible rfl
  try simp only [Act.put, List.setIfInBounds_toArray, List.set_cons_zero, List.set_cons_succ]
  refine wpPlan_take (o := ⟨some 76, _, _, _, _, _⟩) (v := ?_) rfl rfl (fun w' hS => ?_) ?_
  rotate_left
  · obtain ⟨p0_4, p0_5, p0_7, p0_8, p0_10⟩ := hS; go_simp <;> with_reducible rfl
  try simp only [Act.put, List.setIfInBounds_toArray, List.set_cons_zero, List.set_cons_succ]
  refine wpPlan_pure (o := ⟨some 77, _, _, _, _, _⟩) (v := ?_) rfl rfl (fun w' => ?_) ?_
  rotate_left
  · go_simp <;> with_reducible rfl
  try simp only [Act.put, List.setIfInBounds_toArray, List.set_cons_zero, List.set_cons_succ]
  refine wpPlan_pure (o := ⟨some 8, _, _, _, _, _⟩) (v := ?_) rfl rfl (fun w' => ?_) ?_
  rotate_left
  · go_simp <;> with_reducible rfl
  try simp only [Act.put, List.setIfInBounds_toArray, List.set_cons_zero, List.set_cons_succ]
  refine wpPlan_pure (o := ⟨some 9, _, _, _, _, _⟩) (v := ?_) rfl rfl (fun w' => ?_) ?_
  rotate_left
  · go_simp <;> with_reducible rfl
  try simp only [Act.put, List.setIfInBounds_toArray, List.set_cons_zero, List.set_cons_succ]
  refine wpPlan_done ?_
  go_wp2_with fail
  with_reducible refine (all_conv2 (h.kern.below (below_trans hB (below_trans (b := w1) Bz (by go_grown)))) (Lib.hid fun x hx => (h.kok x hx).below (below_trans hB (below_trans (b := w1) Bz (by go_grown)))) (by omega) (Lib.hid (Tab.below hT.out (below_trans hB (below_trans (b := w1) Bz (by go_grown))))) (by omega) false HK).mono ?_
  rintro e w2 ⟨rfl, b2⟩
  replace b2 := below_trans (a := w1) (by go_grown) b2
  replace Bz := below_trans Bz b2
  clear b2
  clear p0_1 p0_2 p0_3 p0_4 p0_5 p0_6 p0_7 p0_8 p0_10 p0_11 p0_12
  go_wp2_with fail
  go_ret3
  have hF := below_trans (c := w2) hB Bz
  exact ⟨by rw [HA.out]; rfl, below_trans hF (by go_grown)⟩
set_option maxRecDepth 100000 in
set_option maxHeartbeats 4000000 in
theorem conv_12 {w : World} {m : Nat} {y : Ly} {n : Int} (h : LyOk w m y) (hm : m ≤ 20000) (hl : y.rn ≤ 100000 ∧ y.bn ≤ 100000 ∧ y.kn ≤ 100000 ∧ y.gn ≤ 100000) (HS : Hid (((sides y).all fun z => decide (1 ≤ z) && decide (z ≤ 256)) = true)) (g1 : ¬ y.pad < 0) (g2 : ¬ y.kh ≤ y.pad) (g3 : ¬ y.kw ≤ y.pad) (g4 : (y.ch * y.high * y.wide != n) = false) (g5 : ¬ y.high + 2 * y.pad - y.kh < 0) (g6 : ¬ y.wide + 2 * y.pad - y.kw < 0) (g7 : ((y.kn : Int) != y.out * (y.ch * y.kh * y.kw)) = false) (g8 : ((y.bn : Int) != y.out) = false) (g9 : ¬ 0 < y.rn) (g10 : ¬ 0 < y.gn) (HK : Hid ((y.kern.all fun x => x.ex) = true)) (HE : Hid ((y.bias.all fun x => x.ex) = false)) (_r1 : 1 ≤ y.ch ∧ y.ch ≤ 256) (r2 : 1 ≤ y.high ∧ y.high ≤ 256) (r3 : 1 ≤ y.wide ∧ y.wide ≤ 256) (_r4 : 1 ≤ y.out ∧ y.out ≤ 256) (r5 : 1 ≤ y.kh ∧ y.kh ≤ 256) (_r6 : 1 ≤ y.kw ∧ y.kw ≤ 256) (_r7 : 1 ≤ y.st ∧ y.st ≤ 256) (lP1 : 0 ≤ y.ch * y.high) (uP1 : y.ch * y.high ≤ 65536) (lP2 : 0 ≤ y.ch * y.high * y.wide) (uP2 : y.ch * y.high * y.wide ≤ 16777216) (lP3 : 0 ≤ y.ch * y.kh) (uP3 : y.ch * y.kh ≤ 65536) (lP4 : 0 ≤ y.ch * y.kh * y.kw) (uP4 : y.ch * y.kh * y.kw ≤ 16777216) (lP5 : 0 ≤ y.out * (y.ch * y.kh * y.kw)) (uP5 : y.out * (y.ch * y.kh * y.kw) ≤ 4294967296) (HA : Hid (convF y n = none)) (hT : Hid (Tab w)) :
    Calls Tryd.prog 102 #[.agg #[.int .u8 y.kind, .slice y.rA y.rn y.rc, .slice y.bA y.bn y.bc, .int .i64 y.ch, .int .i64 y.high, .int .i64 y.wide, .int .i64 y.out, .int .i64 y.kh, .int .i64 y.kw, .int .i64 y.st, .int .i64 y.pad, .slice y.kA y.kn y.kc, .slice y.gA y.gn y.gc], .int .i64 n] w (TellsB w (convF y n)) := by
  obtain ⟨W, hW, x0, hB⟩ := boxes1 w #[.int .u8 y.kind, .slice y.rA y.rn y.rc, .slice y.bA y.bn y.bc, .int .i64 y.ch, .int .i64 y.high, .int .i64 y.wide, .int .i64 y.out, .int .i64 y.kh, .int .i64 y.kw, .int .i64 y.st, .int .i64 y.pad, .slice y.kA y.kn y.kc, .slice y.gA y.gn y.gc] 38
  have HX0 := Lib.hid x0
  clear x0
  have Bz := Below.refl W.heap.size W
  have p0_3 := (HX0.out.below Bz).cell 3 (.int .i64 y.ch) rfl
  have p0_4 := (HX0.out.below Bz).cell 4 (.int .i64 y.high) rfl
  have p0_5 := (HX0.out.below Bz).cell 5 (.int .i64 y.wide) rfl
  have p0_6 := (HX0.out.below Bz).cell 6 (.int .i64 y.out) rfl
  have p0_7 := (HX0.out.below Bz).cell 7 (.int .i64 y.kh) rfl
  have p0_8 := (HX0.out.below Bz).cell 8 (.int .i64 y.kw) rfl
  have p0_9 := (HX0.out.below Bz).cell 9 (.int .i64 y.st) rfl
  go_enter Tryd.func102, Tryd.ntmps102
  go_upto_region 1 with (fail)
  rw [← hW]
  clear hW
  go_upto_region 2 with (fail)
  obtain ⟨V1, hW, x1, hN⟩ := boxes1 W #[.int .i64 y.ch, .int .i64 y.high, .int .i64 y.wide, .int .i64 y.out, .int .i64 y.kh, .int .i64 y.kw, .int .i64 y.st] 3
  rw [← hW]
  clear hW
  obtain ⟨v1, hb1⟩ : ∃ b, b = W.heap.size := ⟨_, rfl⟩
  rw [← hb1] at x1 ⊢
  have o0_1 : w.heap.size < v1 := by have := (HX0.out.below Bz).lt; omega
  have ow_1 : w.heap.size ≤ v1 := by have := hB.size; have := Bz.size; omega
  replace hB := below_trans (below_trans hB Bz) hN
  replace HX0 := Lib.hid ((HX0.out.below Bz).below hN)
  have HX1 := Lib.hid x1
  clear x1 hN Bz hb1
  have Bz := Below.refl V1.heap.size V1
  clear p0_3 p0_4 p0_5 p0_6 p0_7 p0_8 p0_9
  go_wp2_with fail
  with_reducible refine (all_conv (ints_sl (sides y) (HX1.out.below (below_trans Bz (by go_grown))) 7 rfl) (by omega) true HS).mono ?_
  rintro e w1 ⟨rfl, b1⟩
  replace b1 := below_trans (a := V1) (by go_grown) b1
  replace Bz := below_trans Bz b1
  clear b1
  have p0_1 := (HX0.out.below Bz).cell 1 (.slice y.rA y.rn y.rc) rfl
  have p0_2 := (HX0.out.below Bz).cell 2 (.slice y.bA y.bn y.bc) rfl
  have p0_3 := (HX0.out.below Bz).cell 3 (.int .i64 y.ch) rfl
  have p0_4 := (HX0.out.below Bz).cell 4 (.int .i64 y.high) rfl
  have p0_5 := (HX0.out.below Bz).cell 5 (.int .i64 y.wide) rfl
  have p0_6 := (HX0.out.below Bz).cell 6 (.int .i64 y.out) rfl
  have p0_7 := (HX0.out.below Bz).cell 7 (.int .i64 y.kh) rfl
  have p0_8 := (HX0.out.below Bz).cell 8 (.int .i64 y.kw) rfl
  have p0_10 := (HX0.out.below Bz).cell 10 (.int .i64 y.pad) rfl
  have p0_11 := (HX0.out.below Bz).cell 11 (.slice y.kA y.kn y.kc) rfl
  have p0_12 := (HX0.out.below Bz).cell 12 (.slice y.gA y.gn y.gc) rfl
  go_wp2_with fail
  (try simp only [List.append_eq, List.cons_append, List.nil_append])
  refine wp_region_plan (.pure 0 (.take 1 (.pure 2 (.take 3 (.pure 4 (.pure 5 (.pure 6 (.take 7 (.pure 8 (.pure 9 (.take 10 (.pure 11 (.take 12 (.pure 13 (.pure 14 (.pure 15 (.take 16 (.pure 17 (.pure 18 (.pure 19 .done)))))))))))))))))))) [] (fun w' => w'.cell? ⟨w.heap.size, 4, none⟩ = some (.int .i64 y.high) ∧ w'.cell? ⟨w.heap.size, 5, none⟩ = some (.int .i64 y.wide) ∧ w'.cell? ⟨w.heap.size, 7, none⟩ = some (.int .i64 y.kh) ∧ w'.cell? ⟨w.heap.size, 8, none⟩ = some (.int .i64 y.kw) ∧ w'.cell? ⟨w.heap.size, 10, none⟩ = some (.int .i64 y.pad)) (by kernel_rfl) (by kernel_rfl) ⟨p0_4, p0_5, p0_7, p0_8, p0_10⟩ ?_
  refine wpPlan_pure (o := ⟨some 60, _, _, _, _, _⟩) (v := ?_) rfl rfl (fun w' => ?_) ?_
  rotate_left
  · go_simp <;> with_reducible rfl
  try simp only [Act.put, List.setIfInBounds_toArray, List.set_cons_zero, List.set_cons_succ]
  refine wpPlan_take (o := ⟨some 61, _, _, _, _, _⟩) (v := ?_) rfl rfl (fun w' hS => ?_) ?_
  rotate_left
  · obtain ⟨p0_4, p0_5, p0_7, p0_8, p0_10⟩ := hS; go_simp <;> with_reducible rfl
  try simp only [Act.put, List.setIfInBounds_toArray, List.set_cons_zero, List.set_cons_succ]
  refine wpPlan_pure (o := ⟨some 62, _, _, _, _, _⟩) (v := ?_) rfl rfl (fun w' => ?_) ?_
  rotate_left
  · go_simp <;> with_reducible rfl
  try simp only [Act.put, List.setIfInBounds_toArray, List.set_cons_zero, List.set_cons_succ]
  refine wpPlan_take (o := ⟨some 63, _, _, _, _, _⟩) (v := ?_) rfl rfl (fun w' hS => ?_) ?_
  rotate_left
  · obtain ⟨p0_4, p0_5, p0_7, p0_8, p0_10⟩ := hS; go_simp <;> with_reducible rfl
  try simp only [Act.put, List.setIfInBounds_toArray, List.set_cons_zero, List.set_cons_succ]
  refine wpPlan_pure (o := ⟨some 64, _, _, _, _, _⟩) (v := ?_) rfl rfl (fun w' => ?_) ?_
  rotate_left
  · go_simp <;> with_reducible rfl
  try simp only [Act.put, List.setIfInBounds_toArray, List.set_cons_zero, List.set_cons_succ]
  refine wpPlan_pure (o := ⟨some 65, _, _, _, _, _⟩) (v := ?_) rfl rfl (fun w' => ?_) ?_
  rotate_left
  · go_simp <;> with_reducible rfl
  try simp only [Act.put, List.setIfInBounds_toArray, List.set_cons_zero, List.set_cons_succ]
  refine wpPlan_pure (o := ⟨some 66, _, _, _, _, _⟩) (v := ?_) rfl rfl (fun w' => ?_) ?_
  rotate_left
  · go_simp <;> with_reducible rfl
  try simp only [Act.put, List.setIfInBounds_toArray, List.set_cons_zero, List.set_cons_succ]
  refine wpPlan_take (o := ⟨some 67, _, _, _, _, _⟩) (v := ?_) rfl rfl (fun w' hS => ?_) ?_
  rotate_left
  · obtain ⟨p0_4, p0_5, p0_7, p0_8, p0_10⟩ := hS; go_simp <;> with_reducible rfl
  try simp only [Act.put, List.setIfInBounds_toArray, List.set_cons_zero, List.set_cons_succ]
  refine wpPlan_pure (o := ⟨some 68, _, _, _, _, _⟩) (v := ?_) rfl rfl (fun w' => ?_) ?_
  rotate_left
  · go_simp <;> with_reducible rfl
  try simp only [Act.put, List.setIfInBounds_toArray, List.set_cons_zero, List.set_cons_succ]
  refine wpPlan_pure (o := ⟨some 69, _, _, _, _, _⟩) (v := ?_) rfl rfl (fun w' => ?_) ?_
  rotate_left
  · go_simp <;> with_reducible rfl
  try simp only [Act.put, List.setIfInBounds_toArray, List.set_cons_zero, List.set_cons_succ]
  refine wpPlan_take (o := ⟨some 70, _, _, _, _, _⟩) (v := ?_) rfl rfl (fun w' hS => ?_) ?_
  rotate_left
  · obtain ⟨p0_4, p0_5, p0_7, p0_8, p0_10⟩ := hS; go_simp <;> with_reducible rfl
  try simp only [Act.put, List.setIfInBounds_toArray, List.set_cons_zero, List.set_cons_succ]
  refine wpPlan_pure (o := ⟨some 71, _, _, _, _, _⟩) (v := ?_) rfl rfl (fun w' => ?_) ?_
  rotate_left
  · go_simp <;> with_reducible rfl
  try simp only [Act.put, List.setIfInBounds_toArray, List.set_cons_zero, List.set_cons_succ]
  refine wpPlan_take (o := ⟨some 72, _, _, _, _, _⟩) (v := ?_) rfl rfl (fun w' hS => ?_) ?_
  rotate_left
  · obtain ⟨p0_4, p0_5, p0_7, p0_8, p0_10⟩ := hS; go_simp <;> with_reducible rfl
  try simp only [Act.put, List.setIfInBounds_toArray, List.set_cons_zero, List.set_cons_succ]
  refine wpPlan_pure (o := ⟨some 73, _, _, _, _, _⟩) (v := ?_) rfl rfl (fun w' => ?_) ?_
  rotate_left
  · go_simp <;> with_reducible rfl
  try simp only [Act.put, List.setIfInBounds_toArray, List.set_cons_zero, List.set_cons_succ]
  refine wpPlan_pure (o := ⟨some 74, _, _, _, _, _⟩) (v := ?_) rfl rfl (fun w' => ?_) ?_
  rotate_left
  · go_simp <;> with_reducible rfl
  try simp only [Act.put, List.setIfInBounds_toArray, List.set_cons_zero, List.set_cons_succ]
  refine wpPlan_pure (o := ⟨some 75, _, _, _, _, _⟩) (v := ?_) rfl rfl (fun w' => ?_) ?_
  rotate_left
  · go_simp <;> with_reducible rfl
  try simp only [Act.put, List.setIfInBounds_toArray, List.set_cons_zero, List.set_cons_succ]
  refine wpPlan_take (o := ⟨some 76, _, _, _, _, _⟩) (v := ?_) rfl rfl (fun w' hS => ?_) ?_
  rotate_left
  · obtain ⟨p0_4, p0_5, p0_7, p0_8, p0_10⟩ := hS; go_simp <;> with_reducible rfl
  try simp only [Act.put, List.setIfInBounds_toArray, List.set_cons_zero, List.set_cons_succ]
  refine wpPlan_pure (o := ⟨some 77, _, _, _, _, _⟩) (v := ?_) rfl rfl (fun w' => ?_) ?_
  rotate_left
  · go_simp <;> with_reducible rfl
  try simp only [Act.put, List.setIfInBounds_toArray, List.set_cons_zero, List.set_cons_succ]
  refine wpPlan_pure (o := ⟨some 8, _, _, _, _, _⟩) (v := ?_) rfl rfl (fun w' => ?_) ?_
  rotate_left
  · go_simp <;> with_reducible rfl
  try simp only [Act.put, List.setIfInBounds_toArray, List.set_cons_zero, List.set_cons_succ]
  refine wpPlan_pure (o := ⟨some 9, _, _, _, _, _⟩) (v := ?_) rfl rfl (fun w' => ?_) ?_
  rotate_left
  · go_simp <;> with_reducible rfl
  try simp only [Act.put, List.setIfInBounds_toArray, List.set_cons_zero, List.set_cons_succ]
  refine wpPlan_done ?_
  go_wp2_with fail
  with_reducible refine (all_conv2 (h.kern.below (below_trans hB (below_trans (b := w1) Bz (by go_grown)))) (Lib.hid fun x hx => (h.kok x hx).below (below_trans hB (below_trans (b := w1) Bz (by go_grown)))) (by omega) (Lib.hid (Tab.below hT.out (below_trans hB (below_trans (b := w1) Bz (by go_grown))))) (by omega) true HK).mono ?_
  rintro e w2 ⟨rfl, b2⟩
  replace b2 := below_trans (a := w1) (by go_grown) b2
  replace Bz := below_trans Bz b2
  clear b2
  clear p0_1 p0_2 p0_3 p0_4 p0_5 p0_6 p0_7 p0_8 p0_10 p0_11 p0_12
  have p0_2 := (HX0.out.below Bz).cell 2 (.slice y.bA y.bn y.bc) rfl
  go_wp2_with fail
  with_reducible refine (all_conv2 (h.bias.below (below_trans hB (below_trans (b := w2) Bz (by go_grown)))) (Lib.hid fun x hx => (h.bok x hx).below (below_trans hB (below_trans (b := w2) Bz (by go_grown)))) (by omega) (Lib.hid (Tab.below hT.out (below_trans hB (below_trans (b := w2) Bz (by go_grown))))) (by omega) false HE).mono ?_
  rintro e w3 ⟨rfl, b3⟩
  replace b3 := below_trans (a := w2) (by go_grown) b3
  replace Bz := below_trans Bz b3
  clear b3
  clear p0_2
  go_wp2_with fail
  go_ret3
  have hF := below_trans (c := w3) hB Bz
  exact ⟨by rw [HA.out]; rfl, below_trans hF (by go_grown)⟩
set_option maxRecDepth 100000 in
set_option maxHeartbeats 4000000 in
theorem conv_13 {w : World} {m : Nat} {y : Ly} {n : Int} (h : LyOk w m y) (hm : m ≤ 20000) (hl : y.rn ≤ 100000 ∧ y.bn ≤ 100000 ∧ y.kn ≤ 100000 ∧ y.gn ≤ 100000) (HS : Hid (((sides y).all fun z => decide (1 ≤ z) && decide (z ≤ 256)) = true)) (g1 : ¬ y.pad < 0) (g2 : ¬ y.kh ≤ y.pad) (g3 : ¬ y.kw ≤ y.pad) (g4 : (y.ch * y.high * y.wide != n) = false) (g5 : ¬ y.high + 2 * y.pad - y.kh < 0) (g6 : ¬ y.wide + 2 * y.pad - y.kw < 0) (g7 : ((y.kn : Int) != y.out * (y.ch * y.kh * y.kw)) = false) (g8 : ((y.bn : Int) != y.out) = false) (g9 : ¬ 0 < y.rn) (g10 : ¬ 0 < y.gn) (HK : Hid ((y.kern.all fun x => x.ex) = true)) (HE : Hid ((y.bias.all fun x => x.ex) = true)) (_r1 : 1 ≤ y.ch ∧ y.ch ≤ 256) (r2 : 1 ≤ y.high ∧ y.high ≤ 256) (r3 : 1 ≤ y.wide ∧ y.wide ≤ 256) (_r4 : 1 ≤ y.out ∧ y.out ≤ 256) (r5 : 1 ≤ y.kh ∧ y.kh ≤ 256) (_r6 : 1 ≤ y.kw ∧ y.kw ≤ 256) (r7 : 1 ≤ y.st ∧ y.st ≤ 256) (lP1 : 0 ≤ y.ch * y.high) (uP1 : y.ch * y.high ≤ 65536) (lP2 : 0 ≤ y.ch * y.high * y.wide) (uP2 : y.ch * y.high * y.wide ≤ 16777216) (lP3 : 0 ≤ y.ch * y.kh) (uP3 : y.ch * y.kh ≤ 65536) (lP4 : 0 ≤ y.ch * y.kh * y.kw) (uP4 : y.ch * y.kh * y.kw ≤ 16777216) (lP5 : 0 ≤ y.out * (y.ch * y.kh * y.kw)) (uP5 : y.out * (y.ch * y.kh * y.kw) ≤ 4294967296) (lQ1 : 0 ≤ (y.high + 2 * y.pad - y.kh) / y.st) (uQ1 : (y.high + 2 * y.pad - y.kh) / y.st ≤ 766) (lQ2 : 0 ≤ (y.wide + 2 * y.pad - y.kw) / y.st) (uQ2 : (y.wide + 2 * y.pad - y.kw) / y.st ≤ 766) (lP6 : 0 ≤ y.out * ((y.high + 2 * y.pad - y.kh) / y.st + 1)) (uP6 : y.out * ((y.high + 2 * y.pad - y.kh) / y.st + 1) ≤ 196352) (lP7 : 0 ≤ y.out * ((y.high + 2 * y.pad - y.kh) / y.st + 1) * ((y.wide + 2 * y.pad - y.kw) / y.st + 1)) (uP7 : y.out * ((y.high + 2 * y.pad - y.kh) / y.st + 1) * ((y.wide + 2 * y.pad - y.kw) / y.st + 1) ≤ 150601984) (lP8 : 0 ≤ y.out * ((y.high + 2 * y.pad - y.kh) / y.st + 1) * ((y.wide + 2 * y.pad - y.kw) / y.st + 1) * (y.ch * y.kh * y.kw)) (uP8 : y.out * ((y.high + 2 * y.pad - y.kh) / y.st + 1) * ((y.wide + 2 * y.pad - y.kw) / y.st + 1) * (y.ch * y.kh * y.kw) ≤ 2526682015596544) (HA : Hid (convF y n = some (cUnits y, cUnits y * cEach y))) (hT : Hid (Tab w)) :
    Calls Tryd.prog 102 #[.agg #[.int .u8 y.kind, .slice y.rA y.rn y.rc, .slice y.bA y.bn y.bc, .int .i64 y.ch, .int .i64 y.high, .int .i64 y.wide, .int .i64 y.out, .int .i64 y.kh, .int .i64 y.kw, .int .i64 y.st, .int .i64 y.pad, .slice y.kA y.kn y.kc, .slice y.gA y.gn y.gc], .int .i64 n] w (TellsB w (convF y n)) := by
  obtain ⟨W, hW, x0, hB⟩ := boxes1 w #[.int .u8 y.kind, .slice y.rA y.rn y.rc, .slice y.bA y.bn y.bc, .int .i64 y.ch, .int .i64 y.high, .int .i64 y.wide, .int .i64 y.out, .int .i64 y.kh, .int .i64 y.kw, .int .i64 y.st, .int .i64 y.pad, .slice y.kA y.kn y.kc, .slice y.gA y.gn y.gc] 38
  have HX0 := Lib.hid x0
  clear x0
  have Bz := Below.refl W.heap.size W
  have p0_3 := (HX0.out.below Bz).cell 3 (.int .i64 y.ch) rfl
  have p0_4 := (HX0.out.below Bz).cell 4 (.int .i64 y.high) rfl
  have p0_5 := (HX0.out.below Bz).cell 5 (.int .i64 y.wide) rfl
  have p0_6 := (HX0.out.below Bz).cell 6 (.int .i64 y.out) rfl
  have p0_7 := (HX0.out.below Bz).cell 7 (.int .i64 y.kh) rfl
  have p0_8 := (HX0.out.below Bz).cell 8 (.int .i64 y.kw) rfl
  have p0_9 := (HX0.out.below Bz).cell 9 (.int .i64 y.st) rfl
  go_enter Tryd.func102, Tryd.ntmps102
  go_upto_region 1 with (fail)
  rw [← hW]
  clear hW
  go_upto_region 2 with (fail)
  obtain ⟨V1, hW, x1, hN⟩ := boxes1 W #[.int .i64 y.ch, .int .i64 y.high, .int .i64 y.wide, .int .i64 y.out, .int .i64 y.kh, .int .i64 y.kw, .int .i64 y.st] 3
  rw [← hW]
  clear hW
  obtain ⟨v1, hb1⟩ : ∃ b, b = W.heap.size := ⟨_, rfl⟩
  rw [← hb1] at x1 ⊢
  have o0_1 : w.heap.size < v1 := by have := (HX0.out.below Bz).lt; omega
  have ow_1 : w.heap.size ≤ v1 := by have := hB.size; have := Bz.size; omega
  replace hB := below_trans (below_trans hB Bz) hN
  replace HX0 := Lib.hid ((HX0.out.below Bz).below hN)
  have HX1 := Lib.hid x1
  clear x1 hN Bz hb1
  have Bz := Below.refl V1.heap.size V1
  clear p0_3 p0_4 p0_5 p0_6 p0_7 p0_8 p0_9
  go_wp2_with fail
  with_reducible refine (all_conv (ints_sl (sides y) (HX1.out.below (below_trans Bz (by go_grown))) 7 rfl) (by omega) true HS).mono ?_
  rintro e w1 ⟨rfl, b1⟩
  replace b1 := below_trans (a := V1) (by go_grown) b1
  replace Bz := below_trans Bz b1
  clear b1
  have p0_1 := (HX0.out.below Bz).cell 1 (.slice y.rA y.rn y.rc) rfl
  have p0_2 := (HX0.out.below Bz).cell 2 (.slice y.bA y.bn y.bc) rfl
  have p0_3 := (HX0.out.below Bz).cell 3 (.int .i64 y.ch) rfl
  have p0_4 := (HX0.out.below Bz).cell 4 (.int .i64 y.high) rfl
  have p0_5 := (HX0.out.below Bz).cell 5 (.int .i64 y.wide) rfl
  have p0_6 := (HX0.out.below Bz).cell 6 (.int .i64 y.out) rfl
  have p0_7 := (HX0.out.below Bz).cell 7 (.int .i64 y.kh) rfl
  have p0_8 := (HX0.out.below Bz).cell 8 (.int .i64 y.kw) rfl
  have p0_10 := (HX0.out.below Bz).cell 10 (.int .i64 y.pad) rfl
  have p0_11 := (HX0.out.below Bz).cell 11 (.slice y.kA y.kn y.kc) rfl
  have p0_12 := (HX0.out.below Bz).cell 12 (.slice y.gA y.gn y.gc) rfl
  go_wp2_with fail
  (try simp only [List.append_eq, List.cons_append, List.nil_append])
  refine wp_region_plan (.pure 0 (.take 1 (.pure 2 (.take 3 (.pure 4 (.pure 5 (.pure 6 (.take 7 (.pure 8 (.pure 9 (.take 10 (.pure 11 (.take 12 (.pure 13 (.pure 14 (.pure 15 (.take 16 (.pure 17 (.pure 18 (.pure 19 .done)))))))))))))))))))) [] (fun w' => w'.cell? ⟨w.heap.size, 4, none⟩ = some (.int .i64 y.high) ∧ w'.cell? ⟨w.heap.size, 5, none⟩ = some (.int .i64 y.wide) ∧ w'.cell? ⟨w.heap.size, 7, none⟩ = some (.int .i64 y.kh) ∧ w'.cell? ⟨w.heap.size, 8, none⟩ = some (.int .i64 y.kw) ∧ w'.cell? ⟨w.heap.size, 10, none⟩ = some (.int .i64 y.pad)) (by kernel_rfl) (by kernel_rfl) ⟨p0_4, p0_5, p0_7, p0_8, p0_10⟩ ?_
  refine wpPlan_pure (o := ⟨some 60, _, _, _, _, _⟩) (v := ?_) rfl rfl (fun w' => ?_) ?_
  rotate_left
  · go_simp <;> with_reducible rfl
  try simp only [Act.put, List.setIfInBounds_toArray, List.set_cons_zero, List.set_cons_succ]
  refine wpPlan_take (o := ⟨some 61, _, _, _, _, _⟩) (v := ?_) rfl rfl (fun w' hS => ?_) ?_
  rotate_left
  · obtain ⟨p0_4, p0_5, p0_7, p0_8, p0_10⟩ := hS; go_simp <;> with_reducible rfl
  try simp only [Act.put, List.setIfInBounds_toArray, List.set_cons_zero, List.set_cons_succ]
  refine wpPlan_pure (o := ⟨some 62, _, _, _, _, _⟩) (v := ?_) rfl rfl (fun w' => ?_) ?_
  rotate_left
  · go_simp <;> with_reducible rfl
  try simp only [Act.put, List.setIfInBounds_toArray, List.set_cons_zero, List.set_cons_succ]
  refine wpPlan_take (o := ⟨some 63, _, _, _, _, _⟩) (v := ?_) rfl rfl (fun w' hS => ?_) ?_
  rotate_left
  · obtain ⟨p0_4, p0_5, p0_7, p0_8, p0_10⟩ := hS; go_simp <;> with_reducible rfl
  try simp only [Act.put, List.setIfInBounds_toArray, List.set_cons_zero, List.set_cons_succ]
  refine wpPlan_pure (o := ⟨some 64, _, _, _, _, _⟩) (v := ?_) rfl rfl (fun w' => ?_) ?_
  rotate_left
  · go_simp <;> with_reducible rfl
  try simp only [Act.put, List.setIfInBounds_toArray, List.set_cons_zero, List.set_cons_succ]
  refine wpPlan_pure (o := ⟨some 65, _, _, _, _, _⟩) (v := ?_) rfl rfl (fun w' => ?_) ?_
  rotate_left
  · go_simp <;> with_reducible rfl
  try simp only [Act.put, List.setIfInBounds_toArray, List.set_cons_zero, List.set_cons_succ]
  refine wpPlan_pure (o := ⟨some 66, _, _, _, _, _⟩) (v := ?_) rfl rfl (fun w' => ?_) ?_
  rotate_left
  · go_simp <;> with_reducible rfl
  try simp only [Act.put, List.setIfInBounds_toArray, List.set_cons_zero, List.set_cons_succ]
  refine wpPlan_take (o := ⟨some 67, _, _, _, _, _⟩) (v := ?_) rfl rfl (fun w' hS => ?_) ?_
  rotate_left
  · obtain ⟨p0_4, p0_5, p0_7, p0_8, p0_10⟩ := hS; go_simp <;> with_reducible rfl
  try simp only [Act.put, List.setIfInBounds_toArray, List.set_cons_zero, List.set_cons_succ]
  refine wpPlan_pure (o := ⟨some 68, _, _, _, _, _⟩) (v := ?_) rfl rfl (fun w' => ?_) ?_
  rotate_left
  · go_simp <;> with_reducible rfl
  try simp only [Act.put, List.setIfInBounds_toArray, List.set_cons_zero, List.set_cons_succ]
  refine wpPlan_pure (o := ⟨some 69, _, _, _, _, _⟩) (v := ?_) rfl rfl (fun w' => ?_) ?_
  rotate_left
  · go_simp <;> with_reducible rfl
  try simp only [Act.put, List.setIfInBounds_toArray, List.set_cons_zero, List.set_cons_succ]
  refine wpPlan_take (o := ⟨some 70, _, _, _, _, _⟩) (v := ?_) rfl rfl (fun w' hS => ?_) ?_
  rotate_left
  · obtain ⟨p0_4, p0_5, p0_7, p0_8, p0_10⟩ := hS; go_simp <;> with_reducible rfl
  try simp only [Act.put, List.setIfInBounds_toArray, List.set_cons_zero, List.set_cons_succ]
  refine wpPlan_pure (o := ⟨some 71, _, _, _, _, _⟩) (v := ?_) rfl rfl (fun w' => ?_) ?_
  rotate_left
  · go_simp <;> with_reducible rfl
  try simp only [Act.put, List.setIfInBounds_toArray, List.set_cons_zero, List.set_cons_succ]
  refine wpPlan_take (o := ⟨some 72, _, _, _, _, _⟩) (v := ?_) rfl rfl (fun w' hS => ?_) ?_
  rotate_left
  · obtain ⟨p0_4, p0_5, p0_7, p0_8, p0_10⟩ := hS; go_simp <;> with_reducible rfl
  try simp only [Act.put, List.setIfInBounds_toArray, List.set_cons_zero, List.set_cons_succ]
  refine wpPlan_pure (o := ⟨some 73, _, _, _, _, _⟩) (v := ?_) rfl rfl (fun w' => ?_) ?_
  rotate_left
  · go_simp <;> with_reducible rfl
  try simp only [Act.put, List.setIfInBounds_toArray, List.set_cons_zero, List.set_cons_succ]
  refine wpPlan_pure (o := ⟨some 74, _, _, _, _, _⟩) (v := ?_) rfl rfl (fun w' => ?_) ?_
  rotate_left
  · go_simp <;> with_reducible rfl
  try simp only [Act.put, List.setIfInBounds_toArray, List.set_cons_zero, List.set_cons_succ]
  refine wpPlan_pure (o := ⟨some 75, _, _, _, _, _⟩) (v := ?_) rfl rfl (fun w' => ?_) ?_
  rotate_left
  · go_simp <;> with_reducible rfl
  try simp only [Act.put, List.setIfInBounds_toArray, List.set_cons_zero, List.set_cons_succ]
  refine wpPlan_take (o := ⟨some 76, _, _, _, _, _⟩) (v := ?_) rfl rfl (fun w' hS => ?_) ?_
  rotate_left
  · obtain ⟨p0_4, p0_5, p0_7, p0_8, p0_10⟩ := hS; go_simp <;> with_reducible rfl
  try simp only [Act.put, List.setIfInBounds_toArray, List.set_cons_zero, List.set_cons_succ]
  refine wpPlan_pure (o := ⟨some 77, _, _, _, _, _⟩) (v := ?_) rfl rfl (fun w' => ?_) ?_
  rotate_left
  · go_simp <;> with_reducible rfl
  try simp only [Act.put, List.setIfInBounds_toArray, List.set_cons_zero, List.set_cons_succ]
  refine wpPlan_pure (o := ⟨some 8, _, _, _, _, _⟩) (v := ?_) rfl rfl (fun w' => ?_) ?_
  rotate_left
  · go_simp <;> with_reducible rfl
  try simp only [Act.put, List.setIfInBounds_toArray, List.set_cons_zero, List.set_cons_succ]
  refine wpPlan_pure (o := ⟨some 9, _, _, _, _, _⟩) (v := ?_) rfl rfl (fun w' => ?_) ?_
  rotate_left
  · go_simp <;> with_reducible rfl
  try simp only [Act.put, List.setIfInBounds_toArray, List.set_cons_zero, List.set_cons_succ]
  refine wpPlan_done ?_
  go_wp2_with fail
  with_reducible refine (all_conv2 (h.kern.below (below_trans hB (below_trans (b := w1) Bz (by go_grown)))) (Lib.hid fun x hx => (h.kok x hx).below (below_trans hB (below_trans (b := w1) Bz (by go_grown)))) (by omega) (Lib.hid (Tab.below hT.out (below_trans hB (below_trans (b := w1) Bz (by go_grown))))) (by omega) true HK).mono ?_
  rintro e w2 ⟨rfl, b2⟩
  replace b2 := below_trans (a := w1) (by go_grown) b2
  replace Bz := below_trans Bz b2
  clear b2
  clear p0_1 p0_2 p0_3 p0_4 p0_5 p0_6 p0_7 p0_8 p0_10 p0_11 p0_12
  have p0_2 := (HX0.out.below Bz).cell 2 (.slice y.bA y.bn y.bc) rfl
  go_wp2_with fail
  with_reducible refine (all_conv2 (h.bias.below (below_trans hB (below_trans (b := w2) Bz (by go_grown)))) (Lib.hid fun x hx => (h.bok x hx).below (below_trans hB (below_trans (b := w2) Bz (by go_grown)))) (by omega) (Lib.hid (Tab.below hT.out (below_trans hB (below_trans (b := w2) Bz (by go_grown))))) (by omega) true HE).mono ?_
  rintro e w3 ⟨rfl, b3⟩
  replace b3 := below_trans (a := w2) (by go_grown) b3
  replace Bz := below_trans Bz b3
  clear b3
  clear p0_2
  have p0_6 := (HX0.out.below Bz).cell 6 (.int .i64 y.out) rfl
  have p0_9 := (HX0.out.below Bz).cell 9 (.int .i64 y.st) rfl
  go_wp2_with fail
  have z0 : ¬ y.st = 0 := by omega
  have z1 : (y.high + 2 * y.pad - y.kh).tdiv y.st = (y.high + 2 * y.pad - y.kh) / y.st := Int.tdiv_eq_ediv_of_nonneg (by omega)
  have z2 : (y.wide + 2 * y.pad - y.kw).tdiv y.st = (y.wide + 2 * y.pad - y.kw) / y.st := Int.tdiv_eq_ediv_of_nonneg (by omega)
  have z3' : IntKind.i64.wrap ((y.high + 2 * y.pad - y.kh) / y.st) = (y.high + 2 * y.pad - y.kh) / y.st := IntWalk.i64_in _ (by omega)
  have z4' : IntKind.i64.wrap ((y.high + 2 * y.pad - y.kh) / y.st + 1) = (y.high + 2 * y.pad - y.kh) / y.st + 1 := IntWalk.i64_in _ (by omega)
  have z5' : IntKind.i64.wrap (y.out * ((y.high + 2 * y.pad - y.kh) / y.st + 1)) = y.out * ((y.high + 2 * y.pad - y.kh) / y.st + 1) := IntWalk.i64_in _ (by omega)
  have z6' : IntKind.i64.wrap ((y.wide + 2 * y.pad - y.kw) / y.st) = (y.wide + 2 * y.pad - y.kw) / y.st := IntWalk.i64_in _ (by omega)
  have z7' : IntKind.i64.wrap ((y.wide + 2 * y.pad - y.kw) / y.st + 1) = (y.wide + 2 * y.pad - y.kw) / y.st + 1 := IntWalk.i64_in _ (by omega)
  have z8' : IntKind.i64.wrap (y.out * ((y.high + 2 * y.pad - y.kh) / y.st + 1) * ((y.wide + 2 * y.pad - y.kw) / y.st + 1)) = y.out * ((y.high + 2 * y.pad - y.kh) / y.st + 1) * ((y.wide + 2 * y.pad - y.kw) / y.st + 1) := IntWalk.i64_in _ (by omega)
  (try simp only [List.append_eq, List.cons_append, List.nil_append])
  refine wp_region_plan (.pure 0 (.take 1 (.pure 2 (.pure 3 (.take 4 (.pure 5 (.pure 6 (.pure 7 (.pure 8 (.pure 9 (.take 10 (.pure 11 (.pure 12 (.pure 13 (.pure 14 .done))))))))))))))) [] (fun w' => w'.cell? ⟨w.heap.size, 6, none⟩ = some (.int .i64 y.out) ∧ w'.cell? ⟨w.heap.size, 9, none⟩ = some (.int .i64 y.st)) (by kernel_rfl) (by kernel_rfl) ⟨p0_6, p0_9⟩ ?_
  refine wpPlan_pure (o := ⟨some 134, _, _, _, _, _⟩) (v := ?_) rfl rfl (fun w' => ?_) ?_
  rotate_left
  · go_simp <;> with_reducible rfl
  try simp only [Act.put, List.setIfInBounds_toArray, List.set_cons_zero, List.set_cons_succ]
  refine wpPlan_take (o := ⟨some 135, _, _, _, _, _⟩) (v := ?_) rfl rfl (fun w' hS => ?_) ?_
  rotate_left
  · obtain ⟨p0_6, p0_9⟩ := hS; go_simp <;> with_reducible rfl
  try simp only [Act.put, List.setIfInBounds_toArray, List.set_cons_zero, List.set_cons_succ]
  refine wpPlan_pure (o := ⟨some 136, _, _, _, _, _⟩) (v := ?_) rfl rfl (fun w' => ?_) ?_
  rotate_left
  · go_simp <;> with_reducible rfl
  try simp only [Act.put, List.setIfInBounds_toArray, List.set_cons_zero, List.set_cons_succ]
  refine wpPlan_pure (o := ⟨some 137, _, _, _, _, _⟩) (v := ?_) rfl rfl (fun w' => ?_) ?_
  rotate_left
  · go_simp <;> with_reducible rfl
  try simp only [Act.put, List.setIfInBounds_toArray, List.set_cons_zero, List.set_cons_succ]
  refine wpPlan_take (o := ⟨some 138, _, _, _, _, _⟩) (v := ?_) rfl rfl (fun w' hS => ?_) ?_
  rotate_left
  · obtain ⟨p0_6, p0_9⟩ := hS; go_simp <;> with_reducible rfl
  try simp only [Act.put, List.setIfInBounds_toArray, List.set_cons_zero, List.set_cons_succ]
  refine wpPlan_pure (o := ⟨some 139, _, _, _, _, _⟩) (v := ?_) rfl rfl (fun w' => ?_) ?_
  rotate_left
  · go_simp <;> with_reducible rfl
  try simp only [Act.put, List.setIfInBounds_toArray, List.set_cons_zero, List.set_cons_succ]
  refine wpPlan_pure (o := ⟨some 140, _, _, _, _, _⟩) (v := ?_) rfl rfl (fun w' => ?_) ?_
  rotate_left
  · go_simp <;> with_reducible rfl
  try simp only [Act.put, List.setIfInBounds_toArray, List.set_cons_zero, List.set_cons_succ]
  refine wpPlan_pure (o := ⟨some 141, _, _, _, _, _⟩) (v := ?_) rfl rfl (fun w' => ?_) ?_
  rotate_left
  · go_simp <;> with_reducible rfl
  try simp only [Act.put, List.setIfInBounds_toArray, List.set_cons_zero, List.set_cons_succ]
  refine wpPlan_pure (o := ⟨some 142, _, _, _, _, _⟩) (v := ?_) rfl rfl (fun w' => ?_) ?_
  rotate_left
  · go_simp <;> with_reducible rfl
  try simp only [Act.put, List.setIfInBounds_toArray, List.set_cons_zero, List.set_cons_succ]
  refine wpPlan_pure (o := ⟨some 143, _, _, _, _, _⟩) (v := ?_) rfl rfl (fun w' => ?_) ?_
  rotate_left
  · go_simp <;> with_reducible rfl
  try simp only [Act.put, List.setIfInBounds_toArray, List.set_cons_zero, List.set_cons_succ]
  refine wpPlan_take (o := ⟨some 144, _, _, _, _, _⟩) (v := ?_) rfl rfl (fun w' hS => ?_) ?_
  rotate_left
  · obtain ⟨p0_6, p0_9⟩ := hS; go_simp <;> with_reducible rfl
  try simp only [Act.put, List.setIfInBounds_toArray, List.set_cons_zero, List.set_cons_succ]
  refine wpPlan_pure (o := ⟨some 145, _, _, _, _, _⟩) (v := ?_) rfl rfl (fun w' => ?_) ?_
  rotate_left
  · go_simp <;> with_reducible rfl
  try simp only [Act.put, List.setIfInBounds_toArray, List.set_cons_zero, List.set_cons_succ]
  refine wpPlan_pure (o := ⟨some 146, _, _, _, _, _⟩) (v := ?_) rfl rfl (fun w' => ?_) ?_
  rotate_left
  · go_simp <;> with_reducible rfl
  try simp only [Act.put, List.setIfInBounds_toArray, List.set_cons_zero, List.set_cons_succ]
  refine wpPlan_pure (o := ⟨some 147, _, _, _, _, _⟩) (v := ?_) rfl rfl (fun w' => ?_) ?_
  rotate_left
  · go_simp <;> with_reducible rfl
  try simp only [Act.put, List.setIfInBounds_toArray, List.set_cons_zero, List.set_cons_succ]
  refine wpPlan_pure (o := ⟨some 12, _, _, _, _, _⟩) (v := ?_) rfl rfl (fun w' => ?_) ?_
  rotate_left
  · go_simp <;> with_reducible rfl
  try simp only [Act.put, List.setIfInBounds_toArray, List.set_cons_zero, List.set_cons_succ]
  refine wpPlan_done ?_
  clear z0 z1 z2 z3' z4' z5' z6' z7' z8'
  go_wp2_with fail
  go_ret3
  have hF := below_trans (c := w3) hB Bz
  exact ⟨by rw [HA.out]; rfl, below_trans hF (by go_grown)⟩
end Go.Proofs.YtionhpangenhnaaDoor
