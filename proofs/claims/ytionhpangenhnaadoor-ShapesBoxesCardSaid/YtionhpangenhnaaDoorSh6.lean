/-
  Which layers fit: pool. Written by wip/gen/sh6.py.
-/
import Derived.Test.YtionhpangenhnaaDoorSh5
namespace Go.Proofs.YtionhpangenhnaaDoor
open Go.RowKit Tw

/-- A Pool: how many units are behind it, how many terms it has; nothing, if it does not fit. -/
def poolF (y : Ly) (n : Int) : Option (Int × Int) :=
  if plainB y = false then none else if 0 < y.rn then none else if 0 < y.bn then none else if y.gn = 0 then none
  else if (y.groups.all fun v => groupB n v) = false then none else some (y.gn, glens y.groups)
set_option maxRecDepth 100000 in
set_option maxHeartbeats 4000000 in
theorem pool_W1 {w : World} {m : Nat} {y : Ly} {n : Int} (_h : LyOk w m y) (hl : y.rn ≤ 100000 ∧ y.bn ≤ 100000 ∧ y.kn ≤ 100000 ∧ y.gn ≤ 100000) (HP : Hid (plainB y = false)) (HA : Hid (poolF y n = none)) :
    Calls Tryd.prog 104 #[.agg #[.int .u8 y.kind, .slice y.rA y.rn y.rc, .slice y.bA y.bn y.bc, .int .i64 y.ch, .int .i64 y.high, .int .i64 y.wide, .int .i64 y.out, .int .i64 y.kh, .int .i64 y.kw, .int .i64 y.st, .int .i64 y.pad, .slice y.kA y.kn y.kc, .slice y.gA y.gn y.gc], .int .i64 n] w (TellsB w (poolF y n)) := by
    obtain ⟨W, hW, x0, x1, hB⟩ := boxes2 w #[.int .u8 y.kind, .slice y.rA y.rn y.rc, .slice y.bA y.bn y.bc, .int .i64 y.ch, .int .i64 y.high, .int .i64 y.wide, .int .i64 y.out, .int .i64 y.kh, .int .i64 y.kw, .int .i64 y.st, .int .i64 y.pad, .slice y.kA y.kn y.kc, .slice y.gA y.gn y.gc] 38 #[.int .i64 n] 3
    have HX0 := Lib.hid x0
    have HX1 := Lib.hid x1
    clear x0 x1
    have Bz := Below.refl W.heap.size W
    have p0_0 := (HX0.out.below Bz).cell 0 (.int .u8 y.kind) rfl
    have p0_1 := (HX0.out.below Bz).cell 1 (.slice y.rA y.rn y.rc) rfl
    have p0_2 := (HX0.out.below Bz).cell 2 (.slice y.bA y.bn y.bc) rfl
    have p0_3 := (HX0.out.below Bz).cell 3 (.int .i64 y.ch) rfl
    have p0_4 := (HX0.out.below Bz).cell 4 (.int .i64 y.high) rfl
    have p0_5 := (HX0.out.below Bz).cell 5 (.int .i64 y.wide) rfl
    have p0_6 := (HX0.out.below Bz).cell 6 (.int .i64 y.out) rfl
    have p0_7 := (HX0.out.below Bz).cell 7 (.int .i64 y.kh) rfl
    have p0_8 := (HX0.out.below Bz).cell 8 (.int .i64 y.kw) rfl
    have p0_9 := (HX0.out.below Bz).cell 9 (.int .i64 y.st) rfl
    have p0_10 := (HX0.out.below Bz).cell 10 (.int .i64 y.pad) rfl
    have p0_11 := (HX0.out.below Bz).cell 11 (.slice y.kA y.kn y.kc) rfl
    have p0_12 := (HX0.out.below Bz).cell 12 (.slice y.gA y.gn y.gc) rfl
    go_enter Tryd.func104, Tryd.ntmps104
    go_wp2_with fail
    rw [← hW]
    clear hW
    go_wp2_with fail
    with_reducible refine (plain_q (by omega) false HP).mono ?_
    rintro e w1 ⟨rfl, b1⟩
    replace b1 := below_trans (a := W) (by go_grown) b1
    replace Bz := below_trans Bz b1
    clear b1
    clear p0_0 p0_1 p0_2 p0_3 p0_4 p0_5 p0_6 p0_7 p0_8 p0_9 p0_10 p0_11 p0_12
    go_wp2_with fail
    go_ret3
    have hF := below_trans (c := w1) hB Bz
    exact ⟨by rw [HA.out]; rfl, below_trans hF (by go_grown)⟩
set_option maxRecDepth 100000 in
set_option maxHeartbeats 4000000 in
theorem pool_W2 {w : World} {m : Nat} {y : Ly} {n : Int} (_h : LyOk w m y) (hl : y.rn ≤ 100000 ∧ y.bn ≤ 100000 ∧ y.kn ≤ 100000 ∧ y.gn ≤ 100000) (HP : Hid (plainB y = true)) (g1 : 0 < y.rn) (HA : Hid (poolF y n = none)) :
    Calls Tryd.prog 104 #[.agg #[.int .u8 y.kind, .slice y.rA y.rn y.rc, .slice y.bA y.bn y.bc, .int .i64 y.ch, .int .i64 y.high, .int .i64 y.wide, .int .i64 y.out, .int .i64 y.kh, .int .i64 y.kw, .int .i64 y.st, .int .i64 y.pad, .slice y.kA y.kn y.kc, .slice y.gA y.gn y.gc], .int .i64 n] w (TellsB w (poolF y n)) := by
    obtain ⟨W, hW, x0, x1, hB⟩ := boxes2 w #[.int .u8 y.kind, .slice y.rA y.rn y.rc, .slice y.bA y.bn y.bc, .int .i64 y.ch, .int .i64 y.high, .int .i64 y.wide, .int .i64 y.out, .int .i64 y.kh, .int .i64 y.kw, .int .i64 y.st, .int .i64 y.pad, .slice y.kA y.kn y.kc, .slice y.gA y.gn y.gc] 38 #[.int .i64 n] 3
    have HX0 := Lib.hid x0
    have HX1 := Lib.hid x1
    clear x0 x1
    have Bz := Below.refl W.heap.size W
    have p0_0 := (HX0.out.below Bz).cell 0 (.int .u8 y.kind) rfl
    have p0_1 := (HX0.out.below Bz).cell 1 (.slice y.rA y.rn y.rc) rfl
    have p0_2 := (HX0.out.below Bz).cell 2 (.slice y.bA y.bn y.bc) rfl
    have p0_3 := (HX0.out.below Bz).cell 3 (.int .i64 y.ch) rfl
    have p0_4 := (HX0.out.below Bz).cell 4 (.int .i64 y.high) rfl
    have p0_5 := (HX0.out.below Bz).cell 5 (.int .i64 y.wide) rfl
    have p0_6 := (HX0.out.below Bz).cell 6 (.int .i64 y.out) rfl
    have p0_7 := (HX0.out.below Bz).cell 7 (.int .i64 y.kh) rfl
    have p0_8 := (HX0.out.below Bz).cell 8 (.int .i64 y.kw) rfl
    have p0_9 := (HX0.out.below Bz).cell 9 (.int .i64 y.st) rfl
    have p0_10 := (HX0.out.below Bz).cell 10 (.int .i64 y.pad) rfl
    have p0_11 := (HX0.out.below Bz).cell 11 (.slice y.kA y.kn y.kc) rfl
    have p0_12 := (HX0.out.below Bz).cell 12 (.slice y.gA y.gn y.gc) rfl
    go_enter Tryd.func104, Tryd.ntmps104
    go_wp2_with fail
    rw [← hW]
    clear hW
    go_wp2_with fail
    with_reducible refine (plain_q (by omega) true HP).mono ?_
    rintro e w1 ⟨rfl, b1⟩
    replace b1 := below_trans (a := W) (by go_grown) b1
    replace Bz := below_trans Bz b1
    clear b1
    clear p0_0 p0_1 p0_2 p0_3 p0_4 p0_5 p0_6 p0_7 p0_8 p0_9 p0_10 p0_11 p0_12
    have p0_1 := (HX0.out.below Bz).cell 1 (.slice y.rA y.rn y.rc) rfl
    go_wp2_with fail
    go_ret3
    have hF := below_trans (c := w1) hB Bz
    exact ⟨by rw [HA.out]; rfl, below_trans hF (by go_grown)⟩
set_option maxRecDepth 100000 in
set_option maxHeartbeats 4000000 in
theorem pool_W3 {w : World} {m : Nat} {y : Ly} {n : Int} (_h : LyOk w m y) (hl : y.rn ≤ 100000 ∧ y.bn ≤ 100000 ∧ y.kn ≤ 100000 ∧ y.gn ≤ 100000) (HP : Hid (plainB y = true)) (g1 : ¬ 0 < y.rn) (g2 : 0 < y.bn) (HA : Hid (poolF y n = none)) :
    Calls Tryd.prog 104 #[.agg #[.int .u8 y.kind, .slice y.rA y.rn y.rc, .slice y.bA y.bn y.bc, .int .i64 y.ch, .int .i64 y.high, .int .i64 y.wide, .int .i64 y.out, .int .i64 y.kh, .int .i64 y.kw, .int .i64 y.st, .int .i64 y.pad, .slice y.kA y.kn y.kc, .slice y.gA y.gn y.gc], .int .i64 n] w (TellsB w (poolF y n)) := by
    obtain ⟨W, hW, x0, x1, hB⟩ := boxes2 w #[.int .u8 y.kind, .slice y.rA y.rn y.rc, .slice y.bA y.bn y.bc, .int .i64 y.ch, .int .i64 y.high, .int .i64 y.wide, .int .i64 y.out, .int .i64 y.kh, .int .i64 y.kw, .int .i64 y.st, .int .i64 y.pad, .slice y.kA y.kn y.kc, .slice y.gA y.gn y.gc] 38 #[.int .i64 n] 3
    have HX0 := Lib.hid x0
    have HX1 := Lib.hid x1
    clear x0 x1
    have Bz := Below.refl W.heap.size W
    have p0_0 := (HX0.out.below Bz).cell 0 (.int .u8 y.kind) rfl
    have p0_1 := (HX0.out.below Bz).cell 1 (.slice y.rA y.rn y.rc) rfl
    have p0_2 := (HX0.out.below Bz).cell 2 (.slice y.bA y.bn y.bc) rfl
    have p0_3 := (HX0.out.below Bz).cell 3 (.int .i64 y.ch) rfl
    have p0_4 := (HX0.out.below Bz).cell 4 (.int .i64 y.high) rfl
    have p0_5 := (HX0.out.below Bz).cell 5 (.int .i64 y.wide) rfl
    have p0_6 := (HX0.out.below Bz).cell 6 (.int .i64 y.out) rfl
    have p0_7 := (HX0.out.below Bz).cell 7 (.int .i64 y.kh) rfl
    have p0_8 := (HX0.out.below Bz).cell 8 (.int .i64 y.kw) rfl
    have p0_9 := (HX0.out.below Bz).cell 9 (.int .i64 y.st) rfl
    have p0_10 := (HX0.out.below Bz).cell 10 (.int .i64 y.pad) rfl
    have p0_11 := (HX0.out.below Bz).cell 11 (.slice y.kA y.kn y.kc) rfl
    have p0_12 := (HX0.out.below Bz).cell 12 (.slice y.gA y.gn y.gc) rfl
    go_enter Tryd.func104, Tryd.ntmps104
    go_wp2_with fail
    rw [← hW]
    clear hW
    go_wp2_with fail
    with_reducible refine (plain_q (by omega) true HP).mono ?_
    rintro e w1 ⟨rfl, b1⟩
    replace b1 := below_trans (a := W) (by go_grown) b1
    replace Bz := below_trans Bz b1
    clear b1
    clear p0_0 p0_1 p0_2 p0_3 p0_4 p0_5 p0_6 p0_7 p0_8 p0_9 p0_10 p0_11 p0_12
    have p0_1 := (HX0.out.below Bz).cell 1 (.slice y.rA y.rn y.rc) rfl
    have p0_2 := (HX0.out.below Bz).cell 2 (.slice y.bA y.bn y.bc) rfl
    go_wp2_with fail
    go_ret3
    have hF := below_trans (c := w1) hB Bz
    exact ⟨by rw [HA.out]; rfl, below_trans hF (by go_grown)⟩
set_option maxRecDepth 100000 in
set_option maxHeartbeats 4000000 in
theorem pool_W4 {w : World} {m : Nat} {y : Ly} {n : Int} (_h : LyOk w m y) (hl : y.rn ≤ 100000 ∧ y.bn ≤ 100000 ∧ y.kn ≤ 100000 ∧ y.gn ≤ 100000) (HP : Hid (plainB y = true)) (g1 : ¬ 0 < y.rn) (g2 : ¬ 0 < y.bn) (g3 : ((y.gn : Int) == 0) = true) (HA : Hid (poolF y n = none)) :
    Calls Tryd.prog 104 #[.agg #[.int .u8 y.kind, .slice y.rA y.rn y.rc, .slice y.bA y.bn y.bc, .int .i64 y.ch, .int .i64 y.high, .int .i64 y.wide, .int .i64 y.out, .int .i64 y.kh, .int .i64 y.kw, .int .i64 y.st, .int .i64 y.pad, .slice y.kA y.kn y.kc, .slice y.gA y.gn y.gc], .int .i64 n] w (TellsB w (poolF y n)) := by
    obtain ⟨W, hW, x0, x1, hB⟩ := boxes2 w #[.int .u8 y.kind, .slice y.rA y.rn y.rc, .slice y.bA y.bn y.bc, .int .i64 y.ch, .int .i64 y.high, .int .i64 y.wide, .int .i64 y.out, .int .i64 y.kh, .int .i64 y.kw, .int .i64 y.st, .int .i64 y.pad, .slice y.kA y.kn y.kc, .slice y.gA y.gn y.gc] 38 #[.int .i64 n] 3
    have HX0 := Lib.hid x0
    have HX1 := Lib.hid x1
    clear x0 x1
    have Bz := Below.refl W.heap.size W
    have p0_0 := (HX0.out.below Bz).cell 0 (.int .u8 y.kind) rfl
    have p0_1 := (HX0.out.below Bz).cell 1 (.slice y.rA y.rn y.rc) rfl
    have p0_2 := (HX0.out.below Bz).cell 2 (.slice y.bA y.bn y.bc) rfl
    have p0_3 := (HX0.out.below Bz).cell 3 (.int .i64 y.ch) rfl
    have p0_4 := (HX0.out.below Bz).cell 4 (.int .i64 y.high) rfl
    have p0_5 := (HX0.out.below Bz).cell 5 (.int .i64 y.wide) rfl
    have p0_6 := (HX0.out.below Bz).cell 6 (.int .i64 y.out) rfl
    have p0_7 := (HX0.out.below Bz).cell 7 (.int .i64 y.kh) rfl
    have p0_8 := (HX0.out.below Bz).cell 8 (.int .i64 y.kw) rfl
    have p0_9 := (HX0.out.below Bz).cell 9 (.int .i64 y.st) rfl
    have p0_10 := (HX0.out.below Bz).cell 10 (.int .i64 y.pad) rfl
    have p0_11 := (HX0.out.below Bz).cell 11 (.slice y.kA y.kn y.kc) rfl
    have p0_12 := (HX0.out.below Bz).cell 12 (.slice y.gA y.gn y.gc) rfl
    go_enter Tryd.func104, Tryd.ntmps104
    go_wp2_with fail
    rw [← hW]
    clear hW
    go_wp2_with fail
    with_reducible refine (plain_q (by omega) true HP).mono ?_
    rintro e w1 ⟨rfl, b1⟩
    replace b1 := below_trans (a := W) (by go_grown) b1
    replace Bz := below_trans Bz b1
    clear b1
    clear p0_0 p0_1 p0_2 p0_3 p0_4 p0_5 p0_6 p0_7 p0_8 p0_9 p0_10 p0_11 p0_12
    have p0_1 := (HX0.out.below Bz).cell 1 (.slice y.rA y.rn y.rc) rfl
    have p0_2 := (HX0.out.below Bz).cell 2 (.slice y.bA y.bn y.bc) rfl
    have p0_12 := (HX0.out.below Bz).cell 12 (.slice y.gA y.gn y.gc) rfl
    go_wp2_with fail
    go_ret3
    have hF := below_trans (c := w1) hB Bz
    exact ⟨by rw [HA.out]; rfl, below_trans hF (by go_grown)⟩
set_option maxRecDepth 100000 in
set_option maxHeartbeats 4000000 in
theorem pool_W5 {w : World} {m : Nat} {y : Ly} {n : Int} (h : LyOk w m y) (hl : y.rn ≤ 100000 ∧ y.bn ≤ 100000 ∧ y.kn ≤ 100000 ∧ y.gn ≤ 100000) (HP : Hid (plainB y = true)) (g1 : ¬ 0 < y.rn) (g2 : ¬ 0 < y.bn) (g3 : ((y.gn : Int) == 0) = false) (HR : Hid ((y.groups.all fun v => groupB n v) = false)) (HA : Hid (poolF y n = none)) :
    Calls Tryd.prog 104 #[.agg #[.int .u8 y.kind, .slice y.rA y.rn y.rc, .slice y.bA y.bn y.bc, .int .i64 y.ch, .int .i64 y.high, .int .i64 y.wide, .int .i64 y.out, .int .i64 y.kh, .int .i64 y.kw, .int .i64 y.st, .int .i64 y.pad, .slice y.kA y.kn y.kc, .slice y.gA y.gn y.gc], .int .i64 n] w (TellsB w (poolF y n)) := by
    obtain ⟨W, hW, x0, x1, hB⟩ := boxes2 w #[.int .u8 y.kind, .slice y.rA y.rn y.rc, .slice y.bA y.bn y.bc, .int .i64 y.ch, .int .i64 y.high, .int .i64 y.wide, .int .i64 y.out, .int .i64 y.kh, .int .i64 y.kw, .int .i64 y.st, .int .i64 y.pad, .slice y.kA y.kn y.kc, .slice y.gA y.gn y.gc] 38 #[.int .i64 n] 3
    have HX0 := Lib.hid x0
    have HX1 := Lib.hid x1
    clear x0 x1
    have Bz := Below.refl W.heap.size W
    have p0_0 := (HX0.out.below Bz).cell 0 (.int .u8 y.kind) rfl
    have p0_1 := (HX0.out.below Bz).cell 1 (.slice y.rA y.rn y.rc) rfl
    have p0_2 := (HX0.out.below Bz).cell 2 (.slice y.bA y.bn y.bc) rfl
    have p0_3 := (HX0.out.below Bz).cell 3 (.int .i64 y.ch) rfl
    have p0_4 := (HX0.out.below Bz).cell 4 (.int .i64 y.high) rfl
    have p0_5 := (HX0.out.below Bz).cell 5 (.int .i64 y.wide) rfl
    have p0_6 := (HX0.out.below Bz).cell 6 (.int .i64 y.out) rfl
    have p0_7 := (HX0.out.below Bz).cell 7 (.int .i64 y.kh) rfl
    have p0_8 := (HX0.out.below Bz).cell 8 (.int .i64 y.kw) rfl
    have p0_9 := (HX0.out.below Bz).cell 9 (.int .i64 y.st) rfl
    have p0_10 := (HX0.out.below Bz).cell 10 (.int .i64 y.pad) rfl
    have p0_11 := (HX0.out.below Bz).cell 11 (.slice y.kA y.kn y.kc) rfl
    have p0_12 := (HX0.out.below Bz).cell 12 (.slice y.gA y.gn y.gc) rfl
    go_enter Tryd.func104, Tryd.ntmps104
    go_wp2_with fail
    rw [← hW]
    clear hW
    go_wp2_with fail
    with_reducible refine (plain_q (by omega) true HP).mono ?_
    rintro e w1 ⟨rfl, b1⟩
    replace b1 := below_trans (a := W) (by go_grown) b1
    replace Bz := below_trans Bz b1
    clear b1
    clear p0_0 p0_1 p0_2 p0_3 p0_4 p0_5 p0_6 p0_7 p0_8 p0_9 p0_10 p0_11 p0_12
    have p0_1 := (HX0.out.below Bz).cell 1 (.slice y.rA y.rn y.rc) rfl
    have p0_2 := (HX0.out.below Bz).cell 2 (.slice y.bA y.bn y.bc) rfl
    have p0_12 := (HX0.out.below Bz).cell 12 (.slice y.gA y.gn y.gc) rfl
    go_upto_region 4 with (fail)
    obtain ⟨V1, hW, x2, hN⟩ := boxes1 w1 #[.int .i64 0] 3
    rw [← hW]
    clear hW
    obtain ⟨v2, hb2⟩ : ∃ b, b = w1.heap.size := ⟨_, rfl⟩
    rw [← hb2] at x2 ⊢
    have o0_2 : w.heap.size < v2 := by have := (HX0.out.below Bz).lt; omega
    have o1_2 : w.heap.size + 1 < v2 := by have := (HX1.out.below Bz).lt; omega
    have ow_2 : w.heap.size ≤ v2 := by have := hB.size; have := Bz.size; omega
    replace hB := below_trans (below_trans hB Bz) hN
    replace HX0 := Lib.hid ((HX0.out.below Bz).below hN)
    replace HX1 := Lib.hid ((HX1.out.below Bz).below hN)
    have HX2 := Lib.hid x2
    clear x2 hN Bz hb2
    have Bz := Below.refl V1.heap.size V1
    clear p0_1 p0_2 p0_12
    have p0_12 := (HX0.out.below Bz).cell 12 (.slice y.gA y.gn y.gc) rfl
    go_wp2_with fail
    with_reducible refine (all_groups (w0 := w) (below_trans hB (below_trans (b := V1) Bz (by go_grown))) h.groups h.gok (by omega) (by omega) (HX2.out.below (below_trans Bz (by go_grown))) (HX1.out.below (below_trans Bz (by go_grown))) (by omega) (by omega) (by omega) false HR).mono ?_
    rintro e w2 ⟨rfl, x2, ch2⟩
    replace ch2 := (Ch.of_below (w := V1) (by go_grown)).trans ch2
    replace hB := (below_trans hB Bz).trans (ch2.below (by omega) (by have := hB.size; have := Bz.size; omega))
    replace HX0 := Lib.hid (ch2.bx (HX0.out.below Bz) (by omega))
    replace HX1 := Lib.hid (ch2.bx (HX1.out.below Bz) (by omega))
    clear HX2
    clear ch2 Bz
    have Bz := Below.refl w2.heap.size w2
    clear p0_12
    go_wp2_with fail
    go_ret3
    have hF := below_trans (c := w2) hB Bz
    exact ⟨by rw [HA.out]; rfl, below_trans hF (by go_grown)⟩
set_option maxRecDepth 100000 in
set_option maxHeartbeats 4000000 in
theorem pool_OK {w : World} {m : Nat} {y : Ly} {n : Int} (h : LyOk w m y) (hl : y.rn ≤ 100000 ∧ y.bn ≤ 100000 ∧ y.kn ≤ 100000 ∧ y.gn ≤ 100000) (HP : Hid (plainB y = true)) (g1 : ¬ 0 < y.rn) (g2 : ¬ 0 < y.bn) (g3 : ((y.gn : Int) == 0) = false) (HR : Hid ((y.groups.all fun v => groupB n v) = true)) (HA : Hid (poolF y n = some ((y.gn : Int), (glens y.groups : Int)))) :
    Calls Tryd.prog 104 #[.agg #[.int .u8 y.kind, .slice y.rA y.rn y.rc, .slice y.bA y.bn y.bc, .int .i64 y.ch, .int .i64 y.high, .int .i64 y.wide, .int .i64 y.out, .int .i64 y.kh, .int .i64 y.kw, .int .i64 y.st, .int .i64 y.pad, .slice y.kA y.kn y.kc, .slice y.gA y.gn y.gc], .int .i64 n] w (TellsB w (poolF y n)) := by
    obtain ⟨W, hW, x0, x1, hB⟩ := boxes2 w #[.int .u8 y.kind, .slice y.rA y.rn y.rc, .slice y.bA y.bn y.bc, .int .i64 y.ch, .int .i64 y.high, .int .i64 y.wide, .int .i64 y.out, .int .i64 y.kh, .int .i64 y.kw, .int .i64 y.st, .int .i64 y.pad, .slice y.kA y.kn y.kc, .slice y.gA y.gn y.gc] 38 #[.int .i64 n] 3
    have HX0 := Lib.hid x0
    have HX1 := Lib.hid x1
    clear x0 x1
    have Bz := Below.refl W.heap.size W
    have p0_0 := (HX0.out.below Bz).cell 0 (.int .u8 y.kind) rfl
    have p0_1 := (HX0.out.below Bz).cell 1 (.slice y.rA y.rn y.rc) rfl
    have p0_2 := (HX0.out.below Bz).cell 2 (.slice y.bA y.bn y.bc) rfl
    have p0_3 := (HX0.out.below Bz).cell 3 (.int .i64 y.ch) rfl
    have p0_4 := (HX0.out.below Bz).cell 4 (.int .i64 y.high) rfl
    have p0_5 := (HX0.out.below Bz).cell 5 (.int .i64 y.wide) rfl
    have p0_6 := (HX0.out.below Bz).cell 6 (.int .i64 y.out) rfl
    have p0_7 := (HX0.out.below Bz).cell 7 (.int .i64 y.kh) rfl
    have p0_8 := (HX0.out.below Bz).cell 8 (.int .i64 y.kw) rfl
    have p0_9 := (HX0.out.below Bz).cell 9 (.int .i64 y.st) rfl
    have p0_10 := (HX0.out.below Bz).cell 10 (.int .i64 y.pad) rfl
    have p0_11 := (HX0.out.below Bz).cell 11 (.slice y.kA y.kn y.kc) rfl
    have p0_12 := (HX0.out.below Bz).cell 12 (.slice y.gA y.gn y.gc) rfl
    go_enter Tryd.func104, Tryd.ntmps104
    go_wp2_with fail
    rw [← hW]
    clear hW
    go_wp2_with fail
    with_reducible refine (plain_q (by omega) true HP).mono ?_
    rintro e w1 ⟨rfl, b1⟩
    replace b1 := below_trans (a := W) (by go_grown) b1
    replace Bz := below_trans Bz b1
    clear b1
    clear p0_0 p0_1 p0_2 p0_3 p0_4 p0_5 p0_6 p0_7 p0_8 p0_9 p0_10 p0_11 p0_12
    have p0_1 := (HX0.out.below Bz).cell 1 (.slice y.rA y.rn y.rc) rfl
    have p0_2 := (HX0.out.below Bz).cell 2 (.slice y.bA y.bn y.bc) rfl
    have p0_12 := (HX0.out.below Bz).cell 12 (.slice y.gA y.gn y.gc) rfl
    go_upto_region 4 with (fail)
    obtain ⟨V1, hW, x2, hN⟩ := boxes1 w1 #[.int .i64 0] 3
    rw [← hW]
    clear hW
    obtain ⟨v2, hb2⟩ : ∃ b, b = w1.heap.size := ⟨_, rfl⟩
    rw [← hb2] at x2 ⊢
    have o0_2 : w.heap.size < v2 := by have := (HX0.out.below Bz).lt; omega
    have o1_2 : w.heap.size + 1 < v2 := by have := (HX1.out.below Bz).lt; omega
    have ow_2 : w.heap.size ≤ v2 := by have := hB.size; have := Bz.size; omega
    replace hB := below_trans (below_trans hB Bz) hN
    replace HX0 := Lib.hid ((HX0.out.below Bz).below hN)
    replace HX1 := Lib.hid ((HX1.out.below Bz).below hN)
    have HX2 := Lib.hid x2
    clear x2 hN Bz hb2
    have Bz := Below.refl V1.heap.size V1
    clear p0_1 p0_2 p0_12
    have p0_12 := (HX0.out.below Bz).cell 12 (.slice y.gA y.gn y.gc) rfl
    go_wp2_with fail
    with_reducible refine (all_groups (w0 := w) (below_trans hB (below_trans (b := V1) Bz (by go_grown))) h.groups h.gok (by omega) (by omega) (HX2.out.below (below_trans Bz (by go_grown))) (HX1.out.below (below_trans Bz (by go_grown))) (by omega) (by omega) (by omega) true HR).mono ?_
    rintro e w2 ⟨rfl, x2, ch2⟩
    replace ch2 := (Ch.of_below (w := V1) (by go_grown)).trans ch2
    replace hB := (below_trans hB Bz).trans (ch2.below (by omega) (by have := hB.size; have := Bz.size; omega))
    replace HX0 := Lib.hid (ch2.bx (HX0.out.below Bz) (by omega))
    replace HX1 := Lib.hid (ch2.bx (HX1.out.below Bz) (by omega))
    replace HX2 := Lib.hid (x2 rfl)
    clear ch2 Bz
    have Bz := Below.refl w2.heap.size w2
    clear p0_12
    have p0_12 := (HX0.out.below Bz).cell 12 (.slice y.gA y.gn y.gc) rfl
    have p2_0 := (HX2.out.below Bz).cell 0 (.int .i64 (0 + (glens y.groups : Int))) rfl
    go_wp2_with fail
    (try simp only [List.append_eq, List.cons_append, List.nil_append])
    refine wp_region_plan (.pure 0 (.take 1 (.pure 2 (.take 3 (.pure 4 (.pure 5 (.pure 6 .done))))))) [] (fun w' => w'.cell? ⟨w.heap.size, 12, none⟩ = some (.slice y.gA y.gn y.gc) ∧ w'.cell? ⟨v2, 0, none⟩ = some (.int .i64 (0 + (glens y.groups : Int)))) (by kernel_rfl) (by kernel_rfl) ⟨p0_12, p2_0⟩ ?_
    refine wpPlan_pure (o := ⟨some 36, _, _, _, _, _⟩) (v := ?_) rfl rfl (fun w' => ?_) ?_
    rotate_left
    · go_simp <;> with_reducible rfl
    try simp only [Act.put, List.setIfInBounds_toArray, List.set_cons_zero, List.set_cons_succ]
    refine wpPlan_take (o := ⟨some 37, _, _, _, _, _⟩) (v := ?_) rfl rfl (fun w' hS => ?_) ?_
    rotate_left
    · obtain ⟨p0_12, p2_0⟩ := hS; go_simp <;> with_reducible rfl
    try simp only [Act.put, List.setIfInBounds_toArray, List.set_cons_zero, List.set_cons_succ]
    refine wpPlan_pure (o := ⟨some 38, _, _, _, _, _⟩) (v := ?_) rfl rfl (fun w' => ?_) ?_
    rotate_left
    · go_simp <;> with_reducible rfl
    try simp only [Act.put, List.setIfInBounds_toArray, List.set_cons_zero, List.set_cons_succ]
    refine wpPlan_take (o := ⟨some 39, _, _, _, _, _⟩) (v := ?_) rfl rfl (fun w' hS => ?_) ?_
    rotate_left
    · obtain ⟨p0_12, p2_0⟩ := hS; go_simp <;> with_reducible rfl
    try simp only [Act.put, List.setIfInBounds_toArray, List.set_cons_zero, List.set_cons_succ]
    refine wpPlan_pure (o := ⟨some 4, _, _, _, _, _⟩) (v := ?_) rfl rfl (fun w' => ?_) ?_
    rotate_left
    · go_simp <;> with_reducible rfl
    try simp only [Act.put, List.setIfInBounds_toArray, List.set_cons_zero, List.set_cons_succ]
    refine wpPlan_pure (o := ⟨some 5, _, _, _, _, _⟩) (v := ?_) rfl rfl (fun w' => ?_) ?_
    rotate_left
    · go_simp <;> with_reducible rfl
    try simp only [Act.put, List.setIfInBounds_toArray, List.set_cons_zero, List.set_cons_succ]
    refine wpPlan_pure (o := ⟨some 6, _, _, _, _, _⟩) (v := ?_) rfl rfl (fun w' => ?_) ?_
    rotate_left
    · go_simp <;> with_reducible rfl
    try simp only [Act.put, List.setIfInBounds_toArray, List.set_cons_zero, List.set_cons_succ]
    refine wpPlan_done ?_
    go_wp2_with fail
    go_ret3
    have hF := below_trans (c := w2) hB Bz
    exact ⟨by rw [HA.out]; simp, below_trans hF (by go_grown)⟩
theorem pool_q {w : World} {m : Nat} {y : Ly} {n : Int} (h : LyOk w m y) :
    Calls Tryd.prog 104 #[.agg #[.int .u8 y.kind, .slice y.rA y.rn y.rc, .slice y.bA y.bn y.bc, .int .i64 y.ch, .int .i64 y.high, .int .i64 y.wide, .int .i64 y.out, .int .i64 y.kh, .int .i64 y.kw, .int .i64 y.st, .int .i64 y.pad, .slice y.kA y.kn y.kc, .slice y.gA y.gn y.gc], .int .i64 n] w (TellsB w (poolF y n)) := by
  have hl := h.lens
  cases h1 : plainB y
  · exact pool_W1 h hl (Lib.hid h1) (Lib.hid (by unfold poolF; rw [if_pos h1]))
  · have e1 : ¬ plainB y = false := by rw [h1]; simp
    by_cases h2 : 0 < y.rn
    · exact pool_W2 h hl (Lib.hid h1) h2 (Lib.hid (by unfold poolF; rw [if_neg e1, if_pos h2]))
    · by_cases h3 : 0 < y.bn
      · exact pool_W3 h hl (Lib.hid h1) h2 h3 (Lib.hid (by unfold poolF; rw [if_neg e1, if_neg h2, if_pos h3]))
      · by_cases h4 : y.gn = 0
        · exact pool_W4 h hl (Lib.hid h1) h2 h3 (by simp; omega) (Lib.hid (by unfold poolF; rw [if_neg e1, if_neg h2, if_neg h3, if_pos h4]))
        · cases h5 : (y.groups.all fun v => groupB n v)
          · exact pool_W5 h hl (Lib.hid h1) h2 h3 (by simp; omega) (Lib.hid h5) (Lib.hid (by unfold poolF; rw [if_neg e1, if_neg h2, if_neg h3, if_neg h4, if_pos h5]))
          · exact pool_OK h hl (Lib.hid h1) h2 h3 (by simp; omega) (Lib.hid h5) (Lib.hid (by unfold poolF; rw [if_neg e1, if_neg h2, if_neg h3, if_neg h4, if_neg (by rw [h5]; simp)]))
end Go.Proofs.YtionhpangenhnaaDoor
