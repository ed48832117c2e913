/-
  Which networks may be: behind, sizes, Sizes, Check. Written by wip/gen/sh8.py.
-/
import Derived.Test.YtionhpangenhnaaDoorSh7b
import Derived.Test.YtionhpangenhnaaDoorElt
namespace Go.Proofs.YtionhpangenhnaaDoor
open Go.RowKit Tw

/-- A Relu has nothing. -/
def reluB (y : Ly) : Bool := plainB y && (decide (y.rn = 0) && (decide (y.bn = 0) && decide (y.gn = 0)))
/-- What a layer has behind it: units and terms; nothing, if it does not fit. -/
def behindF (y : Ly) (n : Int) : Option (Int × Int) :=
  if y.kind = 1 then affineF y n else if y.kind = 2 then convF y n else if y.kind = 3 then (if reluB y then some (n, 0) else none) else if y.kind = 4 then poolF y n else none
/-- The units n and those behind each of the layers, s terms ahead; or what is wrong. -/
def stepsF : List Ly → Int → Int → Except Int (List Int)
  | [], n, _ => .ok [n]
  | y :: L, n, s =>
    match behindF y n with
    | none => .error 22
    | some (u, t) => if 256 < u then .error 25 else if 16384 < s + t then .error 25 else (stepsF L u (s + t)).map (n :: ·)
def sizesF (i : Int) (L : List Ly) : Except Int (List Int) := if i < 1 then .error 25 else if 64 < i then .error 25 else if 16 < L.length then .error 25 else stepsF L i 0
theorem TellsB.no {w w' : World} {e : Ending} {f : Option (Int × Int)} (h : TellsB w f e w') (hf : f = none) : e = .returned (.tuple #[.int .i64 0, .int .i64 0, .bool false]) ∧ Below w.heap.size w w' := by subst hf; exact h
theorem TellsB.yes {w w' : World} {e : Ending} {f : Option (Int × Int)} {a b : Int} (h : TellsB w f e w') (hf : f = some (a, b)) : e = .returned (.tuple #[.int .i64 a, .int .i64 b, .bool true]) ∧ Below w.heap.size w w' := by subst hf; exact h
set_option maxRecDepth 100000 in
set_option maxHeartbeats 4000000 in
theorem behind_1n {w : World} {m : Nat} {y : Ly} {n : Int} (h : LyOk w m y) (hm : m ≤ 20000) (_hl : y.rn ≤ 100000 ∧ y.bn ≤ 100000 ∧ y.kn ≤ 100000 ∧ y.gn ≤ 100000) (k1 : (y.kind == 1) = true) (HF : Hid (affineF y n = none)) (HA : Hid (behindF y n = none)) (hT : Hid (Tab w)) :
    Calls Tryd.prog 78 #[.agg #[.int .u8 y.kind, .slice y.rA y.rn y.rc, .slice y.bA y.bn y.bc, .int .i64 y.ch, .int .i64 y.high, .int .i64 y.wide, .int .i64 y.out, .int .i64 y.kh, .int .i64 y.kw, .int .i64 y.st, .int .i64 y.pad, .slice y.kA y.kn y.kc, .slice y.gA y.gn y.gc], .int .i64 n] w (TellsB w (behindF y n)) := by
  obtain ⟨W, hW, x0, hB⟩ := boxes1 w #[.int .u8 y.kind, .slice y.rA y.rn y.rc, .slice y.bA y.bn y.bc, .int .i64 y.ch, .int .i64 y.high, .int .i64 y.wide, .int .i64 y.out, .int .i64 y.kh, .int .i64 y.kw, .int .i64 y.st, .int .i64 y.pad, .slice y.kA y.kn y.kc, .slice y.gA y.gn y.gc] 38
  have HX0 := Lib.hid x0
  clear x0
  have Bz := Below.refl W.heap.size W
  have p0_0 := (HX0.out.below Bz).cell 0 (.int .u8 y.kind) rfl
  have p0_1 := (HX0.out.below Bz).cell 1 (.slice y.rA y.rn y.rc) rfl
  have p0_2 := (HX0.out.below Bz).cell 2 (.slice y.bA y.bn y.bc) rfl
  have p0_3 := (HX0.out.below Bz).cell 3 (.int .i64 y.ch) rfl
  have p0_4 := (HX0.out.below Bz).cell 4 (.int .i64 y.high) rfl
  have p0_5 := (HX0.out.below Bz).cell 5 (.int .i64 y.wide) rfl
  have p0_6 := (HX0.out.below Bz).cell 6 (.int .i64 y.out) rfl
  have p0_7 := (HX0.out.below Bz).cell 7 (.int .i64 y.kh) rfl
  have p0_8 := (HX0.out.below Bz).cell 8 (.int .i64 y.kw) rfl
  have p0_9 := (HX0.out.below Bz).cell 9 (.int .i64 y.st) rfl
  have p0_10 := (HX0.out.below Bz).cell 10 (.int .i64 y.pad) rfl
  have p0_11 := (HX0.out.below Bz).cell 11 (.slice y.kA y.kn y.kc) rfl
  have p0_12 := (HX0.out.below Bz).cell 12 (.slice y.gA y.gn y.gc) rfl
  go_enter Tryd.func78, Tryd.ntmps78
  go_wp2_with fail
  rw [← hW]
  clear hW
  go_wp2_with fail
  with_reducible refine ((affine_q (h.below (below_trans hB (below_trans (b := W) Bz (by go_grown)))) hm (Lib.hid (Tab.below hT.out (below_trans hB (below_trans (b := W) Bz (by go_grown)))))).mono fun _ _ hx => TellsB.no hx HF.out).mono ?_
  rintro e w1 ⟨rfl, b1⟩
  replace b1 := below_trans (a := W) (by go_grown) b1
  replace Bz := below_trans Bz b1
  clear b1
  clear p0_0 p0_1 p0_2 p0_3 p0_4 p0_5 p0_6 p0_7 p0_8 p0_9 p0_10 p0_11 p0_12
  go_wp2_with fail
  go_ret3
  have hF := below_trans (c := w1) hB Bz
  exact ⟨by rw [HA.out]; rfl, below_trans hF (by go_grown)⟩
set_option maxRecDepth 100000 in
set_option maxHeartbeats 4000000 in
theorem behind_1s {w : World} {m : Nat} {y : Ly} {n : Int} (h : LyOk w m y) (hm : m ≤ 20000) (_hl : y.rn ≤ 100000 ∧ y.bn ≤ 100000 ∧ y.kn ≤ 100000 ∧ y.gn ≤ 100000) {u t : Int} (k1 : (y.kind == 1) = true) (HF : Hid (affineF y n = some (u, t))) (HA : Hid (behindF y n = some (u, t))) (hT : Hid (Tab w)) :
    Calls Tryd.prog 78 #[.agg #[.int .u8 y.kind, .slice y.rA y.rn y.rc, .slice y.bA y.bn y.bc, .int .i64 y.ch, .int .i64 y.high, .int .i64 y.wide, .int .i64 y.out, .int .i64 y.kh, .int .i64 y.kw, .int .i64 y.st, .int .i64 y.pad, .slice y.kA y.kn y.kc, .slice y.gA y.gn y.gc], .int .i64 n] w (TellsB w (behindF y n)) := by
  obtain ⟨W, hW, x0, hB⟩ := boxes1 w #[.int .u8 y.kind, .slice y.rA y.rn y.rc, .slice y.bA y.bn y.bc, .int .i64 y.ch, .int .i64 y.high, .int .i64 y.wide, .int .i64 y.out, .int .i64 y.kh, .int .i64 y.kw, .int .i64 y.st, .int .i64 y.pad, .slice y.kA y.kn y.kc, .slice y.gA y.gn y.gc] 38
  have HX0 := Lib.hid x0
  clear x0
  have Bz := Below.refl W.heap.size W
  have p0_0 := (HX0.out.below Bz).cell 0 (.int .u8 y.kind) rfl
  have p0_1 := (HX0.out.below Bz).cell 1 (.slice y.rA y.rn y.rc) rfl
  have p0_2 := (HX0.out.below Bz).cell 2 (.slice y.bA y.bn y.bc) rfl
  have p0_3 := (HX0.out.below Bz).cell 3 (.int .i64 y.ch) rfl
  have p0_4 := (HX0.out.below Bz).cell 4 (.int .i64 y.high) rfl
  have p0_5 := (HX0.out.below Bz).cell 5 (.int .i64 y.wide) rfl
  have p0_6 := (HX0.out.below Bz).cell 6 (.int .i64 y.out) rfl
  have p0_7 := (HX0.out.below Bz).cell 7 (.int .i64 y.kh) rfl
  have p0_8 := (HX0.out.below Bz).cell 8 (.int .i64 y.kw) rfl
  have p0_9 := (HX0.out.below Bz).cell 9 (.int .i64 y.st) rfl
  have p0_10 := (HX0.out.below Bz).cell 10 (.int .i64 y.pad) rfl
  have p0_11 := (HX0.out.below Bz).cell 11 (.slice y.kA y.kn y.kc) rfl
  have p0_12 := (HX0.out.below Bz).cell 12 (.slice y.gA y.gn y.gc) rfl
  go_enter Tryd.func78, Tryd.ntmps78
  go_wp2_with fail
  rw [← hW]
  clear hW
  go_wp2_with fail
  with_reducible refine ((affine_q (h.below (below_trans hB (below_trans (b := W) Bz (by go_grown)))) hm (Lib.hid (Tab.below hT.out (below_trans hB (below_trans (b := W) Bz (by go_grown)))))).mono fun _ _ hx => TellsB.yes hx HF.out).mono ?_
  rintro e w1 ⟨rfl, b1⟩
  replace b1 := below_trans (a := W) (by go_grown) b1
  replace Bz := below_trans Bz b1
  clear b1
  clear p0_0 p0_1 p0_2 p0_3 p0_4 p0_5 p0_6 p0_7 p0_8 p0_9 p0_10 p0_11 p0_12
  go_wp2_with fail
  go_ret3
  have hF := below_trans (c := w1) hB Bz
  exact ⟨by rw [HA.out]; rfl, below_trans hF (by go_grown)⟩
set_option maxRecDepth 100000 in
set_option maxHeartbeats 4000000 in
theorem behind_2n {w : World} {m : Nat} {y : Ly} {n : Int} (h : LyOk w m y) (hm : m ≤ 20000) (_hl : y.rn ≤ 100000 ∧ y.bn ≤ 100000 ∧ y.kn ≤ 100000 ∧ y.gn ≤ 100000) (k1 : (y.kind == 1) = false) (k2 : (y.kind == 2) = true) (HF : Hid (convF y n = none)) (HA : Hid (behindF y n = none)) (hT : Hid (Tab w)) :
    Calls Tryd.prog 78 #[.agg #[.int .u8 y.kind, .slice y.rA y.rn y.rc, .slice y.bA y.bn y.bc, .int .i64 y.ch, .int .i64 y.high, .int .i64 y.wide, .int .i64 y.out, .int .i64 y.kh, .int .i64 y.kw, .int .i64 y.st, .int .i64 y.pad, .slice y.kA y.kn y.kc, .slice y.gA y.gn y.gc], .int .i64 n] w (TellsB w (behindF y n)) := by
  obtain ⟨W, hW, x0, hB⟩ := boxes1 w #[.int .u8 y.kind, .slice y.rA y.rn y.rc, .slice y.bA y.bn y.bc, .int .i64 y.ch, .int .i64 y.high, .int .i64 y.wide, .int .i64 y.out, .int .i64 y.kh, .int .i64 y.kw, .int .i64 y.st, .int .i64 y.pad, .slice y.kA y.kn y.kc, .slice y.gA y.gn y.gc] 38
  have HX0 := Lib.hid x0
  clear x0
  have Bz := Below.refl W.heap.size W
  have p0_0 := (HX0.out.below Bz).cell 0 (.int .u8 y.kind) rfl
  have p0_1 := (HX0.out.below Bz).cell 1 (.slice y.rA y.rn y.rc) rfl
  have p0_2 := (HX0.out.below Bz).cell 2 (.slice y.bA y.bn y.bc) rfl
  have p0_3 := (HX0.out.below Bz).cell 3 (.int .i64 y.ch) rfl
  have p0_4 := (HX0.out.below Bz).cell 4 (.int .i64 y.high) rfl
  have p0_5 := (HX0.out.below Bz).cell 5 (.int .i64 y.wide) rfl
  have p0_6 := (HX0.out.below Bz).cell 6 (.int .i64 y.out) rfl
  have p0_7 := (HX0.out.below Bz).cell 7 (.int .i64 y.kh) rfl
  have p0_8 := (HX0.out.below Bz).cell 8 (.int .i64 y.kw) rfl
  have p0_9 := (HX0.out.below Bz).cell 9 (.int .i64 y.st) rfl
  have p0_10 := (HX0.out.below Bz).cell 10 (.int .i64 y.pad) rfl
  have p0_11 := (HX0.out.below Bz).cell 11 (.slice y.kA y.kn y.kc) rfl
  have p0_12 := (HX0.out.below Bz).cell 12 (.slice y.gA y.gn y.gc) rfl
  go_enter Tryd.func78, Tryd.ntmps78
  go_wp2_with fail
  rw [← hW]
  clear hW
  go_wp2_with fail
  with_reducible refine ((conv_q (h.below (below_trans hB (below_trans (b := W) Bz (by go_grown)))) hm (Lib.hid (Tab.below hT.out (below_trans hB (below_trans (b := W) Bz (by go_grown)))))).mono fun _ _ hx => TellsB.no hx HF.out).mono ?_
  rintro e w1 ⟨rfl, b1⟩
  replace b1 := below_trans (a := W) (by go_grown) b1
  replace Bz := below_trans Bz b1
  clear b1
  clear p0_0 p0_1 p0_2 p0_3 p0_4 p0_5 p0_6 p0_7 p0_8 p0_9 p0_10 p0_11 p0_12
  go_wp2_with fail
  go_ret3
  have hF := below_trans (c := w1) hB Bz
  exact ⟨by rw [HA.out]; rfl, below_trans hF (by go_grown)⟩
set_option maxRecDepth 100000 in
set_option maxHeartbeats 4000000 in
theorem behind_2s {w : World} {m : Nat} {y : Ly} {n : Int} (h : LyOk w m y) (hm : m ≤ 20000) (_hl : y.rn ≤ 100000 ∧ y.bn ≤ 100000 ∧ y.kn ≤ 100000 ∧ y.gn ≤ 100000) {u t : Int} (k1 : (y.kind == 1) = false) (k2 : (y.kind == 2) = true) (HF : Hid (convF y n = some (u, t))) (HA : Hid (behindF y n = some (u, t))) (hT : Hid (Tab w)) :
    Calls Tryd.prog 78 #[.agg #[.int .u8 y.kind, .slice y.rA y.rn y.rc, .slice y.bA y.bn y.bc, .int .i64 y.ch, .int .i64 y.high, .int .i64 y.wide, .int .i64 y.out, .int .i64 y.kh, .int .i64 y.kw, .int .i64 y.st, .int .i64 y.pad, .slice y.kA y.kn y.kc, .slice y.gA y.gn y.gc], .int .i64 n] w (TellsB w (behindF y n)) := by
  obtain ⟨W, hW, x0, hB⟩ := boxes1 w #[.int .u8 y.kind, .slice y.rA y.rn y.rc, .slice y.bA y.bn y.bc, .int .i64 y.ch, .int .i64 y.high, .int .i64 y.wide, .int .i64 y.out, .int .i64 y.kh, .int .i64 y.kw, .int .i64 y.st, .int .i64 y.pad, .slice y.kA y.kn y.kc, .slice y.gA y.gn y.gc] 38
  have HX0 := Lib.hid x0
  clear x0
  have Bz := Below.refl W.heap.size W
  have p0_0 := (HX0.out.below Bz).cell 0 (.int .u8 y.kind) rfl
  have p0_1 := (HX0.out.below Bz).cell 1 (.slice y.rA y.rn y.rc) rfl
  have p0_2 := (HX0.out.below Bz).cell 2 (.slice y.bA y.bn y.bc) rfl
  have p0_3 := (HX0.out.below Bz).cell 3 (.int .i64 y.ch) rfl
  have p0_4 := (HX0.out.below Bz).cell 4 (.int .i64 y.high) rfl
  have p0_5 := (HX0.out.below Bz).cell 5 (.int .i64 y.wide) rfl
  have p0_6 := (HX0.out.below Bz).cell 6 (.int .i64 y.out) rfl
  have p0_7 := (HX0.out.below Bz).cell 7 (.int .i64 y.kh) rfl
  have p0_8 := (HX0.out.below Bz).cell 8 (.int .i64 y.kw) rfl
  have p0_9 := (HX0.out.below Bz).cell 9 (.int .i64 y.st) rfl
  have p0_10 := (HX0.out.below Bz).cell 10 (.int .i64 y.pad) rfl
  have p0_11 := (HX0.out.below Bz).cell 11 (.slice y.kA y.kn y.kc) rfl
  have p0_12 := (HX0.out.below Bz).cell 12 (.slice y.gA y.gn y.gc) rfl
  go_enter Tryd.func78, Tryd.ntmps78
  go_wp2_with fail
  rw [← hW]
  clear hW
  go_wp2_with fail
  with_reducible refine ((conv_q (h.below (below_trans hB (below_trans (b := W) Bz (by go_grown)))) hm (Lib.hid (Tab.below hT.out (below_trans hB (below_trans (b := W) Bz (by go_grown)))))).mono fun _ _ hx => TellsB.yes hx HF.out).mono ?_
  rintro e w1 ⟨rfl, b1⟩
  replace b1 := below_trans (a := W) (by go_grown) b1
  replace Bz := below_trans Bz b1
  clear b1
  clear p0_0 p0_1 p0_2 p0_3 p0_4 p0_5 p0_6 p0_7 p0_8 p0_9 p0_10 p0_11 p0_12
  go_wp2_with fail
  go_ret3
  have hF := below_trans (c := w1) hB Bz
  exact ⟨by rw [HA.out]; rfl, below_trans hF (by go_grown)⟩
set_option maxRecDepth 100000 in
set_option maxHeartbeats 4000000 in
theorem behind_4n {w : World} {m : Nat} {y : Ly} {n : Int} (h : LyOk w m y) (_hm : m ≤ 20000) (_hl : y.rn ≤ 100000 ∧ y.bn ≤ 100000 ∧ y.kn ≤ 100000 ∧ y.gn ≤ 100000) (k1 : (y.kind == 1) = false) (k2 : (y.kind == 2) = false) (k3 : (y.kind == 3) = false) (k4 : (y.kind == 4) = true) (HF : Hid (poolF y n = none)) (HA : Hid (behindF y n = none)) (_hT : Hid (Tab w)) :
    Calls Tryd.prog 78 #[.agg #[.int .u8 y.kind, .slice y.rA y.rn y.rc, .slice y.bA y.bn y.bc, .int .i64 y.ch, .int .i64 y.high, .int .i64 y.wide, .int .i64 y.out, .int .i64 y.kh, .int .i64 y.kw, .int .i64 y.st, .int .i64 y.pad, .slice y.kA y.kn y.kc, .slice y.gA y.gn y.gc], .int .i64 n] w (TellsB w (behindF y n)) := by
  obtain ⟨W, hW, x0, hB⟩ := boxes1 w #[.int .u8 y.kind, .slice y.rA y.rn y.rc, .slice y.bA y.bn y.bc, .int .i64 y.ch, .int .i64 y.high, .int .i64 y.wide, .int .i64 y.out, .int .i64 y.kh, .int .i64 y.kw, .int .i64 y.st, .int .i64 y.pad, .slice y.kA y.kn y.kc, .slice y.gA y.gn y.gc] 38
  have HX0 := Lib.hid x0
  clear x0
  have Bz := Below.refl W.heap.size W
  have p0_0 := (HX0.out.below Bz).cell 0 (.int .u8 y.kind) rfl
  have p0_1 := (HX0.out.below Bz).cell 1 (.slice y.rA y.rn y.rc) rfl
  have p0_2 := (HX0.out.below Bz).cell 2 (.slice y.bA y.bn y.bc) rfl
  have p0_3 := (HX0.out.below Bz).cell 3 (.int .i64 y.ch) rfl
  have p0_4 := (HX0.out.below Bz).cell 4 (.int .i64 y.high) rfl
  have p0_5 := (HX0.out.below Bz).cell 5 (.int .i64 y.wide) rfl
  have p0_6 := (HX0.out.below Bz).cell 6 (.int .i64 y.out) rfl
  have p0_7 := (HX0.out.below Bz).cell 7 (.int .i64 y.kh) rfl
  have p0_8 := (HX0.out.below Bz).cell 8 (.int .i64 y.kw) rfl
  have p0_9 := (HX0.out.below Bz).cell 9 (.int .i64 y.st) rfl
  have p0_10 := (HX0.out.below Bz).cell 10 (.int .i64 y.pad) rfl
  have p0_11 := (HX0.out.below Bz).cell 11 (.slice y.kA y.kn y.kc) rfl
  have p0_12 := (HX0.out.below Bz).cell 12 (.slice y.gA y.gn y.gc) rfl
  go_enter Tryd.func78, Tryd.ntmps78
  go_wp2_with fail
  rw [← hW]
  clear hW
  go_wp2_with fail
  with_reducible refine ((pool_q (h.below (below_trans hB (below_trans (b := W) Bz (by go_grown))))).mono fun _ _ hx => TellsB.no hx HF.out).mono ?_
  rintro e w1 ⟨rfl, b1⟩
  replace b1 := below_trans (a := W) (by go_grown) b1
  replace Bz := below_trans Bz b1
  clear b1
  clear p0_0 p0_1 p0_2 p0_3 p0_4 p0_5 p0_6 p0_7 p0_8 p0_9 p0_10 p0_11 p0_12
  go_wp2_with fail
  go_ret3
  have hF := below_trans (c := w1) hB Bz
  exact ⟨by rw [HA.out]; rfl, below_trans hF (by go_grown)⟩
set_option maxRecDepth 100000 in
set_option maxHeartbeats 4000000 in
theorem behind_4s {w : World} {m : Nat} {y : Ly} {n : Int} (h : LyOk w m y) (_hm : m ≤ 20000) (_hl : y.rn ≤ 100000 ∧ y.bn ≤ 100000 ∧ y.kn ≤ 100000 ∧ y.gn ≤ 100000) {u t : Int} (k1 : (y.kind == 1) = false) (k2 : (y.kind == 2) = false) (k3 : (y.kind == 3) = false) (k4 : (y.kind == 4) = true) (HF : Hid (poolF y n = some (u, t))) (HA : Hid (behindF y n = some (u, t))) (_hT : Hid (Tab w)) :
    Calls Tryd.prog 78 #[.agg #[.int .u8 y.kind, .slice y.rA y.rn y.rc, .slice y.bA y.bn y.bc, .int .i64 y.ch, .int .i64 y.high, .int .i64 y.wide, .int .i64 y.out, .int .i64 y.kh, .int .i64 y.kw, .int .i64 y.st, .int .i64 y.pad, .slice y.kA y.kn y.kc, .slice y.gA y.gn y.gc], .int .i64 n] w (TellsB w (behindF y n)) := by
  obtain ⟨W, hW, x0, hB⟩ := boxes1 w #[.int .u8 y.kind, .slice y.rA y.rn y.rc, .slice y.bA y.bn y.bc, .int .i64 y.ch, .int .i64 y.high, .int .i64 y.wide, .int .i64 y.out, .int .i64 y.kh, .int .i64 y.kw, .int .i64 y.st, .int .i64 y.pad, .slice y.kA y.kn y.kc, .slice y.gA y.gn y.gc] 38
  have HX0 := Lib.hid x0
  clear x0
  have Bz := Below.refl W.heap.size W
  have p0_0 := (HX0.out.below Bz).cell 0 (.int .u8 y.kind) rfl
  have p0_1 := (HX0.out.below Bz).cell 1 (.slice y.rA y.rn y.rc) rfl
  have p0_2 := (HX0.out.below Bz).cell 2 (.slice y.bA y.bn y.bc) rfl
  have p0_3 := (HX0.out.below Bz).cell 3 (.int .i64 y.ch) rfl
  have p0_4 := (HX0.out.below Bz).cell 4 (.int .i64 y.high) rfl
  have p0_5 := (HX0.out.below Bz).cell 5 (.int .i64 y.wide) rfl
  have p0_6 := (HX0.out.below Bz).cell 6 (.int .i64 y.out) rfl
  have p0_7 := (HX0.out.below Bz).cell 7 (.int .i64 y.kh) rfl
  have p0_8 := (HX0.out.below Bz).cell 8 (.int .i64 y.kw) rfl
  have p0_9 := (HX0.out.below Bz).cell 9 (.int .i64 y.st) rfl
  have p0_10 := (HX0.out.below Bz).cell 10 (.int .i64 y.pad) rfl
  have p0_11 := (HX0.out.below Bz).cell 11 (.slice y.kA y.kn y.kc) rfl
  have p0_12 := (HX0.out.below Bz).cell 12 (.slice y.gA y.gn y.gc) rfl
  go_enter Tryd.func78, Tryd.ntmps78
  go_wp2_with fail
  rw [← hW]
  clear hW
  go_wp2_with fail
  with_reducible refine ((pool_q (h.below (below_trans hB (below_trans (b := W) Bz (by go_grown))))).mono fun _ _ hx => TellsB.yes hx HF.out).mono ?_
  rintro e w1 ⟨rfl, b1⟩
  replace b1 := below_trans (a := W) (by go_grown) b1
  replace Bz := below_trans Bz b1
  clear b1
  clear p0_0 p0_1 p0_2 p0_3 p0_4 p0_5 p0_6 p0_7 p0_8 p0_9 p0_10 p0_11 p0_12
  go_wp2_with fail
  go_ret3
  have hF := below_trans (c := w1) hB Bz
  exact ⟨by rw [HA.out]; rfl, below_trans hF (by go_grown)⟩
set_option maxRecDepth 100000 in
set_option maxHeartbeats 4000000 in
theorem behind_30 {w : World} {m : Nat} {y : Ly} {n : Int} (_h : LyOk w m y) (_hm : m ≤ 20000) (hl : y.rn ≤ 100000 ∧ y.bn ≤ 100000 ∧ y.kn ≤ 100000 ∧ y.gn ≤ 100000) (k1 : (y.kind == 1) = false) (k2 : (y.kind == 2) = false) (k3 : (y.kind == 3) = true) (HP : Hid (plainB y = false)) (HA : Hid (behindF y n = none)) (_hT : Hid (Tab w)) :
    Calls Tryd.prog 78 #[.agg #[.int .u8 y.kind, .slice y.rA y.rn y.rc, .slice y.bA y.bn y.bc, .int .i64 y.ch, .int .i64 y.high, .int .i64 y.wide, .int .i64 y.out, .int .i64 y.kh, .int .i64 y.kw, .int .i64 y.st, .int .i64 y.pad, .slice y.kA y.kn y.kc, .slice y.gA y.gn y.gc], .int .i64 n] w (TellsB w (behindF y n)) := by
  obtain ⟨W, hW, x0, hB⟩ := boxes1 w #[.int .u8 y.kind, .slice y.rA y.rn y.rc, .slice y.bA y.bn y.bc, .int .i64 y.ch, .int .i64 y.high, .int .i64 y.wide, .int .i64 y.out, .int .i64 y.kh, .int .i64 y.kw, .int .i64 y.st, .int .i64 y.pad, .slice y.kA y.kn y.kc, .slice y.gA y.gn y.gc] 38
  have HX0 := Lib.hid x0
  clear x0
  have Bz := Below.refl W.heap.size W
  have p0_0 := (HX0.out.below Bz).cell 0 (.int .u8 y.kind) rfl
  have p0_1 := (HX0.out.below Bz).cell 1 (.slice y.rA y.rn y.rc) rfl
  have p0_2 := (HX0.out.below Bz).cell 2 (.slice y.bA y.bn y.bc) rfl
  have p0_3 := (HX0.out.below Bz).cell 3 (.int .i64 y.ch) rfl
  have p0_4 := (HX0.out.below Bz).cell 4 (.int .i64 y.high) rfl
  have p0_5 := (HX0.out.below Bz).cell 5 (.int .i64 y.wide) rfl
  have p0_6 := (HX0.out.below Bz).cell 6 (.int .i64 y.out) rfl
  have p0_7 := (HX0.out.below Bz).cell 7 (.int .i64 y.kh) rfl
  have p0_8 := (HX0.out.below Bz).cell 8 (.int .i64 y.kw) rfl
  have p0_9 := (HX0.out.below Bz).cell 9 (.int .i64 y.st) rfl
  have p0_10 := (HX0.out.below Bz).cell 10 (.int .i64 y.pad) rfl
  have p0_11 := (HX0.out.below Bz).cell 11 (.slice y.kA y.kn y.kc) rfl
  have p0_12 := (HX0.out.below Bz).cell 12 (.slice y.gA y.gn y.gc) rfl
  go_enter Tryd.func78, Tryd.ntmps78
  go_wp2_with fail
  rw [← hW]
  clear hW
  go_wp2_with fail
  with_reducible refine (plain_q (by omega) false HP).mono ?_
  rintro e w1 ⟨rfl, b1⟩
  replace b1 := below_trans (a := W) (by go_grown) b1
  replace Bz := below_trans Bz b1
  clear b1
  clear p0_0 p0_1 p0_2 p0_3 p0_4 p0_5 p0_6 p0_7 p0_8 p0_9 p0_10 p0_11 p0_12
  go_wp2_with fail
  go_ret3
  have hF := below_trans (c := w1) hB Bz
  exact ⟨by rw [HA.out]; rfl, below_trans hF (by go_grown)⟩
set_option maxRecDepth 100000 in
set_option maxHeartbeats 4000000 in
theorem behind_31 {w : World} {m : Nat} {y : Ly} {n : Int} (_h : LyOk w m y) (_hm : m ≤ 20000) (hl : y.rn ≤ 100000 ∧ y.bn ≤ 100000 ∧ y.kn ≤ 100000 ∧ y.gn ≤ 100000) (k1 : (y.kind == 1) = false) (k2 : (y.kind == 2) = false) (k3 : (y.kind == 3) = true) (HP : Hid (plainB y = true)) (r1 : ((y.rn : Int) == 0) = false) (HA : Hid (behindF y n = none)) (_hT : Hid (Tab w)) :
    Calls Tryd.prog 78 #[.agg #[.int .u8 y.kind, .slice y.rA y.rn y.rc, .slice y.bA y.bn y.bc, .int .i64 y.ch, .int .i64 y.high, .int .i64 y.wide, .int .i64 y.out, .int .i64 y.kh, .int .i64 y.kw, .int .i64 y.st, .int .i64 y.pad, .slice y.kA y.kn y.kc, .slice y.gA y.gn y.gc], .int .i64 n] w (TellsB w (behindF y n)) := by
  obtain ⟨W, hW, x0, hB⟩ := boxes1 w #[.int .u8 y.kind, .slice y.rA y.rn y.rc, .slice y.bA y.bn y.bc, .int .i64 y.ch, .int .i64 y.high, .int .i64 y.wide, .int .i64 y.out, .int .i64 y.kh, .int .i64 y.kw, .int .i64 y.st, .int .i64 y.pad, .slice y.kA y.kn y.kc, .slice y.gA y.gn y.gc] 38
  have HX0 := Lib.hid x0
  clear x0
  have Bz := Below.refl W.heap.size W
  have p0_0 := (HX0.out.below Bz).cell 0 (.int .u8 y.kind) rfl
  have p0_1 := (HX0.out.below Bz).cell 1 (.slice y.rA y.rn y.rc) rfl
  have p0_2 := (HX0.out.below Bz).cell 2 (.slice y.bA y.bn y.bc) rfl
  have p0_3 := (HX0.out.below Bz).cell 3 (.int .i64 y.ch) rfl
  have p0_4 := (HX0.out.below Bz).cell 4 (.int .i64 y.high) rfl
  have p0_5 := (HX0.out.below Bz).cell 5 (.int .i64 y.wide) rfl
  have p0_6 := (HX0.out.below Bz).cell 6 (.int .i64 y.out) rfl
  have p0_7 := (HX0.out.below Bz).cell 7 (.int .i64 y.kh) rfl
  have p0_8 := (HX0.out.below Bz).cell 8 (.int .i64 y.kw) rfl
  have p0_9 := (HX0.out.below Bz).cell 9 (.int .i64 y.st) rfl
  have p0_10 := (HX0.out.below Bz).cell 10 (.int .i64 y.pad) rfl
  have p0_11 := (HX0.out.below Bz).cell 11 (.slice y.kA y.kn y.kc) rfl
  have p0_12 := (HX0.out.below Bz).cell 12 (.slice y.gA y.gn y.gc) rfl
  go_enter Tryd.func78, Tryd.ntmps78
  go_wp2_with fail
  rw [← hW]
  clear hW
  go_wp2_with fail
  with_reducible refine (plain_q (by omega) true HP).mono ?_
  rintro e w1 ⟨rfl, b1⟩
  replace b1 := below_trans (a := W) (by go_grown) b1
  replace Bz := below_trans Bz b1
  clear b1
  clear p0_0 p0_1 p0_2 p0_3 p0_4 p0_5 p0_6 p0_7 p0_8 p0_9 p0_10 p0_11 p0_12
  have p0_1 := (HX0.out.below Bz).cell 1 (.slice y.rA y.rn y.rc) rfl
  go_wp2_with fail
  go_ret3
  have hF := below_trans (c := w1) hB Bz
  exact ⟨by rw [HA.out]; rfl, below_trans hF (by go_grown)⟩
set_option maxRecDepth 100000 in
set_option maxHeartbeats 4000000 in
theorem behind_32 {w : World} {m : Nat} {y : Ly} {n : Int} (_h : LyOk w m y) (_hm : m ≤ 20000) (hl : y.rn ≤ 100000 ∧ y.bn ≤ 100000 ∧ y.kn ≤ 100000 ∧ y.gn ≤ 100000) (k1 : (y.kind == 1) = false) (k2 : (y.kind == 2) = false) (k3 : (y.kind == 3) = true) (HP : Hid (plainB y = true)) (r1 : ((y.rn : Int) == 0) = true) (r2 : ((y.bn : Int) == 0) = false) (HA : Hid (behindF y n = none)) (_hT : Hid (Tab w)) :
    Calls Tryd.prog 78 #[.agg #[.int .u8 y.kind, .slice y.rA y.rn y.rc, .slice y.bA y.bn y.bc, .int .i64 y.ch, .int .i64 y.high, .int .i64 y.wide, .int .i64 y.out, .int .i64 y.kh, .int .i64 y.kw, .int .i64 y.st, .int .i64 y.pad, .slice y.kA y.kn y.kc, .slice y.gA y.gn y.gc], .int .i64 n] w (TellsB w (behindF y n)) := by
  obtain ⟨W, hW, x0, hB⟩ := boxes1 w #[.int .u8 y.kind, .slice y.rA y.rn y.rc, .slice y.bA y.bn y.bc, .int .i64 y.ch, .int .i64 y.high, .int .i64 y.wide, .int .i64 y.out, .int .i64 y.kh, .int .i64 y.kw, .int .i64 y.st, .int .i64 y.pad, .slice y.kA y.kn y.kc, .slice y.gA y.gn y.gc] 38
  have HX0 := Lib.hid x0
  clear x0
  have Bz := Below.refl W.heap.size W
  have p0_0 := (HX0.out.below Bz).cell 0 (.int .u8 y.kind) rfl
  have p0_1 := (HX0.out.below Bz).cell 1 (.slice y.rA y.rn y.rc) rfl
  have p0_2 := (HX0.out.below Bz).cell 2 (.slice y.bA y.bn y.bc) rfl
  have p0_3 := (HX0.out.below Bz).cell 3 (.int .i64 y.ch) rfl
  have p0_4 := (HX0.out.below Bz).cell 4 (.int .i64 y.high) rfl
  have p0_5 := (HX0.out.below Bz).cell 5 (.int .i64 y.wide) rfl
  have p0_6 := (HX0.out.below Bz).cell 6 (.int .i64 y.out) rfl
  have p0_7 := (HX0.out.below Bz).cell 7 (.int .i64 y.kh) rfl
  have p0_8 := (HX0.out.below Bz).cell 8 (.int .i64 y.kw) rfl
  have p0_9 := (HX0.out.below Bz).cell 9 (.int .i64 y.st) rfl
  have p0_10 := (HX0.out.below Bz).cell 10 (.int .i64 y.pad) rfl
  have p0_11 := (HX0.out.below Bz).cell 11 (.slice y.kA y.kn y.kc) rfl
  have p0_12 := (HX0.out.below Bz).cell 12 (.slice y.gA y.gn y.gc) rfl
  go_enter Tryd.func78, Tryd.ntmps78
  go_wp2_with fail
  rw [← hW]
  clear hW
  go_wp2_with fail
  with_reducible refine (plain_q (by omega) true HP).mono ?_
  rintro e w1 ⟨rfl, b1⟩
  replace b1 := below_trans (a := W) (by go_grown) b1
  replace Bz := below_trans Bz b1
  clear b1
  clear p0_0 p0_1 p0_2 p0_3 p0_4 p0_5 p0_6 p0_7 p0_8 p0_9 p0_10 p0_11 p0_12
  have p0_1 := (HX0.out.below Bz).cell 1 (.slice y.rA y.rn y.rc) rfl
  have p0_2 := (HX0.out.below Bz).cell 2 (.slice y.bA y.bn y.bc) rfl
  go_wp2_with fail
  go_ret3
  have hF := below_trans (c := w1) hB Bz
  exact ⟨by rw [HA.out]; rfl, below_trans hF (by go_grown)⟩
set_option maxRecDepth 100000 in
set_option maxHeartbeats 4000000 in
theorem behind_33 {w : World} {m : Nat} {y : Ly} {n : Int} (_h : LyOk w m y) (_hm : m ≤ 20000) (hl : y.rn ≤ 100000 ∧ y.bn ≤ 100000 ∧ y.kn ≤ 100000 ∧ y.gn ≤ 100000) (k1 : (y.kind == 1) = false) (k2 : (y.kind == 2) = false) (k3 : (y.kind == 3) = true) (HP : Hid (plainB y = true)) (r1 : ((y.rn : Int) == 0) = true) (r2 : ((y.bn : Int) == 0) = true) (r3 : ((y.gn : Int) == 0) = false) (HA : Hid (behindF y n = none)) (_hT : Hid (Tab w)) :
    Calls Tryd.prog 78 #[.agg #[.int .u8 y.kind, .slice y.rA y.rn y.rc, .slice y.bA y.bn y.bc, .int .i64 y.ch, .int .i64 y.high, .int .i64 y.wide, .int .i64 y.out, .int .i64 y.kh, .int .i64 y.kw, .int .i64 y.st, .int .i64 y.pad, .slice y.kA y.kn y.kc, .slice y.gA y.gn y.gc], .int .i64 n] w (TellsB w (behindF y n)) := by
  obtain ⟨W, hW, x0, hB⟩ := boxes1 w #[.int .u8 y.kind, .slice y.rA y.rn y.rc, .slice y.bA y.bn y.bc, .int .i64 y.ch, .int .i64 y.high, .int .i64 y.wide, .int .i64 y.out, .int .i64 y.kh, .int .i64 y.kw, .int .i64 y.st, .int .i64 y.pad, .slice y.kA y.kn y.kc, .slice y.gA y.gn y.gc] 38
  have HX0 := Lib.hid x0
  clear x0
  have Bz := Below.refl W.heap.size W
  have p0_0 := (HX0.out.below Bz).cell 0 (.int .u8 y.kind) rfl
  have p0_1 := (HX0.out.below Bz).cell 1 (.slice y.rA y.rn y.rc) rfl
  have p0_2 := (HX0.out.below Bz).cell 2 (.slice y.bA y.bn y.bc) rfl
  have p0_3 := (HX0.out.below Bz).cell 3 (.int .i64 y.ch) rfl
  have p0_4 := (HX0.out.below Bz).cell 4 (.int .i64 y.high) rfl
  have p0_5 := (HX0.out.below Bz).cell 5 (.int .i64 y.wide) rfl
  have p0_6 := (HX0.out.below Bz).cell 6 (.int .i64 y.out) rfl
  have p0_7 := (HX0.out.below Bz).cell 7 (.int .i64 y.kh) rfl
  have p0_8 := (HX0.out.below Bz).cell 8 (.int .i64 y.kw) rfl
  have p0_9 := (HX0.out.below Bz).cell 9 (.int .i64 y.st) rfl
  have p0_10 := (HX0.out.below Bz).cell 10 (.int .i64 y.pad) rfl
  have p0_11 := (HX0.out.below Bz).cell 11 (.slice y.kA y.kn y.kc) rfl
  have p0_12 := (HX0.out.below Bz).cell 12 (.slice y.gA y.gn y.gc) rfl
  go_enter Tryd.func78, Tryd.ntmps78
  go_wp2_with fail
  rw [← hW]
  clear hW
  go_wp2_with fail
  with_reducible refine (plain_q (by omega) true HP).mono ?_
  rintro e w1 ⟨rfl, b1⟩
  replace b1 := below_trans (a := W) (by go_grown) b1
  replace Bz := below_trans Bz b1
  clear b1
  clear p0_0 p0_1 p0_2 p0_3 p0_4 p0_5 p0_6 p0_7 p0_8 p0_9 p0_10 p0_11 p0_12
  have p0_1 := (HX0.out.below Bz).cell 1 (.slice y.rA y.rn y.rc) rfl
  have p0_2 := (HX0.out.below Bz).cell 2 (.slice y.bA y.bn y.bc) rfl
  have p0_12 := (HX0.out.below Bz).cell 12 (.slice y.gA y.gn y.gc) rfl
  go_wp2_with fail
  go_ret3
  have hF := below_trans (c := w1) hB Bz
  exact ⟨by rw [HA.out]; rfl, below_trans hF (by go_grown)⟩
set_option maxRecDepth 100000 in
set_option maxHeartbeats 4000000 in
theorem behind_34 {w : World} {m : Nat} {y : Ly} {n : Int} (_h : LyOk w m y) (_hm : m ≤ 20000) (hl : y.rn ≤ 100000 ∧ y.bn ≤ 100000 ∧ y.kn ≤ 100000 ∧ y.gn ≤ 100000) (k1 : (y.kind == 1) = false) (k2 : (y.kind == 2) = false) (k3 : (y.kind == 3) = true) (HP : Hid (plainB y = true)) (r1 : ((y.rn : Int) == 0) = true) (r2 : ((y.bn : Int) == 0) = true) (r3 : ((y.gn : Int) == 0) = true) (HA : Hid (behindF y n = some (n, 0))) (_hT : Hid (Tab w)) :
    Calls Tryd.prog 78 #[.agg #[.int .u8 y.kind, .slice y.rA y.rn y.rc, .slice y.bA y.bn y.bc, .int .i64 y.ch, .int .i64 y.high, .int .i64 y.wide, .int .i64 y.out, .int .i64 y.kh, .int .i64 y.kw, .int .i64 y.st, .int .i64 y.pad, .slice y.kA y.kn y.kc, .slice y.gA y.gn y.gc], .int .i64 n] w (TellsB w (behindF y n)) := by
  obtain ⟨W, hW, x0, hB⟩ := boxes1 w #[.int .u8 y.kind, .slice y.rA y.rn y.rc, .slice y.bA y.bn y.bc, .int .i64 y.ch, .int .i64 y.high, .int .i64 y.wide, .int .i64 y.out, .int .i64 y.kh, .int .i64 y.kw, .int .i64 y.st, .int .i64 y.pad, .slice y.kA y.kn y.kc, .slice y.gA y.gn y.gc] 38
  have HX0 := Lib.hid x0
  clear x0
  have Bz := Below.refl W.heap.size W
  have p0_0 := (HX0.out.below Bz).cell 0 (.int .u8 y.kind) rfl
  have p0_1 := (HX0.out.below Bz).cell 1 (.slice y.rA y.rn y.rc) rfl
  have p0_2 := (HX0.out.below Bz).cell 2 (.slice y.bA y.bn y.bc) rfl
  have p0_3 := (HX0.out.below Bz).cell 3 (.int .i64 y.ch) rfl
  have p0_4 := (HX0.out.below Bz).cell 4 (.int .i64 y.high) rfl
  have p0_5 := (HX0.out.below Bz).cell 5 (.int .i64 y.wide) rfl
  have p0_6 := (HX0.out.below Bz).cell 6 (.int .i64 y.out) rfl
  have p0_7 := (HX0.out.below Bz).cell 7 (.int .i64 y.kh) rfl
  have p0_8 := (HX0.out.below Bz).cell 8 (.int .i64 y.kw) rfl
  have p0_9 := (HX0.out.below Bz).cell 9 (.int .i64 y.st) rfl
  have p0_10 := (HX0.out.below Bz).cell 10 (.int .i64 y.pad) rfl
  have p0_11 := (HX0.out.below Bz).cell 11 (.slice y.kA y.kn y.kc) rfl
  have p0_12 := (HX0.out.below Bz).cell 12 (.slice y.gA y.gn y.gc) rfl
  go_enter Tryd.func78, Tryd.ntmps78
  go_wp2_with fail
  rw [← hW]
  clear hW
  go_wp2_with fail
  with_reducible refine (plain_q (by omega) true HP).mono ?_
  rintro e w1 ⟨rfl, b1⟩
  replace b1 := below_trans (a := W) (by go_grown) b1
  replace Bz := below_trans Bz b1
  clear b1
  clear p0_0 p0_1 p0_2 p0_3 p0_4 p0_5 p0_6 p0_7 p0_8 p0_9 p0_10 p0_11 p0_12
  have p0_1 := (HX0.out.below Bz).cell 1 (.slice y.rA y.rn y.rc) rfl
  have p0_2 := (HX0.out.below Bz).cell 2 (.slice y.bA y.bn y.bc) rfl
  have p0_12 := (HX0.out.below Bz).cell 12 (.slice y.gA y.gn y.gc) rfl
  go_wp2_with fail
  go_ret3
  have hF := below_trans (c := w1) hB Bz
  exact ⟨by rw [HA.out]; rfl, below_trans hF (by go_grown)⟩
set_option maxRecDepth 100000 in
set_option maxHeartbeats 4000000 in
theorem behind_0 {w : World} {m : Nat} {y : Ly} {n : Int} (_h : LyOk w m y) (_hm : m ≤ 20000) (_hl : y.rn ≤ 100000 ∧ y.bn ≤ 100000 ∧ y.kn ≤ 100000 ∧ y.gn ≤ 100000) (k1 : (y.kind == 1) = false) (k2 : (y.kind == 2) = false) (k3 : (y.kind == 3) = false) (k4 : (y.kind == 4) = false) (HA : Hid (behindF y n = none)) (_hT : Hid (Tab w)) :
    Calls Tryd.prog 78 #[.agg #[.int .u8 y.kind, .slice y.rA y.rn y.rc, .slice y.bA y.bn y.bc, .int .i64 y.ch, .int .i64 y.high, .int .i64 y.wide, .int .i64 y.out, .int .i64 y.kh, .int .i64 y.kw, .int .i64 y.st, .int .i64 y.pad, .slice y.kA y.kn y.kc, .slice y.gA y.gn y.gc], .int .i64 n] w (TellsB w (behindF y n)) := by
  obtain ⟨W, hW, x0, hB⟩ := boxes1 w #[.int .u8 y.kind, .slice y.rA y.rn y.rc, .slice y.bA y.bn y.bc, .int .i64 y.ch, .int .i64 y.high, .int .i64 y.wide, .int .i64 y.out, .int .i64 y.kh, .int .i64 y.kw, .int .i64 y.st, .int .i64 y.pad, .slice y.kA y.kn y.kc, .slice y.gA y.gn y.gc] 38
  have HX0 := Lib.hid x0
  clear x0
  have Bz := Below.refl W.heap.size W
  have p0_0 := (HX0.out.below Bz).cell 0 (.int .u8 y.kind) rfl
  go_enter Tryd.func78, Tryd.ntmps78
  go_wp2_with fail
  rw [← hW]
  clear hW
  go_wp2_with fail
  go_ret3
  have hF := below_trans (c := W) hB Bz
  exact ⟨by rw [HA.out]; rfl, below_trans hF (by go_grown)⟩
theorem behind_q {w : World} {m : Nat} {y : Ly} {n : Int} (h : LyOk w m y) (hm : m ≤ 20000) (hT : Hid (Tab w)) :
    Calls Tryd.prog 78 #[.agg #[.int .u8 y.kind, .slice y.rA y.rn y.rc, .slice y.bA y.bn y.bc, .int .i64 y.ch, .int .i64 y.high, .int .i64 y.wide, .int .i64 y.out, .int .i64 y.kh, .int .i64 y.kw, .int .i64 y.st, .int .i64 y.pad, .slice y.kA y.kn y.kc, .slice y.gA y.gn y.gc], .int .i64 n] w (TellsB w (behindF y n)) := by
  have hl := h.lens
  have ne : ∀ {k : Int}, y.kind ≠ k → (y.kind == k) = false := fun h => by simp [h]
  by_cases h1 : y.kind = 1
  · have k1 : (y.kind == 1) = true := by simp [h1]
    cases hf : affineF y n with
    | none => exact behind_1n h hm hl k1 (Lib.hid hf) (Lib.hid (by unfold behindF; rw [if_pos h1, hf])) hT
    | some p => exact behind_1s h hm hl k1 (Lib.hid hf) (Lib.hid (by unfold behindF; rw [if_pos h1, hf])) hT
  · by_cases h2 : y.kind = 2
    · have k2 : (y.kind == 2) = true := by simp [h2]
      cases hf : convF y n with
      | none => exact behind_2n h hm hl (ne h1) k2 (Lib.hid hf) (Lib.hid (by unfold behindF; rw [if_neg h1, if_pos h2, hf])) hT
      | some p => exact behind_2s h hm hl (ne h1) k2 (Lib.hid hf) (Lib.hid (by unfold behindF; rw [if_neg h1, if_pos h2, hf])) hT
    · by_cases h3 : y.kind = 3
      · have k3 : (y.kind == 3) = true := by simp [h3]
        have e : ∀ r, reluB y = r → behindF y n = if r then some (n, 0) else none := fun r hr => by unfold behindF; rw [if_neg h1, if_neg h2, if_pos h3, hr]
        cases hp : plainB y
        · exact behind_30 h hm hl (ne h1) (ne h2) k3 (Lib.hid hp) (Lib.hid (e false (by unfold reluB; rw [hp]; rfl))) hT
        · by_cases a1 : y.rn = 0
          · by_cases a2 : y.bn = 0
            · by_cases a3 : y.gn = 0
              · exact behind_34 h hm hl (ne h1) (ne h2) k3 (Lib.hid hp) (by simp; omega) (by simp; omega) (by simp; omega) (Lib.hid (e true (by unfold reluB; rw [hp, decide_eq_true a1, decide_eq_true a2, decide_eq_true a3]; rfl))) hT
              · exact behind_33 h hm hl (ne h1) (ne h2) k3 (Lib.hid hp) (by simp; omega) (by simp; omega) (by simp; omega) (Lib.hid (e false (by unfold reluB; rw [hp, decide_eq_true a1, decide_eq_true a2, decide_eq_false a3]; rfl))) hT
            · exact behind_32 h hm hl (ne h1) (ne h2) k3 (Lib.hid hp) (by simp; omega) (by simp; omega) (Lib.hid (e false (by unfold reluB; rw [hp, decide_eq_true a1, decide_eq_false a2]; rfl))) hT
          · exact behind_31 h hm hl (ne h1) (ne h2) k3 (Lib.hid hp) (by simp; omega) (Lib.hid (e false (by unfold reluB; rw [hp, decide_eq_false a1]; rfl))) hT
      · by_cases h4 : y.kind = 4
        · have k4 : (y.kind == 4) = true := by simp [h4]
          cases hf : poolF y n with
          | none => exact behind_4n h hm hl (ne h1) (ne h2) (ne h3) k4 (Lib.hid hf) (Lib.hid (by unfold behindF; rw [if_neg h1, if_neg h2, if_neg h3, if_pos h4, hf])) hT
          | some p => exact behind_4s h hm hl (ne h1) (ne h2) (ne h3) k4 (Lib.hid hf) (Lib.hid (by unfold behindF; rw [if_neg h1, if_neg h2, if_neg h3, if_pos h4, hf])) hT
        · exact behind_0 h hm hl (ne h1) (ne h2) (ne h3) (ne h4) (Lib.hid (by unfold behindF; rw [if_neg h1, if_neg h2, if_neg h3, if_neg h4])) hT
end Go.Proofs.YtionhpangenhnaaDoor
