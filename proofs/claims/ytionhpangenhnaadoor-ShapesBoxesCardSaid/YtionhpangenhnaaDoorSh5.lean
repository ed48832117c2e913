/-
  Layers in memory; which ones fit: plain. Written by wip/gen/sh5.py.
-/
import Derived.Test.YtionhpangenhnaaDoorSh4
namespace Go.Proofs.YtionhpangenhnaaDoor
open Go.RowKit Tw

/-- A layer in memory. -/
structure Ly where
  kind : Int
  rA : Option Addr
  rn : Nat
  rc : Nat
  rows : List Vc
  bA : Option Addr
  bn : Nat
  bc : Nat
  bias : List Fr
  ch : Int
  high : Int
  wide : Int
  out : Int
  kh : Int
  kw : Int
  st : Int
  pad : Int
  kA : Option Addr
  kn : Nat
  kc : Nat
  kern : List Fr
  gA : Option Addr
  gn : Nat
  gc : Nat
  groups : List Gp
def Ly.cs (y : Ly) : List Value := [.int .u8 y.kind, .slice y.rA y.rn y.rc, .slice y.bA y.bn y.bc, .int .i64 y.ch, .int .i64 y.high, .int .i64 y.wide, .int .i64 y.out, .int .i64 y.kh, .int .i64 y.kw, .int .i64 y.st, .int .i64 y.pad, .slice y.kA y.kn y.kc, .slice y.gA y.gn y.gc]
theorem Ly.cs_len (y : Ly) : y.cs.length = 13 := rfl
/-- What is known of a layer. -/
structure LyOk (w : World) (m : Nat) (y : Ly) : Prop where
  rows : Sl Vc.cs 1 w y.rA y.rn y.rc y.rows
  rok : ∀ v ∈ y.rows, VcOk w m v
  bias : Sl Fr.cs 4 w y.bA y.bn y.bc y.bias
  bok : ∀ x ∈ y.bias, FrOk w m x
  kern : Sl Fr.cs 4 w y.kA y.kn y.kc y.kern
  kok : ∀ x ∈ y.kern, FrOk w m x
  groups : Sl Gp.cs 1 w y.gA y.gn y.gc y.groups
  gok : ∀ v ∈ y.groups, GpOk w v
  lens : y.rn ≤ 100000 ∧ y.bn ≤ 100000 ∧ y.kn ≤ 100000 ∧ y.gn ≤ 100000
theorem LyOk.below {w w' : World} {m : Nat} {y : Ly} (h : LyOk w m y) (hb : Below w.heap.size w w') : LyOk w' m y :=
  ⟨h.rows.below hb, fun v hv => (h.rok v hv).below hb, h.bias.below hb, fun v hv => (h.bok v hv).below hb, h.kern.below hb, fun v hv => (h.kok v hv).below hb, h.groups.below hb, fun v hv => (h.gok v hv).below hb, h.lens⟩
/-- A literal of whole numbers. -/
theorem ints_sl {w : World} {b : Nat} (L : List Int) (h : Bx w b (L.map (Value.int .i64)).toArray 3) (n : Nat) (hn : L.length = n) : Sl ics 1 w (some ⟨b, 0, none⟩) n n L := by
  subst hn
  refine ⟨rfl, by rw [flat_len ics_len], _, _, rfl, (fun h => (by cases h)), fun a ha j u hu => ?_⟩
  cases ha
  rw [add_off, Nat.zero_add]
  refine h.cell j u ?_
  rw [List.getElem?_toArray]
  have e : ∀ L : List Int, flat ics L = L.map (Value.int .i64) := fun L => by
    unfold flat
    induction L with
    | nil => rfl
    | cons x L ih => rw [List.flatMap_cons, ih]; rfl
  rw [← e]; exact hu
/-- Has a layer nothing of what only pictures have, but for a Bias? -/
def nums (y : Ly) : List Int := [y.ch, y.high, y.wide, y.out, y.kh, y.kw, y.st, y.pad]
def plainB (y : Ly) : Bool := decide (y.kn = 0) && (nums y).all fun z => decide (z = 0)
set_option maxRecDepth 100000 in
set_option maxHeartbeats 4000000 in
theorem plain_q {w : World} {y : Ly} (_hk : y.kn ≤ 1000000000) (t : Bool) (ht : Hid (plainB y = t)) :
    Calls Tryd.prog 103 #[.agg #[.int .u8 y.kind, .slice y.rA y.rn y.rc, .slice y.bA y.bn y.bc, .int .i64 y.ch, .int .i64 y.high, .int .i64 y.wide, .int .i64 y.out, .int .i64 y.kh, .int .i64 y.kw, .int .i64 y.st, .int .i64 y.pad, .slice y.kA y.kn y.kc, .slice y.gA y.gn y.gc]] w fun e w' => e = .returned (.bool t) ∧ Below w.heap.size w w' := by
  by_cases h0 : y.kn = 0
  · have g0 : ((y.kn : Int) == 0) = true := by simp; omega
    have HT : Hid ((nums y).all (fun z => decide (z = 0)) = t) := Lib.hid (by rw [← ht.out]; unfold plainB; rw [decide_eq_true h0, Bool.true_and])
    clear h0 ht
    obtain ⟨W, hW, x0, hB⟩ := boxes1 w #[.int .u8 y.kind, .slice y.rA y.rn y.rc, .slice y.bA y.bn y.bc, .int .i64 y.ch, .int .i64 y.high, .int .i64 y.wide, .int .i64 y.out, .int .i64 y.kh, .int .i64 y.kw, .int .i64 y.st, .int .i64 y.pad, .slice y.kA y.kn y.kc, .slice y.gA y.gn y.gc] 38
    have HX0 := Lib.hid x0
    clear x0
    have Bz := Below.refl W.heap.size W
    have p0_3 := (HX0.out.below Bz).cell 3 (.int .i64 y.ch) rfl
    have p0_4 := (HX0.out.below Bz).cell 4 (.int .i64 y.high) rfl
    have p0_5 := (HX0.out.below Bz).cell 5 (.int .i64 y.wide) rfl
    have p0_6 := (HX0.out.below Bz).cell 6 (.int .i64 y.out) rfl
    have p0_7 := (HX0.out.below Bz).cell 7 (.int .i64 y.kh) rfl
    have p0_8 := (HX0.out.below Bz).cell 8 (.int .i64 y.kw) rfl
    have p0_9 := (HX0.out.below Bz).cell 9 (.int .i64 y.st) rfl
    have p0_10 := (HX0.out.below Bz).cell 10 (.int .i64 y.pad) rfl
    go_enter Tryd.func103, Tryd.ntmps103
    go_upto_region 1 with (fail)
    rw [← hW]
    clear hW
    go_upto_region 2 with (fail)
    obtain ⟨V1, hW, x1, hN⟩ := boxes1 W #[.int .i64 y.ch, .int .i64 y.high, .int .i64 y.wide, .int .i64 y.out, .int .i64 y.kh, .int .i64 y.kw, .int .i64 y.st, .int .i64 y.pad] 3
    rw [← hW]
    clear hW
    obtain ⟨v1, hb1⟩ : ∃ b, b = W.heap.size := ⟨_, rfl⟩
    rw [← hb1] at x1 ⊢
    have o0_1 : w.heap.size < v1 := by have := (HX0.out.below Bz).lt; omega
    have ow_1 : w.heap.size ≤ v1 := by have := hB.size; have := Bz.size; omega
    replace hB := below_trans (below_trans hB Bz) hN
    replace HX0 := Lib.hid ((HX0.out.below Bz).below hN)
    have HX1 := Lib.hid x1
    clear x1 hN Bz hb1
    have Bz := Below.refl V1.heap.size V1
    clear p0_3 p0_4 p0_5 p0_6 p0_7 p0_8 p0_9 p0_10
    have p0_11 := (HX0.out.below Bz).cell 11 (.slice y.kA y.kn y.kc) rfl
    go_wp2_with fail
    with_reducible refine (all_plain (ints_sl (nums y) (HX1.out.below (below_trans Bz (by go_grown))) 8 rfl) (by omega) t HT).mono ?_
    rintro e w1 ⟨rfl, b1⟩
    replace b1 := below_trans (a := V1) (by go_grown) b1
    replace Bz := below_trans Bz b1
    clear b1
    clear p0_11
    go_wp2_with fail
    go_ret
    have hF := below_trans (c := w1) hB Bz
    exact ⟨rfl, below_trans hF (by go_grown)⟩
  · have g0 : ((y.kn : Int) == 0) = false := by simp; omega
    obtain rfl : t = false := by rw [← ht.out]; unfold plainB; rw [decide_eq_false h0, Bool.false_and]
    clear h0 ht
    obtain ⟨W, hW, x0, hB⟩ := boxes1 w #[.int .u8 y.kind, .slice y.rA y.rn y.rc, .slice y.bA y.bn y.bc, .int .i64 y.ch, .int .i64 y.high, .int .i64 y.wide, .int .i64 y.out, .int .i64 y.kh, .int .i64 y.kw, .int .i64 y.st, .int .i64 y.pad, .slice y.kA y.kn y.kc, .slice y.gA y.gn y.gc] 38
    have HX0 := Lib.hid x0
    clear x0
    have Bz := Below.refl W.heap.size W
    have p0_3 := (HX0.out.below Bz).cell 3 (.int .i64 y.ch) rfl
    have p0_4 := (HX0.out.below Bz).cell 4 (.int .i64 y.high) rfl
    have p0_5 := (HX0.out.below Bz).cell 5 (.int .i64 y.wide) rfl
    have p0_6 := (HX0.out.below Bz).cell 6 (.int .i64 y.out) rfl
    have p0_7 := (HX0.out.below Bz).cell 7 (.int .i64 y.kh) rfl
    have p0_8 := (HX0.out.below Bz).cell 8 (.int .i64 y.kw) rfl
    have p0_9 := (HX0.out.below Bz).cell 9 (.int .i64 y.st) rfl
    have p0_10 := (HX0.out.below Bz).cell 10 (.int .i64 y.pad) rfl
    go_enter Tryd.func103, Tryd.ntmps103
    go_upto_region 1 with (fail)
    rw [← hW]
    clear hW
    go_upto_region 2 with (fail)
    obtain ⟨V1, hW, x1, hN⟩ := boxes1 W #[.int .i64 y.ch, .int .i64 y.high, .int .i64 y.wide, .int .i64 y.out, .int .i64 y.kh, .int .i64 y.kw, .int .i64 y.st, .int .i64 y.pad] 3
    rw [← hW]
    clear hW
    obtain ⟨v1, hb1⟩ : ∃ b, b = W.heap.size := ⟨_, rfl⟩
    rw [← hb1] at x1 ⊢
    have o0_1 : w.heap.size < v1 := by have := (HX0.out.below Bz).lt; omega
    have ow_1 : w.heap.size ≤ v1 := by have := hB.size; have := Bz.size; omega
    replace hB := below_trans (below_trans hB Bz) hN
    replace HX0 := Lib.hid ((HX0.out.below Bz).below hN)
    have HX1 := Lib.hid x1
    clear x1 hN Bz hb1
    have Bz := Below.refl V1.heap.size V1
    clear p0_3 p0_4 p0_5 p0_6 p0_7 p0_8 p0_9 p0_10
    have p0_11 := (HX0.out.below Bz).cell 11 (.slice y.kA y.kn y.kc) rfl
    go_wp2_with fail
    go_ret
    have hF := below_trans (c := V1) hB Bz
    exact ⟨rfl, below_trans hF (by go_grown)⟩
/-- An Affine: how many units are behind it, how many terms it has; nothing, if it does not fit. -/
def affineF (y : Ly) (n : Int) : Option (Int × Int) :=
  if plainB y = false then none else if 0 < y.gn then none else if y.rn = 0 then none else if y.rn ≠ y.bn then none
  else if (y.rows.all fun v => rightB v.L n) = false then none else if (y.bias.all fun x => x.ex) = false then none else some (y.rn, lens y.rows)
/-- What behind and its kin tell. -/
def TellsB (w : World) (f : Option (Int × Int)) (e : Ending) (w' : World) : Prop :=
  e = .returned (match f with | none => .tuple #[.int .i64 0, .int .i64 0, .bool false] | some (a, b) => .tuple #[.int .i64 a, .int .i64 b, .bool true]) ∧ Below w.heap.size w w'
set_option maxRecDepth 100000 in
set_option maxHeartbeats 4000000 in
theorem affine_W1 {w : World} {m : Nat} {y : Ly} {n : Int} (_h : LyOk w m y) (_hm : m ≤ 20000) (hl : y.rn ≤ 100000 ∧ y.bn ≤ 100000 ∧ y.kn ≤ 100000 ∧ y.gn ≤ 100000) (HP : Hid (plainB y = false)) (HA : Hid (affineF y n = none)) (_hT : Hid (Tab w)) :
    Calls Tryd.prog 101 #[.agg #[.int .u8 y.kind, .slice y.rA y.rn y.rc, .slice y.bA y.bn y.bc, .int .i64 y.ch, .int .i64 y.high, .int .i64 y.wide, .int .i64 y.out, .int .i64 y.kh, .int .i64 y.kw, .int .i64 y.st, .int .i64 y.pad, .slice y.kA y.kn y.kc, .slice y.gA y.gn y.gc], .int .i64 n] w (TellsB w (affineF y n)) := by
    obtain ⟨W, hW, x0, x1, hB⟩ := boxes2 w #[.int .u8 y.kind, .slice y.rA y.rn y.rc, .slice y.bA y.bn y.bc, .int .i64 y.ch, .int .i64 y.high, .int .i64 y.wide, .int .i64 y.out, .int .i64 y.kh, .int .i64 y.kw, .int .i64 y.st, .int .i64 y.pad, .slice y.kA y.kn y.kc, .slice y.gA y.gn y.gc] 38 #[.int .i64 n] 3
    have HX0 := Lib.hid x0
    have HX1 := Lib.hid x1
    clear x0 x1
    have Bz := Below.refl W.heap.size W
    have p0_0 := (HX0.out.below Bz).cell 0 (.int .u8 y.kind) rfl
    have p0_1 := (HX0.out.below Bz).cell 1 (.slice y.rA y.rn y.rc) rfl
    have p0_2 := (HX0.out.below Bz).cell 2 (.slice y.bA y.bn y.bc) rfl
    have p0_3 := (HX0.out.below Bz).cell 3 (.int .i64 y.ch) rfl
    have p0_4 := (HX0.out.below Bz).cell 4 (.int .i64 y.high) rfl
    have p0_5 := (HX0.out.below Bz).cell 5 (.int .i64 y.wide) rfl
    have p0_6 := (HX0.out.below Bz).cell 6 (.int .i64 y.out) rfl
    have p0_7 := (HX0.out.below Bz).cell 7 (.int .i64 y.kh) rfl
    have p0_8 := (HX0.out.below Bz).cell 8 (.int .i64 y.kw) rfl
    have p0_9 := (HX0.out.below Bz).cell 9 (.int .i64 y.st) rfl
    have p0_10 := (HX0.out.below Bz).cell 10 (.int .i64 y.pad) rfl
    have p0_11 := (HX0.out.below Bz).cell 11 (.slice y.kA y.kn y.kc) rfl
    have p0_12 := (HX0.out.below Bz).cell 12 (.slice y.gA y.gn y.gc) rfl
    go_enter Tryd.func101, Tryd.ntmps101
    go_wp2_with fail
    rw [← hW]
    clear hW
    go_wp2_with fail
    with_reducible refine (plain_q (by omega) false HP).mono ?_
    rintro e w1 ⟨rfl, b1⟩
    replace b1 := below_trans (a := W) (by go_grown) b1
    replace Bz := below_trans Bz b1
    clear b1
    clear p0_0 p0_1 p0_2 p0_3 p0_4 p0_5 p0_6 p0_7 p0_8 p0_9 p0_10 p0_11 p0_12
    go_wp2_with fail
    go_ret3
    have hF := below_trans (c := w1) hB Bz
    exact ⟨by rw [HA.out]; rfl, below_trans hF (by go_grown)⟩
set_option maxRecDepth 100000 in
set_option maxHeartbeats 4000000 in
theorem affine_W2 {w : World} {m : Nat} {y : Ly} {n : Int} (_h : LyOk w m y) (_hm : m ≤ 20000) (hl : y.rn ≤ 100000 ∧ y.bn ≤ 100000 ∧ y.kn ≤ 100000 ∧ y.gn ≤ 100000) (HP : Hid (plainB y = true)) (g1 : 0 < y.gn) (HA : Hid (affineF y n = none)) (_hT : Hid (Tab w)) :
    Calls Tryd.prog 101 #[.agg #[.int .u8 y.kind, .slice y.rA y.rn y.rc, .slice y.bA y.bn y.bc, .int .i64 y.ch, .int .i64 y.high, .int .i64 y.wide, .int .i64 y.out, .int .i64 y.kh, .int .i64 y.kw, .int .i64 y.st, .int .i64 y.pad, .slice y.kA y.kn y.kc, .slice y.gA y.gn y.gc], .int .i64 n] w (TellsB w (affineF y n)) := by
    obtain ⟨W, hW, x0, x1, hB⟩ := boxes2 w #[.int .u8 y.kind, .slice y.rA y.rn y.rc, .slice y.bA y.bn y.bc, .int .i64 y.ch, .int .i64 y.high, .int .i64 y.wide, .int .i64 y.out, .int .i64 y.kh, .int .i64 y.kw, .int .i64 y.st, .int .i64 y.pad, .slice y.kA y.kn y.kc, .slice y.gA y.gn y.gc] 38 #[.int .i64 n] 3
    have HX0 := Lib.hid x0
    have HX1 := Lib.hid x1
    clear x0 x1
    have Bz := Below.refl W.heap.size W
    have p0_0 := (HX0.out.below Bz).cell 0 (.int .u8 y.kind) rfl
    have p0_1 := (HX0.out.below Bz).cell 1 (.slice y.rA y.rn y.rc) rfl
    have p0_2 := (HX0.out.below Bz).cell 2 (.slice y.bA y.bn y.bc) rfl
    have p0_3 := (HX0.out.below Bz).cell 3 (.int .i64 y.ch) rfl
    have p0_4 := (HX0.out.below Bz).cell 4 (.int .i64 y.high) rfl
    have p0_5 := (HX0.out.below Bz).cell 5 (.int .i64 y.wide) rfl
    have p0_6 := (HX0.out.below Bz).cell 6 (.int .i64 y.out) rfl
    have p0_7 := (HX0.out.below Bz).cell 7 (.int .i64 y.kh) rfl
    have p0_8 := (HX0.out.below Bz).cell 8 (.int .i64 y.kw) rfl
    have p0_9 := (HX0.out.below Bz).cell 9 (.int .i64 y.st) rfl
    have p0_10 := (HX0.out.below Bz).cell 10 (.int .i64 y.pad) rfl
    have p0_11 := (HX0.out.below Bz).cell 11 (.slice y.kA y.kn y.kc) rfl
    have p0_12 := (HX0.out.below Bz).cell 12 (.slice y.gA y.gn y.gc) rfl
    go_enter Tryd.func101, Tryd.ntmps101
    go_wp2_with fail
    rw [← hW]
    clear hW
    go_wp2_with fail
    with_reducible refine (plain_q (by omega) true HP).mono ?_
    rintro e w1 ⟨rfl, b1⟩
    replace b1 := below_trans (a := W) (by go_grown) b1
    replace Bz := below_trans Bz b1
    clear b1
    clear p0_0 p0_1 p0_2 p0_3 p0_4 p0_5 p0_6 p0_7 p0_8 p0_9 p0_10 p0_11 p0_12
    have p0_12 := (HX0.out.below Bz).cell 12 (.slice y.gA y.gn y.gc) rfl
    go_wp2_with fail
    go_ret3
    have hF := below_trans (c := w1) hB Bz
    exact ⟨by rw [HA.out]; rfl, below_trans hF (by go_grown)⟩
set_option maxRecDepth 100000 in
set_option maxHeartbeats 4000000 in
theorem affine_W3 {w : World} {m : Nat} {y : Ly} {n : Int} (_h : LyOk w m y) (_hm : m ≤ 20000) (hl : y.rn ≤ 100000 ∧ y.bn ≤ 100000 ∧ y.kn ≤ 100000 ∧ y.gn ≤ 100000) (HP : Hid (plainB y = true)) (g1 : ¬ 0 < y.gn) (g2 : ((y.rn : Int) == 0) = true) (HA : Hid (affineF y n = none)) (_hT : Hid (Tab w)) :
    Calls Tryd.prog 101 #[.agg #[.int .u8 y.kind, .slice y.rA y.rn y.rc, .slice y.bA y.bn y.bc, .int .i64 y.ch, .int .i64 y.high, .int .i64 y.wide, .int .i64 y.out, .int .i64 y.kh, .int .i64 y.kw, .int .i64 y.st, .int .i64 y.pad, .slice y.kA y.kn y.kc, .slice y.gA y.gn y.gc], .int .i64 n] w (TellsB w (affineF y n)) := by
    obtain ⟨W, hW, x0, x1, hB⟩ := boxes2 w #[.int .u8 y.kind, .slice y.rA y.rn y.rc, .slice y.bA y.bn y.bc, .int .i64 y.ch, .int .i64 y.high, .int .i64 y.wide, .int .i64 y.out, .int .i64 y.kh, .int .i64 y.kw, .int .i64 y.st, .int .i64 y.pad, .slice y.kA y.kn y.kc, .slice y.gA y.gn y.gc] 38 #[.int .i64 n] 3
    have HX0 := Lib.hid x0
    have HX1 := Lib.hid x1
    clear x0 x1
    have Bz := Below.refl W.heap.size W
    have p0_0 := (HX0.out.below Bz).cell 0 (.int .u8 y.kind) rfl
    have p0_1 := (HX0.out.below Bz).cell 1 (.slice y.rA y.rn y.rc) rfl
    have p0_2 := (HX0.out.below Bz).cell 2 (.slice y.bA y.bn y.bc) rfl
    have p0_3 := (HX0.out.below Bz).cell 3 (.int .i64 y.ch) rfl
    have p0_4 := (HX0.out.below Bz).cell 4 (.int .i64 y.high) rfl
    have p0_5 := (HX0.out.below Bz).cell 5 (.int .i64 y.wide) rfl
    have p0_6 := (HX0.out.below Bz).cell 6 (.int .i64 y.out) rfl
    have p0_7 := (HX0.out.below Bz).cell 7 (.int .i64 y.kh) rfl
    have p0_8 := (HX0.out.below Bz).cell 8 (.int .i64 y.kw) rfl
    have p0_9 := (HX0.out.below Bz).cell 9 (.int .i64 y.st) rfl
    have p0_10 := (HX0.out.below Bz).cell 10 (.int .i64 y.pad) rfl
    have p0_11 := (HX0.out.below Bz).cell 11 (.slice y.kA y.kn y.kc) rfl
    have p0_12 := (HX0.out.below Bz).cell 12 (.slice y.gA y.gn y.gc) rfl
    go_enter Tryd.func101, Tryd.ntmps101
    go_wp2_with fail
    rw [← hW]
    clear hW
    go_wp2_with fail
    with_reducible refine (plain_q (by omega) true HP).mono ?_
    rintro e w1 ⟨rfl, b1⟩
    replace b1 := below_trans (a := W) (by go_grown) b1
    replace Bz := below_trans Bz b1
    clear b1
    clear p0_0 p0_1 p0_2 p0_3 p0_4 p0_5 p0_6 p0_7 p0_8 p0_9 p0_10 p0_11 p0_12
    have p0_1 := (HX0.out.below Bz).cell 1 (.slice y.rA y.rn y.rc) rfl
    have p0_12 := (HX0.out.below Bz).cell 12 (.slice y.gA y.gn y.gc) rfl
    go_wp2_with fail
    go_ret3
    have hF := below_trans (c := w1) hB Bz
    exact ⟨by rw [HA.out]; rfl, below_trans hF (by go_grown)⟩
set_option maxRecDepth 100000 in
set_option maxHeartbeats 4000000 in
theorem affine_W4 {w : World} {m : Nat} {y : Ly} {n : Int} (_h : LyOk w m y) (_hm : m ≤ 20000) (hl : y.rn ≤ 100000 ∧ y.bn ≤ 100000 ∧ y.kn ≤ 100000 ∧ y.gn ≤ 100000) (HP : Hid (plainB y = true)) (g1 : ¬ 0 < y.gn) (g2 : ((y.rn : Int) == 0) = false) (g3 : ((y.rn : Int) != (y.bn : Int)) = true) (HA : Hid (affineF y n = none)) (_hT : Hid (Tab w)) :
    Calls Tryd.prog 101 #[.agg #[.int .u8 y.kind, .slice y.rA y.rn y.rc, .slice y.bA y.bn y.bc, .int .i64 y.ch, .int .i64 y.high, .int .i64 y.wide, .int .i64 y.out, .int .i64 y.kh, .int .i64 y.kw, .int .i64 y.st, .int .i64 y.pad, .slice y.kA y.kn y.kc, .slice y.gA y.gn y.gc], .int .i64 n] w (TellsB w (affineF y n)) := by
    obtain ⟨W, hW, x0, x1, hB⟩ := boxes2 w #[.int .u8 y.kind, .slice y.rA y.rn y.rc, .slice y.bA y.bn y.bc, .int .i64 y.ch, .int .i64 y.high, .int .i64 y.wide, .int .i64 y.out, .int .i64 y.kh, .int .i64 y.kw, .int .i64 y.st, .int .i64 y.pad, .slice y.kA y.kn y.kc, .slice y.gA y.gn y.gc] 38 #[.int .i64 n] 3
    have HX0 := Lib.hid x0
    have HX1 := Lib.hid x1
    clear x0 x1
    have Bz := Below.refl W.heap.size W
    have p0_0 := (HX0.out.below Bz).cell 0 (.int .u8 y.kind) rfl
    have p0_1 := (HX0.out.below Bz).cell 1 (.slice y.rA y.rn y.rc) rfl
    have p0_2 := (HX0.out.below Bz).cell 2 (.slice y.bA y.bn y.bc) rfl
    have p0_3 := (HX0.out.below Bz).cell 3 (.int .i64 y.ch) rfl
    have p0_4 := (HX0.out.below Bz).cell 4 (.int .i64 y.high) rfl
    have p0_5 := (HX0.out.below Bz).cell 5 (.int .i64 y.wide) rfl
    have p0_6 := (HX0.out.below Bz).cell 6 (.int .i64 y.out) rfl
    have p0_7 := (HX0.out.below Bz).cell 7 (.int .i64 y.kh) rfl
    have p0_8 := (HX0.out.below Bz).cell 8 (.int .i64 y.kw) rfl
    have p0_9 := (HX0.out.below Bz).cell 9 (.int .i64 y.st) rfl
    have p0_10 := (HX0.out.below Bz).cell 10 (.int .i64 y.pad) rfl
    have p0_11 := (HX0.out.below Bz).cell 11 (.slice y.kA y.kn y.kc) rfl
    have p0_12 := (HX0.out.below Bz).cell 12 (.slice y.gA y.gn y.gc) rfl
    go_enter Tryd.func101, Tryd.ntmps101
    go_wp2_with fail
    rw [← hW]
    clear hW
    go_wp2_with fail
    with_reducible refine (plain_q (by omega) true HP).mono ?_
    rintro e w1 ⟨rfl, b1⟩
    replace b1 := below_trans (a := W) (by go_grown) b1
    replace Bz := below_trans Bz b1
    clear b1
    clear p0_0 p0_1 p0_2 p0_3 p0_4 p0_5 p0_6 p0_7 p0_8 p0_9 p0_10 p0_11 p0_12
    have p0_1 := (HX0.out.below Bz).cell 1 (.slice y.rA y.rn y.rc) rfl
    have p0_2 := (HX0.out.below Bz).cell 2 (.slice y.bA y.bn y.bc) rfl
    have p0_12 := (HX0.out.below Bz).cell 12 (.slice y.gA y.gn y.gc) rfl
    go_wp2_with fail
    go_ret3
    have hF := below_trans (c := w1) hB Bz
    exact ⟨by rw [HA.out]; rfl, below_trans hF (by go_grown)⟩
set_option maxRecDepth 100000 in
set_option maxHeartbeats 4000000 in
theorem affine_W5 {w : World} {m : Nat} {y : Ly} {n : Int} (h : LyOk w m y) (hm : m ≤ 20000) (hl : y.rn ≤ 100000 ∧ y.bn ≤ 100000 ∧ y.kn ≤ 100000 ∧ y.gn ≤ 100000) (HP : Hid (plainB y = true)) (g1 : ¬ 0 < y.gn) (g2 : ((y.rn : Int) == 0) = false) (g3 : ((y.rn : Int) != (y.bn : Int)) = false) (HR : Hid ((y.rows.all fun v => rightB v.L n) = false)) (HA : Hid (affineF y n = none)) (hT : Hid (Tab w)) :
    Calls Tryd.prog 101 #[.agg #[.int .u8 y.kind, .slice y.rA y.rn y.rc, .slice y.bA y.bn y.bc, .int .i64 y.ch, .int .i64 y.high, .int .i64 y.wide, .int .i64 y.out, .int .i64 y.kh, .int .i64 y.kw, .int .i64 y.st, .int .i64 y.pad, .slice y.kA y.kn y.kc, .slice y.gA y.gn y.gc], .int .i64 n] w (TellsB w (affineF y n)) := by
    obtain ⟨W, hW, x0, x1, hB⟩ := boxes2 w #[.int .u8 y.kind, .slice y.rA y.rn y.rc, .slice y.bA y.bn y.bc, .int .i64 y.ch, .int .i64 y.high, .int .i64 y.wide, .int .i64 y.out, .int .i64 y.kh, .int .i64 y.kw, .int .i64 y.st, .int .i64 y.pad, .slice y.kA y.kn y.kc, .slice y.gA y.gn y.gc] 38 #[.int .i64 n] 3
    have HX0 := Lib.hid x0
    have HX1 := Lib.hid x1
    clear x0 x1
    have Bz := Below.refl W.heap.size W
    have p0_0 := (HX0.out.below Bz).cell 0 (.int .u8 y.kind) rfl
    have p0_1 := (HX0.out.below Bz).cell 1 (.slice y.rA y.rn y.rc) rfl
    have p0_2 := (HX0.out.below Bz).cell 2 (.slice y.bA y.bn y.bc) rfl
    have p0_3 := (HX0.out.below Bz).cell 3 (.int .i64 y.ch) rfl
    have p0_4 := (HX0.out.below Bz).cell 4 (.int .i64 y.high) rfl
    have p0_5 := (HX0.out.below Bz).cell 5 (.int .i64 y.wide) rfl
    have p0_6 := (HX0.out.below Bz).cell 6 (.int .i64 y.out) rfl
    have p0_7 := (HX0.out.below Bz).cell 7 (.int .i64 y.kh) rfl
    have p0_8 := (HX0.out.below Bz).cell 8 (.int .i64 y.kw) rfl
    have p0_9 := (HX0.out.below Bz).cell 9 (.int .i64 y.st) rfl
    have p0_10 := (HX0.out.below Bz).cell 10 (.int .i64 y.pad) rfl
    have p0_11 := (HX0.out.below Bz).cell 11 (.slice y.kA y.kn y.kc) rfl
    have p0_12 := (HX0.out.below Bz).cell 12 (.slice y.gA y.gn y.gc) rfl
    go_enter Tryd.func101, Tryd.ntmps101
    go_wp2_with fail
    rw [← hW]
    clear hW
    go_wp2_with fail
    with_reducible refine (plain_q (by omega) true HP).mono ?_
    rintro e w1 ⟨rfl, b1⟩
    replace b1 := below_trans (a := W) (by go_grown) b1
    replace Bz := below_trans Bz b1
    clear b1
    clear p0_0 p0_1 p0_2 p0_3 p0_4 p0_5 p0_6 p0_7 p0_8 p0_9 p0_10 p0_11 p0_12
    have p0_1 := (HX0.out.below Bz).cell 1 (.slice y.rA y.rn y.rc) rfl
    have p0_2 := (HX0.out.below Bz).cell 2 (.slice y.bA y.bn y.bc) rfl
    have p0_12 := (HX0.out.below Bz).cell 12 (.slice y.gA y.gn y.gc) rfl
    go_upto_region 4 with (fail)
    obtain ⟨V1, hW, x2, hN⟩ := boxes1 w1 #[.int .i64 0] 3
    rw [← hW]
    clear hW
    obtain ⟨v2, hb2⟩ : ∃ b, b = w1.heap.size := ⟨_, rfl⟩
    rw [← hb2] at x2 ⊢
    have o0_2 : w.heap.size < v2 := by have := (HX0.out.below Bz).lt; omega
    have o1_2 : w.heap.size + 1 < v2 := by have := (HX1.out.below Bz).lt; omega
    have ow_2 : w.heap.size ≤ v2 := by have := hB.size; have := Bz.size; omega
    replace hB := below_trans (below_trans hB Bz) hN
    replace HX0 := Lib.hid ((HX0.out.below Bz).below hN)
    replace HX1 := Lib.hid ((HX1.out.below Bz).below hN)
    have HX2 := Lib.hid x2
    clear x2 hN Bz hb2
    have Bz := Below.refl V1.heap.size V1
    clear p0_1 p0_2 p0_12
    have p0_1 := (HX0.out.below Bz).cell 1 (.slice y.rA y.rn y.rc) rfl
    go_wp2_with fail
    with_reducible refine (all_vec (w0 := w) (below_trans hB (below_trans (b := V1) Bz (by go_grown))) h.rows h.rok hm (by omega) (by omega) (HX2.out.below (below_trans Bz (by go_grown))) (HX1.out.below (below_trans Bz (by go_grown))) (by omega) (by omega) (by omega) false HR hT).mono ?_
    rintro e w2 ⟨rfl, x2, ch2⟩
    replace ch2 := (Ch.of_below (w := V1) (by go_grown)).trans ch2
    replace hB := (below_trans hB Bz).trans (ch2.below (by omega) (by have := hB.size; have := Bz.size; omega))
    replace HX0 := Lib.hid (ch2.bx (HX0.out.below Bz) (by omega))
    replace HX1 := Lib.hid (ch2.bx (HX1.out.below Bz) (by omega))
    clear HX2
    clear ch2 Bz
    have Bz := Below.refl w2.heap.size w2
    clear p0_1
    go_wp2_with fail
    go_ret3
    have hF := below_trans (c := w2) hB Bz
    exact ⟨by rw [HA.out]; rfl, below_trans hF (by go_grown)⟩
set_option maxRecDepth 100000 in
set_option maxHeartbeats 4000000 in
theorem affine_W6 {w : World} {m : Nat} {y : Ly} {n : Int} (h : LyOk w m y) (hm : m ≤ 20000) (hl : y.rn ≤ 100000 ∧ y.bn ≤ 100000 ∧ y.kn ≤ 100000 ∧ y.gn ≤ 100000) (HP : Hid (plainB y = true)) (g1 : ¬ 0 < y.gn) (g2 : ((y.rn : Int) == 0) = false) (g3 : ((y.rn : Int) != (y.bn : Int)) = false) (HR : Hid ((y.rows.all fun v => rightB v.L n) = true)) (HE : Hid ((y.bias.all fun x => x.ex) = false)) (HA : Hid (affineF y n = none)) (hT : Hid (Tab w)) :
    Calls Tryd.prog 101 #[.agg #[.int .u8 y.kind, .slice y.rA y.rn y.rc, .slice y.bA y.bn y.bc, .int .i64 y.ch, .int .i64 y.high, .int .i64 y.wide, .int .i64 y.out, .int .i64 y.kh, .int .i64 y.kw, .int .i64 y.st, .int .i64 y.pad, .slice y.kA y.kn y.kc, .slice y.gA y.gn y.gc], .int .i64 n] w (TellsB w (affineF y n)) := by
    obtain ⟨W, hW, x0, x1, hB⟩ := boxes2 w #[.int .u8 y.kind, .slice y.rA y.rn y.rc, .slice y.bA y.bn y.bc, .int .i64 y.ch, .int .i64 y.high, .int .i64 y.wide, .int .i64 y.out, .int .i64 y.kh, .int .i64 y.kw, .int .i64 y.st, .int .i64 y.pad, .slice y.kA y.kn y.kc, .slice y.gA y.gn y.gc] 38 #[.int .i64 n] 3
    have HX0 := Lib.hid x0
    have HX1 := Lib.hid x1
    clear x0 x1
    have Bz := Below.refl W.heap.size W
    have p0_0 := (HX0.out.below Bz).cell 0 (.int .u8 y.kind) rfl
    have p0_1 := (HX0.out.below Bz).cell 1 (.slice y.rA y.rn y.rc) rfl
    have p0_2 := (HX0.out.below Bz).cell 2 (.slice y.bA y.bn y.bc) rfl
    have p0_3 := (HX0.out.below Bz).cell 3 (.int .i64 y.ch) rfl
    have p0_4 := (HX0.out.below Bz).cell 4 (.int .i64 y.high) rfl
    have p0_5 := (HX0.out.below Bz).cell 5 (.int .i64 y.wide) rfl
    have p0_6 := (HX0.out.below Bz).cell 6 (.int .i64 y.out) rfl
    have p0_7 := (HX0.out.below Bz).cell 7 (.int .i64 y.kh) rfl
    have p0_8 := (HX0.out.below Bz).cell 8 (.int .i64 y.kw) rfl
    have p0_9 := (HX0.out.below Bz).cell 9 (.int .i64 y.st) rfl
    have p0_10 := (HX0.out.below Bz).cell 10 (.int .i64 y.pad) rfl
    have p0_11 := (HX0.out.below Bz).cell 11 (.slice y.kA y.kn y.kc) rfl
    have p0_12 := (HX0.out.below Bz).cell 12 (.slice y.gA y.gn y.gc) rfl
    go_enter Tryd.func101, Tryd.ntmps101
    go_wp2_with fail
    rw [← hW]
    clear hW
    go_wp2_with fail
    with_reducible refine (plain_q (by omega) true HP).mono ?_
    rintro e w1 ⟨rfl, b1⟩
    replace b1 := below_trans (a := W) (by go_grown) b1
    replace Bz := below_trans Bz b1
    clear b1
    clear p0_0 p0_1 p0_2 p0_3 p0_4 p0_5 p0_6 p0_7 p0_8 p0_9 p0_10 p0_11 p0_12
    have p0_1 := (HX0.out.below Bz).cell 1 (.slice y.rA y.rn y.rc) rfl
    have p0_2 := (HX0.out.below Bz).cell 2 (.slice y.bA y.bn y.bc) rfl
    have p0_12 := (HX0.out.below Bz).cell 12 (.slice y.gA y.gn y.gc) rfl
    go_upto_region 4 with (fail)
    obtain ⟨V1, hW, x2, hN⟩ := boxes1 w1 #[.int .i64 0] 3
    rw [← hW]
    clear hW
    obtain ⟨v2, hb2⟩ : ∃ b, b = w1.heap.size := ⟨_, rfl⟩
    rw [← hb2] at x2 ⊢
    have o0_2 : w.heap.size < v2 := by have := (HX0.out.below Bz).lt; omega
    have o1_2 : w.heap.size + 1 < v2 := by have := (HX1.out.below Bz).lt; omega
    have ow_2 : w.heap.size ≤ v2 := by have := hB.size; have := Bz.size; omega
    replace hB := below_trans (below_trans hB Bz) hN
    replace HX0 := Lib.hid ((HX0.out.below Bz).below hN)
    replace HX1 := Lib.hid ((HX1.out.below Bz).below hN)
    have HX2 := Lib.hid x2
    clear x2 hN Bz hb2
    have Bz := Below.refl V1.heap.size V1
    clear p0_1 p0_2 p0_12
    have p0_1 := (HX0.out.below Bz).cell 1 (.slice y.rA y.rn y.rc) rfl
    go_wp2_with fail
    with_reducible refine (all_vec (w0 := w) (below_trans hB (below_trans (b := V1) Bz (by go_grown))) h.rows h.rok hm (by omega) (by omega) (HX2.out.below (below_trans Bz (by go_grown))) (HX1.out.below (below_trans Bz (by go_grown))) (by omega) (by omega) (by omega) true HR hT).mono ?_
    rintro e w2 ⟨rfl, x2, ch2⟩
    replace ch2 := (Ch.of_below (w := V1) (by go_grown)).trans ch2
    replace hB := (below_trans hB Bz).trans (ch2.below (by omega) (by have := hB.size; have := Bz.size; omega))
    replace HX0 := Lib.hid (ch2.bx (HX0.out.below Bz) (by omega))
    replace HX1 := Lib.hid (ch2.bx (HX1.out.below Bz) (by omega))
    replace HX2 := Lib.hid (x2 rfl)
    clear ch2 Bz
    have Bz := Below.refl w2.heap.size w2
    clear p0_1
    have p0_2 := (HX0.out.below Bz).cell 2 (.slice y.bA y.bn y.bc) rfl
    go_wp2_with fail
    with_reducible refine (all_affine2 (h.bias.below (below_trans hB (below_trans (b := w2) Bz (by go_grown)))) (Lib.hid fun x hx => (h.bok x hx).below (below_trans hB (below_trans (b := w2) Bz (by go_grown)))) (by omega) (Lib.hid (Tab.below hT.out (below_trans hB (below_trans (b := w2) Bz (by go_grown))))) (by omega) false HE).mono ?_
    rintro e w3 ⟨rfl, b3⟩
    replace b3 := below_trans (a := w2) (by go_grown) b3
    replace Bz := below_trans Bz b3
    clear b3
    clear p0_2
    go_wp2_with fail
    go_ret3
    have hF := below_trans (c := w3) hB Bz
    exact ⟨by rw [HA.out]; rfl, below_trans hF (by go_grown)⟩
set_option maxRecDepth 100000 in
set_option maxHeartbeats 4000000 in
theorem affine_OK {w : World} {m : Nat} {y : Ly} {n : Int} (h : LyOk w m y) (hm : m ≤ 20000) (hl : y.rn ≤ 100000 ∧ y.bn ≤ 100000 ∧ y.kn ≤ 100000 ∧ y.gn ≤ 100000) (HP : Hid (plainB y = true)) (g1 : ¬ 0 < y.gn) (g2 : ((y.rn : Int) == 0) = false) (g3 : ((y.rn : Int) != (y.bn : Int)) = false) (HR : Hid ((y.rows.all fun v => rightB v.L n) = true)) (HE : Hid ((y.bias.all fun x => x.ex) = true)) (HA : Hid (affineF y n = some ((y.rn : Int), (lens y.rows : Int)))) (hT : Hid (Tab w)) :
    Calls Tryd.prog 101 #[.agg #[.int .u8 y.kind, .slice y.rA y.rn y.rc, .slice y.bA y.bn y.bc, .int .i64 y.ch, .int .i64 y.high, .int .i64 y.wide, .int .i64 y.out, .int .i64 y.kh, .int .i64 y.kw, .int .i64 y.st, .int .i64 y.pad, .slice y.kA y.kn y.kc, .slice y.gA y.gn y.gc], .int .i64 n] w (TellsB w (affineF y n)) := by
    obtain ⟨W, hW, x0, x1, hB⟩ := boxes2 w #[.int .u8 y.kind, .slice y.rA y.rn y.rc, .slice y.bA y.bn y.bc, .int .i64 y.ch, .int .i64 y.high, .int .i64 y.wide, .int .i64 y.out, .int .i64 y.kh, .int .i64 y.kw, .int .i64 y.st, .int .i64 y.pad, .slice y.kA y.kn y.kc, .slice y.gA y.gn y.gc] 38 #[.int .i64 n] 3
    have HX0 := Lib.hid x0
    have HX1 := Lib.hid x1
    clear x0 x1
    have Bz := Below.refl W.heap.size W
    have p0_0 := (HX0.out.below Bz).cell 0 (.int .u8 y.kind) rfl
    have p0_1 := (HX0.out.below Bz).cell 1 (.slice y.rA y.rn y.rc) rfl
    have p0_2 := (HX0.out.below Bz).cell 2 (.slice y.bA y.bn y.bc) rfl
    have p0_3 := (HX0.out.below Bz).cell 3 (.int .i64 y.ch) rfl
    have p0_4 := (HX0.out.below Bz).cell 4 (.int .i64 y.high) rfl
    have p0_5 := (HX0.out.below Bz).cell 5 (.int .i64 y.wide) rfl
    have p0_6 := (HX0.out.below Bz).cell 6 (.int .i64 y.out) rfl
    have p0_7 := (HX0.out.below Bz).cell 7 (.int .i64 y.kh) rfl
    have p0_8 := (HX0.out.below Bz).cell 8 (.int .i64 y.kw) rfl
    have p0_9 := (HX0.out.below Bz).cell 9 (.int .i64 y.st) rfl
    have p0_10 := (HX0.out.below Bz).cell 10 (.int .i64 y.pad) rfl
    have p0_11 := (HX0.out.below Bz).cell 11 (.slice y.kA y.kn y.kc) rfl
    have p0_12 := (HX0.out.below Bz).cell 12 (.slice y.gA y.gn y.gc) rfl
    go_enter Tryd.func101, Tryd.ntmps101
    go_wp2_with fail
    rw [← hW]
    clear hW
    go_wp2_with fail
    with_reducible refine (plain_q (by omega) true HP).mono ?_
    rintro e w1 ⟨rfl, b1⟩
    replace b1 := below_trans (a := W) (by go_grown) b1
    replace Bz := below_trans Bz b1
    clear b1
    clear p0_0 p0_1 p0_2 p0_3 p0_4 p0_5 p0_6 p0_7 p0_8 p0_9 p0_10 p0_11 p0_12
    have p0_1 := (HX0.out.below Bz).cell 1 (.slice y.rA y.rn y.rc) rfl
    have p0_2 := (HX0.out.below Bz).cell 2 (.slice y.bA y.bn y.bc) rfl
    have p0_12 := (HX0.out.below Bz).cell 12 (.slice y.gA y.gn y.gc) rfl
    go_upto_region 4 with (fail)
    obtain ⟨V1, hW, x2, hN⟩ := boxes1 w1 #[.int .i64 0] 3
    rw [← hW]
    clear hW
    obtain ⟨v2, hb2⟩ : ∃ b, b = w1.heap.size := ⟨_, rfl⟩
    rw [← hb2] at x2 ⊢
    have o0_2 : w.heap.size < v2 := by have := (HX0.out.below Bz).lt; omega
    have o1_2 : w.heap.size + 1 < v2 := by have := (HX1.out.below Bz).lt; omega
    have ow_2 : w.heap.size ≤ v2 := by have := hB.size; have := Bz.size; omega
    replace hB := below_trans (below_trans hB Bz) hN
    replace HX0 := Lib.hid ((HX0.out.below Bz).below hN)
    replace HX1 := Lib.hid ((HX1.out.below Bz).below hN)
    have HX2 := Lib.hid x2
    clear x2 hN Bz hb2
    have Bz := Below.refl V1.heap.size V1
    clear p0_1 p0_2 p0_12
    have p0_1 := (HX0.out.below Bz).cell 1 (.slice y.rA y.rn y.rc) rfl
    go_wp2_with fail
    with_reducible refine (all_vec (w0 := w) (below_trans hB (below_trans (b := V1) Bz (by go_grown))) h.rows h.rok hm (by omega) (by omega) (HX2.out.below (below_trans Bz (by go_grown))) (HX1.out.below (below_trans Bz (by go_grown))) (by omega) (by omega) (by omega) true HR hT).mono ?_
    rintro e w2 ⟨rfl, x2, ch2⟩
    replace ch2 := (Ch.of_below (w := V1) (by go_grown)).trans ch2
    replace hB := (below_trans hB Bz).trans (ch2.below (by omega) (by have := hB.size; have := Bz.size; omega))
    replace HX0 := Lib.hid (ch2.bx (HX0.out.below Bz) (by omega))
    replace HX1 := Lib.hid (ch2.bx (HX1.out.below Bz) (by omega))
    replace HX2 := Lib.hid (x2 rfl)
    clear ch2 Bz
    have Bz := Below.refl w2.heap.size w2
    clear p0_1
    have p0_2 := (HX0.out.below Bz).cell 2 (.slice y.bA y.bn y.bc) rfl
    go_wp2_with fail
    with_reducible refine (all_affine2 (h.bias.below (below_trans hB (below_trans (b := w2) Bz (by go_grown)))) (Lib.hid fun x hx => (h.bok x hx).below (below_trans hB (below_trans (b := w2) Bz (by go_grown)))) (by omega) (Lib.hid (Tab.below hT.out (below_trans hB (below_trans (b := w2) Bz (by go_grown))))) (by omega) true HE).mono ?_
    rintro e w3 ⟨rfl, b3⟩
    replace b3 := below_trans (a := w2) (by go_grown) b3
    replace Bz := below_trans Bz b3
    clear b3
    clear p0_2
    have p0_1 := (HX0.out.below Bz).cell 1 (.slice y.rA y.rn y.rc) rfl
    have p2_0 := (HX2.out.below Bz).cell 0 (.int .i64 (0 + (lens y.rows : Int))) rfl
    go_wp2_with fail
    (try simp only [List.append_eq, List.cons_append, List.nil_append])
    refine wp_region_plan (.pure 0 (.take 1 (.pure 2 (.take 3 (.pure 4 (.pure 5 (.pure 6 .done))))))) [] (fun w' => w'.cell? ⟨w.heap.size, 1, none⟩ = some (.slice y.rA y.rn y.rc) ∧ w'.cell? ⟨v2, 0, none⟩ = some (.int .i64 (0 + (lens y.rows : Int)))) (by kernel_rfl) (by kernel_rfl) ⟨p0_1, p2_0⟩ ?_
    refine wpPlan_pure (o := ⟨some 45, _, _, _, _, _⟩) (v := ?_) rfl rfl (fun w' => ?_) ?_
    rotate_left
    · go_simp <;> with_reducible rfl
    try simp only [Act.put, List.setIfInBounds_toArray, List.set_cons_zero, List.set_cons_succ]
    refine wpPlan_take (o := ⟨some 46, _, _, _, _, _⟩) (v := ?_) rfl rfl (fun w' hS => ?_) ?_
    rotate_left
    · obtain ⟨p0_1, p2_0⟩ := hS; go_simp <;> with_reducible rfl
    try simp only [Act.put, List.setIfInBounds_toArray, List.set_cons_zero, List.set_cons_succ]
    refine wpPlan_pure (o := ⟨some 47, _, _, _, _, _⟩) (v := ?_) rfl rfl (fun w' => ?_) ?_
    rotate_left
    · go_simp <;> with_reducible rfl
    try simp only [Act.put, List.setIfInBounds_toArray, List.set_cons_zero, List.set_cons_succ]
    refine wpPlan_take (o := ⟨some 48, _, _, _, _, _⟩) (v := ?_) rfl rfl (fun w' hS => ?_) ?_
    rotate_left
    · obtain ⟨p0_1, p2_0⟩ := hS; go_simp <;> with_reducible rfl
    try simp only [Act.put, List.setIfInBounds_toArray, List.set_cons_zero, List.set_cons_succ]
    refine wpPlan_pure (o := ⟨some 4, _, _, _, _, _⟩) (v := ?_) rfl rfl (fun w' => ?_) ?_
    rotate_left
    · go_simp <;> with_reducible rfl
    try simp only [Act.put, List.setIfInBounds_toArray, List.set_cons_zero, List.set_cons_succ]
    refine wpPlan_pure (o := ⟨some 5, _, _, _, _, _⟩) (v := ?_) rfl rfl (fun w' => ?_) ?_
    rotate_left
    · go_simp <;> with_reducible rfl
    try simp only [Act.put, List.setIfInBounds_toArray, List.set_cons_zero, List.set_cons_succ]
    refine wpPlan_pure (o := ⟨some 6, _, _, _, _, _⟩) (v := ?_) rfl rfl (fun w' => ?_) ?_
    rotate_left
    · go_simp <;> with_reducible rfl
    try simp only [Act.put, List.setIfInBounds_toArray, List.set_cons_zero, List.set_cons_succ]
    refine wpPlan_done ?_
    go_wp2_with fail
    go_ret3
    have hF := below_trans (c := w3) hB Bz
    exact ⟨by rw [HA.out]; simp, below_trans hF (by go_grown)⟩
theorem affine_q {w : World} {m : Nat} {y : Ly} {n : Int} (h : LyOk w m y) (hm : m ≤ 20000) (hT : Hid (Tab w)) :
    Calls Tryd.prog 101 #[.agg #[.int .u8 y.kind, .slice y.rA y.rn y.rc, .slice y.bA y.bn y.bc, .int .i64 y.ch, .int .i64 y.high, .int .i64 y.wide, .int .i64 y.out, .int .i64 y.kh, .int .i64 y.kw, .int .i64 y.st, .int .i64 y.pad, .slice y.kA y.kn y.kc, .slice y.gA y.gn y.gc], .int .i64 n] w (TellsB w (affineF y n)) := by
  have hl := h.lens
  cases h1 : plainB y
  · exact affine_W1 h hm hl (Lib.hid h1) (Lib.hid (by unfold affineF; rw [if_pos h1])) hT
  · have e1 : ¬ plainB y = false := by rw [h1]; simp
    by_cases h2 : 0 < y.gn
    · exact affine_W2 h hm hl (Lib.hid h1) h2 (Lib.hid (by unfold affineF; rw [if_neg e1, if_pos h2])) hT
    · by_cases h3 : y.rn = 0
      · exact affine_W3 h hm hl (Lib.hid h1) h2 (by simp; omega) (Lib.hid (by unfold affineF; rw [if_neg e1, if_neg h2, if_pos h3])) hT
      · by_cases h4 : y.rn = y.bn
        · have g4 : ¬ y.rn ≠ y.bn := fun h => h h4
          cases h5 : (y.rows.all fun v => rightB v.L n)
          · exact affine_W5 h hm hl (Lib.hid h1) h2 (by simp; omega) (by simp; omega) (Lib.hid h5) (Lib.hid (by unfold affineF; rw [if_neg e1, if_neg h2, if_neg h3, if_neg g4, if_pos h5])) hT
          · have e5 : ¬ (y.rows.all fun v => rightB v.L n) = false := by rw [h5]; simp
            cases h6 : (y.bias.all fun x => x.ex)
            · exact affine_W6 h hm hl (Lib.hid h1) h2 (by simp; omega) (by simp; omega) (Lib.hid h5) (Lib.hid h6) (Lib.hid (by unfold affineF; rw [if_neg e1, if_neg h2, if_neg h3, if_neg g4, if_neg e5, if_pos h6])) hT
            · exact affine_OK h hm hl (Lib.hid h1) h2 (by simp; omega) (by simp; omega) (Lib.hid h5) (Lib.hid h6) (Lib.hid (by unfold affineF; rw [if_neg e1, if_neg h2, if_neg h3, if_neg g4, if_neg e5, if_neg (by rw [h6]; simp)])) hT
        · exact affine_W4 h hm hl (Lib.hid h1) h2 (by simp; omega) (by simp; omega) (Lib.hid (by unfold affineF; rw [if_neg e1, if_neg h2, if_neg h3, if_pos h4])) hT
end Go.Proofs.YtionhpangenhnaaDoor
