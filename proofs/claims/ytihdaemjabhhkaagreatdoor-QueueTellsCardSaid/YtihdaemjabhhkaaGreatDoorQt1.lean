/-
  The reference of layer 24: a list of nodes, in the order of pushing. Written by wip/gen/qt1.py.
-/
import Derived.Test.YtihdaemjabhhkaaGreatDoorRf
import Derived.Test.YtihdaemjabhhkaaGreatDoorApp
import Derived.Test.YtihdaemjabhhkaaGreatDoorQu12
namespace Go.Proofs.YtihdaemjabhhkaaGreatDoor
open Go.RowKit Tw Hp

/-- Is a ahead of b, that was pushed later? -/
def aheadB (a b : Itm) : Bool := if cmpQ a.q b.q ≠ 0 then decide (cmpQ a.q b.q < 0) else if a.dep ≠ b.dep then decide (b.dep < a.dep) else decide (a.num ≤ b.num)
/-- A part of a struct is stored over. -/
theorem st7_0_4 {w : World} {b : Nat} {t : TypeId} {u0 u1 u2 u3 u4 u5 u6 : Value} (v0 v1 v2 v3 : Value) (h0 : Bx w b #[u0, u1, u2, u3, u4, u5, u6] t) (n0 : ∀ n, u0 ≠ .int .u64 n) (n1 : ∀ n, u1 ≠ .int .u64 n) (n2 : ∀ n, u2 ≠ .int .u64 n) (n3 : ∀ n, u3 ≠ .int .u64 n) :
    ∃ W, W = (((w.setCell ⟨b, 0, none⟩ v0).setCell ⟨b, 1, none⟩ v1).setCell ⟨b, 2, none⟩ v2).setCell ⟨b, 3, none⟩ v3 ∧ Bx W b #[v0, v1, v2, v3, u4, u5, u6] t ∧ K64 w W ∧ (∀ b' cs t', b' ≠ b → Bx w b' cs t' → Bx W b' cs t') ∧ (∀ B w0, B ≤ b → Below B w0 w → Below B w0 W) := by
  have h1 : Bx (w.setCell ⟨b, 0, none⟩ v0) b #[v0, u1, u2, u3, u4, u5, u6] t := h0.set 0 v0
  have k0 : K64 (w) (w.setCell ⟨b, 0, none⟩ v0) := K64.box h0 (i := 0) rfl n0 v0
  have h2 : Bx ((w.setCell ⟨b, 0, none⟩ v0).setCell ⟨b, 1, none⟩ v1) b #[v0, v1, u2, u3, u4, u5, u6] t := h1.set 1 v1
  have k1 : K64 (w.setCell ⟨b, 0, none⟩ v0) ((w.setCell ⟨b, 0, none⟩ v0).setCell ⟨b, 1, none⟩ v1) := K64.box h1 (i := 1) rfl n1 v1
  have h3 : Bx (((w.setCell ⟨b, 0, none⟩ v0).setCell ⟨b, 1, none⟩ v1).setCell ⟨b, 2, none⟩ v2) b #[v0, v1, v2, u3, u4, u5, u6] t := h2.set 2 v2
  have k2 : K64 ((w.setCell ⟨b, 0, none⟩ v0).setCell ⟨b, 1, none⟩ v1) (((w.setCell ⟨b, 0, none⟩ v0).setCell ⟨b, 1, none⟩ v1).setCell ⟨b, 2, none⟩ v2) := K64.box h2 (i := 2) rfl n2 v2
  have h4 : Bx ((((w.setCell ⟨b, 0, none⟩ v0).setCell ⟨b, 1, none⟩ v1).setCell ⟨b, 2, none⟩ v2).setCell ⟨b, 3, none⟩ v3) b #[v0, v1, v2, v3, u4, u5, u6] t := h3.set 3 v3
  have k3 : K64 (((w.setCell ⟨b, 0, none⟩ v0).setCell ⟨b, 1, none⟩ v1).setCell ⟨b, 2, none⟩ v2) ((((w.setCell ⟨b, 0, none⟩ v0).setCell ⟨b, 1, none⟩ v1).setCell ⟨b, 2, none⟩ v2).setCell ⟨b, 3, none⟩ v3) := K64.box h3 (i := 3) rfl n3 v3
  exact ⟨_, rfl, h4, (((k0.trans k1).trans k2).trans k3), fun b' cs t' hb hx => ((((hx.far hb v0).far hb v1).far hb v2).far hb v3), fun B w0 hB hb => ((((hb.setCell hB v0).setCell hB v1).setCell hB v2).setCell hB v3)⟩
/-- A part of a struct is stored over. -/
theorem st7_6_1 {w : World} {b : Nat} {t : TypeId} {u0 u1 u2 u3 u4 u5 u6 : Value} (v6 : Value) (h0 : Bx w b #[u0, u1, u2, u3, u4, u5, u6] t) (n6 : ∀ n, u6 ≠ .int .u64 n) :
    ∃ W, W = w.setCell ⟨b, 6, none⟩ v6 ∧ Bx W b #[u0, u1, u2, u3, u4, u5, v6] t ∧ K64 w W ∧ (∀ b' cs t', b' ≠ b → Bx w b' cs t' → Bx W b' cs t') ∧ (∀ B w0, B ≤ b → Below B w0 w → Below B w0 W) := by
  have h7 : Bx (w.setCell ⟨b, 6, none⟩ v6) b #[u0, u1, u2, u3, u4, u5, v6] t := h0.set 6 v6
  have k6 : K64 (w) (w.setCell ⟨b, 6, none⟩ v6) := K64.box h0 (i := 6) rfl n6 v6
  exact ⟨_, rfl, h7, k6, fun b' cs t' hb hx => (hx.far hb v6), fun B w0 hB hb => (hb.setCell hB v6)⟩
set_option maxRecDepth 100000 in
set_option maxHeartbeats 4000000 in
theorem ahead_1 {w : World} {a b : Itm} {m m' : Nat} (ra : R w a.s a.A a.c a.l a.s' a.A' a.c' a.l' a.q m) (rb : R w b.s b.A b.c b.l b.s' b.A' b.c' b.l' b.q m') (hm : m + m' ≤ 900) (z : Int) (HZ : Hid (cmpQ a.q b.q = z)) (t : Bool) (g1 : (z != 0) = true) (gt : decide (z < 0) = t) :
    Calls Tryz.prog 116 #[.agg #[.bool a.s, .slice a.A a.l a.c, .bool a.s', .slice a.A' a.l' a.c', .int .i64 a.dep, .int .i64 a.num, .slice a.F a.fl a.fc], .agg #[.bool b.s, .slice b.A b.l b.c, .bool b.s', .slice b.A' b.l' b.c', .int .i64 b.dep, .int .i64 b.num, .slice b.F b.fl b.fc]] w fun e w' => e = .returned (.bool t) ∧ Below w.heap.size w w' := by
  obtain ⟨W, hW, x0, x1, hB⟩ := boxes2 w #[.bool a.s, .slice a.A a.l a.c, .bool a.s', .slice a.A' a.l' a.c', .int .i64 a.dep, .int .i64 a.num, .slice a.F a.fl a.fc] 36 #[.bool b.s, .slice b.A b.l b.c, .bool b.s', .slice b.A' b.l' b.c', .int .i64 b.dep, .int .i64 b.num, .slice b.F b.fl b.fc] 36
  replace ra := ra.below hB
  replace rb := rb.below hB
  have HX0 := Lib.hid x0
  have HX1 := Lib.hid x1
  clear x0 x1
  have Bz := Below.refl W.heap.size W
  have p0_0 := (HX0.out.below Bz).cell 0 (.bool a.s) rfl
  have p0_1 := (HX0.out.below Bz).cell 1 (.slice a.A a.l a.c) rfl
  have p0_2 := (HX0.out.below Bz).cell 2 (.bool a.s') rfl
  have p0_3 := (HX0.out.below Bz).cell 3 (.slice a.A' a.l' a.c') rfl
  have p1_0 := (HX1.out.below Bz).cell 0 (.bool b.s) rfl
  have p1_1 := (HX1.out.below Bz).cell 1 (.slice b.A b.l b.c) rfl
  have p1_2 := (HX1.out.below Bz).cell 2 (.bool b.s') rfl
  have p1_3 := (HX1.out.below Bz).cell 3 (.slice b.A' b.l' b.c') rfl
  go_enter Tryz.func116, Tryz.ntmps116
  go_wp2_with fail
  rw [← hW]
  clear hW
  go_wp2_with fail
  with_reducible refine (cmp_r4 (R.below ra (by go_grown)) (R.below rb (by go_grown)) (by omega) z HZ).mono ?_
  rintro e w1 ⟨rfl, b1⟩
  replace b1 := below_trans (a := W) (by go_grown) b1
  replace Bz := below_trans Bz b1
  clear b1
  clear p0_0 p0_1 p0_2 p0_3 p1_0 p1_1 p1_2 p1_3
  go_wp2_with fail
  go_ret
  have hF := below_trans (c := w1) hB Bz
  exact ⟨rfl, below_trans hF (by go_grown)⟩
set_option maxRecDepth 100000 in
set_option maxHeartbeats 4000000 in
theorem ahead_2 {w : World} {a b : Itm} {m m' : Nat} (ra : R w a.s a.A a.c a.l a.s' a.A' a.c' a.l' a.q m) (rb : R w b.s b.A b.c b.l b.s' b.A' b.c' b.l' b.q m') (hm : m + m' ≤ 900) (z : Int) (HZ : Hid (cmpQ a.q b.q = z)) (t : Bool) (g1 : (z != 0) = false) (g2 : (a.dep != b.dep) = true) (gt : decide (b.dep < a.dep) = t) :
    Calls Tryz.prog 116 #[.agg #[.bool a.s, .slice a.A a.l a.c, .bool a.s', .slice a.A' a.l' a.c', .int .i64 a.dep, .int .i64 a.num, .slice a.F a.fl a.fc], .agg #[.bool b.s, .slice b.A b.l b.c, .bool b.s', .slice b.A' b.l' b.c', .int .i64 b.dep, .int .i64 b.num, .slice b.F b.fl b.fc]] w fun e w' => e = .returned (.bool t) ∧ Below w.heap.size w w' := by
  obtain ⟨W, hW, x0, x1, hB⟩ := boxes2 w #[.bool a.s, .slice a.A a.l a.c, .bool a.s', .slice a.A' a.l' a.c', .int .i64 a.dep, .int .i64 a.num, .slice a.F a.fl a.fc] 36 #[.bool b.s, .slice b.A b.l b.c, .bool b.s', .slice b.A' b.l' b.c', .int .i64 b.dep, .int .i64 b.num, .slice b.F b.fl b.fc] 36
  replace ra := ra.below hB
  replace rb := rb.below hB
  have HX0 := Lib.hid x0
  have HX1 := Lib.hid x1
  clear x0 x1
  have Bz := Below.refl W.heap.size W
  have p0_0 := (HX0.out.below Bz).cell 0 (.bool a.s) rfl
  have p0_1 := (HX0.out.below Bz).cell 1 (.slice a.A a.l a.c) rfl
  have p0_2 := (HX0.out.below Bz).cell 2 (.bool a.s') rfl
  have p0_3 := (HX0.out.below Bz).cell 3 (.slice a.A' a.l' a.c') rfl
  have p1_0 := (HX1.out.below Bz).cell 0 (.bool b.s) rfl
  have p1_1 := (HX1.out.below Bz).cell 1 (.slice b.A b.l b.c) rfl
  have p1_2 := (HX1.out.below Bz).cell 2 (.bool b.s') rfl
  have p1_3 := (HX1.out.below Bz).cell 3 (.slice b.A' b.l' b.c') rfl
  go_enter Tryz.func116, Tryz.ntmps116
  go_wp2_with fail
  rw [← hW]
  clear hW
  go_wp2_with fail
  with_reducible refine (cmp_r4 (R.below ra (by go_grown)) (R.below rb (by go_grown)) (by omega) z HZ).mono ?_
  rintro e w1 ⟨rfl, b1⟩
  replace b1 := below_trans (a := W) (by go_grown) b1
  replace Bz := below_trans Bz b1
  clear b1
  clear p0_0 p0_1 p0_2 p0_3 p1_0 p1_1 p1_2 p1_3
  have p0_4 := (HX0.out.below Bz).cell 4 (.int .i64 a.dep) rfl
  have p1_4 := (HX1.out.below Bz).cell 4 (.int .i64 b.dep) rfl
  go_wp2_with fail
  go_ret
  have hF := below_trans (c := w1) hB Bz
  exact ⟨rfl, below_trans hF (by go_grown)⟩
set_option maxRecDepth 100000 in
set_option maxHeartbeats 4000000 in
theorem ahead_3 {w : World} {a b : Itm} {m m' : Nat} (ra : R w a.s a.A a.c a.l a.s' a.A' a.c' a.l' a.q m) (rb : R w b.s b.A b.c b.l b.s' b.A' b.c' b.l' b.q m') (hm : m + m' ≤ 900) (z : Int) (HZ : Hid (cmpQ a.q b.q = z)) (t : Bool) (g1 : (z != 0) = false) (g2 : (a.dep != b.dep) = false) (gt : decide (a.num ≤ b.num) = t) :
    Calls Tryz.prog 116 #[.agg #[.bool a.s, .slice a.A a.l a.c, .bool a.s', .slice a.A' a.l' a.c', .int .i64 a.dep, .int .i64 a.num, .slice a.F a.fl a.fc], .agg #[.bool b.s, .slice b.A b.l b.c, .bool b.s', .slice b.A' b.l' b.c', .int .i64 b.dep, .int .i64 b.num, .slice b.F b.fl b.fc]] w fun e w' => e = .returned (.bool t) ∧ Below w.heap.size w w' := by
  obtain ⟨W, hW, x0, x1, hB⟩ := boxes2 w #[.bool a.s, .slice a.A a.l a.c, .bool a.s', .slice a.A' a.l' a.c', .int .i64 a.dep, .int .i64 a.num, .slice a.F a.fl a.fc] 36 #[.bool b.s, .slice b.A b.l b.c, .bool b.s', .slice b.A' b.l' b.c', .int .i64 b.dep, .int .i64 b.num, .slice b.F b.fl b.fc] 36
  replace ra := ra.below hB
  replace rb := rb.below hB
  have HX0 := Lib.hid x0
  have HX1 := Lib.hid x1
  clear x0 x1
  have Bz := Below.refl W.heap.size W
  have p0_0 := (HX0.out.below Bz).cell 0 (.bool a.s) rfl
  have p0_1 := (HX0.out.below Bz).cell 1 (.slice a.A a.l a.c) rfl
  have p0_2 := (HX0.out.below Bz).cell 2 (.bool a.s') rfl
  have p0_3 := (HX0.out.below Bz).cell 3 (.slice a.A' a.l' a.c') rfl
  have p1_0 := (HX1.out.below Bz).cell 0 (.bool b.s) rfl
  have p1_1 := (HX1.out.below Bz).cell 1 (.slice b.A b.l b.c) rfl
  have p1_2 := (HX1.out.below Bz).cell 2 (.bool b.s') rfl
  have p1_3 := (HX1.out.below Bz).cell 3 (.slice b.A' b.l' b.c') rfl
  go_enter Tryz.func116, Tryz.ntmps116
  go_wp2_with fail
  rw [← hW]
  clear hW
  go_wp2_with fail
  with_reducible refine (cmp_r4 (R.below ra (by go_grown)) (R.below rb (by go_grown)) (by omega) z HZ).mono ?_
  rintro e w1 ⟨rfl, b1⟩
  replace b1 := below_trans (a := W) (by go_grown) b1
  replace Bz := below_trans Bz b1
  clear b1
  clear p0_0 p0_1 p0_2 p0_3 p1_0 p1_1 p1_2 p1_3
  have p0_4 := (HX0.out.below Bz).cell 4 (.int .i64 a.dep) rfl
  have p0_5 := (HX0.out.below Bz).cell 5 (.int .i64 a.num) rfl
  have p1_4 := (HX1.out.below Bz).cell 4 (.int .i64 b.dep) rfl
  have p1_5 := (HX1.out.below Bz).cell 5 (.int .i64 b.num) rfl
  go_wp2_with fail
  go_ret
  have hF := below_trans (c := w1) hB Bz
  exact ⟨rfl, below_trans hF (by go_grown)⟩
theorem ahead_q {w : World} {a b : Itm} {m m' : Nat} (ra : R w a.s a.A a.c a.l a.s' a.A' a.c' a.l' a.q m) (rb : R w b.s b.A b.c b.l b.s' b.A' b.c' b.l' b.q m') (hm : m + m' ≤ 900) (t : Bool) (ht : aheadB a b = t) :
    Calls Tryz.prog 116 #[.agg #[.bool a.s, .slice a.A a.l a.c, .bool a.s', .slice a.A' a.l' a.c', .int .i64 a.dep, .int .i64 a.num, .slice a.F a.fl a.fc], .agg #[.bool b.s, .slice b.A b.l b.c, .bool b.s', .slice b.A' b.l' b.c', .int .i64 b.dep, .int .i64 b.num, .slice b.F b.fl b.fc]] w fun e w' => e = .returned (.bool t) ∧ Below w.heap.size w w' := by
  unfold aheadB at ht
  by_cases h1 : cmpQ a.q b.q = 0
  · rw [if_neg (by simpa using h1)] at ht
    by_cases h2 : a.dep = b.dep
    · rw [if_neg (by simpa using h2)] at ht
      exact ahead_3 ra rb hm _ (Lib.hid rfl) t (by simp [h1]) (by simp [h2]) ht
    · rw [if_pos h2] at ht
      exact ahead_2 ra rb hm _ (Lib.hid rfl) t (by simp [h1]) (by simp [h2]) ht
  · rw [if_pos h1] at ht
    exact ahead_1 ra rb hm _ (Lib.hid rfl) t (by simp [h1]) ht
theorem OwnR.fb {w : World} {B fl : Nat} {v : Value} {ps : List Int} (h : OwnR w B 47 2 v fl (ps.map (Value.int .i64))) : ∃ F fc, v = .slice F fl fc ∧ Fb w B F fl fc ps := by
  obtain ⟨h1, ⟨rfl, rfl⟩ | ⟨g, cap, cur, rfl, h3, h4, _, _, _, h8, _⟩⟩ := h
  · exact ⟨none, 0, rfl, by simpa using h1, .inl ⟨rfl, rfl, rfl⟩⟩
  · exact ⟨_, cap, rfl, by simpa using h1, .inr ⟨g, cur, rfl, h3, h4, h8⟩⟩
theorem Fx.from_ {w : World} {F : Option Addr} {fl fc : Nat} {ps : List Int} (h : Fx w F fl fc ps) : From w 2 (.slice F fl fc) fl (ps.map (Value.int .i64)) :=
  ⟨by rw [List.length_map]; exact h.1, F, fc, rfl, fun e => (h.2.1 e).1, h.2.2⟩
theorem pair_nou : NoU (Value.cells (.agg #[.int .i64 0, .int .i64 0])) := by
  intro u hu n
  simp [Value.cells] at hu
  subst hu
  intro e; cases e
theorem prs_nou (ps : List Int) : ∀ u ∈ ps.map (Value.int .i64), ∀ n, u ≠ .int .u64 n := fun u hu n => by obtain ⟨d, _, rfl⟩ := List.mem_map.1 hu; intro e; cases e
theorem prs_one (ps : List Int) : ∀ u ∈ ps.map (Value.int .i64), u.oneCell' = true := fun u hu => by obtain ⟨d, _, rfl⟩ := List.mem_map.1 hu; rfl
/-- A copy of a node told. -/
def TellsNd (w : World) (q : Rat) (dep num : Int) (fl : Nat) (ps : List Int) (e : Ending) (w' : World) : Prop :=
  ∃ s A c l s' A' c' l' F fc, e = .returned (.agg #[.bool s, .slice A l c, .bool s', .slice A' l' c', .int .i64 dep, .int .i64 num, .slice F fl fc]) ∧ RN w' s A c l s' A' c' l' q ∧ Fb w' w.heap.size F fl fc ps ∧ Below w.heap.size w w'
set_option maxRecDepth 100000 in
set_option maxHeartbeats 4000000 in
theorem copy_r {w : World} {s s' : Bool} {A A' F : Option Addr} {c c' l l' fl fc m : Nat} {q : Rat} {dep num : Int} {ps : List Int} (h : R w s A c l s' A' c' l' q m) (hf : Fx w F fl fc ps) (hm : m ≤ 900) (hfl : fl ≤ 1000000) :
    Calls Tryz.prog 12 #[.agg #[.bool s, .slice A l c, .bool s', .slice A' l' c', .int .i64 dep, .int .i64 num, .slice F fl fc]] w (TellsNd w q dep num fl ps) := by
  obtain ⟨i0, hi, hz0, hz1, hz2⟩ := info_parts infoPair
  obtain ⟨W, hW, x0, x1, hB⟩ := boxes2 w #[.bool s, .slice A l c, .bool s', .slice A' l' c', .int .i64 dep, .int .i64 num, .slice F fl fc] 36 #[.bool false, .slice none 0 0, .bool false, .slice none 0 0, .int .i64 0, .int .i64 0, .slice none 0 0] 36
  replace h := h.below hB
  have HX0 := Lib.hid x0
  have HX1 := Lib.hid x1
  clear x0 x1
  have Bz := Below.refl W.heap.size W
  have p0_0 := (HX0.out.below Bz).cell 0 (.bool s) rfl
  have p0_1 := (HX0.out.below Bz).cell 1 (.slice A l c) rfl
  have p0_2 := (HX0.out.below Bz).cell 2 (.bool s') rfl
  have p0_3 := (HX0.out.below Bz).cell 3 (.slice A' l' c') rfl
  go_enter Tryz.func12, Tryz.ntmps12
  go_wp2_with fail
  rw [← hW]
  clear hW
  with_reducible refine (norm_r4 (R.below h (by go_grown)) (by omega)).mono ?_
  rintro e w1 ⟨s1, A1, c1, l1, s1r, A1r, c1r, l1r, rfl, h1, b1⟩
  replace b1 := below_trans (a := W) (by go_grown) b1
  replace Bz := below_trans Bz b1
  clear b1
  have m1 := h1.len
  clear p0_0 p0_1 p0_2 p0_3
  have p0_0 := (HX0.out.below Bz).cell 0 (.bool s) rfl
  have p0_1 := (HX0.out.below Bz).cell 1 (.slice A l c) rfl
  have p0_2 := (HX0.out.below Bz).cell 2 (.bool s') rfl
  have p0_3 := (HX0.out.below Bz).cell 3 (.slice A' l' c') rfl
  have f0_0 := (HX0.out.below Bz).frozen 0
  have f0_1 := (HX0.out.below Bz).frozen 1
  have f0_2 := (HX0.out.below Bz).frozen 2
  have f0_3 := (HX0.out.below Bz).frozen 3
  have y0 := (HX0.out.below Bz).lt
  go_upto_region 2 with (fail)
  obtain ⟨V1, hW, x, kk, far, bel⟩ := st7_0_4 (.bool s1) (.slice A1 l1 c1) (.bool s1r) (.slice A1r l1r c1r) (HX0.out.below Bz) (fun _ e => by cases e) (fun _ e => by cases e) (fun _ e => by cases e) (fun _ e => by cases e)
  rw [← hW]
  clear hW
  replace h1 := h1.k kk
  replace hB := bel w.heap.size w (by omega) (below_trans hB Bz)
  replace HX1 := Lib.hid (far _ _ _ (by omega) (HX1.out.below Bz))
  replace HX0 := Lib.hid x
  clear x kk far bel Bz
  have Bz := Below.refl V1.heap.size V1
  clear p0_0 p0_1 p0_2 p0_3 f0_0 f0_1 f0_2 f0_3 y0
  have p0_6 := (HX0.out.below Bz).cell 6 (.slice F fl fc) rfl
  have pA0 := cell_al (o := .cells #[] 47) p0_6
  have fx5 : From (V1.alloc (.cells #[] 47)) 2 (.slice F fl fc) fl (ps.map (Value.int .i64)) := ((hf.below (below_trans hB Bz)).below (by go_grown)).from_
  go_wp2_with (at_builtin; refine And.left (b := True) ?_)
  refine ⟨?_, trivial⟩
  refine wpList_append_all (w := V1.alloc (.cells #[] 47)) rfl _ _ 34 rfl V1.heap.size 47 i0 (.agg #[.int .i64 0, .int .i64 0]) 2 16 Tryz.underlying34 hi hz0 hz1 hz2 rfl pair_nou (.slice (some ⟨V1.heap.size, 0, none⟩) 0 0) 0 [] rfl (OwnR.lit0 V1 _ _) (.slice F fl fc) fl (ps.map (Value.int .i64)) rfl fx5 (prs_one ps) (prs_nou ps) (by unfold maxLen; omega) (by omega) (Nat.le_of_lt (Bx.new _ _ _).lt) ?_
  intro v' w5 ho5 hg5
  simp only [Nat.zero_add, List.nil_append] at ho5
  obtain ⟨F5, fc5, rfl, fb5⟩ := ho5.fb
  have fbl := (HX1.out.below Bz).lt
  replace fb5 := fb5.mono (base' := w.heap.size) (by have := hB.size; have := Bz.size; omega)
  have b5 : Below V1.heap.size V1 w5 := (show Below V1.heap.size V1 (V1.alloc (.cells #[] 47)) from by go_grown).trans (hg5.below (by simp) (OwnR.lit0 V1 47 2).base)
  clear ho5 hg5 fx5
  clear pA0
  replace h1 := h1.below b5
  replace Bz := below_trans Bz b5
  clear b5
  clear p0_6
  have p0_6 := (HX0.out.below Bz).cell 6 (.slice F fl fc) rfl
  have f0_6 := (HX0.out.below Bz).frozen 6
  have y0 := (HX0.out.below Bz).lt
  go_upto_region 3 with (fail)
  obtain ⟨V2, hW, x, kk, far, bel⟩ := st7_6_1 (.slice F5 fl fc5) (HX0.out.below Bz) (fun _ e => by cases e)
  rw [← hW]
  clear hW
  replace fb5 := fb5.keep fun _ _ _ hx => far _ _ _ (bx_ne (by decide) hx (HX0.out.below Bz)) hx
  replace h1 := h1.k kk
  replace hB := bel w.heap.size w (by omega) (below_trans hB Bz)
  replace HX1 := Lib.hid (far _ _ _ (by omega) (HX1.out.below Bz))
  replace HX0 := Lib.hid x
  clear x kk far bel Bz
  have Bz := Below.refl V2.heap.size V2
  clear p0_6 f0_6 y0
  have p0_0 := (HX0.out.below Bz).cell 0 (.bool s1) rfl
  have p0_1 := (HX0.out.below Bz).cell 1 (.slice A1 l1 c1) rfl
  have p0_2 := (HX0.out.below Bz).cell 2 (.bool s1r) rfl
  have p0_3 := (HX0.out.below Bz).cell 3 (.slice A1r l1r c1r) rfl
  have p0_4 := (HX0.out.below Bz).cell 4 (.int .i64 dep) rfl
  have p0_5 := (HX0.out.below Bz).cell 5 (.int .i64 num) rfl
  have p0_6 := (HX0.out.below Bz).cell 6 (.slice F5 fl fc5) rfl
  have p1_0 := (HX1.out.below Bz).cell 0 (.bool false) rfl
  have p1_1 := (HX1.out.below Bz).cell 1 (.slice none 0 0) rfl
  have p1_2 := (HX1.out.below Bz).cell 2 (.bool false) rfl
  have p1_3 := (HX1.out.below Bz).cell 3 (.slice none 0 0) rfl
  have p1_4 := (HX1.out.below Bz).cell 4 (.int .i64 0) rfl
  have p1_5 := (HX1.out.below Bz).cell 5 (.int .i64 0) rfl
  have p1_6 := (HX1.out.below Bz).cell 6 (.slice none 0 0) rfl
  have f1_0 := (HX1.out.below Bz).frozen 0
  have f1_1 := (HX1.out.below Bz).frozen 1
  have f1_2 := (HX1.out.below Bz).frozen 2
  have f1_3 := (HX1.out.below Bz).frozen 3
  have f1_4 := (HX1.out.below Bz).frozen 4
  have f1_5 := (HX1.out.below Bz).frozen 5
  have f1_6 := (HX1.out.below Bz).frozen 6
  have y1 := (HX1.out.below Bz).lt
  go_wp2_with fail
  (try simp only [Exit.inBlock, Exit.then])
  refine bodyPost_ret (by simp [results, Tryz.results12, go_sem, p1_0, p1_1, p1_2, p1_3, p1_4, p1_5, p1_6]; try rfl) rfl ?_
  obtain ⟨V3, hW, x, kk, far, bel⟩ := store7 (.bool s1) (.slice A1 l1 c1) (.bool s1r) (.slice A1r l1r c1r) (.int .i64 dep) (.int .i64 num) (.slice F5 fl fc5) (HX1.out.below Bz) (fun _ e => by cases e) (fun _ e => by cases e) (fun _ e => by cases e) (fun _ e => by cases e) (fun _ e => by cases e) (fun _ e => by cases e) (fun _ e => by cases e)
  rw [← hW]
  clear hW
  replace fb5 := fb5.keep fun _ _ _ hx => far _ _ _ (bx_ne (by decide) hx (HX1.out.below Bz)) hx
  replace h1 := h1.k kk
  replace hB := bel w.heap.size w (by omega) (below_trans hB Bz)
  replace HX0 := Lib.hid (far _ _ _ (by omega) (HX0.out.below Bz))
  replace HX1 := Lib.hid x
  clear x kk far bel Bz
  have Bz := Below.refl V3.heap.size V3
  have hF := below_trans (c := V3) hB Bz
  exact ⟨s1, A1, c1, l1, s1r, A1r, c1r, l1r, F5, fc5, rfl, (RN.below h1 (by go_grown)), (Fb.below fb5 (by go_grown)), below_trans hF (by go_grown)⟩
end Go.Proofs.YtihdaemjabhhkaaGreatDoor
