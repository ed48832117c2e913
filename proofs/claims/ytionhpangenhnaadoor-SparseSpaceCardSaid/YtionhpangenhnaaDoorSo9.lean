/-
  SparseSpace: for any three vectors, two numbers and any place that came in, vectors are a vector space; the law answers true. No condition. Written by wip/gen/so9.py.
-/
import Derived.Test.YtionhpangenhnaaDoorSo8
import Derived.Test.YtionhpangenhnaaDoorSr1
import Derived.Test.YtionhpangenhnaaDoorRdV
import Derived.Test.YtionhpangenhnaaDoorZTab
namespace Go.Proofs.YtionhpangenhnaaDoor
open Go.RowKit Tw

theorem tm_lens {w : World} {t : Tm} (h : TmIn w t) : t.x.l ≤ 9223372036854775807 ∧ t.x.l' ≤ 9223372036854775807 := ⟨h.1.1, h.1.2.1⟩
theorem fr_lens {w : World} {x : Fr} (h : FrIn w x) : x.l ≤ 9223372036854775807 ∧ x.l' ≤ 9223372036854775807 := ⟨h.1, h.2.1⟩
theorem wsum_len {L : List Tm} (h : ∀ t ∈ L, dgT t ≤ 4) (a : Int) : wsum L a ≤ 6 * L.length := by
  induction L with
  | nil => exact Nat.le_refl _
  | cons x L ih =>
    have h1 := ih fun t ht => h t (List.mem_cons_of_mem _ ht)
    have h2 := h x List.mem_cons_self
    simp only [wsum, List.length_cons]
    split <;> omega
/-- A small vector that came in. -/
theorem gv_small {w : World} {A : Option Addr} {n c : Nat} {L : List Tm} (h : Sl Tm.cs 5 w A n c L) (hi : ∀ t ∈ L, TmIn w t) (hc : A = none → c = 0) (hs : shortVc 20 4 ⟨A, n, c, L⟩ = true) : GV w A n c (prs L) 120 ∧ n ≤ 20 := by
  unfold shortVc at hs
  simp only [Bool.and_eq_true, decide_eq_true_eq, List.all_eq_true] at hs
  have hd : ∀ t ∈ L, dgT t ≤ 4 := fun t ht => by
    have := hs.2 t ht
    unfold shortFr at this
    simp only [Bool.and_eq_true, decide_eq_true_eq] at this
    unfold dgT
    omega
  refine ⟨⟨L, h, fun t ht => (hi t ht).1.2.2 (dgT t) (by unfold dgT; omega) (by unfold dgT; omega), rfl, fun a => Nat.le_trans (wsum_len hd a) ?_, hc⟩, by omega⟩
  have := h.1
  omega
theorem r_small {w : World} {x : Fr} (h : FrIn w x) (hs : shortFr 4 x = true) : R w x.s x.A x.c x.l x.s' x.A' x.c' x.l' x.q 4 := by
  unfold shortFr at hs
  simp only [Bool.and_eq_true, decide_eq_true_eq] at hs
  exact (h.2.2 4 (by omega) (by omega)).r
set_option maxRecDepth 100000 in
set_option maxHeartbeats 4000000 in
theorem space_0 {w : World} {X Y Z : Option Addr} {nx cx ny cy nz cz : Nat} {LX LY LZ : List Tm} {a b : Fr} {at_ : Int} (hx : Sl Tm.cs 5 w X nx cx LX) (xi : Hid (∀ t ∈ LX, TmIn w t)) (hlx : nx ≤ 9223372036854775807) (_hy : Sl Tm.cs 5 w Y ny cy LY) (_yi : Hid (∀ t ∈ LY, TmIn w t)) (_hly : ny ≤ 9223372036854775807) (_hz : Sl Tm.cs 5 w Z nz cz LZ) (_zi : Hid (∀ t ∈ LZ, TmIn w t)) (_hlz : nz ≤ 9223372036854775807) (_ai : FrIn w a) (_bi : FrIn w b) (S0 : Hid (shortVc 20 4 ⟨X, nx, cx, LX⟩ = false)) (hT : Hid (Tab w)) :
    Calls Tryd.prog 6 #[.slice X nx cx, .slice Y ny cy, .slice Z nz cz, .agg #[.bool a.s, .slice a.A a.l a.c, .bool a.s', .slice a.A' a.l' a.c'], .agg #[.bool b.s, .slice b.A b.l b.c, .bool b.s', .slice b.A' b.l' b.c'], .int .i64 at_] w (Yes w) := by
  obtain ⟨W, hW, x0, x1, hB⟩ := boxes2 w #[.bool a.s, .slice a.A a.l a.c, .bool a.s', .slice a.A' a.l' a.c'] 27 #[.bool b.s, .slice b.A b.l b.c, .bool b.s', .slice b.A' b.l' b.c'] 27
  have HX0 := Lib.hid x0
  have HX1 := Lib.hid x1
  clear x0 x1
  have Bz := Below.refl W.heap.size W
  go_enter Tryd.func6, Tryd.ntmps6
  go_wp2_with fail
  rw [← hW]
  clear hW
  go_wp2_with fail
  with_reducible refine (shortVec_q (hx.below (below_trans hB (below_trans (b := W) Bz (by go_grown)))) (Lib.hid fun t ht => tm_lens (xi.out t ht)) hlx 20 4 false S0).mono ?_
  rintro e w1 ⟨rfl, b1⟩
  replace b1 := below_trans (a := W) (by go_grown) b1
  replace Bz := below_trans Bz b1
  clear b1
  go_wp2_with fail
  with_reducible refine (awake5_q (Lib.hid (Tab.below hT.out (below_trans hB (below_trans (b := w1) Bz (by go_grown)))))).mono ?_
  rintro e w2 ⟨rfl, b2⟩
  replace b2 := below_trans (a := w1) (by go_grown) b2
  replace Bz := below_trans Bz b2
  clear b2
  go_wp2_with fail
  go_ret
  have hF := below_trans (c := w2) hB Bz
  exact ⟨rfl, below_trans hF (by go_grown)⟩
set_option maxRecDepth 100000 in
set_option maxHeartbeats 4000000 in
theorem space_1 {w : World} {X Y Z : Option Addr} {nx cx ny cy nz cz : Nat} {LX LY LZ : List Tm} {a b : Fr} {at_ : Int} (hx : Sl Tm.cs 5 w X nx cx LX) (xi : Hid (∀ t ∈ LX, TmIn w t)) (hlx : nx ≤ 9223372036854775807) (hy : Sl Tm.cs 5 w Y ny cy LY) (yi : Hid (∀ t ∈ LY, TmIn w t)) (hly : ny ≤ 9223372036854775807) (_hz : Sl Tm.cs 5 w Z nz cz LZ) (_zi : Hid (∀ t ∈ LZ, TmIn w t)) (_hlz : nz ≤ 9223372036854775807) (_ai : FrIn w a) (_bi : FrIn w b) (S0 : Hid (shortVc 20 4 ⟨X, nx, cx, LX⟩ = true)) (S1 : Hid (shortVc 20 4 ⟨Y, ny, cy, LY⟩ = false)) (hT : Hid (Tab w)) :
    Calls Tryd.prog 6 #[.slice X nx cx, .slice Y ny cy, .slice Z nz cz, .agg #[.bool a.s, .slice a.A a.l a.c, .bool a.s', .slice a.A' a.l' a.c'], .agg #[.bool b.s, .slice b.A b.l b.c, .bool b.s', .slice b.A' b.l' b.c'], .int .i64 at_] w (Yes w) := by
  obtain ⟨W, hW, x0, x1, hB⟩ := boxes2 w #[.bool a.s, .slice a.A a.l a.c, .bool a.s', .slice a.A' a.l' a.c'] 27 #[.bool b.s, .slice b.A b.l b.c, .bool b.s', .slice b.A' b.l' b.c'] 27
  have HX0 := Lib.hid x0
  have HX1 := Lib.hid x1
  clear x0 x1
  have Bz := Below.refl W.heap.size W
  go_enter Tryd.func6, Tryd.ntmps6
  go_wp2_with fail
  rw [← hW]
  clear hW
  go_wp2_with fail
  with_reducible refine (shortVec_q (hx.below (below_trans hB (below_trans (b := W) Bz (by go_grown)))) (Lib.hid fun t ht => tm_lens (xi.out t ht)) hlx 20 4 true S0).mono ?_
  rintro e w1 ⟨rfl, b1⟩
  replace b1 := below_trans (a := W) (by go_grown) b1
  replace Bz := below_trans Bz b1
  clear b1
  go_wp2_with fail
  with_reducible refine (shortVec_q (hy.below (below_trans hB (below_trans (b := w1) Bz (by go_grown)))) (Lib.hid fun t ht => tm_lens (yi.out t ht)) hly 20 4 false S1).mono ?_
  rintro e w2 ⟨rfl, b2⟩
  replace b2 := below_trans (a := w1) (by go_grown) b2
  replace Bz := below_trans Bz b2
  clear b2
  go_wp2_with fail
  with_reducible refine (awake5_q (Lib.hid (Tab.below hT.out (below_trans hB (below_trans (b := w2) Bz (by go_grown)))))).mono ?_
  rintro e w3 ⟨rfl, b3⟩
  replace b3 := below_trans (a := w2) (by go_grown) b3
  replace Bz := below_trans Bz b3
  clear b3
  go_wp2_with fail
  go_ret
  have hF := below_trans (c := w3) hB Bz
  exact ⟨rfl, below_trans hF (by go_grown)⟩
set_option maxRecDepth 100000 in
set_option maxHeartbeats 4000000 in
theorem space_2 {w : World} {X Y Z : Option Addr} {nx cx ny cy nz cz : Nat} {LX LY LZ : List Tm} {a b : Fr} {at_ : Int} (hx : Sl Tm.cs 5 w X nx cx LX) (xi : Hid (∀ t ∈ LX, TmIn w t)) (hlx : nx ≤ 9223372036854775807) (hy : Sl Tm.cs 5 w Y ny cy LY) (yi : Hid (∀ t ∈ LY, TmIn w t)) (hly : ny ≤ 9223372036854775807) (hz : Sl Tm.cs 5 w Z nz cz LZ) (zi : Hid (∀ t ∈ LZ, TmIn w t)) (hlz : nz ≤ 9223372036854775807) (_ai : FrIn w a) (_bi : FrIn w b) (S0 : Hid (shortVc 20 4 ⟨X, nx, cx, LX⟩ = true)) (S1 : Hid (shortVc 20 4 ⟨Y, ny, cy, LY⟩ = true)) (S2 : Hid (shortVc 20 4 ⟨Z, nz, cz, LZ⟩ = false)) (hT : Hid (Tab w)) :
    Calls Tryd.prog 6 #[.slice X nx cx, .slice Y ny cy, .slice Z nz cz, .agg #[.bool a.s, .slice a.A a.l a.c, .bool a.s', .slice a.A' a.l' a.c'], .agg #[.bool b.s, .slice b.A b.l b.c, .bool b.s', .slice b.A' b.l' b.c'], .int .i64 at_] w (Yes w) := by
  obtain ⟨W, hW, x0, x1, hB⟩ := boxes2 w #[.bool a.s, .slice a.A a.l a.c, .bool a.s', .slice a.A' a.l' a.c'] 27 #[.bool b.s, .slice b.A b.l b.c, .bool b.s', .slice b.A' b.l' b.c'] 27
  have HX0 := Lib.hid x0
  have HX1 := Lib.hid x1
  clear x0 x1
  have Bz := Below.refl W.heap.size W
  go_enter Tryd.func6, Tryd.ntmps6
  go_wp2_with fail
  rw [← hW]
  clear hW
  go_wp2_with fail
  with_reducible refine (shortVec_q (hx.below (below_trans hB (below_trans (b := W) Bz (by go_grown)))) (Lib.hid fun t ht => tm_lens (xi.out t ht)) hlx 20 4 true S0).mono ?_
  rintro e w1 ⟨rfl, b1⟩
  replace b1 := below_trans (a := W) (by go_grown) b1
  replace Bz := below_trans Bz b1
  clear b1
  go_wp2_with fail
  with_reducible refine (shortVec_q (hy.below (below_trans hB (below_trans (b := w1) Bz (by go_grown)))) (Lib.hid fun t ht => tm_lens (yi.out t ht)) hly 20 4 true S1).mono ?_
  rintro e w2 ⟨rfl, b2⟩
  replace b2 := below_trans (a := w1) (by go_grown) b2
  replace Bz := below_trans Bz b2
  clear b2
  go_wp2_with fail
  with_reducible refine (shortVec_q (hz.below (below_trans hB (below_trans (b := w2) Bz (by go_grown)))) (Lib.hid fun t ht => tm_lens (zi.out t ht)) hlz 20 4 false S2).mono ?_
  rintro e w3 ⟨rfl, b3⟩
  replace b3 := below_trans (a := w2) (by go_grown) b3
  replace Bz := below_trans Bz b3
  clear b3
  go_wp2_with fail
  with_reducible refine (awake5_q (Lib.hid (Tab.below hT.out (below_trans hB (below_trans (b := w3) Bz (by go_grown)))))).mono ?_
  rintro e w4 ⟨rfl, b4⟩
  replace b4 := below_trans (a := w3) (by go_grown) b4
  replace Bz := below_trans Bz b4
  clear b4
  go_wp2_with fail
  go_ret
  have hF := below_trans (c := w4) hB Bz
  exact ⟨rfl, below_trans hF (by go_grown)⟩
set_option maxRecDepth 100000 in
set_option maxHeartbeats 4000000 in
theorem space_3 {w : World} {X Y Z : Option Addr} {nx cx ny cy nz cz : Nat} {LX LY LZ : List Tm} {a b : Fr} {at_ : Int} (hx : Sl Tm.cs 5 w X nx cx LX) (xi : Hid (∀ t ∈ LX, TmIn w t)) (hlx : nx ≤ 9223372036854775807) (hy : Sl Tm.cs 5 w Y ny cy LY) (yi : Hid (∀ t ∈ LY, TmIn w t)) (hly : ny ≤ 9223372036854775807) (hz : Sl Tm.cs 5 w Z nz cz LZ) (zi : Hid (∀ t ∈ LZ, TmIn w t)) (hlz : nz ≤ 9223372036854775807) (ai : FrIn w a) (_bi : FrIn w b) (S0 : Hid (shortVc 20 4 ⟨X, nx, cx, LX⟩ = true)) (S1 : Hid (shortVc 20 4 ⟨Y, ny, cy, LY⟩ = true)) (S2 : Hid (shortVc 20 4 ⟨Z, nz, cz, LZ⟩ = true)) (S3 : Hid (shortFr 4 a = false)) (hT : Hid (Tab w)) :
    Calls Tryd.prog 6 #[.slice X nx cx, .slice Y ny cy, .slice Z nz cz, .agg #[.bool a.s, .slice a.A a.l a.c, .bool a.s', .slice a.A' a.l' a.c'], .agg #[.bool b.s, .slice b.A b.l b.c, .bool b.s', .slice b.A' b.l' b.c'], .int .i64 at_] w (Yes w) := by
  obtain ⟨W, hW, x0, x1, hB⟩ := boxes2 w #[.bool a.s, .slice a.A a.l a.c, .bool a.s', .slice a.A' a.l' a.c'] 27 #[.bool b.s, .slice b.A b.l b.c, .bool b.s', .slice b.A' b.l' b.c'] 27
  have HX0 := Lib.hid x0
  have HX1 := Lib.hid x1
  clear x0 x1
  have Bz := Below.refl W.heap.size W
  go_enter Tryd.func6, Tryd.ntmps6
  go_wp2_with fail
  rw [← hW]
  clear hW
  go_wp2_with fail
  with_reducible refine (shortVec_q (hx.below (below_trans hB (below_trans (b := W) Bz (by go_grown)))) (Lib.hid fun t ht => tm_lens (xi.out t ht)) hlx 20 4 true S0).mono ?_
  rintro e w1 ⟨rfl, b1⟩
  replace b1 := below_trans (a := W) (by go_grown) b1
  replace Bz := below_trans Bz b1
  clear b1
  go_wp2_with fail
  with_reducible refine (shortVec_q (hy.below (below_trans hB (below_trans (b := w1) Bz (by go_grown)))) (Lib.hid fun t ht => tm_lens (yi.out t ht)) hly 20 4 true S1).mono ?_
  rintro e w2 ⟨rfl, b2⟩
  replace b2 := below_trans (a := w1) (by go_grown) b2
  replace Bz := below_trans Bz b2
  clear b2
  go_wp2_with fail
  with_reducible refine (shortVec_q (hz.below (below_trans hB (below_trans (b := w2) Bz (by go_grown)))) (Lib.hid fun t ht => tm_lens (zi.out t ht)) hlz 20 4 true S2).mono ?_
  rintro e w3 ⟨rfl, b3⟩
  replace b3 := below_trans (a := w2) (by go_grown) b3
  replace Bz := below_trans Bz b3
  clear b3
  have p0_0 := (HX0.out.below Bz).cell 0 (.bool a.s) rfl
  have p0_1 := (HX0.out.below Bz).cell 1 (.slice a.A a.l a.c) rfl
  have p0_2 := (HX0.out.below Bz).cell 2 (.bool a.s') rfl
  have p0_3 := (HX0.out.below Bz).cell 3 (.slice a.A' a.l' a.c') rfl
  go_wp2_with fail
  with_reducible refine (shortRat_q a 4 (fr_lens ai) false S3).mono ?_
  rintro e w4 ⟨rfl, b4⟩
  replace b4 := below_trans (a := w3) (by go_grown) b4
  replace Bz := below_trans Bz b4
  clear b4
  clear p0_0 p0_1 p0_2 p0_3
  go_wp2_with fail
  with_reducible refine (awake5_q (Lib.hid (Tab.below hT.out (below_trans hB (below_trans (b := w4) Bz (by go_grown)))))).mono ?_
  rintro e w5 ⟨rfl, b5⟩
  replace b5 := below_trans (a := w4) (by go_grown) b5
  replace Bz := below_trans Bz b5
  clear b5
  go_wp2_with fail
  go_ret
  have hF := below_trans (c := w5) hB Bz
  exact ⟨rfl, below_trans hF (by go_grown)⟩
set_option maxRecDepth 100000 in
set_option maxHeartbeats 4000000 in
theorem space_4 {w : World} {X Y Z : Option Addr} {nx cx ny cy nz cz : Nat} {LX LY LZ : List Tm} {a b : Fr} {at_ : Int} (hx : Sl Tm.cs 5 w X nx cx LX) (xi : Hid (∀ t ∈ LX, TmIn w t)) (hlx : nx ≤ 9223372036854775807) (hy : Sl Tm.cs 5 w Y ny cy LY) (yi : Hid (∀ t ∈ LY, TmIn w t)) (hly : ny ≤ 9223372036854775807) (hz : Sl Tm.cs 5 w Z nz cz LZ) (zi : Hid (∀ t ∈ LZ, TmIn w t)) (hlz : nz ≤ 9223372036854775807) (ai : FrIn w a) (bi : FrIn w b) (S0 : Hid (shortVc 20 4 ⟨X, nx, cx, LX⟩ = true)) (S1 : Hid (shortVc 20 4 ⟨Y, ny, cy, LY⟩ = true)) (S2 : Hid (shortVc 20 4 ⟨Z, nz, cz, LZ⟩ = true)) (S3 : Hid (shortFr 4 a = true)) (S4 : Hid (shortFr 4 b = false)) (hT : Hid (Tab w)) :
    Calls Tryd.prog 6 #[.slice X nx cx, .slice Y ny cy, .slice Z nz cz, .agg #[.bool a.s, .slice a.A a.l a.c, .bool a.s', .slice a.A' a.l' a.c'], .agg #[.bool b.s, .slice b.A b.l b.c, .bool b.s', .slice b.A' b.l' b.c'], .int .i64 at_] w (Yes w) := by
  obtain ⟨W, hW, x0, x1, hB⟩ := boxes2 w #[.bool a.s, .slice a.A a.l a.c, .bool a.s', .slice a.A' a.l' a.c'] 27 #[.bool b.s, .slice b.A b.l b.c, .bool b.s', .slice b.A' b.l' b.c'] 27
  have HX0 := Lib.hid x0
  have HX1 := Lib.hid x1
  clear x0 x1
  have Bz := Below.refl W.heap.size W
  go_enter Tryd.func6, Tryd.ntmps6
  go_wp2_with fail
  rw [← hW]
  clear hW
  go_wp2_with fail
  with_reducible refine (shortVec_q (hx.below (below_trans hB (below_trans (b := W) Bz (by go_grown)))) (Lib.hid fun t ht => tm_lens (xi.out t ht)) hlx 20 4 true S0).mono ?_
  rintro e w1 ⟨rfl, b1⟩
  replace b1 := below_trans (a := W) (by go_grown) b1
  replace Bz := below_trans Bz b1
  clear b1
  go_wp2_with fail
  with_reducible refine (shortVec_q (hy.below (below_trans hB (below_trans (b := w1) Bz (by go_grown)))) (Lib.hid fun t ht => tm_lens (yi.out t ht)) hly 20 4 true S1).mono ?_
  rintro e w2 ⟨rfl, b2⟩
  replace b2 := below_trans (a := w1) (by go_grown) b2
  replace Bz := below_trans Bz b2
  clear b2
  go_wp2_with fail
  with_reducible refine (shortVec_q (hz.below (below_trans hB (below_trans (b := w2) Bz (by go_grown)))) (Lib.hid fun t ht => tm_lens (zi.out t ht)) hlz 20 4 true S2).mono ?_
  rintro e w3 ⟨rfl, b3⟩
  replace b3 := below_trans (a := w2) (by go_grown) b3
  replace Bz := below_trans Bz b3
  clear b3
  have p0_0 := (HX0.out.below Bz).cell 0 (.bool a.s) rfl
  have p0_1 := (HX0.out.below Bz).cell 1 (.slice a.A a.l a.c) rfl
  have p0_2 := (HX0.out.below Bz).cell 2 (.bool a.s') rfl
  have p0_3 := (HX0.out.below Bz).cell 3 (.slice a.A' a.l' a.c') rfl
  go_wp2_with fail
  with_reducible refine (shortRat_q a 4 (fr_lens ai) true S3).mono ?_
  rintro e w4 ⟨rfl, b4⟩
  replace b4 := below_trans (a := w3) (by go_grown) b4
  replace Bz := below_trans Bz b4
  clear b4
  clear p0_0 p0_1 p0_2 p0_3
  have p1_0 := (HX1.out.below Bz).cell 0 (.bool b.s) rfl
  have p1_1 := (HX1.out.below Bz).cell 1 (.slice b.A b.l b.c) rfl
  have p1_2 := (HX1.out.below Bz).cell 2 (.bool b.s') rfl
  have p1_3 := (HX1.out.below Bz).cell 3 (.slice b.A' b.l' b.c') rfl
  go_wp2_with fail
  with_reducible refine (shortRat_q b 4 (fr_lens bi) false S4).mono ?_
  rintro e w5 ⟨rfl, b5⟩
  replace b5 := below_trans (a := w4) (by go_grown) b5
  replace Bz := below_trans Bz b5
  clear b5
  clear p1_0 p1_1 p1_2 p1_3
  go_wp2_with fail
  with_reducible refine (awake5_q (Lib.hid (Tab.below hT.out (below_trans hB (below_trans (b := w5) Bz (by go_grown)))))).mono ?_
  rintro e w6 ⟨rfl, b6⟩
  replace b6 := below_trans (a := w5) (by go_grown) b6
  replace Bz := below_trans Bz b6
  clear b6
  go_wp2_with fail
  go_ret
  have hF := below_trans (c := w6) hB Bz
  exact ⟨rfl, below_trans hF (by go_grown)⟩
set_option maxRecDepth 100000 in
set_option maxHeartbeats 16000000 in
theorem space_ok {w : World} {X Y Z : Option Addr} {nx cx ny cy nz cz : Nat} {LX LY LZ : List Tm} {a b : Fr} {at_ : Int} (hx : Sl Tm.cs 5 w X nx cx LX) (xi : Hid (∀ t ∈ LX, TmIn w t)) (hlx : nx ≤ 9223372036854775807) (hy : Sl Tm.cs 5 w Y ny cy LY) (yi : Hid (∀ t ∈ LY, TmIn w t)) (hly : ny ≤ 9223372036854775807) (hz : Sl Tm.cs 5 w Z nz cz LZ) (zi : Hid (∀ t ∈ LZ, TmIn w t)) (hlz : nz ≤ 9223372036854775807) (ai : FrIn w a) (bi : FrIn w b) (S0 : Hid (shortVc 20 4 ⟨X, nx, cx, LX⟩ = true)) (S1 : Hid (shortVc 20 4 ⟨Y, ny, cy, LY⟩ = true)) (S2 : Hid (shortVc 20 4 ⟨Z, nz, cz, LZ⟩ = true)) (S3 : Hid (shortFr 4 a = true)) (S4 : Hid (shortFr 4 b = true)) (xc : X = none → cx = 0) (yc : Y = none → cy = 0) (zc : Z = none → cz = 0) (hT : Hid (Tab w)) :
    Calls Tryd.prog 6 #[.slice X nx cx, .slice Y ny cy, .slice Z nz cz, .agg #[.bool a.s, .slice a.A a.l a.c, .bool a.s', .slice a.A' a.l' a.c'], .agg #[.bool b.s, .slice b.A b.l b.c, .bool b.s', .slice b.A' b.l' b.c'], .int .i64 at_] w (Yes w) := by
  obtain ⟨gx, hnx⟩ := gv_small hx xi.out xc S0.out
  obtain ⟨gy, hny⟩ := gv_small hy yi.out yc S1.out
  obtain ⟨gz, hnz⟩ := gv_small hz zi.out zc S2.out
  have ha := r_small ai S3.out
  have hb := r_small bi S4.out
  have hsa : sz a.q ≤ 4 := Nat.le_trans ha.sz (by decide)
  have hsb : sz b.q ≤ 4 := Nat.le_trans hb.sz (by decide)
  obtain ⟨r, HR⟩ : ∃ r, Hid (decide (nrm (prs LX) = nrm (prs LY)) = r) := ⟨_, Lib.hid rfl⟩
  have grr : (r == r) = true := by simp
  obtain ⟨W, hW, x0, x1, hB⟩ := boxes2 w #[.bool a.s, .slice a.A a.l a.c, .bool a.s', .slice a.A' a.l' a.c'] 27 #[.bool b.s, .slice b.A b.l b.c, .bool b.s', .slice b.A' b.l' b.c'] 27
  replace ha := ha.below hB
  replace hb := hb.below hB
  replace gx := gx.below hB
  replace gy := gy.below hB
  replace gz := gz.below hB
  have HX0 := Lib.hid x0
  have HX1 := Lib.hid x1
  clear x0 x1
  have Bz := Below.refl W.heap.size W
  go_enter Tryd.func6, Tryd.ntmps6
  go_wp2_with fail
  rw [← hW]
  clear hW
  go_wp2_with fail
  with_reducible refine (shortVec_q (hx.below (below_trans hB (below_trans (b := W) Bz (by go_grown)))) (Lib.hid fun t ht => tm_lens (xi.out t ht)) hlx 20 4 true S0).mono ?_
  rintro e w1 ⟨rfl, b1⟩
  replace b1 := below_trans (a := W) (by go_grown) b1
  replace ha := ha.below b1
  replace hb := hb.below b1
  replace gx := gx.below b1
  replace gy := gy.below b1
  replace gz := gz.below b1
  replace Bz := below_trans Bz b1
  clear b1
  go_wp2_with fail
  with_reducible refine (shortVec_q (hy.below (below_trans hB (below_trans (b := w1) Bz (by go_grown)))) (Lib.hid fun t ht => tm_lens (yi.out t ht)) hly 20 4 true S1).mono ?_
  rintro e w2 ⟨rfl, b2⟩
  replace b2 := below_trans (a := w1) (by go_grown) b2
  replace ha := ha.below b2
  replace hb := hb.below b2
  replace gx := gx.below b2
  replace gy := gy.below b2
  replace gz := gz.below b2
  replace Bz := below_trans Bz b2
  clear b2
  go_wp2_with fail
  with_reducible refine (shortVec_q (hz.below (below_trans hB (below_trans (b := w2) Bz (by go_grown)))) (Lib.hid fun t ht => tm_lens (zi.out t ht)) hlz 20 4 true S2).mono ?_
  rintro e w3 ⟨rfl, b3⟩
  replace b3 := below_trans (a := w2) (by go_grown) b3
  replace ha := ha.below b3
  replace hb := hb.below b3
  replace gx := gx.below b3
  replace gy := gy.below b3
  replace gz := gz.below b3
  replace Bz := below_trans Bz b3
  clear b3
  have p0_0 := (HX0.out.below Bz).cell 0 (.bool a.s) rfl
  have p0_1 := (HX0.out.below Bz).cell 1 (.slice a.A a.l a.c) rfl
  have p0_2 := (HX0.out.below Bz).cell 2 (.bool a.s') rfl
  have p0_3 := (HX0.out.below Bz).cell 3 (.slice a.A' a.l' a.c') rfl
  go_wp2_with fail
  with_reducible refine (shortRat_q a 4 (fr_lens ai) true S3).mono ?_
  rintro e w4 ⟨rfl, b4⟩
  replace b4 := below_trans (a := w3) (by go_grown) b4
  replace ha := ha.below b4
  replace hb := hb.below b4
  replace gx := gx.below b4
  replace gy := gy.below b4
  replace gz := gz.below b4
  replace Bz := below_trans Bz b4
  clear b4
  clear p0_0 p0_1 p0_2 p0_3
  have p1_0 := (HX1.out.below Bz).cell 0 (.bool b.s) rfl
  have p1_1 := (HX1.out.below Bz).cell 1 (.slice b.A b.l b.c) rfl
  have p1_2 := (HX1.out.below Bz).cell 2 (.bool b.s') rfl
  have p1_3 := (HX1.out.below Bz).cell 3 (.slice b.A' b.l' b.c') rfl
  go_wp2_with fail
  with_reducible refine (shortRat_q b 4 (fr_lens bi) true S4).mono ?_
  rintro e w5 ⟨rfl, b5⟩
  replace b5 := below_trans (a := w4) (by go_grown) b5
  replace ha := ha.below b5
  replace hb := hb.below b5
  replace gx := gx.below b5
  replace gy := gy.below b5
  replace gz := gz.below b5
  replace Bz := below_trans Bz b5
  clear b5
  clear p1_0 p1_1 p1_2 p1_3
  go_wp2_with fail
  with_reducible refine (addW 120 120 20 20 240 40 (GV.below gx (by go_grown)) (GV.below gy (by go_grown)) hnx hny (by decide) (by decide) (by decide) (by decide) (Lib.hid (Tab.below hT.out (below_trans hB (below_trans (b := w5) Bz (by go_grown)))))).mono ?_
  rintro e w6 ⟨A6, n6, c6, rfl, h6, l6, b6⟩
  replace b6 := below_trans (a := w5) (by go_grown) b6
  replace ha := ha.below b6
  replace hb := hb.below b6
  replace gx := gx.below b6
  replace gy := gy.below b6
  replace gz := gz.below b6
  replace Bz := below_trans Bz b6
  clear b6
  go_wp2_with fail
  with_reducible refine (addW 120 120 20 20 240 40 (GV.below gy (by go_grown)) (GV.below gx (by go_grown)) hny hnx (by decide) (by decide) (by decide) (by decide) (Lib.hid (Tab.below hT.out (below_trans hB (below_trans (b := w6) Bz (by go_grown)))))).mono ?_
  rintro e w7 ⟨A7, n7, c7, rfl, h7, l7, b7⟩
  replace b7 := below_trans (a := w6) (by go_grown) b7
  replace ha := ha.below b7
  replace hb := hb.below b7
  replace h6 := h6.below b7
  replace gx := gx.below b7
  replace gy := gy.below b7
  replace gz := gz.below b7
  replace Bz := below_trans Bz b7
  clear b7
  go_wp2_with fail
  with_reducible refine (sameVec_q (NV.below h6 (by go_grown)) (NV.below h7 (by go_grown)) (by decide) (by decide) (by omega) (by omega) true (Lib.hid (decide_eq_true (sp1 _ _)))).mono ?_
  rintro e w8 ⟨rfl, b8⟩
  replace b8 := below_trans (a := w7) (by go_grown) b8
  replace ha := ha.below b8
  replace hb := hb.below b8
  replace gx := gx.below b8
  replace gy := gy.below b8
  replace gz := gz.below b8
  replace Bz := below_trans Bz b8
  clear b8
  go_wp2_with fail
  with_reducible refine (addW 120 120 20 20 240 40 (GV.below gx (by go_grown)) (GV.below gy (by go_grown)) hnx hny (by decide) (by decide) (by decide) (by decide) (Lib.hid (Tab.below hT.out (below_trans hB (below_trans (b := w8) Bz (by go_grown)))))).mono ?_
  rintro e w9 ⟨A9, n9, c9, rfl, h9, l9, b9⟩
  replace b9 := below_trans (a := w8) (by go_grown) b9
  replace ha := ha.below b9
  replace hb := hb.below b9
  replace gx := gx.below b9
  replace gy := gy.below b9
  replace gz := gz.below b9
  replace Bz := below_trans Bz b9
  clear b9
  go_wp2_with fail
  with_reducible refine (addW 241 120 40 20 361 60 ((NV.below h9 (by go_grown)).gv (nrm_nrm _).rise) (GV.below gz (by go_grown)) l9 hnz (by decide) (by decide) (by decide) (by decide) (Lib.hid (Tab.below hT.out (below_trans hB (below_trans (b := w9) Bz (by go_grown)))))).mono ?_
  rintro e w10 ⟨A10, n10, c10, rfl, h10, l10, b10⟩
  replace b10 := below_trans (a := w9) (by go_grown) b10
  replace ha := ha.below b10
  replace hb := hb.below b10
  replace gx := gx.below b10
  replace gy := gy.below b10
  replace gz := gz.below b10
  replace Bz := below_trans Bz b10
  clear b10
  go_wp2_with fail
  with_reducible refine (addW 120 120 20 20 240 40 (GV.below gy (by go_grown)) (GV.below gz (by go_grown)) hny hnz (by decide) (by decide) (by decide) (by decide) (Lib.hid (Tab.below hT.out (below_trans hB (below_trans (b := w10) Bz (by go_grown)))))).mono ?_
  rintro e w11 ⟨A11, n11, c11, rfl, h11, l11, b11⟩
  replace b11 := below_trans (a := w10) (by go_grown) b11
  replace ha := ha.below b11
  replace hb := hb.below b11
  replace h10 := h10.below b11
  replace gx := gx.below b11
  replace gy := gy.below b11
  replace gz := gz.below b11
  replace Bz := below_trans Bz b11
  clear b11
  go_wp2_with fail
  with_reducible refine (addW 120 241 20 40 361 60 (GV.below gx (by go_grown)) ((NV.below h11 (by go_grown)).gv (nrm_nrm _).rise) hnx l11 (by decide) (by decide) (by decide) (by decide) (Lib.hid (Tab.below hT.out (below_trans hB (below_trans (b := w11) Bz (by go_grown)))))).mono ?_
  rintro e w12 ⟨A12, n12, c12, rfl, h12, l12, b12⟩
  replace b12 := below_trans (a := w11) (by go_grown) b12
  replace ha := ha.below b12
  replace hb := hb.below b12
  replace h10 := h10.below b12
  replace gx := gx.below b12
  replace gy := gy.below b12
  replace gz := gz.below b12
  replace Bz := below_trans Bz b12
  clear b12
  go_wp2_with fail
  with_reducible refine (sameVec_q (NV.below h10 (by go_grown)) (NV.below h12 (by go_grown)) (by decide) (by decide) (by omega) (by omega) true (Lib.hid (decide_eq_true (sp2 _ _ _)))).mono ?_
  rintro e w13 ⟨rfl, b13⟩
  replace b13 := below_trans (a := w12) (by go_grown) b13
  replace ha := ha.below b13
  replace hb := hb.below b13
  replace gx := gx.below b13
  replace gy := gy.below b13
  replace gz := gz.below b13
  replace Bz := below_trans Bz b13
  clear b13
  go_wp2_with fail
  with_reducible refine (of_q (-1) 1 (Lib.hid (by omega)) (Lib.hid (by omega)) (Lib.hid (Tab.below hT.out (below_trans hB (below_trans (b := w13) Bz (by go_grown)))))).mono ?_
  rintro e w14 ⟨s14, A14, c14, l14, s14r, A14r, c14r, l14r, rfl, h14, b14⟩
  replace b14 := below_trans (a := w13) (by go_grown) b14
  replace ha := ha.below b14
  replace hb := hb.below b14
  replace gx := gx.below b14
  replace gy := gy.below b14
  replace gz := gz.below b14
  replace Bz := below_trans Bz b14
  clear b14
  have z14 : sz (qof (-1) 1) ≤ 1 := sz_one (by decide) (by decide) (by decide)
  go_wp2_with fail
  with_reducible refine (axpyW 1 120 120 20 20 244 40 (GV.below gx (by go_grown)) (R.mono (R.below h14.r (by go_grown)) z14) (GV.below gx (by go_grown)) hnx hnx (by decide) (by decide) (by decide) (by decide) (Lib.hid (Tab.below hT.out (below_trans hB (below_trans (b := w14) Bz (by go_grown)))))).mono ?_
  rintro e w15 ⟨A15, n15, c15, rfl, h15, l15, b15⟩
  replace b15 := below_trans (a := w14) (by go_grown) b15
  replace ha := ha.below b15
  replace hb := hb.below b15
  replace gx := gx.below b15
  replace gy := gy.below b15
  replace gz := gz.below b15
  replace Bz := below_trans Bz b15
  clear b15
  obtain rfl : n15 = 0 := by have h0 := h15.len; rw [sp3] at h0; exact h0.symm
  go_wp2_with fail
  with_reducible refine (addW 120 120 20 20 240 40 (GV.below gx (by go_grown)) (GV.below gy (by go_grown)) hnx hny (by decide) (by decide) (by decide) (by decide) (Lib.hid (Tab.below hT.out (below_trans hB (below_trans (b := w15) Bz (by go_grown)))))).mono ?_
  rintro e w16 ⟨A16, n16, c16, rfl, h16, l16, b16⟩
  replace b16 := below_trans (a := w15) (by go_grown) b16
  replace ha := ha.below b16
  replace hb := hb.below b16
  replace gx := gx.below b16
  replace gy := gy.below b16
  replace gz := gz.below b16
  replace Bz := below_trans Bz b16
  clear b16
  go_wp2_with fail
  with_reducible refine (of_q (-1) 1 (Lib.hid (by omega)) (Lib.hid (by omega)) (Lib.hid (Tab.below hT.out (below_trans hB (below_trans (b := w16) Bz (by go_grown)))))).mono ?_
  rintro e w17 ⟨s17, A17, c17, l17, s17r, A17r, c17r, l17r, rfl, h17, b17⟩
  replace b17 := below_trans (a := w16) (by go_grown) b17
  replace ha := ha.below b17
  replace hb := hb.below b17
  replace h16 := h16.below b17
  replace gx := gx.below b17
  replace gy := gy.below b17
  replace gz := gz.below b17
  replace Bz := below_trans Bz b17
  clear b17
  have z17 : sz (qof (-1) 1) ≤ 1 := sz_one (by decide) (by decide) (by decide)
  go_wp2_with fail
  with_reducible refine (axpyW 1 120 241 20 40 365 60 ((NV.below h16 (by go_grown)).gv (nrm_nrm _).rise) (R.mono (R.below h17.r (by go_grown)) z17) (GV.below gy (by go_grown)) l16 hny (by decide) (by decide) (by decide) (by decide) (Lib.hid (Tab.below hT.out (below_trans hB (below_trans (b := w17) Bz (by go_grown)))))).mono ?_
  rintro e w18 ⟨A18, n18, c18, rfl, h18, l18, b18⟩
  replace b18 := below_trans (a := w17) (by go_grown) b18
  replace ha := ha.below b18
  replace hb := hb.below b18
  replace gx := gx.below b18
  replace gy := gy.below b18
  replace gz := gz.below b18
  replace Bz := below_trans Bz b18
  clear b18
  go_wp2_with fail
  with_reducible refine (normW 120 20 (GV.below gx (by go_grown)) hnx (by decide) (by decide) (Lib.hid (Tab.below hT.out (below_trans hB (below_trans (b := w18) Bz (by go_grown)))))).mono ?_
  rintro e w19 ⟨A19, n19, c19, rfl, h19, l19, b19⟩
  replace b19 := below_trans (a := w18) (by go_grown) b19
  replace ha := ha.below b19
  replace hb := hb.below b19
  replace h18 := h18.below b19
  replace gx := gx.below b19
  replace gy := gy.below b19
  replace gz := gz.below b19
  replace Bz := below_trans Bz b19
  clear b19
  go_wp2_with fail
  with_reducible refine (sameVec_q (NV.below h18 (by go_grown)) (NV.below h19 (by go_grown)) (by decide) (by decide) (by omega) (by omega) true (Lib.hid (decide_eq_true (sp4 _ _)))).mono ?_
  rintro e w20 ⟨rfl, b20⟩
  replace b20 := below_trans (a := w19) (by go_grown) b20
  replace ha := ha.below b20
  replace hb := hb.below b20
  replace gx := gx.below b20
  replace gy := gy.below b20
  replace gz := gz.below b20
  replace Bz := below_trans Bz b20
  clear b20
  have p0_0 := (HX0.out.below Bz).cell 0 (.bool a.s) rfl
  have p0_1 := (HX0.out.below Bz).cell 1 (.slice a.A a.l a.c) rfl
  have p0_2 := (HX0.out.below Bz).cell 2 (.bool a.s') rfl
  have p0_3 := (HX0.out.below Bz).cell 3 (.slice a.A' a.l' a.c') rfl
  have p1_0 := (HX1.out.below Bz).cell 0 (.bool b.s) rfl
  have p1_1 := (HX1.out.below Bz).cell 1 (.slice b.A b.l b.c) rfl
  have p1_2 := (HX1.out.below Bz).cell 2 (.bool b.s') rfl
  have p1_3 := (HX1.out.below Bz).cell 3 (.slice b.A' b.l' b.c') rfl
  go_wp2_with fail
  (try simp only [List.append_eq, List.cons_append, List.nil_append])
  refine wp_region_plan (.pure 0 (.take 1 (.pure 2 (.pure 3 (.take 6 (.pure 7 (.take 9 (.pure 10 (.only 4 (.only 5 (.only 8 (.only 11 (.only 12 (.only 13 (.pure 14 (.pure 15 (.take 16 (.take 17 (.pure 19 (.take 21 (.pure 22 (.take 24 (.pure 25 (.only 18 (.only 20 (.only 23 (.only 26 (.only 27 (.only 28 (.pure 29 (.pure 30 (.pure 31 (.take 32 (.take 33 (.pure 35 (.take 37 (.take 38 (.pure 39 (.only 34 (.only 36 (.only 40 (.only 41 (.only 42 (.pure 43 (.pure 44 (.pure 45 (.pure 46 (.take 47 (.pure 48 (.pure 50 (.take 51 (.pure 52 (.only 49 (.only 53 (.only 54 (.only 55 (.pure 56 (.pure 57 .done)))))))))))))))))))))))))))))))))))))))))))))))))))))))))) [] (fun w' => w'.cell? ⟨w.heap.size, 0, none⟩ = some (.bool a.s) ∧ w'.cell? ⟨w.heap.size, 1, none⟩ = some (.slice a.A a.l a.c) ∧ w'.cell? ⟨w.heap.size, 2, none⟩ = some (.bool a.s') ∧ w'.cell? ⟨w.heap.size, 3, none⟩ = some (.slice a.A' a.l' a.c') ∧ w'.cell? ⟨w.heap.size + 1, 0, none⟩ = some (.bool b.s) ∧ w'.cell? ⟨w.heap.size + 1, 1, none⟩ = some (.slice b.A b.l b.c) ∧ w'.cell? ⟨w.heap.size + 1, 2, none⟩ = some (.bool b.s') ∧ w'.cell? ⟨w.heap.size + 1, 3, none⟩ = some (.slice b.A' b.l' b.c')) (by kernel_rfl) (by kernel_rfl) ⟨p0_0, p0_1, p0_2, p0_3, p1_0, p1_1, p1_2, p1_3⟩ ?_
  refine wpPlan_pure (o := ⟨some 84, _, _, _, _, _⟩) (v := ?_) rfl rfl (fun w' => ?_) ?_
  rotate_left
  · go_simp <;> with_reducible rfl
  try simp only [pUt, pLt, pZt, pSt]
  refine wpPlan_take (o := ⟨some 85, _, _, _, _, _⟩) (v := ?_) rfl rfl (fun w' hS => ?_) ?_
  rotate_left
  · obtain ⟨p0_0, p0_1, p0_2, p0_3, p1_0, p1_1, p1_2, p1_3⟩ := hS; go_simp <;> with_reducible rfl
  try simp only [pUt, pLt, pZt, pSt]
  refine wpPlan_pure (o := ⟨some 86, _, _, _, _, _⟩) (v := ?_) rfl rfl (fun w' => ?_) ?_
  rotate_left
  · go_simp <;> with_reducible rfl
  try simp only [pUt, pLt, pZt, pSt]
  refine wpPlan_pure (o := ⟨some 87, _, _, _, _, _⟩) (v := ?_) rfl rfl (fun w' => ?_) ?_
  rotate_left
  · go_simp <;> with_reducible rfl
  try simp only [pUt, pLt, pZt, pSt]
  refine wpPlan_take (o := ⟨some 90, _, _, _, _, _⟩) (v := ?_) rfl rfl (fun w' hS => ?_) ?_
  rotate_left
  · obtain ⟨p0_0, p0_1, p0_2, p0_3, p1_0, p1_1, p1_2, p1_3⟩ := hS; go_simp <;> with_reducible rfl
  try simp only [pUt, pLt, pZt, pSt]
  refine wpPlan_pure (o := ⟨some 91, _, _, _, _, _⟩) (v := ?_) rfl rfl (fun w' => ?_) ?_
  rotate_left
  · go_simp <;> with_reducible rfl
  try simp only [pUt, pLt, pZt, pSt]
  refine wpPlan_take (o := ⟨some 93, _, _, _, _, _⟩) (v := ?_) rfl rfl (fun w' hS => ?_) ?_
  rotate_left
  · obtain ⟨p0_0, p0_1, p0_2, p0_3, p1_0, p1_1, p1_2, p1_3⟩ := hS; go_simp <;> with_reducible rfl
  try simp only [pUt, pLt, pZt, pSt]
  refine wpPlan_pure (o := ⟨some 94, _, _, _, _, _⟩) (v := ?_) rfl rfl (fun w' => ?_) ?_
  rotate_left
  · go_simp <;> with_reducible rfl
  try simp only [pUt, pLt, pZt, pSt]
  refine wpPlan_call (o := ⟨some 88, _, _, _, _, _⟩) rfl rfl (fun K hK => ?_)
  go_simp
  with_reducible refine (addW 120 120 20 20 240 40 (GV.below gx (by go_grown)) (GV.below gy (by go_grown)) hnx hny (by decide) (by decide) (by decide) (by decide) (Lib.hid (Tab.below hT.out (below_trans hB (below_trans (b := w20) Bz (by go_grown)))))).mono ?_
  rintro e w21 ⟨A21, n21, c21, rfl, h21, l21, b21⟩
  replace b21 := below_trans (a := w20) (by go_grown) b21
  replace ha := ha.below b21
  replace hb := hb.below b21
  replace gx := gx.below b21
  replace gy := gy.below b21
  replace gz := gz.below b21
  replace Bz := below_trans Bz b21
  clear b21
  clear p0_0 p0_1 p0_2 p0_3 p1_0 p1_1 p1_2 p1_3
  have p0_0 := (HX0.out.below Bz).cell 0 (.bool a.s) rfl
  have p0_1 := (HX0.out.below Bz).cell 1 (.slice a.A a.l a.c) rfl
  have p0_2 := (HX0.out.below Bz).cell 2 (.bool a.s') rfl
  have p0_3 := (HX0.out.below Bz).cell 3 (.slice a.A' a.l' a.c') rfl
  have p1_0 := (HX1.out.below Bz).cell 0 (.bool b.s) rfl
  have p1_1 := (HX1.out.below Bz).cell 1 (.slice b.A b.l b.c) rfl
  have p1_2 := (HX1.out.below Bz).cell 2 (.bool b.s') rfl
  have p1_3 := (HX1.out.below Bz).cell 3 (.slice b.A' b.l' b.c') rfl
  refine hK.out _ _ ⟨p0_0, p0_1, p0_2, p0_3, p1_0, p1_1, p1_2, p1_3⟩ (fun _ => ?_)
  try simp only [pUt, pLt, pZt, pSt]
  clear hK K
  refine wpPlan_call (o := ⟨some 89, _, _, _, _, _⟩) rfl rfl (fun K hK => ?_)
  go_simp
  with_reducible refine (scaleW 4 241 40 248 (R.below ha (by go_grown)) ((NV.below h21 (by go_grown)).gv (nrm_nrm _).rise) l21 (by decide) (by decide) (by decide) (Lib.hid (Tab.below hT.out (below_trans hB (below_trans (b := w21) Bz (by go_grown)))))).mono ?_
  rintro e w22 ⟨A22, n22, c22, rfl, h22, l22, b22⟩
  replace b22 := below_trans (a := w21) (by go_grown) b22
  replace ha := ha.below b22
  replace hb := hb.below b22
  replace gx := gx.below b22
  replace gy := gy.below b22
  replace gz := gz.below b22
  replace Bz := below_trans Bz b22
  clear b22
  clear p0_0 p0_1 p0_2 p0_3 p1_0 p1_1 p1_2 p1_3
  have p0_0 := (HX0.out.below Bz).cell 0 (.bool a.s) rfl
  have p0_1 := (HX0.out.below Bz).cell 1 (.slice a.A a.l a.c) rfl
  have p0_2 := (HX0.out.below Bz).cell 2 (.bool a.s') rfl
  have p0_3 := (HX0.out.below Bz).cell 3 (.slice a.A' a.l' a.c') rfl
  have p1_0 := (HX1.out.below Bz).cell 0 (.bool b.s) rfl
  have p1_1 := (HX1.out.below Bz).cell 1 (.slice b.A b.l b.c) rfl
  have p1_2 := (HX1.out.below Bz).cell 2 (.bool b.s') rfl
  have p1_3 := (HX1.out.below Bz).cell 3 (.slice b.A' b.l' b.c') rfl
  refine hK.out _ _ ⟨p0_0, p0_1, p0_2, p0_3, p1_0, p1_1, p1_2, p1_3⟩ (fun _ => ?_)
  try simp only [pUt, pLt, pZt, pSt]
  clear hK K
  refine wpPlan_call (o := ⟨some 92, _, _, _, _, _⟩) rfl rfl (fun K hK => ?_)
  go_simp
  with_reducible refine (scaleW 4 120 20 127 (R.below ha (by go_grown)) (GV.below gx (by go_grown)) hnx (by decide) (by decide) (by decide) (Lib.hid (Tab.below hT.out (below_trans hB (below_trans (b := w22) Bz (by go_grown)))))).mono ?_
  rintro e w23 ⟨A23, n23, c23, rfl, h23, l23, b23⟩
  replace b23 := below_trans (a := w22) (by go_grown) b23
  replace ha := ha.below b23
  replace hb := hb.below b23
  replace h22 := h22.below b23
  replace gx := gx.below b23
  replace gy := gy.below b23
  replace gz := gz.below b23
  replace Bz := below_trans Bz b23
  clear b23
  clear p0_0 p0_1 p0_2 p0_3 p1_0 p1_1 p1_2 p1_3
  have p0_0 := (HX0.out.below Bz).cell 0 (.bool a.s) rfl
  have p0_1 := (HX0.out.below Bz).cell 1 (.slice a.A a.l a.c) rfl
  have p0_2 := (HX0.out.below Bz).cell 2 (.bool a.s') rfl
  have p0_3 := (HX0.out.below Bz).cell 3 (.slice a.A' a.l' a.c') rfl
  have p1_0 := (HX1.out.below Bz).cell 0 (.bool b.s) rfl
  have p1_1 := (HX1.out.below Bz).cell 1 (.slice b.A b.l b.c) rfl
  have p1_2 := (HX1.out.below Bz).cell 2 (.bool b.s') rfl
  have p1_3 := (HX1.out.below Bz).cell 3 (.slice b.A' b.l' b.c') rfl
  refine hK.out _ _ ⟨p0_0, p0_1, p0_2, p0_3, p1_0, p1_1, p1_2, p1_3⟩ (fun _ => ?_)
  try simp only [pUt, pLt, pZt, pSt]
  clear hK K
  refine wpPlan_call (o := ⟨some 95, _, _, _, _, _⟩) rfl rfl (fun K hK => ?_)
  go_simp
  with_reducible refine (scaleW 4 120 20 127 (R.below ha (by go_grown)) (GV.below gy (by go_grown)) hny (by decide) (by decide) (by decide) (Lib.hid (Tab.below hT.out (below_trans hB (below_trans (b := w23) Bz (by go_grown)))))).mono ?_
  rintro e w24 ⟨A24, n24, c24, rfl, h24, l24, b24⟩
  replace b24 := below_trans (a := w23) (by go_grown) b24
  replace ha := ha.below b24
  replace hb := hb.below b24
  replace h22 := h22.below b24
  replace h23 := h23.below b24
  replace gx := gx.below b24
  replace gy := gy.below b24
  replace gz := gz.below b24
  replace Bz := below_trans Bz b24
  clear b24
  clear p0_0 p0_1 p0_2 p0_3 p1_0 p1_1 p1_2 p1_3
  have p0_0 := (HX0.out.below Bz).cell 0 (.bool a.s) rfl
  have p0_1 := (HX0.out.below Bz).cell 1 (.slice a.A a.l a.c) rfl
  have p0_2 := (HX0.out.below Bz).cell 2 (.bool a.s') rfl
  have p0_3 := (HX0.out.below Bz).cell 3 (.slice a.A' a.l' a.c') rfl
  have p1_0 := (HX1.out.below Bz).cell 0 (.bool b.s) rfl
  have p1_1 := (HX1.out.below Bz).cell 1 (.slice b.A b.l b.c) rfl
  have p1_2 := (HX1.out.below Bz).cell 2 (.bool b.s') rfl
  have p1_3 := (HX1.out.below Bz).cell 3 (.slice b.A' b.l' b.c') rfl
  refine hK.out _ _ ⟨p0_0, p0_1, p0_2, p0_3, p1_0, p1_1, p1_2, p1_3⟩ (fun _ => ?_)
  try simp only [pUt, pLt, pZt, pSt]
  clear hK K
  refine wpPlan_call (o := ⟨some 96, _, _, _, _, _⟩) rfl rfl (fun K hK => ?_)
  go_simp
  with_reducible refine (addW 128 128 20 20 256 40 ((NV.below h23 (by go_grown)).gv (nrm_nrm _).rise) ((NV.below h24 (by go_grown)).gv (nrm_nrm _).rise) l23 l24 (by decide) (by decide) (by decide) (by decide) (Lib.hid (Tab.below hT.out (below_trans hB (below_trans (b := w24) Bz (by go_grown)))))).mono ?_
  rintro e w25 ⟨A25, n25, c25, rfl, h25, l25, b25⟩
  replace b25 := below_trans (a := w24) (by go_grown) b25
  replace ha := ha.below b25
  replace hb := hb.below b25
  replace h22 := h22.below b25
  replace gx := gx.below b25
  replace gy := gy.below b25
  replace gz := gz.below b25
  replace Bz := below_trans Bz b25
  clear b25
  clear p0_0 p0_1 p0_2 p0_3 p1_0 p1_1 p1_2 p1_3
  have p0_0 := (HX0.out.below Bz).cell 0 (.bool a.s) rfl
  have p0_1 := (HX0.out.below Bz).cell 1 (.slice a.A a.l a.c) rfl
  have p0_2 := (HX0.out.below Bz).cell 2 (.bool a.s') rfl
  have p0_3 := (HX0.out.below Bz).cell 3 (.slice a.A' a.l' a.c') rfl
  have p1_0 := (HX1.out.below Bz).cell 0 (.bool b.s) rfl
  have p1_1 := (HX1.out.below Bz).cell 1 (.slice b.A b.l b.c) rfl
  have p1_2 := (HX1.out.below Bz).cell 2 (.bool b.s') rfl
  have p1_3 := (HX1.out.below Bz).cell 3 (.slice b.A' b.l' b.c') rfl
  refine hK.out _ _ ⟨p0_0, p0_1, p0_2, p0_3, p1_0, p1_1, p1_2, p1_3⟩ (fun _ => ?_)
  try simp only [pUt, pLt, pZt, pSt]
  clear hK K
  refine wpPlan_call (o := ⟨some 97, _, _, _, _, _⟩) rfl rfl (fun K hK => ?_)
  go_simp
  with_reducible refine (sameVec_q (NV.below h22 (by go_grown)) (NV.below h25 (by go_grown)) (by decide) (by decide) (by omega) (by omega) true (Lib.hid (decide_eq_true (sp5 _ _ _)))).mono ?_
  rintro e w26 ⟨rfl, b26⟩
  replace b26 := below_trans (a := w25) (by go_grown) b26
  replace ha := ha.below b26
  replace hb := hb.below b26
  replace gx := gx.below b26
  replace gy := gy.below b26
  replace gz := gz.below b26
  replace Bz := below_trans Bz b26
  clear b26
  clear p0_0 p0_1 p0_2 p0_3 p1_0 p1_1 p1_2 p1_3
  have p0_0 := (HX0.out.below Bz).cell 0 (.bool a.s) rfl
  have p0_1 := (HX0.out.below Bz).cell 1 (.slice a.A a.l a.c) rfl
  have p0_2 := (HX0.out.below Bz).cell 2 (.bool a.s') rfl
  have p0_3 := (HX0.out.below Bz).cell 3 (.slice a.A' a.l' a.c') rfl
  have p1_0 := (HX1.out.below Bz).cell 0 (.bool b.s) rfl
  have p1_1 := (HX1.out.below Bz).cell 1 (.slice b.A b.l b.c) rfl
  have p1_2 := (HX1.out.below Bz).cell 2 (.bool b.s') rfl
  have p1_3 := (HX1.out.below Bz).cell 3 (.slice b.A' b.l' b.c') rfl
  refine hK.out _ _ ⟨p0_0, p0_1, p0_2, p0_3, p1_0, p1_1, p1_2, p1_3⟩ (fun _ => ?_)
  try simp only [pUt, pLt, pZt, pSt]
  clear hK K
  refine wpPlan_pure (o := ⟨some 98, _, _, _, _, _⟩) (v := ?_) rfl rfl (fun w' => ?_) ?_
  rotate_left
  · go_simp <;> with_reducible rfl
  try simp only [pUt, pLt, pZt, pSt]
  refine wpPlan_pure (o := ⟨some 99, _, _, _, _, _⟩) (v := ?_) rfl rfl (fun w' => ?_) ?_
  rotate_left
  · go_simp <;> with_reducible rfl
  try simp only [pUt, pLt, pZt, pSt]
  refine wpPlan_take (o := ⟨some 100, _, _, _, _, _⟩) (v := ?_) rfl rfl (fun w' hS => ?_) ?_
  rotate_left
  · obtain ⟨p0_0, p0_1, p0_2, p0_3, p1_0, p1_1, p1_2, p1_3⟩ := hS; go_simp <;> with_reducible rfl
  try simp only [pUt, pLt, pZt, pSt]
  refine wpPlan_take (o := ⟨some 101, _, _, _, _, _⟩) (v := ?_) rfl rfl (fun w' hS => ?_) ?_
  rotate_left
  · obtain ⟨p0_0, p0_1, p0_2, p0_3, p1_0, p1_1, p1_2, p1_3⟩ := hS; go_simp <;> with_reducible rfl
  try simp only [pUt, pLt, pZt, pSt]
  refine wpPlan_pure (o := ⟨some 103, _, _, _, _, _⟩) (v := ?_) rfl rfl (fun w' => ?_) ?_
  rotate_left
  · go_simp <;> with_reducible rfl
  try simp only [pUt, pLt, pZt, pSt]
  refine wpPlan_take (o := ⟨some 105, _, _, _, _, _⟩) (v := ?_) rfl rfl (fun w' hS => ?_) ?_
  rotate_left
  · obtain ⟨p0_0, p0_1, p0_2, p0_3, p1_0, p1_1, p1_2, p1_3⟩ := hS; go_simp <;> with_reducible rfl
  try simp only [pUt, pLt, pZt, pSt]
  refine wpPlan_pure (o := ⟨some 106, _, _, _, _, _⟩) (v := ?_) rfl rfl (fun w' => ?_) ?_
  rotate_left
  · go_simp <;> with_reducible rfl
  try simp only [pUt, pLt, pZt, pSt]
  refine wpPlan_take (o := ⟨some 108, _, _, _, _, _⟩) (v := ?_) rfl rfl (fun w' hS => ?_) ?_
  rotate_left
  · obtain ⟨p0_0, p0_1, p0_2, p0_3, p1_0, p1_1, p1_2, p1_3⟩ := hS; go_simp <;> with_reducible rfl
  try simp only [pUt, pLt, pZt, pSt]
  refine wpPlan_pure (o := ⟨some 109, _, _, _, _, _⟩) (v := ?_) rfl rfl (fun w' => ?_) ?_
  rotate_left
  · go_simp <;> with_reducible rfl
  try simp only [pUt, pLt, pZt, pSt]
  refine wpPlan_call (o := ⟨some 102, _, _, _, _, _⟩) rfl rfl (fun K hK => ?_)
  go_simp
  with_reducible refine (add_q (R.below ha (by go_grown)) (R.below hb (by go_grown)) (by omega) (Lib.hid (Tab.below hT.out (below_trans hB (below_trans (b := w26) Bz (by go_grown)))))).mono ?_
  rintro e w27 ⟨s27, A27, c27, l27, s27r, A27r, c27r, l27r, rfl, h27, b27⟩
  replace b27 := below_trans (a := w26) (by go_grown) b27
  replace ha := ha.below b27
  replace hb := hb.below b27
  replace gx := gx.below b27
  replace gy := gy.below b27
  replace gz := gz.below b27
  replace Bz := below_trans Bz b27
  clear b27
  have z27 := sz_add hsa hsb
  clear p0_0 p0_1 p0_2 p0_3 p1_0 p1_1 p1_2 p1_3
  have p0_0 := (HX0.out.below Bz).cell 0 (.bool a.s) rfl
  have p0_1 := (HX0.out.below Bz).cell 1 (.slice a.A a.l a.c) rfl
  have p0_2 := (HX0.out.below Bz).cell 2 (.bool a.s') rfl
  have p0_3 := (HX0.out.below Bz).cell 3 (.slice a.A' a.l' a.c') rfl
  have p1_0 := (HX1.out.below Bz).cell 0 (.bool b.s) rfl
  have p1_1 := (HX1.out.below Bz).cell 1 (.slice b.A b.l b.c) rfl
  have p1_2 := (HX1.out.below Bz).cell 2 (.bool b.s') rfl
  have p1_3 := (HX1.out.below Bz).cell 3 (.slice b.A' b.l' b.c') rfl
  refine hK.out _ _ ⟨p0_0, p0_1, p0_2, p0_3, p1_0, p1_1, p1_2, p1_3⟩ (fun _ => ?_)
  try simp only [pUt, pLt, pZt, pSt]
  clear hK K
  refine wpPlan_call (o := ⟨some 104, _, _, _, _, _⟩) rfl rfl (fun K hK => ?_)
  go_simp
  with_reducible refine (scaleW 9 120 20 132 (R.mono (R.below h27.r (by go_grown)) z27) (GV.below gx (by go_grown)) hnx (by decide) (by decide) (by decide) (Lib.hid (Tab.below hT.out (below_trans hB (below_trans (b := w27) Bz (by go_grown)))))).mono ?_
  rintro e w28 ⟨A28, n28, c28, rfl, h28, l28, b28⟩
  replace b28 := below_trans (a := w27) (by go_grown) b28
  replace ha := ha.below b28
  replace hb := hb.below b28
  replace gx := gx.below b28
  replace gy := gy.below b28
  replace gz := gz.below b28
  replace Bz := below_trans Bz b28
  clear b28
  clear p0_0 p0_1 p0_2 p0_3 p1_0 p1_1 p1_2 p1_3
  have p0_0 := (HX0.out.below Bz).cell 0 (.bool a.s) rfl
  have p0_1 := (HX0.out.below Bz).cell 1 (.slice a.A a.l a.c) rfl
  have p0_2 := (HX0.out.below Bz).cell 2 (.bool a.s') rfl
  have p0_3 := (HX0.out.below Bz).cell 3 (.slice a.A' a.l' a.c') rfl
  have p1_0 := (HX1.out.below Bz).cell 0 (.bool b.s) rfl
  have p1_1 := (HX1.out.below Bz).cell 1 (.slice b.A b.l b.c) rfl
  have p1_2 := (HX1.out.below Bz).cell 2 (.bool b.s') rfl
  have p1_3 := (HX1.out.below Bz).cell 3 (.slice b.A' b.l' b.c') rfl
  refine hK.out _ _ ⟨p0_0, p0_1, p0_2, p0_3, p1_0, p1_1, p1_2, p1_3⟩ (fun _ => ?_)
  try simp only [pUt, pLt, pZt, pSt]
  clear hK K
  refine wpPlan_call (o := ⟨some 107, _, _, _, _, _⟩) rfl rfl (fun K hK => ?_)
  go_simp
  with_reducible refine (scaleW 4 120 20 127 (R.below ha (by go_grown)) (GV.below gx (by go_grown)) hnx (by decide) (by decide) (by decide) (Lib.hid (Tab.below hT.out (below_trans hB (below_trans (b := w28) Bz (by go_grown)))))).mono ?_
  rintro e w29 ⟨A29, n29, c29, rfl, h29, l29, b29⟩
  replace b29 := below_trans (a := w28) (by go_grown) b29
  replace ha := ha.below b29
  replace hb := hb.below b29
  replace h28 := h28.below b29
  replace gx := gx.below b29
  replace gy := gy.below b29
  replace gz := gz.below b29
  replace Bz := below_trans Bz b29
  clear b29
  clear p0_0 p0_1 p0_2 p0_3 p1_0 p1_1 p1_2 p1_3
  have p0_0 := (HX0.out.below Bz).cell 0 (.bool a.s) rfl
  have p0_1 := (HX0.out.below Bz).cell 1 (.slice a.A a.l a.c) rfl
  have p0_2 := (HX0.out.below Bz).cell 2 (.bool a.s') rfl
  have p0_3 := (HX0.out.below Bz).cell 3 (.slice a.A' a.l' a.c') rfl
  have p1_0 := (HX1.out.below Bz).cell 0 (.bool b.s) rfl
  have p1_1 := (HX1.out.below Bz).cell 1 (.slice b.A b.l b.c) rfl
  have p1_2 := (HX1.out.below Bz).cell 2 (.bool b.s') rfl
  have p1_3 := (HX1.out.below Bz).cell 3 (.slice b.A' b.l' b.c') rfl
  refine hK.out _ _ ⟨p0_0, p0_1, p0_2, p0_3, p1_0, p1_1, p1_2, p1_3⟩ (fun _ => ?_)
  try simp only [pUt, pLt, pZt, pSt]
  clear hK K
  refine wpPlan_call (o := ⟨some 110, _, _, _, _, _⟩) rfl rfl (fun K hK => ?_)
  go_simp
  with_reducible refine (scaleW 4 120 20 127 (R.below hb (by go_grown)) (GV.below gx (by go_grown)) hnx (by decide) (by decide) (by decide) (Lib.hid (Tab.below hT.out (below_trans hB (below_trans (b := w29) Bz (by go_grown)))))).mono ?_
  rintro e w30 ⟨A30, n30, c30, rfl, h30, l30, b30⟩
  replace b30 := below_trans (a := w29) (by go_grown) b30
  replace ha := ha.below b30
  replace hb := hb.below b30
  replace h28 := h28.below b30
  replace h29 := h29.below b30
  replace gx := gx.below b30
  replace gy := gy.below b30
  replace gz := gz.below b30
  replace Bz := below_trans Bz b30
  clear b30
  clear p0_0 p0_1 p0_2 p0_3 p1_0 p1_1 p1_2 p1_3
  have p0_0 := (HX0.out.below Bz).cell 0 (.bool a.s) rfl
  have p0_1 := (HX0.out.below Bz).cell 1 (.slice a.A a.l a.c) rfl
  have p0_2 := (HX0.out.below Bz).cell 2 (.bool a.s') rfl
  have p0_3 := (HX0.out.below Bz).cell 3 (.slice a.A' a.l' a.c') rfl
  have p1_0 := (HX1.out.below Bz).cell 0 (.bool b.s) rfl
  have p1_1 := (HX1.out.below Bz).cell 1 (.slice b.A b.l b.c) rfl
  have p1_2 := (HX1.out.below Bz).cell 2 (.bool b.s') rfl
  have p1_3 := (HX1.out.below Bz).cell 3 (.slice b.A' b.l' b.c') rfl
  refine hK.out _ _ ⟨p0_0, p0_1, p0_2, p0_3, p1_0, p1_1, p1_2, p1_3⟩ (fun _ => ?_)
  try simp only [pUt, pLt, pZt, pSt]
  clear hK K
  refine wpPlan_call (o := ⟨some 111, _, _, _, _, _⟩) rfl rfl (fun K hK => ?_)
  go_simp
  with_reducible refine (addW 128 128 20 20 256 40 ((NV.below h29 (by go_grown)).gv (nrm_nrm _).rise) ((NV.below h30 (by go_grown)).gv (nrm_nrm _).rise) l29 l30 (by decide) (by decide) (by decide) (by decide) (Lib.hid (Tab.below hT.out (below_trans hB (below_trans (b := w30) Bz (by go_grown)))))).mono ?_
  rintro e w31 ⟨A31, n31, c31, rfl, h31, l31, b31⟩
  replace b31 := below_trans (a := w30) (by go_grown) b31
  replace ha := ha.below b31
  replace hb := hb.below b31
  replace h28 := h28.below b31
  replace gx := gx.below b31
  replace gy := gy.below b31
  replace gz := gz.below b31
  replace Bz := below_trans Bz b31
  clear b31
  clear p0_0 p0_1 p0_2 p0_3 p1_0 p1_1 p1_2 p1_3
  have p0_0 := (HX0.out.below Bz).cell 0 (.bool a.s) rfl
  have p0_1 := (HX0.out.below Bz).cell 1 (.slice a.A a.l a.c) rfl
  have p0_2 := (HX0.out.below Bz).cell 2 (.bool a.s') rfl
  have p0_3 := (HX0.out.below Bz).cell 3 (.slice a.A' a.l' a.c') rfl
  have p1_0 := (HX1.out.below Bz).cell 0 (.bool b.s) rfl
  have p1_1 := (HX1.out.below Bz).cell 1 (.slice b.A b.l b.c) rfl
  have p1_2 := (HX1.out.below Bz).cell 2 (.bool b.s') rfl
  have p1_3 := (HX1.out.below Bz).cell 3 (.slice b.A' b.l' b.c') rfl
  refine hK.out _ _ ⟨p0_0, p0_1, p0_2, p0_3, p1_0, p1_1, p1_2, p1_3⟩ (fun _ => ?_)
  try simp only [pUt, pLt, pZt, pSt]
  clear hK K
  refine wpPlan_call (o := ⟨some 112, _, _, _, _, _⟩) rfl rfl (fun K hK => ?_)
  go_simp
  with_reducible refine (sameVec_q (NV.below h28 (by go_grown)) (NV.below h31 (by go_grown)) (by decide) (by decide) (by omega) (by omega) true (Lib.hid (decide_eq_true (sp6 _ _ _)))).mono ?_
  rintro e w32 ⟨rfl, b32⟩
  replace b32 := below_trans (a := w31) (by go_grown) b32
  replace ha := ha.below b32
  replace hb := hb.below b32
  replace gx := gx.below b32
  replace gy := gy.below b32
  replace gz := gz.below b32
  replace Bz := below_trans Bz b32
  clear b32
  clear p0_0 p0_1 p0_2 p0_3 p1_0 p1_1 p1_2 p1_3
  have p0_0 := (HX0.out.below Bz).cell 0 (.bool a.s) rfl
  have p0_1 := (HX0.out.below Bz).cell 1 (.slice a.A a.l a.c) rfl
  have p0_2 := (HX0.out.below Bz).cell 2 (.bool a.s') rfl
  have p0_3 := (HX0.out.below Bz).cell 3 (.slice a.A' a.l' a.c') rfl
  have p1_0 := (HX1.out.below Bz).cell 0 (.bool b.s) rfl
  have p1_1 := (HX1.out.below Bz).cell 1 (.slice b.A b.l b.c) rfl
  have p1_2 := (HX1.out.below Bz).cell 2 (.bool b.s') rfl
  have p1_3 := (HX1.out.below Bz).cell 3 (.slice b.A' b.l' b.c') rfl
  refine hK.out _ _ ⟨p0_0, p0_1, p0_2, p0_3, p1_0, p1_1, p1_2, p1_3⟩ (fun _ => ?_)
  try simp only [pUt, pLt, pZt, pSt]
  clear hK K
  refine wpPlan_pure (o := ⟨some 113, _, _, _, _, _⟩) (v := ?_) rfl rfl (fun w' => ?_) ?_
  rotate_left
  · go_simp <;> with_reducible rfl
  try simp only [pUt, pLt, pZt, pSt]
  refine wpPlan_pure (o := ⟨some 114, _, _, _, _, _⟩) (v := ?_) rfl rfl (fun w' => ?_) ?_
  rotate_left
  · go_simp <;> with_reducible rfl
  try simp only [pUt, pLt, pZt, pSt]
  refine wpPlan_pure (o := ⟨some 115, _, _, _, _, _⟩) (v := ?_) rfl rfl (fun w' => ?_) ?_
  rotate_left
  · go_simp <;> with_reducible rfl
  try simp only [pUt, pLt, pZt, pSt]
  refine wpPlan_take (o := ⟨some 116, _, _, _, _, _⟩) (v := ?_) rfl rfl (fun w' hS => ?_) ?_
  rotate_left
  · obtain ⟨p0_0, p0_1, p0_2, p0_3, p1_0, p1_1, p1_2, p1_3⟩ := hS; go_simp <;> with_reducible rfl
  try simp only [pUt, pLt, pZt, pSt]
  refine wpPlan_take (o := ⟨some 117, _, _, _, _, _⟩) (v := ?_) rfl rfl (fun w' hS => ?_) ?_
  rotate_left
  · obtain ⟨p0_0, p0_1, p0_2, p0_3, p1_0, p1_1, p1_2, p1_3⟩ := hS; go_simp <;> with_reducible rfl
  try simp only [pUt, pLt, pZt, pSt]
  refine wpPlan_pure (o := ⟨some 119, _, _, _, _, _⟩) (v := ?_) rfl rfl (fun w' => ?_) ?_
  rotate_left
  · go_simp <;> with_reducible rfl
  try simp only [pUt, pLt, pZt, pSt]
  refine wpPlan_take (o := ⟨some 121, _, _, _, _, _⟩) (v := ?_) rfl rfl (fun w' hS => ?_) ?_
  rotate_left
  · obtain ⟨p0_0, p0_1, p0_2, p0_3, p1_0, p1_1, p1_2, p1_3⟩ := hS; go_simp <;> with_reducible rfl
  try simp only [pUt, pLt, pZt, pSt]
  refine wpPlan_take (o := ⟨some 122, _, _, _, _, _⟩) (v := ?_) rfl rfl (fun w' hS => ?_) ?_
  rotate_left
  · obtain ⟨p0_0, p0_1, p0_2, p0_3, p1_0, p1_1, p1_2, p1_3⟩ := hS; go_simp <;> with_reducible rfl
  try simp only [pUt, pLt, pZt, pSt]
  refine wpPlan_pure (o := ⟨some 123, _, _, _, _, _⟩) (v := ?_) rfl rfl (fun w' => ?_) ?_
  rotate_left
  · go_simp <;> with_reducible rfl
  try simp only [pUt, pLt, pZt, pSt]
  refine wpPlan_call (o := ⟨some 118, _, _, _, _, _⟩) rfl rfl (fun K hK => ?_)
  go_simp
  with_reducible refine (mul_q (R.below ha (by go_grown)) (R.below hb (by go_grown)) (by omega) (Lib.hid (Tab.below hT.out (below_trans hB (below_trans (b := w32) Bz (by go_grown)))))).mono ?_
  rintro e w33 ⟨s33, A33, c33, l33, s33r, A33r, c33r, l33r, rfl, h33, b33⟩
  replace b33 := below_trans (a := w32) (by go_grown) b33
  replace ha := ha.below b33
  replace hb := hb.below b33
  replace gx := gx.below b33
  replace gy := gy.below b33
  replace gz := gz.below b33
  replace Bz := below_trans Bz b33
  clear b33
  have z33 := sz_mul hsa hsb
  clear p0_0 p0_1 p0_2 p0_3 p1_0 p1_1 p1_2 p1_3
  have p0_0 := (HX0.out.below Bz).cell 0 (.bool a.s) rfl
  have p0_1 := (HX0.out.below Bz).cell 1 (.slice a.A a.l a.c) rfl
  have p0_2 := (HX0.out.below Bz).cell 2 (.bool a.s') rfl
  have p0_3 := (HX0.out.below Bz).cell 3 (.slice a.A' a.l' a.c') rfl
  have p1_0 := (HX1.out.below Bz).cell 0 (.bool b.s) rfl
  have p1_1 := (HX1.out.below Bz).cell 1 (.slice b.A b.l b.c) rfl
  have p1_2 := (HX1.out.below Bz).cell 2 (.bool b.s') rfl
  have p1_3 := (HX1.out.below Bz).cell 3 (.slice b.A' b.l' b.c') rfl
  refine hK.out _ _ ⟨p0_0, p0_1, p0_2, p0_3, p1_0, p1_1, p1_2, p1_3⟩ (fun _ => ?_)
  try simp only [pUt, pLt, pZt, pSt]
  clear hK K
  refine wpPlan_call (o := ⟨some 120, _, _, _, _, _⟩) rfl rfl (fun K hK => ?_)
  go_simp
  with_reducible refine (scaleW 8 120 20 131 (R.mono (R.below h33.r (by go_grown)) z33) (GV.below gx (by go_grown)) hnx (by decide) (by decide) (by decide) (Lib.hid (Tab.below hT.out (below_trans hB (below_trans (b := w33) Bz (by go_grown)))))).mono ?_
  rintro e w34 ⟨A34, n34, c34, rfl, h34, l34, b34⟩
  replace b34 := below_trans (a := w33) (by go_grown) b34
  replace ha := ha.below b34
  replace hb := hb.below b34
  replace gx := gx.below b34
  replace gy := gy.below b34
  replace gz := gz.below b34
  replace Bz := below_trans Bz b34
  clear b34
  clear p0_0 p0_1 p0_2 p0_3 p1_0 p1_1 p1_2 p1_3
  have p0_0 := (HX0.out.below Bz).cell 0 (.bool a.s) rfl
  have p0_1 := (HX0.out.below Bz).cell 1 (.slice a.A a.l a.c) rfl
  have p0_2 := (HX0.out.below Bz).cell 2 (.bool a.s') rfl
  have p0_3 := (HX0.out.below Bz).cell 3 (.slice a.A' a.l' a.c') rfl
  have p1_0 := (HX1.out.below Bz).cell 0 (.bool b.s) rfl
  have p1_1 := (HX1.out.below Bz).cell 1 (.slice b.A b.l b.c) rfl
  have p1_2 := (HX1.out.below Bz).cell 2 (.bool b.s') rfl
  have p1_3 := (HX1.out.below Bz).cell 3 (.slice b.A' b.l' b.c') rfl
  refine hK.out _ _ ⟨p0_0, p0_1, p0_2, p0_3, p1_0, p1_1, p1_2, p1_3⟩ (fun _ => ?_)
  try simp only [pUt, pLt, pZt, pSt]
  clear hK K
  refine wpPlan_call (o := ⟨some 124, _, _, _, _, _⟩) rfl rfl (fun K hK => ?_)
  go_simp
  with_reducible refine (scaleW 4 120 20 127 (R.below hb (by go_grown)) (GV.below gx (by go_grown)) hnx (by decide) (by decide) (by decide) (Lib.hid (Tab.below hT.out (below_trans hB (below_trans (b := w34) Bz (by go_grown)))))).mono ?_
  rintro e w35 ⟨A35, n35, c35, rfl, h35, l35, b35⟩
  replace b35 := below_trans (a := w34) (by go_grown) b35
  replace ha := ha.below b35
  replace hb := hb.below b35
  replace h34 := h34.below b35
  replace gx := gx.below b35
  replace gy := gy.below b35
  replace gz := gz.below b35
  replace Bz := below_trans Bz b35
  clear b35
  clear p0_0 p0_1 p0_2 p0_3 p1_0 p1_1 p1_2 p1_3
  have p0_0 := (HX0.out.below Bz).cell 0 (.bool a.s) rfl
  have p0_1 := (HX0.out.below Bz).cell 1 (.slice a.A a.l a.c) rfl
  have p0_2 := (HX0.out.below Bz).cell 2 (.bool a.s') rfl
  have p0_3 := (HX0.out.below Bz).cell 3 (.slice a.A' a.l' a.c') rfl
  have p1_0 := (HX1.out.below Bz).cell 0 (.bool b.s) rfl
  have p1_1 := (HX1.out.below Bz).cell 1 (.slice b.A b.l b.c) rfl
  have p1_2 := (HX1.out.below Bz).cell 2 (.bool b.s') rfl
  have p1_3 := (HX1.out.below Bz).cell 3 (.slice b.A' b.l' b.c') rfl
  refine hK.out _ _ ⟨p0_0, p0_1, p0_2, p0_3, p1_0, p1_1, p1_2, p1_3⟩ (fun _ => ?_)
  try simp only [pUt, pLt, pZt, pSt]
  clear hK K
  refine wpPlan_call (o := ⟨some 125, _, _, _, _, _⟩) rfl rfl (fun K hK => ?_)
  go_simp
  with_reducible refine (scaleW 4 128 20 135 (R.below ha (by go_grown)) ((NV.below h35 (by go_grown)).gv (nrm_nrm _).rise) l35 (by decide) (by decide) (by decide) (Lib.hid (Tab.below hT.out (below_trans hB (below_trans (b := w35) Bz (by go_grown)))))).mono ?_
  rintro e w36 ⟨A36, n36, c36, rfl, h36, l36, b36⟩
  replace b36 := below_trans (a := w35) (by go_grown) b36
  replace ha := ha.below b36
  replace hb := hb.below b36
  replace h34 := h34.below b36
  replace gx := gx.below b36
  replace gy := gy.below b36
  replace gz := gz.below b36
  replace Bz := below_trans Bz b36
  clear b36
  clear p0_0 p0_1 p0_2 p0_3 p1_0 p1_1 p1_2 p1_3
  have p0_0 := (HX0.out.below Bz).cell 0 (.bool a.s) rfl
  have p0_1 := (HX0.out.below Bz).cell 1 (.slice a.A a.l a.c) rfl
  have p0_2 := (HX0.out.below Bz).cell 2 (.bool a.s') rfl
  have p0_3 := (HX0.out.below Bz).cell 3 (.slice a.A' a.l' a.c') rfl
  have p1_0 := (HX1.out.below Bz).cell 0 (.bool b.s) rfl
  have p1_1 := (HX1.out.below Bz).cell 1 (.slice b.A b.l b.c) rfl
  have p1_2 := (HX1.out.below Bz).cell 2 (.bool b.s') rfl
  have p1_3 := (HX1.out.below Bz).cell 3 (.slice b.A' b.l' b.c') rfl
  refine hK.out _ _ ⟨p0_0, p0_1, p0_2, p0_3, p1_0, p1_1, p1_2, p1_3⟩ (fun _ => ?_)
  try simp only [pUt, pLt, pZt, pSt]
  clear hK K
  refine wpPlan_call (o := ⟨some 126, _, _, _, _, _⟩) rfl rfl (fun K hK => ?_)
  go_simp
  with_reducible refine (sameVec_q (NV.below h34 (by go_grown)) (NV.below h36 (by go_grown)) (by decide) (by decide) (by omega) (by omega) true (Lib.hid (decide_eq_true (sp7 _ _ _)))).mono ?_
  rintro e w37 ⟨rfl, b37⟩
  replace b37 := below_trans (a := w36) (by go_grown) b37
  replace ha := ha.below b37
  replace hb := hb.below b37
  replace gx := gx.below b37
  replace gy := gy.below b37
  replace gz := gz.below b37
  replace Bz := below_trans Bz b37
  clear b37
  clear p0_0 p0_1 p0_2 p0_3 p1_0 p1_1 p1_2 p1_3
  have p0_0 := (HX0.out.below Bz).cell 0 (.bool a.s) rfl
  have p0_1 := (HX0.out.below Bz).cell 1 (.slice a.A a.l a.c) rfl
  have p0_2 := (HX0.out.below Bz).cell 2 (.bool a.s') rfl
  have p0_3 := (HX0.out.below Bz).cell 3 (.slice a.A' a.l' a.c') rfl
  have p1_0 := (HX1.out.below Bz).cell 0 (.bool b.s) rfl
  have p1_1 := (HX1.out.below Bz).cell 1 (.slice b.A b.l b.c) rfl
  have p1_2 := (HX1.out.below Bz).cell 2 (.bool b.s') rfl
  have p1_3 := (HX1.out.below Bz).cell 3 (.slice b.A' b.l' b.c') rfl
  refine hK.out _ _ ⟨p0_0, p0_1, p0_2, p0_3, p1_0, p1_1, p1_2, p1_3⟩ (fun _ => ?_)
  try simp only [pUt, pLt, pZt, pSt]
  clear hK K
  refine wpPlan_pure (o := ⟨some 127, _, _, _, _, _⟩) (v := ?_) rfl rfl (fun w' => ?_) ?_
  rotate_left
  · go_simp <;> with_reducible rfl
  try simp only [pUt, pLt, pZt, pSt]
  refine wpPlan_pure (o := ⟨some 128, _, _, _, _, _⟩) (v := ?_) rfl rfl (fun w' => ?_) ?_
  rotate_left
  · go_simp <;> with_reducible rfl
  try simp only [pUt, pLt, pZt, pSt]
  refine wpPlan_pure (o := ⟨some 129, _, _, _, _, _⟩) (v := ?_) rfl rfl (fun w' => ?_) ?_
  rotate_left
  · go_simp <;> with_reducible rfl
  try simp only [pUt, pLt, pZt, pSt]
  refine wpPlan_pure (o := ⟨some 130, _, _, _, _, _⟩) (v := ?_) rfl rfl (fun w' => ?_) ?_
  rotate_left
  · go_simp <;> with_reducible rfl
  try simp only [pUt, pLt, pZt, pSt]
  refine wpPlan_take (o := ⟨some 131, _, _, _, _, _⟩) (v := ?_) rfl rfl (fun w' hS => ?_) ?_
  rotate_left
  · obtain ⟨p0_0, p0_1, p0_2, p0_3, p1_0, p1_1, p1_2, p1_3⟩ := hS; go_simp <;> with_reducible rfl
  try simp only [pUt, pLt, pZt, pSt]
  refine wpPlan_pure (o := ⟨some 132, _, _, _, _, _⟩) (v := ?_) rfl rfl (fun w' => ?_) ?_
  rotate_left
  · go_simp <;> with_reducible rfl
  try simp only [pUt, pLt, pZt, pSt]
  refine wpPlan_pure (o := ⟨some 134, _, _, _, _, _⟩) (v := ?_) rfl rfl (fun w' => ?_) ?_
  rotate_left
  · go_simp <;> with_reducible rfl
  try simp only [pUt, pLt, pZt, pSt]
  refine wpPlan_take (o := ⟨some 135, _, _, _, _, _⟩) (v := ?_) rfl rfl (fun w' hS => ?_) ?_
  rotate_left
  · obtain ⟨p0_0, p0_1, p0_2, p0_3, p1_0, p1_1, p1_2, p1_3⟩ := hS; go_simp <;> with_reducible rfl
  try simp only [pUt, pLt, pZt, pSt]
  refine wpPlan_pure (o := ⟨some 136, _, _, _, _, _⟩) (v := ?_) rfl rfl (fun w' => ?_) ?_
  rotate_left
  · go_simp <;> with_reducible rfl
  try simp only [pUt, pLt, pZt, pSt]
  refine wpPlan_call (o := ⟨some 133, _, _, _, _, _⟩) rfl rfl (fun K hK => ?_)
  go_simp
  with_reducible refine (axpyW 4 120 120 20 20 247 40 (GV.below gy (by go_grown)) (R.below ha (by go_grown)) (GV.below gx (by go_grown)) hny hnx (by decide) (by decide) (by decide) (by decide) (Lib.hid (Tab.below hT.out (below_trans hB (below_trans (b := w37) Bz (by go_grown)))))).mono ?_
  rintro e w38 ⟨A38, n38, c38, rfl, h38, l38, b38⟩
  replace b38 := below_trans (a := w37) (by go_grown) b38
  replace ha := ha.below b38
  replace hb := hb.below b38
  replace gx := gx.below b38
  replace gy := gy.below b38
  replace gz := gz.below b38
  replace Bz := below_trans Bz b38
  clear b38
  clear p0_0 p0_1 p0_2 p0_3 p1_0 p1_1 p1_2 p1_3
  have p0_0 := (HX0.out.below Bz).cell 0 (.bool a.s) rfl
  have p0_1 := (HX0.out.below Bz).cell 1 (.slice a.A a.l a.c) rfl
  have p0_2 := (HX0.out.below Bz).cell 2 (.bool a.s') rfl
  have p0_3 := (HX0.out.below Bz).cell 3 (.slice a.A' a.l' a.c') rfl
  have p1_0 := (HX1.out.below Bz).cell 0 (.bool b.s) rfl
  have p1_1 := (HX1.out.below Bz).cell 1 (.slice b.A b.l b.c) rfl
  have p1_2 := (HX1.out.below Bz).cell 2 (.bool b.s') rfl
  have p1_3 := (HX1.out.below Bz).cell 3 (.slice b.A' b.l' b.c') rfl
  refine hK.out _ _ ⟨p0_0, p0_1, p0_2, p0_3, p1_0, p1_1, p1_2, p1_3⟩ (fun _ => ?_)
  try simp only [pUt, pLt, pZt, pSt]
  clear hK K
  refine wpPlan_call (o := ⟨some 137, _, _, _, _, _⟩) rfl rfl (fun K hK => ?_)
  go_simp
  with_reducible refine (scaleW 4 120 20 127 (R.below ha (by go_grown)) (GV.below gx (by go_grown)) hnx (by decide) (by decide) (by decide) (Lib.hid (Tab.below hT.out (below_trans hB (below_trans (b := w38) Bz (by go_grown)))))).mono ?_
  rintro e w39 ⟨A39, n39, c39, rfl, h39, l39, b39⟩
  replace b39 := below_trans (a := w38) (by go_grown) b39
  replace ha := ha.below b39
  replace hb := hb.below b39
  replace h38 := h38.below b39
  replace gx := gx.below b39
  replace gy := gy.below b39
  replace gz := gz.below b39
  replace Bz := below_trans Bz b39
  clear b39
  clear p0_0 p0_1 p0_2 p0_3 p1_0 p1_1 p1_2 p1_3
  have p0_0 := (HX0.out.below Bz).cell 0 (.bool a.s) rfl
  have p0_1 := (HX0.out.below Bz).cell 1 (.slice a.A a.l a.c) rfl
  have p0_2 := (HX0.out.below Bz).cell 2 (.bool a.s') rfl
  have p0_3 := (HX0.out.below Bz).cell 3 (.slice a.A' a.l' a.c') rfl
  have p1_0 := (HX1.out.below Bz).cell 0 (.bool b.s) rfl
  have p1_1 := (HX1.out.below Bz).cell 1 (.slice b.A b.l b.c) rfl
  have p1_2 := (HX1.out.below Bz).cell 2 (.bool b.s') rfl
  have p1_3 := (HX1.out.below Bz).cell 3 (.slice b.A' b.l' b.c') rfl
  refine hK.out _ _ ⟨p0_0, p0_1, p0_2, p0_3, p1_0, p1_1, p1_2, p1_3⟩ (fun _ => ?_)
  try simp only [pUt, pLt, pZt, pSt]
  clear hK K
  refine wpPlan_call (o := ⟨some 138, _, _, _, _, _⟩) rfl rfl (fun K hK => ?_)
  go_simp
  with_reducible refine (addW 120 128 20 20 248 40 (GV.below gy (by go_grown)) ((NV.below h39 (by go_grown)).gv (nrm_nrm _).rise) hny l39 (by decide) (by decide) (by decide) (by decide) (Lib.hid (Tab.below hT.out (below_trans hB (below_trans (b := w39) Bz (by go_grown)))))).mono ?_
  rintro e w40 ⟨A40, n40, c40, rfl, h40, l40, b40⟩
  replace b40 := below_trans (a := w39) (by go_grown) b40
  replace ha := ha.below b40
  replace hb := hb.below b40
  replace h38 := h38.below b40
  replace gx := gx.below b40
  replace gy := gy.below b40
  replace gz := gz.below b40
  replace Bz := below_trans Bz b40
  clear b40
  clear p0_0 p0_1 p0_2 p0_3 p1_0 p1_1 p1_2 p1_3
  have p0_0 := (HX0.out.below Bz).cell 0 (.bool a.s) rfl
  have p0_1 := (HX0.out.below Bz).cell 1 (.slice a.A a.l a.c) rfl
  have p0_2 := (HX0.out.below Bz).cell 2 (.bool a.s') rfl
  have p0_3 := (HX0.out.below Bz).cell 3 (.slice a.A' a.l' a.c') rfl
  have p1_0 := (HX1.out.below Bz).cell 0 (.bool b.s) rfl
  have p1_1 := (HX1.out.below Bz).cell 1 (.slice b.A b.l b.c) rfl
  have p1_2 := (HX1.out.below Bz).cell 2 (.bool b.s') rfl
  have p1_3 := (HX1.out.below Bz).cell 3 (.slice b.A' b.l' b.c') rfl
  refine hK.out _ _ ⟨p0_0, p0_1, p0_2, p0_3, p1_0, p1_1, p1_2, p1_3⟩ (fun _ => ?_)
  try simp only [pUt, pLt, pZt, pSt]
  clear hK K
  refine wpPlan_call (o := ⟨some 139, _, _, _, _, _⟩) rfl rfl (fun K hK => ?_)
  go_simp
  with_reducible refine (sameVec_q (NV.below h38 (by go_grown)) (NV.below h40 (by go_grown)) (by decide) (by decide) (by omega) (by omega) true (Lib.hid (decide_eq_true (sp8 _ _ _)))).mono ?_
  rintro e w41 ⟨rfl, b41⟩
  replace b41 := below_trans (a := w40) (by go_grown) b41
  replace ha := ha.below b41
  replace hb := hb.below b41
  replace gx := gx.below b41
  replace gy := gy.below b41
  replace gz := gz.below b41
  replace Bz := below_trans Bz b41
  clear b41
  clear p0_0 p0_1 p0_2 p0_3 p1_0 p1_1 p1_2 p1_3
  have p0_0 := (HX0.out.below Bz).cell 0 (.bool a.s) rfl
  have p0_1 := (HX0.out.below Bz).cell 1 (.slice a.A a.l a.c) rfl
  have p0_2 := (HX0.out.below Bz).cell 2 (.bool a.s') rfl
  have p0_3 := (HX0.out.below Bz).cell 3 (.slice a.A' a.l' a.c') rfl
  have p1_0 := (HX1.out.below Bz).cell 0 (.bool b.s) rfl
  have p1_1 := (HX1.out.below Bz).cell 1 (.slice b.A b.l b.c) rfl
  have p1_2 := (HX1.out.below Bz).cell 2 (.bool b.s') rfl
  have p1_3 := (HX1.out.below Bz).cell 3 (.slice b.A' b.l' b.c') rfl
  refine hK.out _ _ ⟨p0_0, p0_1, p0_2, p0_3, p1_0, p1_1, p1_2, p1_3⟩ (fun _ => ?_)
  try simp only [pUt, pLt, pZt, pSt]
  clear hK K
  refine wpPlan_pure (o := ⟨some 140, _, _, _, _, _⟩) (v := ?_) rfl rfl (fun w' => ?_) ?_
  rotate_left
  · go_simp <;> with_reducible rfl
  try simp only [pUt, pLt, pZt, pSt]
  refine wpPlan_pure (o := ⟨some 15, _, _, _, _, _⟩) (v := ?_) rfl rfl (fun w' => ?_) ?_
  rotate_left
  · go_simp <;> with_reducible rfl
  try simp only [pUt, pLt, pZt, pSt]
  refine wpPlan_done ?_
  go_wp2_with fail
  (try simp only [List.append_eq, List.cons_append, List.nil_append])
  refine wp_region_plan (.pure 0 (.pure 1 (.pure 3 (.pure 4 (.only 2 (.only 5 (.only 6 (.pure 7 (.pure 8 (.take 9 (.pure 10 (.pure 12 (.pure 14 (.pure 15 (.take 17 (.pure 18 (.pure 19 (.only 11 (.only 13 (.only 16 (.only 20 (.only 21 (.only 22 (.only 23 (.pure 24 (.pure 25 .done)))))))))))))))))))))))))) [] (fun w' => w'.cell? ⟨w.heap.size, 0, none⟩ = some (.bool a.s) ∧ w'.cell? ⟨w.heap.size, 1, none⟩ = some (.slice a.A a.l a.c) ∧ w'.cell? ⟨w.heap.size, 2, none⟩ = some (.bool a.s') ∧ w'.cell? ⟨w.heap.size, 3, none⟩ = some (.slice a.A' a.l' a.c')) (by kernel_rfl) (by kernel_rfl) ⟨p0_0, p0_1, p0_2, p0_3⟩ ?_
  refine wpPlan_pure (o := ⟨some 141, _, _, _, _, _⟩) (v := ?_) rfl rfl (fun w' => ?_) ?_
  rotate_left
  · go_simp <;> with_reducible rfl
  try simp only [pUt, pLt, pZt, pSt]
  refine wpPlan_pure (o := ⟨some 142, _, _, _, _, _⟩) (v := ?_) rfl rfl (fun w' => ?_) ?_
  rotate_left
  · go_simp <;> with_reducible rfl
  try simp only [pUt, pLt, pZt, pSt]
  refine wpPlan_pure (o := ⟨some 144, _, _, _, _, _⟩) (v := ?_) rfl rfl (fun w' => ?_) ?_
  rotate_left
  · go_simp <;> with_reducible rfl
  try simp only [pUt, pLt, pZt, pSt]
  refine wpPlan_pure (o := ⟨some 145, _, _, _, _, _⟩) (v := ?_) rfl rfl (fun w' => ?_) ?_
  rotate_left
  · go_simp <;> with_reducible rfl
  try simp only [pUt, pLt, pZt, pSt]
  refine wpPlan_call (o := ⟨some 143, _, _, _, _, _⟩) rfl rfl (fun K hK => ?_)
  go_simp
  with_reducible refine (dotW 120 120 20 4861 (GV.below gx (by go_grown)) (GV.below gy (by go_grown)) hnx (by omega) (by decide) (by decide) (by decide) (by decide) (by decide) (Lib.hid (Tab.below hT.out (below_trans hB (below_trans (b := w41) Bz (by go_grown)))))).mono ?_
  rintro e w42 ⟨s42, A42, c42, l42, s42r, A42r, c42r, l42r, rfl, h42, z42, b42⟩
  replace b42 := below_trans (a := w41) (by go_grown) b42
  replace ha := ha.below b42
  replace hb := hb.below b42
  replace gx := gx.below b42
  replace gy := gy.below b42
  replace gz := gz.below b42
  replace Bz := below_trans Bz b42
  clear b42
  clear p0_0 p0_1 p0_2 p0_3 p1_0 p1_1 p1_2 p1_3
  have p0_0 := (HX0.out.below Bz).cell 0 (.bool a.s) rfl
  have p0_1 := (HX0.out.below Bz).cell 1 (.slice a.A a.l a.c) rfl
  have p0_2 := (HX0.out.below Bz).cell 2 (.bool a.s') rfl
  have p0_3 := (HX0.out.below Bz).cell 3 (.slice a.A' a.l' a.c') rfl
  refine hK.out _ _ ⟨p0_0, p0_1, p0_2, p0_3⟩ (fun _ => ?_)
  try simp only [pUt, pLt, pZt, pSt]
  clear hK K
  refine wpPlan_call (o := ⟨some 146, _, _, _, _, _⟩) rfl rfl (fun K hK => ?_)
  go_simp
  with_reducible refine (dotW 120 120 20 4861 (GV.below gy (by go_grown)) (GV.below gx (by go_grown)) hny (by omega) (by decide) (by decide) (by decide) (by decide) (by decide) (Lib.hid (Tab.below hT.out (below_trans hB (below_trans (b := w42) Bz (by go_grown)))))).mono ?_
  rintro e w43 ⟨s43, A43, c43, l43, s43r, A43r, c43r, l43r, rfl, h43, z43, b43⟩
  replace b43 := below_trans (a := w42) (by go_grown) b43
  replace h42 := h42.below b43
  replace ha := ha.below b43
  replace hb := hb.below b43
  replace gx := gx.below b43
  replace gy := gy.below b43
  replace gz := gz.below b43
  replace Bz := below_trans Bz b43
  clear b43
  clear p0_0 p0_1 p0_2 p0_3
  have p0_0 := (HX0.out.below Bz).cell 0 (.bool a.s) rfl
  have p0_1 := (HX0.out.below Bz).cell 1 (.slice a.A a.l a.c) rfl
  have p0_2 := (HX0.out.below Bz).cell 2 (.bool a.s') rfl
  have p0_3 := (HX0.out.below Bz).cell 3 (.slice a.A' a.l' a.c') rfl
  refine hK.out _ _ ⟨p0_0, p0_1, p0_2, p0_3⟩ (fun _ => ?_)
  try simp only [pUt, pLt, pZt, pSt]
  clear hK K
  refine wpPlan_call (o := ⟨some 147, _, _, _, _, _⟩) rfl rfl (fun K hK => ?_)
  go_simp
  with_reducible refine (same_q (R.below h42.r (by go_grown)) (R.below h43.r (by go_grown)) (by omega) true (Lib.hid (decide_eq_true (pdot_comm _ _)))).mono ?_
  rintro e w44 ⟨rfl, b44⟩
  replace b44 := below_trans (a := w43) (by go_grown) b44
  replace ha := ha.below b44
  replace hb := hb.below b44
  replace gx := gx.below b44
  replace gy := gy.below b44
  replace gz := gz.below b44
  replace Bz := below_trans Bz b44
  clear b44
  clear p0_0 p0_1 p0_2 p0_3
  have p0_0 := (HX0.out.below Bz).cell 0 (.bool a.s) rfl
  have p0_1 := (HX0.out.below Bz).cell 1 (.slice a.A a.l a.c) rfl
  have p0_2 := (HX0.out.below Bz).cell 2 (.bool a.s') rfl
  have p0_3 := (HX0.out.below Bz).cell 3 (.slice a.A' a.l' a.c') rfl
  refine hK.out _ _ ⟨p0_0, p0_1, p0_2, p0_3⟩ (fun _ => ?_)
  try simp only [pUt, pLt, pZt, pSt]
  clear hK K
  refine wpPlan_pure (o := ⟨some 148, _, _, _, _, _⟩) (v := ?_) rfl rfl (fun w' => ?_) ?_
  rotate_left
  · go_simp <;> with_reducible rfl
  try simp only [pUt, pLt, pZt, pSt]
  refine wpPlan_pure (o := ⟨some 149, _, _, _, _, _⟩) (v := ?_) rfl rfl (fun w' => ?_) ?_
  rotate_left
  · go_simp <;> with_reducible rfl
  try simp only [pUt, pLt, pZt, pSt]
  refine wpPlan_take (o := ⟨some 150, _, _, _, _, _⟩) (v := ?_) rfl rfl (fun w' hS => ?_) ?_
  rotate_left
  · obtain ⟨p0_0, p0_1, p0_2, p0_3⟩ := hS; go_simp <;> with_reducible rfl
  try simp only [pUt, pLt, pZt, pSt]
  refine wpPlan_pure (o := ⟨some 151, _, _, _, _, _⟩) (v := ?_) rfl rfl (fun w' => ?_) ?_
  rotate_left
  · go_simp <;> with_reducible rfl
  try simp only [pUt, pLt, pZt, pSt]
  refine wpPlan_pure (o := ⟨some 153, _, _, _, _, _⟩) (v := ?_) rfl rfl (fun w' => ?_) ?_
  rotate_left
  · go_simp <;> with_reducible rfl
  try simp only [pUt, pLt, pZt, pSt]
  refine wpPlan_pure (o := ⟨some 155, _, _, _, _, _⟩) (v := ?_) rfl rfl (fun w' => ?_) ?_
  rotate_left
  · go_simp <;> with_reducible rfl
  try simp only [pUt, pLt, pZt, pSt]
  refine wpPlan_pure (o := ⟨some 156, _, _, _, _, _⟩) (v := ?_) rfl rfl (fun w' => ?_) ?_
  rotate_left
  · go_simp <;> with_reducible rfl
  try simp only [pUt, pLt, pZt, pSt]
  refine wpPlan_take (o := ⟨some 158, _, _, _, _, _⟩) (v := ?_) rfl rfl (fun w' hS => ?_) ?_
  rotate_left
  · obtain ⟨p0_0, p0_1, p0_2, p0_3⟩ := hS; go_simp <;> with_reducible rfl
  try simp only [pUt, pLt, pZt, pSt]
  refine wpPlan_pure (o := ⟨some 159, _, _, _, _, _⟩) (v := ?_) rfl rfl (fun w' => ?_) ?_
  rotate_left
  · go_simp <;> with_reducible rfl
  try simp only [pUt, pLt, pZt, pSt]
  refine wpPlan_pure (o := ⟨some 160, _, _, _, _, _⟩) (v := ?_) rfl rfl (fun w' => ?_) ?_
  rotate_left
  · go_simp <;> with_reducible rfl
  try simp only [pUt, pLt, pZt, pSt]
  refine wpPlan_call (o := ⟨some 152, _, _, _, _, _⟩) rfl rfl (fun K hK => ?_)
  go_simp
  with_reducible refine (axpyW 4 120 120 20 20 247 40 (GV.below gy (by go_grown)) (R.below ha (by go_grown)) (GV.below gx (by go_grown)) hny hnx (by decide) (by decide) (by decide) (by decide) (Lib.hid (Tab.below hT.out (below_trans hB (below_trans (b := w44) Bz (by go_grown)))))).mono ?_
  rintro e w45 ⟨A45, n45, c45, rfl, h45, l45, b45⟩
  replace b45 := below_trans (a := w44) (by go_grown) b45
  replace ha := ha.below b45
  replace hb := hb.below b45
  replace gx := gx.below b45
  replace gy := gy.below b45
  replace gz := gz.below b45
  replace Bz := below_trans Bz b45
  clear b45
  clear p0_0 p0_1 p0_2 p0_3
  have p0_0 := (HX0.out.below Bz).cell 0 (.bool a.s) rfl
  have p0_1 := (HX0.out.below Bz).cell 1 (.slice a.A a.l a.c) rfl
  have p0_2 := (HX0.out.below Bz).cell 2 (.bool a.s') rfl
  have p0_3 := (HX0.out.below Bz).cell 3 (.slice a.A' a.l' a.c') rfl
  refine hK.out _ _ ⟨p0_0, p0_1, p0_2, p0_3⟩ (fun _ => ?_)
  try simp only [pUt, pLt, pZt, pSt]
  clear hK K
  refine wpPlan_call (o := ⟨some 154, _, _, _, _, _⟩) rfl rfl (fun K hK => ?_)
  go_simp
  with_reducible refine (dotW 248 120 40 14841 ((NV.below h45 (by go_grown)).gv (nrm_nrm _).rise) (GV.below gz (by go_grown)) l45 (by omega) (by decide) (by decide) (by decide) (by decide) (by decide) (Lib.hid (Tab.below hT.out (below_trans hB (below_trans (b := w45) Bz (by go_grown)))))).mono ?_
  rintro e w46 ⟨s46, A46, c46, l46, s46r, A46r, c46r, l46r, rfl, h46, z46, b46⟩
  replace b46 := below_trans (a := w45) (by go_grown) b46
  replace ha := ha.below b46
  replace hb := hb.below b46
  replace gx := gx.below b46
  replace gy := gy.below b46
  replace gz := gz.below b46
  replace Bz := below_trans Bz b46
  clear b46
  clear p0_0 p0_1 p0_2 p0_3
  have p0_0 := (HX0.out.below Bz).cell 0 (.bool a.s) rfl
  have p0_1 := (HX0.out.below Bz).cell 1 (.slice a.A a.l a.c) rfl
  have p0_2 := (HX0.out.below Bz).cell 2 (.bool a.s') rfl
  have p0_3 := (HX0.out.below Bz).cell 3 (.slice a.A' a.l' a.c') rfl
  refine hK.out _ _ ⟨p0_0, p0_1, p0_2, p0_3⟩ (fun _ => ?_)
  try simp only [pUt, pLt, pZt, pSt]
  clear hK K
  refine wpPlan_call (o := ⟨some 157, _, _, _, _, _⟩) rfl rfl (fun K hK => ?_)
  go_simp
  with_reducible refine (dotW 120 120 20 4861 (GV.below gy (by go_grown)) (GV.below gz (by go_grown)) hny (by omega) (by decide) (by decide) (by decide) (by decide) (by decide) (Lib.hid (Tab.below hT.out (below_trans hB (below_trans (b := w46) Bz (by go_grown)))))).mono ?_
  rintro e w47 ⟨s47, A47, c47, l47, s47r, A47r, c47r, l47r, rfl, h47, z47, b47⟩
  replace b47 := below_trans (a := w46) (by go_grown) b47
  replace h46 := h46.below b47
  replace ha := ha.below b47
  replace hb := hb.below b47
  replace gx := gx.below b47
  replace gy := gy.below b47
  replace gz := gz.below b47
  replace Bz := below_trans Bz b47
  clear b47
  clear p0_0 p0_1 p0_2 p0_3
  have p0_0 := (HX0.out.below Bz).cell 0 (.bool a.s) rfl
  have p0_1 := (HX0.out.below Bz).cell 1 (.slice a.A a.l a.c) rfl
  have p0_2 := (HX0.out.below Bz).cell 2 (.bool a.s') rfl
  have p0_3 := (HX0.out.below Bz).cell 3 (.slice a.A' a.l' a.c') rfl
  refine hK.out _ _ ⟨p0_0, p0_1, p0_2, p0_3⟩ (fun _ => ?_)
  try simp only [pUt, pLt, pZt, pSt]
  clear hK K
  refine wpPlan_call (o := ⟨some 161, _, _, _, _, _⟩) rfl rfl (fun K hK => ?_)
  go_simp
  with_reducible refine (dotW 120 120 20 4861 (GV.below gx (by go_grown)) (GV.below gz (by go_grown)) hnx (by omega) (by decide) (by decide) (by decide) (by decide) (by decide) (Lib.hid (Tab.below hT.out (below_trans hB (below_trans (b := w47) Bz (by go_grown)))))).mono ?_
  rintro e w48 ⟨s48, A48, c48, l48, s48r, A48r, c48r, l48r, rfl, h48, z48, b48⟩
  replace b48 := below_trans (a := w47) (by go_grown) b48
  replace h46 := h46.below b48
  replace h47 := h47.below b48
  replace ha := ha.below b48
  replace hb := hb.below b48
  replace gx := gx.below b48
  replace gy := gy.below b48
  replace Bz := below_trans Bz b48
  clear b48
  clear p0_0 p0_1 p0_2 p0_3
  have p0_0 := (HX0.out.below Bz).cell 0 (.bool a.s) rfl
  have p0_1 := (HX0.out.below Bz).cell 1 (.slice a.A a.l a.c) rfl
  have p0_2 := (HX0.out.below Bz).cell 2 (.bool a.s') rfl
  have p0_3 := (HX0.out.below Bz).cell 3 (.slice a.A' a.l' a.c') rfl
  refine hK.out _ _ ⟨p0_0, p0_1, p0_2, p0_3⟩ (fun _ => ?_)
  try simp only [pUt, pLt, pZt, pSt]
  clear hK K
  refine wpPlan_call (o := ⟨some 162, _, _, _, _, _⟩) rfl rfl (fun K hK => ?_)
  go_simp
  with_reducible refine (mul_q (R.below ha (by go_grown)) (R.below h48.r (by go_grown)) (by omega) (Lib.hid (Tab.below hT.out (below_trans hB (below_trans (b := w48) Bz (by go_grown)))))).mono ?_
  rintro e w49 ⟨s49, A49, c49, l49, s49r, A49r, c49r, l49r, rfl, h49, b49⟩
  replace b49 := below_trans (a := w48) (by go_grown) b49
  replace h46 := h46.below b49
  replace h47 := h47.below b49
  replace ha := ha.below b49
  replace hb := hb.below b49
  replace gx := gx.below b49
  replace gy := gy.below b49
  replace Bz := below_trans Bz b49
  clear b49
  have z49 := sz_mul hsa z48
  clear p0_0 p0_1 p0_2 p0_3
  have p0_0 := (HX0.out.below Bz).cell 0 (.bool a.s) rfl
  have p0_1 := (HX0.out.below Bz).cell 1 (.slice a.A a.l a.c) rfl
  have p0_2 := (HX0.out.below Bz).cell 2 (.bool a.s') rfl
  have p0_3 := (HX0.out.below Bz).cell 3 (.slice a.A' a.l' a.c') rfl
  refine hK.out _ _ ⟨p0_0, p0_1, p0_2, p0_3⟩ (fun _ => ?_)
  try simp only [pUt, pLt, pZt, pSt]
  clear hK K
  refine wpPlan_call (o := ⟨some 163, _, _, _, _, _⟩) rfl rfl (fun K hK => ?_)
  go_simp
  with_reducible refine (add_q (R.below h47.r (by go_grown)) (R.below h49.r (by go_grown)) (by omega) (Lib.hid (Tab.below hT.out (below_trans hB (below_trans (b := w49) Bz (by go_grown)))))).mono ?_
  rintro e w50 ⟨s50, A50, c50, l50, s50r, A50r, c50r, l50r, rfl, h50, b50⟩
  replace b50 := below_trans (a := w49) (by go_grown) b50
  replace h46 := h46.below b50
  replace ha := ha.below b50
  replace hb := hb.below b50
  replace gx := gx.below b50
  replace gy := gy.below b50
  replace Bz := below_trans Bz b50
  clear b50
  have z50 := sz_add z47 z49
  clear p0_0 p0_1 p0_2 p0_3
  have p0_0 := (HX0.out.below Bz).cell 0 (.bool a.s) rfl
  have p0_1 := (HX0.out.below Bz).cell 1 (.slice a.A a.l a.c) rfl
  have p0_2 := (HX0.out.below Bz).cell 2 (.bool a.s') rfl
  have p0_3 := (HX0.out.below Bz).cell 3 (.slice a.A' a.l' a.c') rfl
  refine hK.out _ _ ⟨p0_0, p0_1, p0_2, p0_3⟩ (fun _ => ?_)
  try simp only [pUt, pLt, pZt, pSt]
  clear hK K
  refine wpPlan_call (o := ⟨some 164, _, _, _, _, _⟩) rfl rfl (fun K hK => ?_)
  go_simp
  with_reducible refine (same_q (R.below h46.r (by go_grown)) (R.below h50.r (by go_grown)) (by omega) true (Lib.hid (decide_eq_true (sp9 _ _ _ _)))).mono ?_
  rintro e w51 ⟨rfl, b51⟩
  replace b51 := below_trans (a := w50) (by go_grown) b51
  replace ha := ha.below b51
  replace hb := hb.below b51
  replace gx := gx.below b51
  replace gy := gy.below b51
  replace Bz := below_trans Bz b51
  clear b51
  clear p0_0 p0_1 p0_2 p0_3
  have p0_0 := (HX0.out.below Bz).cell 0 (.bool a.s) rfl
  have p0_1 := (HX0.out.below Bz).cell 1 (.slice a.A a.l a.c) rfl
  have p0_2 := (HX0.out.below Bz).cell 2 (.bool a.s') rfl
  have p0_3 := (HX0.out.below Bz).cell 3 (.slice a.A' a.l' a.c') rfl
  have p1_0 := (HX1.out.below Bz).cell 0 (.bool b.s) rfl
  have p1_1 := (HX1.out.below Bz).cell 1 (.slice b.A b.l b.c) rfl
  have p1_2 := (HX1.out.below Bz).cell 2 (.bool b.s') rfl
  have p1_3 := (HX1.out.below Bz).cell 3 (.slice b.A' b.l' b.c') rfl
  refine hK.out _ _ ⟨p0_0, p0_1, p0_2, p0_3⟩ (fun _ => ?_)
  try simp only [pUt, pLt, pZt, pSt]
  clear hK K
  refine wpPlan_pure (o := ⟨some 165, _, _, _, _, _⟩) (v := ?_) rfl rfl (fun w' => ?_) ?_
  rotate_left
  · go_simp <;> with_reducible rfl
  try simp only [pUt, pLt, pZt, pSt]
  refine wpPlan_pure (o := ⟨some 16, _, _, _, _, _⟩) (v := ?_) rfl rfl (fun w' => ?_) ?_
  rotate_left
  · go_simp <;> with_reducible rfl
  try simp only [pUt, pLt, pZt, pSt]
  refine wpPlan_done ?_
  go_wp2_with fail
  (try simp only [List.append_eq, List.cons_append, List.nil_append])
  refine wp_region_plan (.pure 0 (.take 1 (.pure 2 (.pure 4 (.pure 6 (.pure 7 (.take 9 (.pure 10 (.pure 11 (.only 3 (.only 5 (.only 8 (.only 12 (.only 13 (.only 14 (.only 15 (.pure 16 (.pure 17 (.pure 18 (.take 19 (.pure 21 (.take 23 (.only 20 (.only 22 (.only 24 (.pure 25 (.pure 26 (.pure 27 (.pure 28 (.pure 29 (.take 30 (.pure 32 (.pure 33 (.pure 34 (.pure 37 (.only 31 (.only 35 (.only 36 (.only 38 (.only 39 (.pure 40 (.pure 41 .done)))))))))))))))))))))))))))))))))))))))))) [] (fun w' => w'.cell? ⟨w.heap.size, 0, none⟩ = some (.bool a.s) ∧ w'.cell? ⟨w.heap.size, 1, none⟩ = some (.slice a.A a.l a.c) ∧ w'.cell? ⟨w.heap.size, 2, none⟩ = some (.bool a.s') ∧ w'.cell? ⟨w.heap.size, 3, none⟩ = some (.slice a.A' a.l' a.c') ∧ w'.cell? ⟨w.heap.size + 1, 0, none⟩ = some (.bool b.s) ∧ w'.cell? ⟨w.heap.size + 1, 1, none⟩ = some (.slice b.A b.l b.c) ∧ w'.cell? ⟨w.heap.size + 1, 2, none⟩ = some (.bool b.s') ∧ w'.cell? ⟨w.heap.size + 1, 3, none⟩ = some (.slice b.A' b.l' b.c')) (by kernel_rfl) (by kernel_rfl) ⟨p0_0, p0_1, p0_2, p0_3, p1_0, p1_1, p1_2, p1_3⟩ ?_
  refine wpPlan_pure (o := ⟨some 166, _, _, _, _, _⟩) (v := ?_) rfl rfl (fun w' => ?_) ?_
  rotate_left
  · go_simp <;> with_reducible rfl
  try simp only [pUt, pLt, pZt, pSt]
  refine wpPlan_take (o := ⟨some 167, _, _, _, _, _⟩) (v := ?_) rfl rfl (fun w' hS => ?_) ?_
  rotate_left
  · obtain ⟨p0_0, p0_1, p0_2, p0_3, p1_0, p1_1, p1_2, p1_3⟩ := hS; go_simp <;> with_reducible rfl
  try simp only [pUt, pLt, pZt, pSt]
  refine wpPlan_pure (o := ⟨some 168, _, _, _, _, _⟩) (v := ?_) rfl rfl (fun w' => ?_) ?_
  rotate_left
  · go_simp <;> with_reducible rfl
  try simp only [pUt, pLt, pZt, pSt]
  refine wpPlan_pure (o := ⟨some 170, _, _, _, _, _⟩) (v := ?_) rfl rfl (fun w' => ?_) ?_
  rotate_left
  · go_simp <;> with_reducible rfl
  try simp only [pUt, pLt, pZt, pSt]
  refine wpPlan_pure (o := ⟨some 172, _, _, _, _, _⟩) (v := ?_) rfl rfl (fun w' => ?_) ?_
  rotate_left
  · go_simp <;> with_reducible rfl
  try simp only [pUt, pLt, pZt, pSt]
  refine wpPlan_pure (o := ⟨some 173, _, _, _, _, _⟩) (v := ?_) rfl rfl (fun w' => ?_) ?_
  rotate_left
  · go_simp <;> with_reducible rfl
  try simp only [pUt, pLt, pZt, pSt]
  refine wpPlan_take (o := ⟨some 175, _, _, _, _, _⟩) (v := ?_) rfl rfl (fun w' hS => ?_) ?_
  rotate_left
  · obtain ⟨p0_0, p0_1, p0_2, p0_3, p1_0, p1_1, p1_2, p1_3⟩ := hS; go_simp <;> with_reducible rfl
  try simp only [pUt, pLt, pZt, pSt]
  refine wpPlan_pure (o := ⟨some 176, _, _, _, _, _⟩) (v := ?_) rfl rfl (fun w' => ?_) ?_
  rotate_left
  · go_simp <;> with_reducible rfl
  try simp only [pUt, pLt, pZt, pSt]
  refine wpPlan_pure (o := ⟨some 177, _, _, _, _, _⟩) (v := ?_) rfl rfl (fun w' => ?_) ?_
  rotate_left
  · go_simp <;> with_reducible rfl
  try simp only [pUt, pLt, pZt, pSt]
  refine wpPlan_call (o := ⟨some 169, _, _, _, _, _⟩) rfl rfl (fun K hK => ?_)
  go_simp
  with_reducible refine (axpyW 4 120 120 20 20 247 40 (GV.below gy (by go_grown)) (R.below ha (by go_grown)) (GV.below gx (by go_grown)) hny hnx (by decide) (by decide) (by decide) (by decide) (Lib.hid (Tab.below hT.out (below_trans hB (below_trans (b := w51) Bz (by go_grown)))))).mono ?_
  rintro e w52 ⟨A52, n52, c52, rfl, h52, l52, b52⟩
  replace b52 := below_trans (a := w51) (by go_grown) b52
  replace ha := ha.below b52
  replace hb := hb.below b52
  replace gx := gx.below b52
  replace gy := gy.below b52
  replace Bz := below_trans Bz b52
  clear b52
  clear p0_0 p0_1 p0_2 p0_3 p1_0 p1_1 p1_2 p1_3
  have p0_0 := (HX0.out.below Bz).cell 0 (.bool a.s) rfl
  have p0_1 := (HX0.out.below Bz).cell 1 (.slice a.A a.l a.c) rfl
  have p0_2 := (HX0.out.below Bz).cell 2 (.bool a.s') rfl
  have p0_3 := (HX0.out.below Bz).cell 3 (.slice a.A' a.l' a.c') rfl
  have p1_0 := (HX1.out.below Bz).cell 0 (.bool b.s) rfl
  have p1_1 := (HX1.out.below Bz).cell 1 (.slice b.A b.l b.c) rfl
  have p1_2 := (HX1.out.below Bz).cell 2 (.bool b.s') rfl
  have p1_3 := (HX1.out.below Bz).cell 3 (.slice b.A' b.l' b.c') rfl
  refine hK.out _ _ ⟨p0_0, p0_1, p0_2, p0_3, p1_0, p1_1, p1_2, p1_3⟩ (fun _ => ?_)
  try simp only [pUt, pLt, pZt, pSt]
  clear hK K
  refine wpPlan_call (o := ⟨some 171, _, _, _, _, _⟩) rfl rfl (fun K hK => ?_)
  go_simp
  with_reducible refine (getW 248 40 249 at_ ((NV.below h52 (by go_grown)).gv (nrm_nrm _).rise) l52 (by decide) (by decide) (by decide) (Lib.hid (Tab.below hT.out (below_trans hB (below_trans (b := w52) Bz (by go_grown)))))).mono ?_
  rintro e w53 ⟨s53, A53, c53, l53, s53r, A53r, c53r, l53r, rfl, h53, z53, b53⟩
  replace b53 := below_trans (a := w52) (by go_grown) b53
  replace ha := ha.below b53
  replace hb := hb.below b53
  replace gx := gx.below b53
  replace gy := gy.below b53
  replace Bz := below_trans Bz b53
  clear b53
  clear p0_0 p0_1 p0_2 p0_3 p1_0 p1_1 p1_2 p1_3
  have p0_0 := (HX0.out.below Bz).cell 0 (.bool a.s) rfl
  have p0_1 := (HX0.out.below Bz).cell 1 (.slice a.A a.l a.c) rfl
  have p0_2 := (HX0.out.below Bz).cell 2 (.bool a.s') rfl
  have p0_3 := (HX0.out.below Bz).cell 3 (.slice a.A' a.l' a.c') rfl
  have p1_0 := (HX1.out.below Bz).cell 0 (.bool b.s) rfl
  have p1_1 := (HX1.out.below Bz).cell 1 (.slice b.A b.l b.c) rfl
  have p1_2 := (HX1.out.below Bz).cell 2 (.bool b.s') rfl
  have p1_3 := (HX1.out.below Bz).cell 3 (.slice b.A' b.l' b.c') rfl
  refine hK.out _ _ ⟨p0_0, p0_1, p0_2, p0_3, p1_0, p1_1, p1_2, p1_3⟩ (fun _ => ?_)
  try simp only [pUt, pLt, pZt, pSt]
  clear hK K
  refine wpPlan_call (o := ⟨some 174, _, _, _, _, _⟩) rfl rfl (fun K hK => ?_)
  go_simp
  with_reducible refine (getW 120 20 121 at_ (GV.below gy (by go_grown)) hny (by decide) (by decide) (by decide) (Lib.hid (Tab.below hT.out (below_trans hB (below_trans (b := w53) Bz (by go_grown)))))).mono ?_
  rintro e w54 ⟨s54, A54, c54, l54, s54r, A54r, c54r, l54r, rfl, h54, z54, b54⟩
  replace b54 := below_trans (a := w53) (by go_grown) b54
  replace h53 := h53.below b54
  replace ha := ha.below b54
  replace hb := hb.below b54
  replace gx := gx.below b54
  replace gy := gy.below b54
  replace Bz := below_trans Bz b54
  clear b54
  clear p0_0 p0_1 p0_2 p0_3 p1_0 p1_1 p1_2 p1_3
  have p0_0 := (HX0.out.below Bz).cell 0 (.bool a.s) rfl
  have p0_1 := (HX0.out.below Bz).cell 1 (.slice a.A a.l a.c) rfl
  have p0_2 := (HX0.out.below Bz).cell 2 (.bool a.s') rfl
  have p0_3 := (HX0.out.below Bz).cell 3 (.slice a.A' a.l' a.c') rfl
  have p1_0 := (HX1.out.below Bz).cell 0 (.bool b.s) rfl
  have p1_1 := (HX1.out.below Bz).cell 1 (.slice b.A b.l b.c) rfl
  have p1_2 := (HX1.out.below Bz).cell 2 (.bool b.s') rfl
  have p1_3 := (HX1.out.below Bz).cell 3 (.slice b.A' b.l' b.c') rfl
  refine hK.out _ _ ⟨p0_0, p0_1, p0_2, p0_3, p1_0, p1_1, p1_2, p1_3⟩ (fun _ => ?_)
  try simp only [pUt, pLt, pZt, pSt]
  clear hK K
  refine wpPlan_call (o := ⟨some 178, _, _, _, _, _⟩) rfl rfl (fun K hK => ?_)
  go_simp
  with_reducible refine (getW 120 20 121 at_ (GV.below gx (by go_grown)) hnx (by decide) (by decide) (by decide) (Lib.hid (Tab.below hT.out (below_trans hB (below_trans (b := w54) Bz (by go_grown)))))).mono ?_
  rintro e w55 ⟨s55, A55, c55, l55, s55r, A55r, c55r, l55r, rfl, h55, z55, b55⟩
  replace b55 := below_trans (a := w54) (by go_grown) b55
  replace h53 := h53.below b55
  replace h54 := h54.below b55
  replace ha := ha.below b55
  replace hb := hb.below b55
  replace gx := gx.below b55
  replace gy := gy.below b55
  replace Bz := below_trans Bz b55
  clear b55
  clear p0_0 p0_1 p0_2 p0_3 p1_0 p1_1 p1_2 p1_3
  have p0_0 := (HX0.out.below Bz).cell 0 (.bool a.s) rfl
  have p0_1 := (HX0.out.below Bz).cell 1 (.slice a.A a.l a.c) rfl
  have p0_2 := (HX0.out.below Bz).cell 2 (.bool a.s') rfl
  have p0_3 := (HX0.out.below Bz).cell 3 (.slice a.A' a.l' a.c') rfl
  have p1_0 := (HX1.out.below Bz).cell 0 (.bool b.s) rfl
  have p1_1 := (HX1.out.below Bz).cell 1 (.slice b.A b.l b.c) rfl
  have p1_2 := (HX1.out.below Bz).cell 2 (.bool b.s') rfl
  have p1_3 := (HX1.out.below Bz).cell 3 (.slice b.A' b.l' b.c') rfl
  refine hK.out _ _ ⟨p0_0, p0_1, p0_2, p0_3, p1_0, p1_1, p1_2, p1_3⟩ (fun _ => ?_)
  try simp only [pUt, pLt, pZt, pSt]
  clear hK K
  refine wpPlan_call (o := ⟨some 179, _, _, _, _, _⟩) rfl rfl (fun K hK => ?_)
  go_simp
  with_reducible refine (mul_q (R.below ha (by go_grown)) (R.below h55.r (by go_grown)) (by omega) (Lib.hid (Tab.below hT.out (below_trans hB (below_trans (b := w55) Bz (by go_grown)))))).mono ?_
  rintro e w56 ⟨s56, A56, c56, l56, s56r, A56r, c56r, l56r, rfl, h56, b56⟩
  replace b56 := below_trans (a := w55) (by go_grown) b56
  replace h53 := h53.below b56
  replace h54 := h54.below b56
  replace hb := hb.below b56
  replace gx := gx.below b56
  replace gy := gy.below b56
  replace Bz := below_trans Bz b56
  clear b56
  have z56 := sz_mul hsa z55
  clear p0_0 p0_1 p0_2 p0_3 p1_0 p1_1 p1_2 p1_3
  have p0_0 := (HX0.out.below Bz).cell 0 (.bool a.s) rfl
  have p0_1 := (HX0.out.below Bz).cell 1 (.slice a.A a.l a.c) rfl
  have p0_2 := (HX0.out.below Bz).cell 2 (.bool a.s') rfl
  have p0_3 := (HX0.out.below Bz).cell 3 (.slice a.A' a.l' a.c') rfl
  have p1_0 := (HX1.out.below Bz).cell 0 (.bool b.s) rfl
  have p1_1 := (HX1.out.below Bz).cell 1 (.slice b.A b.l b.c) rfl
  have p1_2 := (HX1.out.below Bz).cell 2 (.bool b.s') rfl
  have p1_3 := (HX1.out.below Bz).cell 3 (.slice b.A' b.l' b.c') rfl
  refine hK.out _ _ ⟨p0_0, p0_1, p0_2, p0_3, p1_0, p1_1, p1_2, p1_3⟩ (fun _ => ?_)
  try simp only [pUt, pLt, pZt, pSt]
  clear hK K
  refine wpPlan_call (o := ⟨some 180, _, _, _, _, _⟩) rfl rfl (fun K hK => ?_)
  go_simp
  with_reducible refine (add_q (R.below h54.r (by go_grown)) (R.below h56.r (by go_grown)) (by omega) (Lib.hid (Tab.below hT.out (below_trans hB (below_trans (b := w56) Bz (by go_grown)))))).mono ?_
  rintro e w57 ⟨s57, A57, c57, l57, s57r, A57r, c57r, l57r, rfl, h57, b57⟩
  replace b57 := below_trans (a := w56) (by go_grown) b57
  replace h53 := h53.below b57
  replace hb := hb.below b57
  replace gx := gx.below b57
  replace gy := gy.below b57
  replace Bz := below_trans Bz b57
  clear b57
  have z57 := sz_add z54 z56
  clear p0_0 p0_1 p0_2 p0_3 p1_0 p1_1 p1_2 p1_3
  have p0_0 := (HX0.out.below Bz).cell 0 (.bool a.s) rfl
  have p0_1 := (HX0.out.below Bz).cell 1 (.slice a.A a.l a.c) rfl
  have p0_2 := (HX0.out.below Bz).cell 2 (.bool a.s') rfl
  have p0_3 := (HX0.out.below Bz).cell 3 (.slice a.A' a.l' a.c') rfl
  have p1_0 := (HX1.out.below Bz).cell 0 (.bool b.s) rfl
  have p1_1 := (HX1.out.below Bz).cell 1 (.slice b.A b.l b.c) rfl
  have p1_2 := (HX1.out.below Bz).cell 2 (.bool b.s') rfl
  have p1_3 := (HX1.out.below Bz).cell 3 (.slice b.A' b.l' b.c') rfl
  refine hK.out _ _ ⟨p0_0, p0_1, p0_2, p0_3, p1_0, p1_1, p1_2, p1_3⟩ (fun _ => ?_)
  try simp only [pUt, pLt, pZt, pSt]
  clear hK K
  refine wpPlan_call (o := ⟨some 181, _, _, _, _, _⟩) rfl rfl (fun K hK => ?_)
  go_simp
  with_reducible refine (same_q (R.below h53.r (by go_grown)) (R.below h57.r (by go_grown)) (by omega) true (Lib.hid (decide_eq_true (sp10 _ _ _ _)))).mono ?_
  rintro e w58 ⟨rfl, b58⟩
  replace b58 := below_trans (a := w57) (by go_grown) b58
  replace hb := hb.below b58
  replace gx := gx.below b58
  replace gy := gy.below b58
  replace Bz := below_trans Bz b58
  clear b58
  clear p0_0 p0_1 p0_2 p0_3 p1_0 p1_1 p1_2 p1_3
  have p0_0 := (HX0.out.below Bz).cell 0 (.bool a.s) rfl
  have p0_1 := (HX0.out.below Bz).cell 1 (.slice a.A a.l a.c) rfl
  have p0_2 := (HX0.out.below Bz).cell 2 (.bool a.s') rfl
  have p0_3 := (HX0.out.below Bz).cell 3 (.slice a.A' a.l' a.c') rfl
  have p1_0 := (HX1.out.below Bz).cell 0 (.bool b.s) rfl
  have p1_1 := (HX1.out.below Bz).cell 1 (.slice b.A b.l b.c) rfl
  have p1_2 := (HX1.out.below Bz).cell 2 (.bool b.s') rfl
  have p1_3 := (HX1.out.below Bz).cell 3 (.slice b.A' b.l' b.c') rfl
  refine hK.out _ _ ⟨p0_0, p0_1, p0_2, p0_3, p1_0, p1_1, p1_2, p1_3⟩ (fun _ => ?_)
  try simp only [pUt, pLt, pZt, pSt]
  clear hK K
  refine wpPlan_pure (o := ⟨some 182, _, _, _, _, _⟩) (v := ?_) rfl rfl (fun w' => ?_) ?_
  rotate_left
  · go_simp <;> with_reducible rfl
  try simp only [pUt, pLt, pZt, pSt]
  refine wpPlan_pure (o := ⟨some 183, _, _, _, _, _⟩) (v := ?_) rfl rfl (fun w' => ?_) ?_
  rotate_left
  · go_simp <;> with_reducible rfl
  try simp only [pUt, pLt, pZt, pSt]
  refine wpPlan_pure (o := ⟨some 184, _, _, _, _, _⟩) (v := ?_) rfl rfl (fun w' => ?_) ?_
  rotate_left
  · go_simp <;> with_reducible rfl
  try simp only [pUt, pLt, pZt, pSt]
  refine wpPlan_take (o := ⟨some 185, _, _, _, _, _⟩) (v := ?_) rfl rfl (fun w' hS => ?_) ?_
  rotate_left
  · obtain ⟨p0_0, p0_1, p0_2, p0_3, p1_0, p1_1, p1_2, p1_3⟩ := hS; go_simp <;> with_reducible rfl
  try simp only [pUt, pLt, pZt, pSt]
  refine wpPlan_pure (o := ⟨some 187, _, _, _, _, _⟩) (v := ?_) rfl rfl (fun w' => ?_) ?_
  rotate_left
  · go_simp <;> with_reducible rfl
  try simp only [pUt, pLt, pZt, pSt]
  refine wpPlan_take (o := ⟨some 189, _, _, _, _, _⟩) (v := ?_) rfl rfl (fun w' hS => ?_) ?_
  rotate_left
  · obtain ⟨p0_0, p0_1, p0_2, p0_3, p1_0, p1_1, p1_2, p1_3⟩ := hS; go_simp <;> with_reducible rfl
  try simp only [pUt, pLt, pZt, pSt]
  refine wpPlan_call (o := ⟨some 186, _, _, _, _, _⟩) rfl rfl (fun K hK => ?_)
  go_simp
  with_reducible refine (putW 4 120 20 126 (GV.below gx (by go_grown)) at_ (R.below hb (by go_grown)) hnx (by decide) (by decide) (by decide) (Lib.hid (Tab.below hT.out (below_trans hB (below_trans (b := w58) Bz (by go_grown)))))).mono ?_
  rintro e w59 ⟨A59, n59, c59, rfl, h59, l59, b59⟩
  replace b59 := below_trans (a := w58) (by go_grown) b59
  replace hb := hb.below b59
  replace gx := gx.below b59
  replace gy := gy.below b59
  replace Bz := below_trans Bz b59
  clear b59
  clear p0_0 p0_1 p0_2 p0_3 p1_0 p1_1 p1_2 p1_3
  have p0_0 := (HX0.out.below Bz).cell 0 (.bool a.s) rfl
  have p0_1 := (HX0.out.below Bz).cell 1 (.slice a.A a.l a.c) rfl
  have p0_2 := (HX0.out.below Bz).cell 2 (.bool a.s') rfl
  have p0_3 := (HX0.out.below Bz).cell 3 (.slice a.A' a.l' a.c') rfl
  have p1_0 := (HX1.out.below Bz).cell 0 (.bool b.s) rfl
  have p1_1 := (HX1.out.below Bz).cell 1 (.slice b.A b.l b.c) rfl
  have p1_2 := (HX1.out.below Bz).cell 2 (.bool b.s') rfl
  have p1_3 := (HX1.out.below Bz).cell 3 (.slice b.A' b.l' b.c') rfl
  refine hK.out _ _ ⟨p0_0, p0_1, p0_2, p0_3, p1_0, p1_1, p1_2, p1_3⟩ (fun _ => ?_)
  try simp only [pUt, pLt, pZt, pSt]
  clear hK K
  refine wpPlan_call (o := ⟨some 188, _, _, _, _, _⟩) rfl rfl (fun K hK => ?_)
  go_simp
  with_reducible refine (getW 127 21 128 at_ ((NV.below h59 (by go_grown)).gv (nrm_nrm _).rise) l59 (by decide) (by decide) (by decide) (Lib.hid (Tab.below hT.out (below_trans hB (below_trans (b := w59) Bz (by go_grown)))))).mono ?_
  rintro e w60 ⟨s60, A60, c60, l60, s60r, A60r, c60r, l60r, rfl, h60, z60, b60⟩
  replace b60 := below_trans (a := w59) (by go_grown) b60
  replace hb := hb.below b60
  replace gx := gx.below b60
  replace gy := gy.below b60
  replace Bz := below_trans Bz b60
  clear b60
  clear p0_0 p0_1 p0_2 p0_3 p1_0 p1_1 p1_2 p1_3
  have p0_0 := (HX0.out.below Bz).cell 0 (.bool a.s) rfl
  have p0_1 := (HX0.out.below Bz).cell 1 (.slice a.A a.l a.c) rfl
  have p0_2 := (HX0.out.below Bz).cell 2 (.bool a.s') rfl
  have p0_3 := (HX0.out.below Bz).cell 3 (.slice a.A' a.l' a.c') rfl
  have p1_0 := (HX1.out.below Bz).cell 0 (.bool b.s) rfl
  have p1_1 := (HX1.out.below Bz).cell 1 (.slice b.A b.l b.c) rfl
  have p1_2 := (HX1.out.below Bz).cell 2 (.bool b.s') rfl
  have p1_3 := (HX1.out.below Bz).cell 3 (.slice b.A' b.l' b.c') rfl
  refine hK.out _ _ ⟨p0_0, p0_1, p0_2, p0_3, p1_0, p1_1, p1_2, p1_3⟩ (fun _ => ?_)
  try simp only [pUt, pLt, pZt, pSt]
  clear hK K
  refine wpPlan_call (o := ⟨some 190, _, _, _, _, _⟩) rfl rfl (fun K hK => ?_)
  go_simp
  with_reducible refine (same_q (R.below h60.r (by go_grown)) (R.below hb (by go_grown)) (by omega) true (Lib.hid (decide_eq_true (sp11 _ _ _)))).mono ?_
  rintro e w61 ⟨rfl, b61⟩
  replace b61 := below_trans (a := w60) (by go_grown) b61
  replace hb := hb.below b61
  replace gx := gx.below b61
  replace gy := gy.below b61
  replace Bz := below_trans Bz b61
  clear b61
  clear p0_0 p0_1 p0_2 p0_3 p1_0 p1_1 p1_2 p1_3
  have p0_0 := (HX0.out.below Bz).cell 0 (.bool a.s) rfl
  have p0_1 := (HX0.out.below Bz).cell 1 (.slice a.A a.l a.c) rfl
  have p0_2 := (HX0.out.below Bz).cell 2 (.bool a.s') rfl
  have p0_3 := (HX0.out.below Bz).cell 3 (.slice a.A' a.l' a.c') rfl
  have p1_0 := (HX1.out.below Bz).cell 0 (.bool b.s) rfl
  have p1_1 := (HX1.out.below Bz).cell 1 (.slice b.A b.l b.c) rfl
  have p1_2 := (HX1.out.below Bz).cell 2 (.bool b.s') rfl
  have p1_3 := (HX1.out.below Bz).cell 3 (.slice b.A' b.l' b.c') rfl
  refine hK.out _ _ ⟨p0_0, p0_1, p0_2, p0_3, p1_0, p1_1, p1_2, p1_3⟩ (fun _ => ?_)
  try simp only [pUt, pLt, pZt, pSt]
  clear hK K
  refine wpPlan_pure (o := ⟨some 191, _, _, _, _, _⟩) (v := ?_) rfl rfl (fun w' => ?_) ?_
  rotate_left
  · go_simp <;> with_reducible rfl
  try simp only [pUt, pLt, pZt, pSt]
  refine wpPlan_pure (o := ⟨some 192, _, _, _, _, _⟩) (v := ?_) rfl rfl (fun w' => ?_) ?_
  rotate_left
  · go_simp <;> with_reducible rfl
  try simp only [pUt, pLt, pZt, pSt]
  refine wpPlan_pure (o := ⟨some 193, _, _, _, _, _⟩) (v := ?_) rfl rfl (fun w' => ?_) ?_
  rotate_left
  · go_simp <;> with_reducible rfl
  try simp only [pUt, pLt, pZt, pSt]
  refine wpPlan_pure (o := ⟨some 194, _, _, _, _, _⟩) (v := ?_) rfl rfl (fun w' => ?_) ?_
  rotate_left
  · go_simp <;> with_reducible rfl
  try simp only [pUt, pLt, pZt, pSt]
  refine wpPlan_pure (o := ⟨some 195, _, _, _, _, _⟩) (v := ?_) rfl rfl (fun w' => ?_) ?_
  rotate_left
  · go_simp <;> with_reducible rfl
  try simp only [pUt, pLt, pZt, pSt]
  refine wpPlan_take (o := ⟨some 196, _, _, _, _, _⟩) (v := ?_) rfl rfl (fun w' hS => ?_) ?_
  rotate_left
  · obtain ⟨p0_0, p0_1, p0_2, p0_3, p1_0, p1_1, p1_2, p1_3⟩ := hS; go_simp <;> with_reducible rfl
  try simp only [pUt, pLt, pZt, pSt]
  refine wpPlan_pure (o := ⟨some 198, _, _, _, _, _⟩) (v := ?_) rfl rfl (fun w' => ?_) ?_
  rotate_left
  · go_simp <;> with_reducible rfl
  try simp only [pUt, pLt, pZt, pSt]
  refine wpPlan_pure (o := ⟨some 199, _, _, _, _, _⟩) (v := ?_) rfl rfl (fun w' => ?_) ?_
  rotate_left
  · go_simp <;> with_reducible rfl
  try simp only [pUt, pLt, pZt, pSt]
  refine wpPlan_pure (o := ⟨some 200, _, _, _, _, _⟩) (v := ?_) rfl rfl (fun w' => ?_) ?_
  rotate_left
  · go_simp <;> with_reducible rfl
  try simp only [pUt, pLt, pZt, pSt]
  refine wpPlan_pure (o := ⟨some 203, _, _, _, _, _⟩) (v := ?_) rfl rfl (fun w' => ?_) ?_
  rotate_left
  · go_simp <;> with_reducible rfl
  try simp only [pUt, pLt, pZt, pSt]
  refine wpPlan_call (o := ⟨some 197, _, _, _, _, _⟩) rfl rfl (fun K hK => ?_)
  go_simp
  with_reducible refine (putW 4 120 20 126 (GV.below gx (by go_grown)) at_ (R.below hb (by go_grown)) hnx (by decide) (by decide) (by decide) (Lib.hid (Tab.below hT.out (below_trans hB (below_trans (b := w61) Bz (by go_grown)))))).mono ?_
  rintro e w62 ⟨A62, n62, c62, rfl, h62, l62, b62⟩
  replace b62 := below_trans (a := w61) (by go_grown) b62
  replace gx := gx.below b62
  replace gy := gy.below b62
  replace Bz := below_trans Bz b62
  clear b62
  clear p0_0 p0_1 p0_2 p0_3 p1_0 p1_1 p1_2 p1_3
  have p0_0 := (HX0.out.below Bz).cell 0 (.bool a.s) rfl
  have p0_1 := (HX0.out.below Bz).cell 1 (.slice a.A a.l a.c) rfl
  have p0_2 := (HX0.out.below Bz).cell 2 (.bool a.s') rfl
  have p0_3 := (HX0.out.below Bz).cell 3 (.slice a.A' a.l' a.c') rfl
  have p1_0 := (HX1.out.below Bz).cell 0 (.bool b.s) rfl
  have p1_1 := (HX1.out.below Bz).cell 1 (.slice b.A b.l b.c) rfl
  have p1_2 := (HX1.out.below Bz).cell 2 (.bool b.s') rfl
  have p1_3 := (HX1.out.below Bz).cell 3 (.slice b.A' b.l' b.c') rfl
  refine hK.out _ _ ⟨p0_0, p0_1, p0_2, p0_3, p1_0, p1_1, p1_2, p1_3⟩ (fun _ => ?_)
  try simp only [pUt, pLt, pZt, pSt]
  clear hK K
  refine wpPlan_call (o := ⟨some 201, _, _, _, _, _⟩) rfl rfl (fun K hK => ?_)
  go_simp
  with_reducible refine (getW 120 20 121 at_ (GV.below gx (by go_grown)) hnx (by decide) (by decide) (by decide) (Lib.hid (Tab.below hT.out (below_trans hB (below_trans (b := w62) Bz (by go_grown)))))).mono ?_
  rintro e w63 ⟨s63, A63, c63, l63, s63r, A63r, c63r, l63r, rfl, h63, z63, b63⟩
  replace b63 := below_trans (a := w62) (by go_grown) b63
  replace h62 := h62.below b63
  replace gx := gx.below b63
  replace gy := gy.below b63
  replace Bz := below_trans Bz b63
  clear b63
  clear p0_0 p0_1 p0_2 p0_3 p1_0 p1_1 p1_2 p1_3
  have p0_0 := (HX0.out.below Bz).cell 0 (.bool a.s) rfl
  have p0_1 := (HX0.out.below Bz).cell 1 (.slice a.A a.l a.c) rfl
  have p0_2 := (HX0.out.below Bz).cell 2 (.bool a.s') rfl
  have p0_3 := (HX0.out.below Bz).cell 3 (.slice a.A' a.l' a.c') rfl
  have p1_0 := (HX1.out.below Bz).cell 0 (.bool b.s) rfl
  have p1_1 := (HX1.out.below Bz).cell 1 (.slice b.A b.l b.c) rfl
  have p1_2 := (HX1.out.below Bz).cell 2 (.bool b.s') rfl
  have p1_3 := (HX1.out.below Bz).cell 3 (.slice b.A' b.l' b.c') rfl
  refine hK.out _ _ ⟨p0_0, p0_1, p0_2, p0_3, p1_0, p1_1, p1_2, p1_3⟩ (fun _ => ?_)
  try simp only [pUt, pLt, pZt, pSt]
  clear hK K
  refine wpPlan_call (o := ⟨some 202, _, _, _, _, _⟩) rfl rfl (fun K hK => ?_)
  go_simp
  with_reducible refine (putW 121 127 21 250 ((NV.below h62 (by go_grown)).gv (nrm_nrm _).rise) at_ (R.mono (R.below h63.r (by go_grown)) z63) l62 (by decide) (by decide) (by decide) (Lib.hid (Tab.below hT.out (below_trans hB (below_trans (b := w63) Bz (by go_grown)))))).mono ?_
  rintro e w64 ⟨A64, n64, c64, rfl, h64, l64, b64⟩
  replace b64 := below_trans (a := w63) (by go_grown) b64
  replace gx := gx.below b64
  replace gy := gy.below b64
  replace Bz := below_trans Bz b64
  clear b64
  clear p0_0 p0_1 p0_2 p0_3 p1_0 p1_1 p1_2 p1_3
  have p0_0 := (HX0.out.below Bz).cell 0 (.bool a.s) rfl
  have p0_1 := (HX0.out.below Bz).cell 1 (.slice a.A a.l a.c) rfl
  have p0_2 := (HX0.out.below Bz).cell 2 (.bool a.s') rfl
  have p0_3 := (HX0.out.below Bz).cell 3 (.slice a.A' a.l' a.c') rfl
  have p1_0 := (HX1.out.below Bz).cell 0 (.bool b.s) rfl
  have p1_1 := (HX1.out.below Bz).cell 1 (.slice b.A b.l b.c) rfl
  have p1_2 := (HX1.out.below Bz).cell 2 (.bool b.s') rfl
  have p1_3 := (HX1.out.below Bz).cell 3 (.slice b.A' b.l' b.c') rfl
  refine hK.out _ _ ⟨p0_0, p0_1, p0_2, p0_3, p1_0, p1_1, p1_2, p1_3⟩ (fun _ => ?_)
  try simp only [pUt, pLt, pZt, pSt]
  clear hK K
  refine wpPlan_call (o := ⟨some 204, _, _, _, _, _⟩) rfl rfl (fun K hK => ?_)
  go_simp
  with_reducible refine (normW 120 20 (GV.below gx (by go_grown)) hnx (by decide) (by decide) (Lib.hid (Tab.below hT.out (below_trans hB (below_trans (b := w64) Bz (by go_grown)))))).mono ?_
  rintro e w65 ⟨A65, n65, c65, rfl, h65, l65, b65⟩
  replace b65 := below_trans (a := w64) (by go_grown) b65
  replace h64 := h64.below b65
  replace gx := gx.below b65
  replace gy := gy.below b65
  replace Bz := below_trans Bz b65
  clear b65
  clear p0_0 p0_1 p0_2 p0_3 p1_0 p1_1 p1_2 p1_3
  have p0_0 := (HX0.out.below Bz).cell 0 (.bool a.s) rfl
  have p0_1 := (HX0.out.below Bz).cell 1 (.slice a.A a.l a.c) rfl
  have p0_2 := (HX0.out.below Bz).cell 2 (.bool a.s') rfl
  have p0_3 := (HX0.out.below Bz).cell 3 (.slice a.A' a.l' a.c') rfl
  have p1_0 := (HX1.out.below Bz).cell 0 (.bool b.s) rfl
  have p1_1 := (HX1.out.below Bz).cell 1 (.slice b.A b.l b.c) rfl
  have p1_2 := (HX1.out.below Bz).cell 2 (.bool b.s') rfl
  have p1_3 := (HX1.out.below Bz).cell 3 (.slice b.A' b.l' b.c') rfl
  refine hK.out _ _ ⟨p0_0, p0_1, p0_2, p0_3, p1_0, p1_1, p1_2, p1_3⟩ (fun _ => ?_)
  try simp only [pUt, pLt, pZt, pSt]
  clear hK K
  refine wpPlan_call (o := ⟨some 205, _, _, _, _, _⟩) rfl rfl (fun K hK => ?_)
  go_simp
  with_reducible refine (sameVec_q (NV.below h64 (by go_grown)) (NV.below h65 (by go_grown)) (by decide) (by decide) (by omega) (by omega) true (Lib.hid (decide_eq_true (sp12 _ _ _)))).mono ?_
  rintro e w66 ⟨rfl, b66⟩
  replace b66 := below_trans (a := w65) (by go_grown) b66
  replace gx := gx.below b66
  replace gy := gy.below b66
  replace Bz := below_trans Bz b66
  clear b66
  clear p0_0 p0_1 p0_2 p0_3 p1_0 p1_1 p1_2 p1_3
  have p0_0 := (HX0.out.below Bz).cell 0 (.bool a.s) rfl
  have p0_1 := (HX0.out.below Bz).cell 1 (.slice a.A a.l a.c) rfl
  have p0_2 := (HX0.out.below Bz).cell 2 (.bool a.s') rfl
  have p0_3 := (HX0.out.below Bz).cell 3 (.slice a.A' a.l' a.c') rfl
  have p1_0 := (HX1.out.below Bz).cell 0 (.bool b.s) rfl
  have p1_1 := (HX1.out.below Bz).cell 1 (.slice b.A b.l b.c) rfl
  have p1_2 := (HX1.out.below Bz).cell 2 (.bool b.s') rfl
  have p1_3 := (HX1.out.below Bz).cell 3 (.slice b.A' b.l' b.c') rfl
  refine hK.out _ _ ⟨p0_0, p0_1, p0_2, p0_3, p1_0, p1_1, p1_2, p1_3⟩ (fun _ => ?_)
  try simp only [pUt, pLt, pZt, pSt]
  clear hK K
  refine wpPlan_pure (o := ⟨some 206, _, _, _, _, _⟩) (v := ?_) rfl rfl (fun w' => ?_) ?_
  rotate_left
  · go_simp <;> with_reducible rfl
  try simp only [pUt, pLt, pZt, pSt]
  refine wpPlan_pure (o := ⟨some 17, _, _, _, _, _⟩) (v := ?_) rfl rfl (fun w' => ?_) ?_
  rotate_left
  · go_simp <;> with_reducible rfl
  try simp only [pUt, pLt, pZt, pSt]
  refine wpPlan_done ?_
  go_wp2_with fail
  with_reducible refine (sameV_q (GV.below gx (by go_grown)) (GV.below gy (by go_grown)) (by decide) (by decide) (by omega) (by omega) (Lib.hid (Tab.below hT.out (below_trans hB (below_trans (b := w66) Bz (by go_grown))))) r HR).mono ?_
  rintro e w67 ⟨rfl, b67⟩
  replace b67 := below_trans (a := w66) (by go_grown) b67
  replace gx := gx.below b67
  replace gy := gy.below b67
  replace Bz := below_trans Bz b67
  clear b67
  clear p0_0 p0_1 p0_2 p0_3 p1_0 p1_1 p1_2 p1_3
  go_wp2_with fail
  with_reducible refine (normW 120 20 (GV.below gx (by go_grown)) hnx (by decide) (by decide) (Lib.hid (Tab.below hT.out (below_trans hB (below_trans (b := w67) Bz (by go_grown)))))).mono ?_
  rintro e w68 ⟨A68, n68, c68, rfl, h68, l68, b68⟩
  replace b68 := below_trans (a := w67) (by go_grown) b68
  replace gy := gy.below b68
  replace Bz := below_trans Bz b68
  clear b68
  go_wp2_with fail
  with_reducible refine (normW 120 20 (GV.below gy (by go_grown)) hny (by decide) (by decide) (Lib.hid (Tab.below hT.out (below_trans hB (below_trans (b := w68) Bz (by go_grown)))))).mono ?_
  rintro e w69 ⟨A69, n69, c69, rfl, h69, l69, b69⟩
  replace b69 := below_trans (a := w68) (by go_grown) b69
  replace h68 := h68.below b69
  replace Bz := below_trans Bz b69
  clear b69
  go_wp2_with fail
  with_reducible refine (sameVec_q (NV.below h68 (by go_grown)) (NV.below h69 (by go_grown)) (by decide) (by decide) (by omega) (by omega) r HR).mono ?_
  rintro e w70 ⟨rfl, b70⟩
  replace b70 := below_trans (a := w69) (by go_grown) b70
  replace Bz := below_trans Bz b70
  clear b70
  go_wp2_with fail
  with_reducible refine (awake5_q (Lib.hid (Tab.below hT.out (below_trans hB (below_trans (b := w70) Bz (by go_grown)))))).mono ?_
  rintro e w71 ⟨rfl, b71⟩
  replace b71 := below_trans (a := w70) (by go_grown) b71
  replace Bz := below_trans Bz b71
  clear b71
  go_wp2_with fail
  go_ret
  have hF := below_trans (c := w71) hB Bz
  exact ⟨rfl, below_trans hF (by go_grown)⟩
theorem space_q {w : World} {X Y Z : Option Addr} {nx cx ny cy nz cz : Nat} {LX LY LZ : List Tm} {a b : Fr} {at_ : Int} (hx : Sl Tm.cs 5 w X nx cx LX) (xi : Hid (∀ t ∈ LX, TmIn w t)) (hlx : nx ≤ 9223372036854775807) (hy : Sl Tm.cs 5 w Y ny cy LY) (yi : Hid (∀ t ∈ LY, TmIn w t)) (hly : ny ≤ 9223372036854775807) (hz : Sl Tm.cs 5 w Z nz cz LZ) (zi : Hid (∀ t ∈ LZ, TmIn w t)) (hlz : nz ≤ 9223372036854775807) (ai : FrIn w a) (bi : FrIn w b) (xc : X = none → cx = 0) (yc : Y = none → cy = 0) (zc : Z = none → cz = 0) (hT : Hid (Tab w)) :
    Calls Tryd.prog 6 #[.slice X nx cx, .slice Y ny cy, .slice Z nz cz, .agg #[.bool a.s, .slice a.A a.l a.c, .bool a.s', .slice a.A' a.l' a.c'], .agg #[.bool b.s, .slice b.A b.l b.c, .bool b.s', .slice b.A' b.l' b.c'], .int .i64 at_] w (Yes w) := by
  cases s0 : shortVc 20 4 ⟨X, nx, cx, LX⟩
  · exact space_0 hx xi hlx hy yi hly hz zi hlz ai bi (Lib.hid s0) hT
  · cases s1 : shortVc 20 4 ⟨Y, ny, cy, LY⟩
    · exact space_1 hx xi hlx hy yi hly hz zi hlz ai bi (Lib.hid s0) (Lib.hid s1) hT
    · cases s2 : shortVc 20 4 ⟨Z, nz, cz, LZ⟩
      · exact space_2 hx xi hlx hy yi hly hz zi hlz ai bi (Lib.hid s0) (Lib.hid s1) (Lib.hid s2) hT
      · cases s3 : shortFr 4 a
        · exact space_3 hx xi hlx hy yi hly hz zi hlz ai bi (Lib.hid s0) (Lib.hid s1) (Lib.hid s2) (Lib.hid s3) hT
        · cases s4 : shortFr 4 b
          · exact space_4 hx xi hlx hy yi hly hz zi hlz ai bi (Lib.hid s0) (Lib.hid s1) (Lib.hid s2) (Lib.hid s3) (Lib.hid s4) hT
          · exact space_ok hx xi hlx hy yi hly hz zi hlz ai bi (Lib.hid s0) (Lib.hid s1) (Lib.hid s2) (Lib.hid s3) (Lib.hid s4) xc yc zc hT
/-- Terms, a number, that came in. -/
def TsIn (W : World) (v : Value) : Prop := ∃ (A : Option Addr) (n c : Nat) (L : List Tm), v = .slice A n c ∧ Sl Tm.cs 5 W A n c L ∧ (∀ t ∈ L, TmIn W t) ∧ n ≤ 9223372036854775807 ∧ (A = none → c = 0)
def RtIn (W : World) (v : Value) : Prop := ∃ x : Fr, v = .agg x.cs.toArray ∧ FrIn W x
open Go.ChangeShapes Go.WideShapes Go.ChangeAt in
set_option maxRecDepth 100000 in
theorem ts_of {H : Type} {enc : TypeId × Value → H} {W : World} {b : Nat} {sp : Nat → Bool} {hd : Bool} {v : Value} {d : DataW H} {p : List MemPlace}
    (h : DataW.Trod enc Tryd.prog W b sp hd 57 v d p) (hv : ∃ A n c, v = .slice A n c) : TsIn W v := by
  obtain ⟨A, n, c, rfl⟩ := hv
  obtain ⟨fuel, hf⟩ := h
  have hf2 : DataW.trod enc Tryd.prog W b sp hd fuel 57 [.slice A n c] = some (d, p) := by simpa [Value.cells] using hf
  obtain ⟨A', n', c', L, e, h1, h2, h3, h4⟩ := slice_of Tm.cs 5 (TmIn W) Tryd.underlying57 (by kernel_rfl) (by omega) Tm.cs_len tm_in hf2
  have hn : A = none → c = 0 := by
    intro e0
    subst e0
    rcases Go.Deep.open_slice Tryd.underlying57 hf2 with ⟨k1, _⟩ | ⟨a, len, cap, m, k, D, Pl, k1, _⟩
    · simp at k1; exact k1.2
    · simp at k1
  simp only [List.cons.injEq, Value.slice.injEq, and_true] at e
  obtain ⟨rfl, rfl, rfl⟩ := e
  exact ⟨A, n, c, L, rfl, h3, h4, by unfold maxLen at h2; omega, hn⟩
open Go.ChangeShapes Go.WideShapes Go.ChangeAt in
set_option maxRecDepth 100000 in
theorem rt_of {H : Type} {enc : TypeId × Value → H} {W : World} {b : Nat} {sp : Nat → Bool} {hd : Bool} {v : Value} {d : DataW H} {p : List MemPlace}
    (h : DataW.Trod enc Tryd.prog W b sp hd 27 v d p) (hv : ∃ cs, v = .agg cs ∧ cs.size = 4) : RtIn W v := by
  obtain ⟨cs, rfl, hs⟩ := hv
  obtain ⟨fuel, hf⟩ := h
  obtain ⟨x, hx, hi⟩ := fr_in fuel cs.toList (d, p) (by simpa using hs) (by simpa [Value.cells] using hf)
  exact ⟨x, by rw [← hx], hi⟩
open Go.ChangeShapes Go.WideShapes Go.ChangeAt in
set_option maxRecDepth 100000 in
theorem aggRat_of {W : World} {r : Reach} {b : Nat} {v : Value} (h : Value.okWide Tryd.prog W r b 27 v) : ∃ cs, v = .agg cs ∧ cs.size = 4 := by
  obtain ⟨cs, rfl, hs⟩ := okWide_struct Tryd.underlying27 h
  have hC : Tryd.prog.cellsOf 27 = 4 := by kernel_rfl
  rw [hC] at hs
  exact ⟨cs, rfl, hs⟩
theorem space_any {w : World} {x y z u v : Value} {at_ : Int} (hx : TsIn w x) (hy : TsIn w y) (hz : TsIn w z) (ha : RtIn w u) (hb : RtIn w v) (_ : -9223372036854775808 ≤ at_ ∧ at_ ≤ 9223372036854775807) (hT : Tab w) :
    Calls Tryd.prog 6 #[x, y, z, u, v, .int .i64 at_] w (Yes w) := by
  obtain ⟨X, nx, cx, LX, rfl, x1, x2, x3, x4⟩ := hx
  obtain ⟨Y, ny, cy, LY, rfl, y1, y2, y3, y4⟩ := hy
  obtain ⟨Z, nz, cz, LZ, rfl, z1, z2, z3, z4⟩ := hz
  obtain ⟨a, rfl, ai⟩ := ha
  obtain ⟨b, rfl, bi⟩ := hb
  exact space_q (a := a) (b := b) x1 (Lib.hid x2) x3 y1 (Lib.hid y2) y3 z1 (Lib.hid z2) z3 ai bi x4 y4 z4 (Lib.hid hT)
namespace sparseSpace
open Go.ChangeShapes Go.WideShapes Go.ChangeAt Go.RowKit Tw

set_option maxRecDepth 100000 in
theorem contract (H : Type) (enc : TypeId × Value → H) (W : World) (base : Nat) (args : Array Value) (ds gs : List (DataW H)) (before : List MemPlace)
    (hval : ∀ (j : Nat) t v, Tryd.f6.params[j]? = some t → args[j]? = some v → Value.okWide Tryd.prog W .any base t v)
    (hW : DataW.Whole enc Tryd.prog Tryd.f6.params.toList Rows.sparseSpaceSpec.vars false W args.toList ds gs before) (hL : laidMetH Tryd.prog Rows.sparseSpaceRow.laid W) :
    Calls Tryd.prog 6 args W fun e W' => ∃ v, e = .returned v ∧ Rows.sparseSpaceSpec.post enc Tryd.prog Tryd.f6 false true false false W args v W' := by
  have hW' := hW
  obtain ⟨p, q, hA0, hV, rfl, hfz, hnd⟩ := hW
  have hA : DataW.TrodAll enc Tryd.prog W 0 (fun _ => true) true Tryd.f6.params.toList args.toList ds p := hA0
  rw [Tryd.params6] at hA hval
  obtain ⟨v0, vs0, d0, ds0, p0, q0, hargs, rfl, rfl, h0, r0⟩ := trodAll_cons hA
  obtain ⟨v1, vs1, d1, ds1, p1, q1, rfl, rfl, rfl, h1, r1⟩ := trodAll_cons r0
  obtain ⟨v2, vs2, d2, ds2, p2, q2, rfl, rfl, rfl, h2, r2⟩ := trodAll_cons r1
  obtain ⟨v3, vs3, d3, ds3, p3, q3, rfl, rfl, rfl, h3, r3⟩ := trodAll_cons r2
  obtain ⟨v4, vs4, d4, ds4, p4, q4, rfl, rfl, rfl, h4, r4⟩ := trodAll_cons r3
  obtain ⟨v5, vs5, d5, ds5, p5, q5, rfl, rfl, rfl, h5, r5⟩ := trodAll_cons r4
  obtain ⟨rfl, rfl, rfl⟩ := trodAll_nil r5
  obtain rfl : args = #[v0, v1, v2, v3, v4, v5] := by cases args; simp_all
  obtain ⟨rfl, rfl⟩ := trodVars_none hV
  have lt0 : ∀ x ∈ p0, x.block < W.heap.size := by obtain ⟨m, hm⟩ := h0; exact DataW.trod_lt m _ _ _ hm
  obtain ⟨A0, l0, c0, rfl⟩ := okWide_slice Tryd.underlying57 (hval 0 57 v0 rfl rfl)
  have n0 := ts_of h0 ⟨_, _, _, rfl⟩
  have lt1 : ∀ x ∈ p1, x.block < W.heap.size := by obtain ⟨m, hm⟩ := h1; exact DataW.trod_lt m _ _ _ hm
  obtain ⟨A1, l1, c1, rfl⟩ := okWide_slice Tryd.underlying57 (hval 1 57 v1 rfl rfl)
  have n1 := ts_of h1 ⟨_, _, _, rfl⟩
  have lt2 : ∀ x ∈ p2, x.block < W.heap.size := by obtain ⟨m, hm⟩ := h2; exact DataW.trod_lt m _ _ _ hm
  obtain ⟨A2, l2, c2, rfl⟩ := okWide_slice Tryd.underlying57 (hval 2 57 v2 rfl rfl)
  have n2 := ts_of h2 ⟨_, _, _, rfl⟩
  have lt3 : ∀ x ∈ p3, x.block < W.heap.size := by obtain ⟨m, hm⟩ := h3; exact DataW.trod_lt m _ _ _ hm
  have n3 := rt_of h3 (aggRat_of (hval 3 27 v3 rfl rfl))
  have lt4 : ∀ x ∈ p4, x.block < W.heap.size := by obtain ⟨m, hm⟩ := h4; exact DataW.trod_lt m _ _ _ hm
  have n4 := rt_of h4 (aggRat_of (hval 4 27 v4 rfl rfl))
  obtain ⟨a5, rfl, rfl, rfl, w5⟩ := open_int Tryd.underlying3 (hval 5 3 v5 rfl rfl) h5
  refine (space_any n0 n1 n2 n3 n4 (bounds_i64 w5) (tab_of hL)).mono fun e W' ⟨he, bel⟩ => ?_
  subst he
  exact ⟨_, rfl, _, _, _, [], _, [], hW', trodAll_mk1 (shut_bool Tryd.underlying4 _), (trodAll_cons_mk (Below.trod laidOut (by kernel_rfl) (of_decide_eq_true (by kernel_rfl)) h0 bel lt0) (trodAll_cons_mk (Below.trod laidOut (by kernel_rfl) (of_decide_eq_true (by kernel_rfl)) h1 bel lt1) (trodAll_cons_mk (Below.trod laidOut (by kernel_rfl) (of_decide_eq_true (by kernel_rfl)) h2 bel lt2) (trodAll_cons_mk (Below.trod laidOut (by kernel_rfl) (of_decide_eq_true (by kernel_rfl)) h3 bel lt3) (trodAll_cons_mk (Below.trod laidOut (by kernel_rfl) (of_decide_eq_true (by kernel_rfl)) h4 bel lt4) (trodAll_cons_mk (shut_int Tryd.underlying3 w5) trodAll_mk0)))))), rfl, bel.frame _, fun h => by cases h⟩

theorem laid_met (os : Os) : laidMet Tryd.prog Rows.sparseSpaceRow.laid ((laidWorld os).forCall (fun _ _ => 0) ⟨#[], #[.slice none 0 0, .slice none 0 0, .slice none 0 0, .agg #[.bool false, .slice none 0 0, .bool false, .slice none 0 0], .agg #[.bool false, .slice none 0 0, .bool false, .slice none 0 0], .int .i64 0], []⟩).memory :=
  laidMet_of_run' 8 (by kernel_rfl) (by kernel_rfl)
set_option maxRecDepth 100000 in
theorem reads (os : Os) {H : Type} (enc : TypeId × Value → H) : ∃ places, DataW.whole enc Tryd.prog ((laidWorld os).forCall (fun _ _ => 0) ⟨#[], #[.slice none 0 0, .slice none 0 0, .slice none 0 0, .agg #[.bool false, .slice none 0 0, .bool false, .slice none 0 0], .agg #[.bool false, .slice none 0 0, .bool false, .slice none 0 0], .int .i64 0], []⟩).memory Tryd.f6.params.toList Rows.sparseSpaceSpec.vars false (#[.slice none 0 0, .slice none 0 0, .slice none 0 0, .agg #[.bool false, .slice none 0 0, .bool false, .slice none 0 0], .agg #[.bool false, .slice none 0 0, .bool false, .slice none 0 0], .int .i64 0] : Array Value).toList 8 = some ([.nil, .nil, .nil, .agg [.agg [.lit (.bool false), .nil], .agg [.lit (.bool false), .nil]], .agg [.agg [.lit (.bool false), .nil], .agg [.lit (.bool false), .nil]], .lit (.int .i64 0)], [], places) :=
  ⟨[], by kernel_rfl⟩

set_option maxRecDepth 100000 in
theorem lifted (os : Os) (started : os.Started) (H : Type) (enc : TypeId × Value → H) (F : Stop.Interp) :
    ReturnsInHanded {} Tryd.checked os 6 .any ((OpenSpec.ofChange Rows.sparseSpaceSpec).preRow enc Tryd.prog Tryd.f6 Rows.sparseSpaceRow.domain false Rows.sparseSpaceRow.laid) (((OpenSpec.ofChange Rows.sparseSpaceSpec).at F).post enc Tryd.prog Tryd.f6 false true false false) := by
  obtain ⟨places, hx⟩ := reads os enc
  refine returnsInHanded_of_row (C := Tryd.checked) (s := OpenSpec.ofChange Rows.sparseSpaceSpec) own started (by kernel_rfl) Tryd.func6
    (witness_row_at (enc := enc) (C := Tryd.checked) false (laidWorld os) #[.slice none 0 0, .slice none 0 0, .slice none 0 0, .agg #[.bool false, .slice none 0 0, .bool false, .slice none 0 0], .agg #[.bool false, .slice none 0 0, .bool false, .slice none 0 0], .int .i64 0] rfl (by kernel_rfl) (by kernel_rfl) (by kernel_rfl)
      (OpenSpec.preRow_of_cond 8 hx (by kernel_rfl) (fun k hk => by cases hk) (by kernel_rfl) (laid_met os))) ?_
  intro W base args ds gs before hval hW _ _ _ hL _ _
  exact contract H enc W base args ds gs before hval hW hL

theorem said : Rows.SparseSpaceSaid :=
  OpenClaim.holds_of_cond 6 Tryd.f6 rfl rfl rfl rfl rfl rfl rfl ⟨rfl, rfl, rfl, rfl, rfl⟩ rfl rfl rfl rfl rfl (by kernel_rfl) Tryd.func6 (by kernel_rfl)
    (of_decide_eq_true (by kernel_rfl)) (by unfold Func.isWrapper; first | (rw [if_pos (by decide +kernel)]; kernel_rfl) | (rw [if_neg (by decide +kernel)]; exact ⟨rfl, rfl⟩))
    (fun os started H enc _ F => by rw [OpenClaim.pre_eq_preRow]; exact lifted os started H enc F)

theorem plain (f : FuncId) (fn : Func) (hf : Tryd.pinned.checked.prog.funcNamed "tripwire/tripwirelaw05.SparseSpace" = some f) (hfn : Tryd.pinned.checked.prog.funcs[f]? = some fn) :
    false = Tryd.pinned.checked.prog.looks [] ∧ ∀ (j : Nat) t, fn.params[j]? = some t → Tryd.pinned.checked.prog.wantsStandIn t = false := by
  obtain rfl : f = 6 := Option.some.inj ((show Tryd.prog.funcNamed "tripwire/tripwirelaw05.SparseSpace" = some 6 by kernel_rfl).symm.trans hf) |>.symm
  obtain rfl : fn = Tryd.f6 := (Option.some.inj (Tryd.func6.symm.trans hfn)).symm
  refine ⟨by kernel_rfl, fun j t ht => ?_⟩
  rw [Tryd.params6] at ht
  have hm := Array.mem_of_getElem? ht
  simp only [List.mem_toArray, List.mem_cons, List.not_mem_nil, or_false] at hm
  rcases hm with rfl | rfl | rfl | rfl | rfl | rfl
  · exact (show Tryd.prog.wantsStandIn 57 = false by kernel_rfl)
  · exact (show Tryd.prog.wantsStandIn 57 = false by kernel_rfl)
  · exact (show Tryd.prog.wantsStandIn 57 = false by kernel_rfl)
  · exact (show Tryd.prog.wantsStandIn 27 = false by kernel_rfl)
  · exact (show Tryd.prog.wantsStandIn 27 = false by kernel_rfl)
  · exact (show Tryd.prog.wantsStandIn 3 = false by kernel_rfl)

/-- The card. -/
theorem card : Rows.SparseSpaceCardSaid :=
  Claim7.holds_tied_plain_at .later [] _ _ _ _ said (fun _ h => by cases h) (by kernel_rfl) (fun _ h => by cases h) sparseSpace_row_tie rfl ⟨rfl, rfl⟩ (by kernel_rfl) rfl plain (by kernel_rfl)
end sparseSpace
end Go.Proofs.YtionhpangenhnaaDoor
