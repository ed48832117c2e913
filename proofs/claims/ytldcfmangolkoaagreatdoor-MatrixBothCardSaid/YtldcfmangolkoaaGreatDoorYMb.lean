/-
  MatrixBoth: for any columns, vectors, number and size that came in, Dot, Times, Left and Turn go together; the law answers true. No condition. Written by wip/gen/mb.py.
-/
import Derived.Test.YtldcfmangolkoaaGreatDoorYMxC
import Derived.Test.YtldcfmangolkoaaGreatDoorYRdT
import Derived.Test.YtldcfmangolkoaaGreatDoorYRdV
import Derived.Test.YtldcfmangolkoaaGreatDoorYWG
import Derived.Test.YtldcfmangolkoaaGreatDoorYZTab
namespace Go.Proofs.YtldcfmangolkoaaGreatDoor
open Go.RowKit Tw

theorem pick_n {w : World} (x : Int) (n : Nat) (z : Int) (hz : (n : Int) = z) (hx : I64 x) (hn : 1 ≤ n) (hn2 : n ≤ 1000000000) : Calls Tryz.prog 71 #[.int .i64 x, .int .i64 z] w fun e w' => ∃ p : Nat, e = .returned (.int .i64 (p : Int)) ∧ p < n ∧ Below w.heap.size w w' := by
 subst hz
 refine (pick_q x n w hx hn hn2).mono fun e w' h => ?_
 obtain ⟨⟨m, h1, h2⟩, rfl⟩ := h
 exact ⟨m, h2, h1, Below.refl _ _⟩
theorem VgIn.below {w w' : World} {v : Vc} (h : VgIn w v) (hb : Below w.heap.size w w') : Sl Tm.cs 5 w' v.A v.n v.c v.L ∧ v.n ≤ 9223372036854775807 ∧ ∀ x ∈ v.L, x.x.l ≤ 9223372036854775807 ∧ x.x.l' ≤ 9223372036854775807 :=
 ⟨h.2.1.below hb, by have := h.1; unfold maxLen at this; omega, fun x hx => tm_lens (h.2.2.1 x hx)⟩
theorem VgIn.sl {w : World} {v : Vc} (h : VgIn w v) : Sl Tm.cs 5 w v.A v.n v.c v.L := h.2.1
theorem vg_lens {w : World} {v : Vc} (h : Sl Tm.cs 5 w v.A v.n v.c v.L ∧ v.n ≤ 9223372036854775807 ∧ ∀ x ∈ v.L, x.x.l ≤ 9223372036854775807 ∧ x.x.l' ≤ 9223372036854775807) : Sl Tm.cs 5 w v.A v.n v.c v.L ∧ v.n ≤ 9223372036854775807 ∧ ∀ x ∈ v.L, x.x.l ≤ 9223372036854775807 ∧ x.x.l' ≤ 9223372036854775807 := h
theorem cw_small {w : World} {A : Option Addr} {n c k cnt most : Nat} {CL : List Vc} (h : Sl Vc.cs 1 w A n c CL) (hi : ∀ v ∈ CL, VgIn w v) (hs : shortVcs (k : Int) (cnt : Int) (most : Int) n CL = true) : CW w A n c (CL.map fun v => prs v.L) ((most + 2) * cnt) ∧ n ≤ k ∧ ∀ x ∈ CL.map (fun v => prs v.L), x.length ≤ cnt ∧ wtot x ≤ cnt * (most + 2) := by
 unfold shortVcs at hs
 simp only [Bool.and_eq_true, decide_eq_true_eq, List.all_eq_true] at hs
 refine ⟨⟨CL, h, fun v hv => (gv_small (hi v hv).2.1 (hi v hv).2.2.1 (hi v hv).2.2.2 (hs.2 v hv)).1, rfl⟩, by omega, fun x hx => ?_⟩
 obtain ⟨v, hv, rfl⟩ := List.mem_map.1 hx
 have h1 := gv_small (hi v hv).2.1 (hi v hv).2.2.1 (hi v hv).2.2.2 (hs.2 v hv)
 have h2 := h1.1.len
 refine ⟨by omega, Nat.le_trans (wtot_le (sz_small (hi v hv).2.2.1 (hs.2 v hv))) (Nat.mul_le_mul_right _ (by omega))⟩
theorem cm_right {w : World} {A : Option Addr} {n c k cnt most : Nat} {CL : List Vc} {m : Int} (h : Sl Vc.cs 1 w A n c CL) (hi : ∀ v ∈ CL, VgIn w v) (hs : shortVcs (k : Int) (cnt : Int) (most : Int) n CL = true) (hr : (CL.all fun v => rightB v.L m) = true) : CM w A n c (CL.map fun v => prs v.L) (most + 2) ∧ ∀ x ∈ CL.map (fun v => prs v.L), Nrm x ∧ ∀ y ∈ x, 0 ≤ y.1 ∧ y.1 < m := by
 unfold shortVcs at hs
 simp only [Bool.and_eq_true, decide_eq_true_eq, List.all_eq_true] at hs
 refine ⟨⟨CL, h, fun v hv => ⟨(hi v hv).2.1, fun t ht => ?_, (hi v hv).2.2.2⟩, rfl⟩, fun x hx => ?_⟩
 ·have h1 := (rightB_nrm (List.all_eq_true.1 hr v hv)).2 t ht
  have h2 := ((hi v hv).2.2.1 t ht).1.2.2 (dgT t) (by unfold dgT; omega) (by unfold dgT; omega)
  exact ⟨h2.rn.1 h1.2.2, h1.2.2, sz_small (hi v hv).2.2.1 (hs.2 v hv) (t.at_, t.x.q) (List.mem_map_of_mem (f := fun t : Tm => (t.at_, t.x.q)) ht)⟩
 ·obtain ⟨v, hv, rfl⟩ := List.mem_map.1 hx
  have h1 := rightB_nrm (List.all_eq_true.1 hr v hv)
  refine ⟨h1.1, fun y hy => ?_⟩
  obtain ⟨t, ht, rfl⟩ := prs_mem hy
  exact ⟨(h1.2 t ht).1, (h1.2 t ht).2.1⟩
theorem turn_len {C : List (List (Int × Rat))} {m N : Nat} (h : C.length ≤ N) : ∀ x ∈ turnT C m, x.length ≤ N := fun x hx => by
 obtain ⟨i, _, rfl⟩ := List.mem_map.1 hx
 exact Nat.le_trans (trn_len C _ _) h
theorem turn_right {C : List (List (Int × Rat))} {m n : Nat} (h : C.length = n) : rightC (n : Int) (turnT C m) = true := rightC_iff.2 fun x hx => by
 obtain ⟨i, _, rfl⟩ := List.mem_map.1 hx
 refine ⟨turn_nrm C _, fun y hy => ?_⟩
 have := turn_low C _ y hy
 omega
theorem wtot_axpy (X Z : List (Int × Rat)) (q : Rat) {p r k s : Nat} (hX : wtot X ≤ p) (hZ : wtot Z ≤ r) (hl : Z.length ≤ k) (hs : sz q ≤ s) : wtot (nrm (X ++ Z.map fun x => (x.1, q * x.2))) ≤ p + (r + k * s) := by
 have e : (Z.map fun x => (x.1, q * x.2)) = Z.map fun x => (x.1, x.2 * q) := List.map_congr_left fun x _ => by rw [Rat.mul_comm]
 have h1 := wtot_nrm (X ++ Z.map fun x => (x.1, q * x.2))
 rw [wtot_append, e] at h1
 rw [e]
 have h2 := wtot_by q Z
 have h3 : Z.length * sz q ≤ k * s := Nat.mul_le_mul hl hs
 omega
set_option maxRecDepth 100000 in
set_option maxHeartbeats 4000000 in
theorem both_0 {w : World} {LA X Y Z : Option Addr} {nl cl nx cx ny cy nz cz : Nat} {CL : List Vc} {LX LY LZ : List Tm} {a : Fr} {n : Int} (hl : Sl Vc.cs 1 w LA nl cl CL) (hli : Hid (∀ v ∈ CL, VgIn w v)) (hll : nl ≤ 9223372036854775807) (_hx : Sl Tm.cs 5 w X nx cx LX) (_xi : Hid (∀ t ∈ LX, TmIn w t)) (_hlx : nx ≤ 9223372036854775807) (_hy : Sl Tm.cs 5 w Y ny cy LY) (_yi : Hid (∀ t ∈ LY, TmIn w t)) (_hly : ny ≤ 9223372036854775807) (_hz : Sl Tm.cs 5 w Z nz cz LZ) (_zi : Hid (∀ t ∈ LZ, TmIn w t)) (_hlz : nz ≤ 9223372036854775807) (_ai : FrIn w a) (S0 : Hid (shortVcs 12 12 2 nl CL = false)) (hT : Hid (Tab w)) :
  Calls Tryz.prog 7 #[.slice LA nl cl, .slice X nx cx, .slice Y ny cy, .slice Z nz cz, .agg #[.bool a.s, .slice a.A a.l a.c, .bool a.s', .slice a.A' a.l' a.c'], .int .i64 n] w (Yes w) := by
 obtain ⟨W, hW, x0, hB⟩ := boxes1 w #[.bool a.s, .slice a.A a.l a.c, .bool a.s', .slice a.A' a.l' a.c'] 57
 have HX0 := Lib.hid x0
 clear x0
 have Bz := Below.refl W.heap.size W
 go_enter Tryz.func7, Tryz.ntmps7
 go_wp2_with fail
 rw [← hW]
 clear hW
 go_wp2_with fail
 with_reducible refine (shortVecs_q (hl.below (below_trans hB (below_trans (b := W) Bz (by go_grown)))) (Lib.hid fun v hv => vg_lens ((hli.out v hv).below (below_trans hB (below_trans (b := W) Bz (by go_grown))))) hll 12 12 2 false S0).mono ?_
 rintro e w1 ⟨rfl, b1⟩
 replace b1 := below_trans (a := W) (by go_grown) b1
 replace Bz := below_trans Bz b1
 clear b1
 go_wp2_with fail
 with_reducible refine (awake6_q (Lib.hid (Tab.below hT.out (below_trans hB (below_trans (b := w1) Bz (by go_grown)))))).mono ?_
 rintro e w2 ⟨rfl, b2⟩
 replace b2 := below_trans (a := w1) (by go_grown) b2
 replace Bz := below_trans Bz b2
 clear b2
 go_wp2_with fail
 go_ret
 have hF := below_trans (c := w2) hB Bz
 exact ⟨rfl, below_trans hF (by go_grown)⟩
set_option maxRecDepth 100000 in
set_option maxHeartbeats 4000000 in
theorem both_1 {w : World} {LA X Y Z : Option Addr} {nl cl nx cx ny cy nz cz : Nat} {CL : List Vc} {LX LY LZ : List Tm} {a : Fr} {n : Int} (hl : Sl Vc.cs 1 w LA nl cl CL) (hli : Hid (∀ v ∈ CL, VgIn w v)) (hll : nl ≤ 9223372036854775807) (hx : Sl Tm.cs 5 w X nx cx LX) (xi : Hid (∀ t ∈ LX, TmIn w t)) (hlx : nx ≤ 9223372036854775807) (_hy : Sl Tm.cs 5 w Y ny cy LY) (_yi : Hid (∀ t ∈ LY, TmIn w t)) (_hly : ny ≤ 9223372036854775807) (_hz : Sl Tm.cs 5 w Z nz cz LZ) (_zi : Hid (∀ t ∈ LZ, TmIn w t)) (_hlz : nz ≤ 9223372036854775807) (_ai : FrIn w a) (S0 : Hid (shortVcs 12 12 2 nl CL = true)) (S1 : Hid (shortVc 12 2 ⟨X, nx, cx, LX⟩ = false)) (hT : Hid (Tab w)) :
  Calls Tryz.prog 7 #[.slice LA nl cl, .slice X nx cx, .slice Y ny cy, .slice Z nz cz, .agg #[.bool a.s, .slice a.A a.l a.c, .bool a.s', .slice a.A' a.l' a.c'], .int .i64 n] w (Yes w) := by
 obtain ⟨W, hW, x0, hB⟩ := boxes1 w #[.bool a.s, .slice a.A a.l a.c, .bool a.s', .slice a.A' a.l' a.c'] 57
 have HX0 := Lib.hid x0
 clear x0
 have Bz := Below.refl W.heap.size W
 go_enter Tryz.func7, Tryz.ntmps7
 go_wp2_with fail
 rw [← hW]
 clear hW
 go_wp2_with fail
 with_reducible refine (shortVecs_q (hl.below (below_trans hB (below_trans (b := W) Bz (by go_grown)))) (Lib.hid fun v hv => vg_lens ((hli.out v hv).below (below_trans hB (below_trans (b := W) Bz (by go_grown))))) hll 12 12 2 true S0).mono ?_
 rintro e w1 ⟨rfl, b1⟩
 replace b1 := below_trans (a := W) (by go_grown) b1
 replace Bz := below_trans Bz b1
 clear b1
 go_wp2_with fail
 with_reducible refine (shortVec_q (hx.below (below_trans hB (below_trans (b := w1) Bz (by go_grown)))) (Lib.hid fun t ht => tm_lens (xi.out t ht)) hlx 12 2 false S1).mono ?_
 rintro e w2 ⟨rfl, b2⟩
 replace b2 := below_trans (a := w1) (by go_grown) b2
 replace Bz := below_trans Bz b2
 clear b2
 go_wp2_with fail
 with_reducible refine (awake6_q (Lib.hid (Tab.below hT.out (below_trans hB (below_trans (b := w2) Bz (by go_grown)))))).mono ?_
 rintro e w3 ⟨rfl, b3⟩
 replace b3 := below_trans (a := w2) (by go_grown) b3
 replace Bz := below_trans Bz b3
 clear b3
 go_wp2_with fail
 go_ret
 have hF := below_trans (c := w3) hB Bz
 exact ⟨rfl, below_trans hF (by go_grown)⟩
set_option maxRecDepth 100000 in
set_option maxHeartbeats 4000000 in
theorem both_2 {w : World} {LA X Y Z : Option Addr} {nl cl nx cx ny cy nz cz : Nat} {CL : List Vc} {LX LY LZ : List Tm} {a : Fr} {n : Int} (hl : Sl Vc.cs 1 w LA nl cl CL) (hli : Hid (∀ v ∈ CL, VgIn w v)) (hll : nl ≤ 9223372036854775807) (hx : Sl Tm.cs 5 w X nx cx LX) (xi : Hid (∀ t ∈ LX, TmIn w t)) (hlx : nx ≤ 9223372036854775807) (hy : Sl Tm.cs 5 w Y ny cy LY) (yi : Hid (∀ t ∈ LY, TmIn w t)) (hly : ny ≤ 9223372036854775807) (_hz : Sl Tm.cs 5 w Z nz cz LZ) (_zi : Hid (∀ t ∈ LZ, TmIn w t)) (_hlz : nz ≤ 9223372036854775807) (_ai : FrIn w a) (S0 : Hid (shortVcs 12 12 2 nl CL = true)) (S1 : Hid (shortVc 12 2 ⟨X, nx, cx, LX⟩ = true)) (S2 : Hid (shortVc 12 2 ⟨Y, ny, cy, LY⟩ = false)) (hT : Hid (Tab w)) :
  Calls Tryz.prog 7 #[.slice LA nl cl, .slice X nx cx, .slice Y ny cy, .slice Z nz cz, .agg #[.bool a.s, .slice a.A a.l a.c, .bool a.s', .slice a.A' a.l' a.c'], .int .i64 n] w (Yes w) := by
 obtain ⟨W, hW, x0, hB⟩ := boxes1 w #[.bool a.s, .slice a.A a.l a.c, .bool a.s', .slice a.A' a.l' a.c'] 57
 have HX0 := Lib.hid x0
 clear x0
 have Bz := Below.refl W.heap.size W
 go_enter Tryz.func7, Tryz.ntmps7
 go_wp2_with fail
 rw [← hW]
 clear hW
 go_wp2_with fail
 with_reducible refine (shortVecs_q (hl.below (below_trans hB (below_trans (b := W) Bz (by go_grown)))) (Lib.hid fun v hv => vg_lens ((hli.out v hv).below (below_trans hB (below_trans (b := W) Bz (by go_grown))))) hll 12 12 2 true S0).mono ?_
 rintro e w1 ⟨rfl, b1⟩
 replace b1 := below_trans (a := W) (by go_grown) b1
 replace Bz := below_trans Bz b1
 clear b1
 go_wp2_with fail
 with_reducible refine (shortVec_q (hx.below (below_trans hB (below_trans (b := w1) Bz (by go_grown)))) (Lib.hid fun t ht => tm_lens (xi.out t ht)) hlx 12 2 true S1).mono ?_
 rintro e w2 ⟨rfl, b2⟩
 replace b2 := below_trans (a := w1) (by go_grown) b2
 replace Bz := below_trans Bz b2
 clear b2
 go_wp2_with fail
 with_reducible refine (shortVec_q (hy.below (below_trans hB (below_trans (b := w2) Bz (by go_grown)))) (Lib.hid fun t ht => tm_lens (yi.out t ht)) hly 12 2 false S2).mono ?_
 rintro e w3 ⟨rfl, b3⟩
 replace b3 := below_trans (a := w2) (by go_grown) b3
 replace Bz := below_trans Bz b3
 clear b3
 go_wp2_with fail
 with_reducible refine (awake6_q (Lib.hid (Tab.below hT.out (below_trans hB (below_trans (b := w3) Bz (by go_grown)))))).mono ?_
 rintro e w4 ⟨rfl, b4⟩
 replace b4 := below_trans (a := w3) (by go_grown) b4
 replace Bz := below_trans Bz b4
 clear b4
 go_wp2_with fail
 go_ret
 have hF := below_trans (c := w4) hB Bz
 exact ⟨rfl, below_trans hF (by go_grown)⟩
set_option maxRecDepth 100000 in
set_option maxHeartbeats 4000000 in
theorem both_3 {w : World} {LA X Y Z : Option Addr} {nl cl nx cx ny cy nz cz : Nat} {CL : List Vc} {LX LY LZ : List Tm} {a : Fr} {n : Int} (hl : Sl Vc.cs 1 w LA nl cl CL) (hli : Hid (∀ v ∈ CL, VgIn w v)) (hll : nl ≤ 9223372036854775807) (hx : Sl Tm.cs 5 w X nx cx LX) (xi : Hid (∀ t ∈ LX, TmIn w t)) (hlx : nx ≤ 9223372036854775807) (hy : Sl Tm.cs 5 w Y ny cy LY) (yi : Hid (∀ t ∈ LY, TmIn w t)) (hly : ny ≤ 9223372036854775807) (hz : Sl Tm.cs 5 w Z nz cz LZ) (zi : Hid (∀ t ∈ LZ, TmIn w t)) (hlz : nz ≤ 9223372036854775807) (_ai : FrIn w a) (S0 : Hid (shortVcs 12 12 2 nl CL = true)) (S1 : Hid (shortVc 12 2 ⟨X, nx, cx, LX⟩ = true)) (S2 : Hid (shortVc 12 2 ⟨Y, ny, cy, LY⟩ = true)) (S3 : Hid (shortVc 12 2 ⟨Z, nz, cz, LZ⟩ = false)) (hT : Hid (Tab w)) :
  Calls Tryz.prog 7 #[.slice LA nl cl, .slice X nx cx, .slice Y ny cy, .slice Z nz cz, .agg #[.bool a.s, .slice a.A a.l a.c, .bool a.s', .slice a.A' a.l' a.c'], .int .i64 n] w (Yes w) := by
 obtain ⟨W, hW, x0, hB⟩ := boxes1 w #[.bool a.s, .slice a.A a.l a.c, .bool a.s', .slice a.A' a.l' a.c'] 57
 have HX0 := Lib.hid x0
 clear x0
 have Bz := Below.refl W.heap.size W
 go_enter Tryz.func7, Tryz.ntmps7
 go_wp2_with fail
 rw [← hW]
 clear hW
 go_wp2_with fail
 with_reducible refine (shortVecs_q (hl.below (below_trans hB (below_trans (b := W) Bz (by go_grown)))) (Lib.hid fun v hv => vg_lens ((hli.out v hv).below (below_trans hB (below_trans (b := W) Bz (by go_grown))))) hll 12 12 2 true S0).mono ?_
 rintro e w1 ⟨rfl, b1⟩
 replace b1 := below_trans (a := W) (by go_grown) b1
 replace Bz := below_trans Bz b1
 clear b1
 go_wp2_with fail
 with_reducible refine (shortVec_q (hx.below (below_trans hB (below_trans (b := w1) Bz (by go_grown)))) (Lib.hid fun t ht => tm_lens (xi.out t ht)) hlx 12 2 true S1).mono ?_
 rintro e w2 ⟨rfl, b2⟩
 replace b2 := below_trans (a := w1) (by go_grown) b2
 replace Bz := below_trans Bz b2
 clear b2
 go_wp2_with fail
 with_reducible refine (shortVec_q (hy.below (below_trans hB (below_trans (b := w2) Bz (by go_grown)))) (Lib.hid fun t ht => tm_lens (yi.out t ht)) hly 12 2 true S2).mono ?_
 rintro e w3 ⟨rfl, b3⟩
 replace b3 := below_trans (a := w2) (by go_grown) b3
 replace Bz := below_trans Bz b3
 clear b3
 go_wp2_with fail
 with_reducible refine (shortVec_q (hz.below (below_trans hB (below_trans (b := w3) Bz (by go_grown)))) (Lib.hid fun t ht => tm_lens (zi.out t ht)) hlz 12 2 false S3).mono ?_
 rintro e w4 ⟨rfl, b4⟩
 replace b4 := below_trans (a := w3) (by go_grown) b4
 replace Bz := below_trans Bz b4
 clear b4
 go_wp2_with fail
 with_reducible refine (awake6_q (Lib.hid (Tab.below hT.out (below_trans hB (below_trans (b := w4) Bz (by go_grown)))))).mono ?_
 rintro e w5 ⟨rfl, b5⟩
 replace b5 := below_trans (a := w4) (by go_grown) b5
 replace Bz := below_trans Bz b5
 clear b5
 go_wp2_with fail
 go_ret
 have hF := below_trans (c := w5) hB Bz
 exact ⟨rfl, below_trans hF (by go_grown)⟩
set_option maxRecDepth 100000 in
set_option maxHeartbeats 4000000 in
theorem both_4 {w : World} {LA X Y Z : Option Addr} {nl cl nx cx ny cy nz cz : Nat} {CL : List Vc} {LX LY LZ : List Tm} {a : Fr} {n : Int} (hl : Sl Vc.cs 1 w LA nl cl CL) (hli : Hid (∀ v ∈ CL, VgIn w v)) (hll : nl ≤ 9223372036854775807) (hx : Sl Tm.cs 5 w X nx cx LX) (xi : Hid (∀ t ∈ LX, TmIn w t)) (hlx : nx ≤ 9223372036854775807) (hy : Sl Tm.cs 5 w Y ny cy LY) (yi : Hid (∀ t ∈ LY, TmIn w t)) (hly : ny ≤ 9223372036854775807) (hz : Sl Tm.cs 5 w Z nz cz LZ) (zi : Hid (∀ t ∈ LZ, TmIn w t)) (hlz : nz ≤ 9223372036854775807) (ai : FrIn w a) (S0 : Hid (shortVcs 12 12 2 nl CL = true)) (S1 : Hid (shortVc 12 2 ⟨X, nx, cx, LX⟩ = true)) (S2 : Hid (shortVc 12 2 ⟨Y, ny, cy, LY⟩ = true)) (S3 : Hid (shortVc 12 2 ⟨Z, nz, cz, LZ⟩ = true)) (S4 : Hid (shortFr 2 a = false)) (hT : Hid (Tab w)) :
  Calls Tryz.prog 7 #[.slice LA nl cl, .slice X nx cx, .slice Y ny cy, .slice Z nz cz, .agg #[.bool a.s, .slice a.A a.l a.c, .bool a.s', .slice a.A' a.l' a.c'], .int .i64 n] w (Yes w) := by
 obtain ⟨W, hW, x0, hB⟩ := boxes1 w #[.bool a.s, .slice a.A a.l a.c, .bool a.s', .slice a.A' a.l' a.c'] 57
 have HX0 := Lib.hid x0
 clear x0
 have Bz := Below.refl W.heap.size W
 go_enter Tryz.func7, Tryz.ntmps7
 go_wp2_with fail
 rw [← hW]
 clear hW
 go_wp2_with fail
 with_reducible refine (shortVecs_q (hl.below (below_trans hB (below_trans (b := W) Bz (by go_grown)))) (Lib.hid fun v hv => vg_lens ((hli.out v hv).below (below_trans hB (below_trans (b := W) Bz (by go_grown))))) hll 12 12 2 true S0).mono ?_
 rintro e w1 ⟨rfl, b1⟩
 replace b1 := below_trans (a := W) (by go_grown) b1
 replace Bz := below_trans Bz b1
 clear b1
 go_wp2_with fail
 with_reducible refine (shortVec_q (hx.below (below_trans hB (below_trans (b := w1) Bz (by go_grown)))) (Lib.hid fun t ht => tm_lens (xi.out t ht)) hlx 12 2 true S1).mono ?_
 rintro e w2 ⟨rfl, b2⟩
 replace b2 := below_trans (a := w1) (by go_grown) b2
 replace Bz := below_trans Bz b2
 clear b2
 go_wp2_with fail
 with_reducible refine (shortVec_q (hy.below (below_trans hB (below_trans (b := w2) Bz (by go_grown)))) (Lib.hid fun t ht => tm_lens (yi.out t ht)) hly 12 2 true S2).mono ?_
 rintro e w3 ⟨rfl, b3⟩
 replace b3 := below_trans (a := w2) (by go_grown) b3
 replace Bz := below_trans Bz b3
 clear b3
 go_wp2_with fail
 with_reducible refine (shortVec_q (hz.below (below_trans hB (below_trans (b := w3) Bz (by go_grown)))) (Lib.hid fun t ht => tm_lens (zi.out t ht)) hlz 12 2 true S3).mono ?_
 rintro e w4 ⟨rfl, b4⟩
 replace b4 := below_trans (a := w3) (by go_grown) b4
 replace Bz := below_trans Bz b4
 clear b4
 have p0_0 := (HX0.out.below Bz).cell 0 (.bool a.s) rfl
 have p0_1 := (HX0.out.below Bz).cell 1 (.slice a.A a.l a.c) rfl
 have p0_2 := (HX0.out.below Bz).cell 2 (.bool a.s') rfl
 have p0_3 := (HX0.out.below Bz).cell 3 (.slice a.A' a.l' a.c') rfl
 go_wp2_with fail
 with_reducible refine (shortRat_q a 2 (fr_lens ai) false S4).mono ?_
 rintro e w5 ⟨rfl, b5⟩
 replace b5 := below_trans (a := w4) (by go_grown) b5
 replace Bz := below_trans Bz b5
 clear b5
 clear p0_0 p0_1 p0_2 p0_3
 go_wp2_with fail
 with_reducible refine (awake6_q (Lib.hid (Tab.below hT.out (below_trans hB (below_trans (b := w5) Bz (by go_grown)))))).mono ?_
 rintro e w6 ⟨rfl, b6⟩
 replace b6 := below_trans (a := w5) (by go_grown) b6
 replace Bz := below_trans Bz b6
 clear b6
 go_wp2_with fail
 go_ret
 have hF := below_trans (c := w6) hB Bz
 exact ⟨rfl, below_trans hF (by go_grown)⟩
theorem right_fr {w : World} {n : Nat} {CL : List Vc} (hi : ∀ v ∈ CL, VgIn w v) (hs : shortVcs 12 12 2 n CL = true) : ∀ v ∈ CL, ∀ t ∈ v.L, FrOk w 2 t.x := fun v hv t ht => by
 unfold shortVcs at hs
 simp only [Bool.and_eq_true, decide_eq_true_eq, List.all_eq_true] at hs
 have h1 := hs.2 v hv
 unfold shortVc at h1
 simp only [Bool.and_eq_true, decide_eq_true_eq, List.all_eq_true] at h1
 have h2 := h1.2 t ht
 unfold shortFr at h2
 simp only [Bool.and_eq_true, decide_eq_true_eq] at h2
 exact ((hi v hv).2.2.1 t ht).1.2.2 2 (by omega) (by omega)
theorem right_n {w : World} {A : Option Addr} {n c : Nat} {CL : List Vc} (_ : ∀ v ∈ CL, VgIn w v) (_ : Sl Vc.cs 1 w A n c CL) (hs : shortVcs 12 12 2 n CL = true) : ∀ v ∈ CL, v.n ≤ 1000000000 := fun v hv => by
 unfold shortVcs at hs
 simp only [Bool.and_eq_true, decide_eq_true_eq, List.all_eq_true] at hs
 have h1 := hs.2 v hv
 unfold shortVc at h1
 simp only [Bool.and_eq_true, decide_eq_true_eq, List.all_eq_true] at h1
 omega
set_option maxRecDepth 100000 in
set_option maxHeartbeats 32000000 in
theorem both_ok {w : World} {LA X Y Z : Option Addr} {nl cl nx cx ny cy nz cz : Nat} {CL : List Vc} {LX LY LZ : List Tm} {a : Fr} {n : Int} (hl : Sl Vc.cs 1 w LA nl cl CL) (hli : Hid (∀ v ∈ CL, VgIn w v)) (hll : nl ≤ 9223372036854775807) (hx : Sl Tm.cs 5 w X nx cx LX) (xi : Hid (∀ t ∈ LX, TmIn w t)) (hlx : nx ≤ 9223372036854775807) (hy : Sl Tm.cs 5 w Y ny cy LY) (yi : Hid (∀ t ∈ LY, TmIn w t)) (hly : ny ≤ 9223372036854775807) (hz : Sl Tm.cs 5 w Z nz cz LZ) (zi : Hid (∀ t ∈ LZ, TmIn w t)) (hlz : nz ≤ 9223372036854775807) (ai : FrIn w a) (hni : I64 n) (S0 : Hid (shortVcs 12 12 2 nl CL = true)) (S1 : Hid (shortVc 12 2 ⟨X, nx, cx, LX⟩ = true)) (S2 : Hid (shortVc 12 2 ⟨Y, ny, cy, LY⟩ = true)) (S3 : Hid (shortVc 12 2 ⟨Z, nz, cz, LZ⟩ = true)) (S4 : Hid (shortFr 2 a = true)) (xc : X = none → cx = 0) (yc : Y = none → cy = 0) (zc : Z = none → cz = 0) (hT : Hid (Tab w)) :
  Calls Tryz.prog 7 #[.slice LA nl cl, .slice X nx cx, .slice Y ny cy, .slice Z nz cz, .agg #[.bool a.s, .slice a.A a.l a.c, .bool a.s', .slice a.A' a.l' a.c'], .int .i64 n] w (Yes w) := by
 obtain ⟨hcw, hnl, hC⟩ := cw_small (k := 12) (cnt := 12) (most := 2) hl hli.out S0.out
 obtain ⟨gx, hnx⟩ := gv_small (cnt := 12) (most := 2) hx xi.out xc S1.out
 obtain ⟨gy, hny⟩ := gv_small (cnt := 12) (most := 2) hy yi.out yc S2.out
 obtain ⟨gz, hnz⟩ := gv_small (cnt := 12) (most := 2) hz zi.out zc S3.out
 have wtx : wtot (prs LX) ≤ 48 := Nat.le_trans (wtot_le (sz_small (cnt := 12) (most := 2) xi.out S1.out)) (by rw [gx.len]; omega)
 have wty : wtot (prs LY) ≤ 48 := Nat.le_trans (wtot_le (sz_small (cnt := 12) (most := 2) yi.out S2.out)) (by rw [gy.len]; omega)
 have wtz : wtot (prs LZ) ≤ 48 := Nat.le_trans (wtot_le (sz_small (cnt := 12) (most := 2) zi.out S3.out)) (by rw [gz.len]; omega)
 have HLZ : Hid ((prs LZ).length ≤ 12) := Lib.hid (by rw [gz.len]; exact hnz)
 have ha := r_small (most := 2) ai S4.out
 have hsa : sz a.q ≤ 3 := Nat.le_trans ha.sz (by decide)
 have HC := Lib.hid hC
 have HCN := Lib.hid hcw.len
 clear hC
 obtain ⟨W, hW, x0, hB⟩ := boxes1 w #[.bool a.s, .slice a.A a.l a.c, .bool a.s', .slice a.A' a.l' a.c'] 57
 replace hcw := hcw.below hB
 replace ha := ha.below hB
 replace gx := gx.below hB
 replace gy := gy.below hB
 replace gz := gz.below hB
 have HX0 := Lib.hid x0
 clear x0
 have Bz := Below.refl W.heap.size W
 go_enter Tryz.func7, Tryz.ntmps7
 go_wp2_with fail
 rw [← hW]
 clear hW
 go_wp2_with fail
 with_reducible refine (shortVecs_q (hl.below (below_trans hB (below_trans (b := W) Bz (by go_grown)))) (Lib.hid fun v hv => vg_lens ((hli.out v hv).below (below_trans hB (below_trans (b := W) Bz (by go_grown))))) hll 12 12 2 true S0).mono ?_
 rintro e w1 ⟨rfl, b1⟩
 replace b1 := below_trans (a := W) (by go_grown) b1
 replace hcw := hcw.below b1
 replace ha := ha.below b1
 replace gx := gx.below b1
 replace gy := gy.below b1
 replace gz := gz.below b1
 replace Bz := below_trans Bz b1
 clear b1
 go_wp2_with fail
 with_reducible refine (shortVec_q (hx.below (below_trans hB (below_trans (b := w1) Bz (by go_grown)))) (Lib.hid fun t ht => tm_lens (xi.out t ht)) hlx 12 2 true S1).mono ?_
 rintro e w2 ⟨rfl, b2⟩
 replace b2 := below_trans (a := w1) (by go_grown) b2
 replace hcw := hcw.below b2
 replace ha := ha.below b2
 replace gx := gx.below b2
 replace gy := gy.below b2
 replace gz := gz.below b2
 replace Bz := below_trans Bz b2
 clear b2
 go_wp2_with fail
 with_reducible refine (shortVec_q (hy.below (below_trans hB (below_trans (b := w2) Bz (by go_grown)))) (Lib.hid fun t ht => tm_lens (yi.out t ht)) hly 12 2 true S2).mono ?_
 rintro e w3 ⟨rfl, b3⟩
 replace b3 := below_trans (a := w2) (by go_grown) b3
 replace hcw := hcw.below b3
 replace ha := ha.below b3
 replace gx := gx.below b3
 replace gy := gy.below b3
 replace gz := gz.below b3
 replace Bz := below_trans Bz b3
 clear b3
 go_wp2_with fail
 with_reducible refine (shortVec_q (hz.below (below_trans hB (below_trans (b := w3) Bz (by go_grown)))) (Lib.hid fun t ht => tm_lens (zi.out t ht)) hlz 12 2 true S3).mono ?_
 rintro e w4 ⟨rfl, b4⟩
 replace b4 := below_trans (a := w3) (by go_grown) b4
 replace hcw := hcw.below b4
 replace ha := ha.below b4
 replace gx := gx.below b4
 replace gy := gy.below b4
 replace gz := gz.below b4
 replace Bz := below_trans Bz b4
 clear b4
 have p0_0 := (HX0.out.below Bz).cell 0 (.bool a.s) rfl
 have p0_1 := (HX0.out.below Bz).cell 1 (.slice a.A a.l a.c) rfl
 have p0_2 := (HX0.out.below Bz).cell 2 (.bool a.s') rfl
 have p0_3 := (HX0.out.below Bz).cell 3 (.slice a.A' a.l' a.c') rfl
 go_wp2_with fail
 with_reducible refine (shortRat_q a 2 (fr_lens ai) true S4).mono ?_
 rintro e w5 ⟨rfl, b5⟩
 replace b5 := below_trans (a := w4) (by go_grown) b5
 replace hcw := hcw.below b5
 replace ha := ha.below b5
 replace gx := gx.below b5
 replace gy := gy.below b5
 replace gz := gz.below b5
 replace Bz := below_trans Bz b5
 clear b5
 clear p0_0 p0_1 p0_2 p0_3
 go_wp2_with fail
 with_reducible refine (pick_n n 20 20 rfl hni (by decide) (by decide)).mono ?_
 rintro e w6 ⟨m, rfl, hm, b6⟩
 replace b6 := below_trans (a := w5) (by go_grown) b6
 replace hcw := hcw.below b6
 replace ha := ha.below b6
 replace gx := gx.below b6
 replace gy := gy.below b6
 replace gz := gz.below b6
 replace Bz := below_trans Bz b6
 clear b6
 have g0 : ((m : Int) != (m : Int)) = false := by simp
 have HCL : Hid ((CL.map fun v => prs v.L).length ≤ 12) := Lib.hid (by rw [HCN.out]; exact hnl)
 cases hr : (CL.all fun v => rightB v.L (m : Int))
 ·have HR := Lib.hid hr
  clear hr
  have p0_0 := (HX0.out.below Bz).cell 0 (.bool a.s) rfl
  have p0_1 := (HX0.out.below Bz).cell 1 (.slice a.A a.l a.c) rfl
  have p0_2 := (HX0.out.below Bz).cell 2 (.bool a.s') rfl
  have p0_3 := (HX0.out.below Bz).cell 3 (.slice a.A' a.l' a.c') rfl
  go_wp2_with fail
  (try simp only [List.append_eq, List.cons_append, List.nil_append])
  refine wp_region_plan (.pure 0 (.pure 1 (.pure 2 (.pure 5 (.pure 6 (.pure 8 (.only 3 (.only 4 (.only 7 (.only 9 (.only 10 (.pure 11 (.pure 12 (.pure 13 (.pure 14 (.take 15 (.pure 16 (.pure 19 (.pure 20 (.take 22 (.pure 23 (.pure 24 (.only 17 (.only 18 (.only 21 (.only 25 (.only 26 (.only 27 (.pure 28 (.pure 29 .done)))))))))))))))))))))))))))))) [] (fun w' => w'.cell? ⟨w.heap.size, 0, none⟩ = some (.bool a.s) ∧ w'.cell? ⟨w.heap.size, 1, none⟩ = some (.slice a.A a.l a.c) ∧ w'.cell? ⟨w.heap.size, 2, none⟩ = some (.bool a.s') ∧ w'.cell? ⟨w.heap.size, 3, none⟩ = some (.slice a.A' a.l' a.c')) (by kernel_rfl) (by kernel_rfl) ⟨p0_0, p0_1, p0_2, p0_3⟩ ?_
  refine wpPlan_pure (o := ⟨some 44, _, _, _, _, _⟩) rfl rfl (fun w' => by go_simp <;> with_reducible rfl) ?_
  try simp only [pUt, pLt, pZt, pSt]
  refine wpPlan_pure (o := ⟨some 45, _, _, _, _, _⟩) rfl rfl (fun w' => by go_simp <;> with_reducible rfl) ?_
  try simp only [pUt, pLt, pZt, pSt]
  refine wpPlan_pure (o := ⟨some 46, _, _, _, _, _⟩) rfl rfl (fun w' => by go_simp <;> with_reducible rfl) ?_
  try simp only [pUt, pLt, pZt, pSt]
  refine wpPlan_pure (o := ⟨some 49, _, _, _, _, _⟩) rfl rfl (fun w' => by go_simp <;> with_reducible rfl) ?_
  try simp only [pUt, pLt, pZt, pSt]
  refine wpPlan_pure (o := ⟨some 50, _, _, _, _, _⟩) rfl rfl (fun w' => by go_simp <;> with_reducible rfl) ?_
  try simp only [pUt, pLt, pZt, pSt]
  refine wpPlan_pure (o := ⟨some 52, _, _, _, _, _⟩) rfl rfl (fun w' => by go_simp <;> with_reducible rfl) ?_
  try simp only [pUt, pLt, pZt, pSt]
  refine wpPlan_call (o := ⟨some 47, _, _, _, _, _⟩) rfl rfl (fun K hK => ?_)
  go_simp
  with_reducible refine (timesW 48 48 12 48 12 48 1152 144 (CW.below hcw (by go_grown)) (GV.below gx (by go_grown)) HC.out hnx wtx (by decide) (by decide) (by decide) (by decide) (by omega) (by decide) (by decide) (by decide) (Lib.hid (Tab.below hT.out (below_trans hB (below_trans (b := w6) Bz (by go_grown)))))).mono ?_
  rintro e w7 ⟨A7, n7, c7, rfl, h7, l7, b7⟩
  replace b7 := below_trans (a := w6) (by go_grown) b7
  replace hcw := hcw.below b7
  replace ha := ha.below b7
  replace gx := gx.below b7
  replace gy := gy.below b7
  replace gz := gz.below b7
  replace Bz := below_trans Bz b7
  clear b7
  clear p0_0 p0_1 p0_2 p0_3
  have p0_0 := (HX0.out.below Bz).cell 0 (.bool a.s) rfl
  have p0_1 := (HX0.out.below Bz).cell 1 (.slice a.A a.l a.c) rfl
  have p0_2 := (HX0.out.below Bz).cell 2 (.bool a.s') rfl
  have p0_3 := (HX0.out.below Bz).cell 3 (.slice a.A' a.l' a.c') rfl
  refine hK.out _ _ ⟨p0_0, p0_1, p0_2, p0_3⟩ (fun _ => ?_)
  try simp only [pUt, pLt, pZt, pSt]
  clear hK K
  refine wpPlan_call (o := ⟨some 48, _, _, _, _, _⟩) rfl rfl (fun K hK => ?_)
  go_simp
  with_reducible refine (dotW 48 1153 12 14449 (GV.below gy (by go_grown)) ((NV.below h7 (by go_grown)).gv (nrm_nrm _).rise) hny (by omega) (by decide) (by decide) (by decide) (by decide) (by decide) (Lib.hid (Tab.below hT.out (below_trans hB (below_trans (b := w7) Bz (by go_grown)))))).mono ?_
  rintro e w8 ⟨s8, A8, c8, l8, s8r, A8r, c8r, l8r, rfl, h8, z8, b8⟩
  replace b8 := below_trans (a := w7) (by go_grown) b8
  replace hcw := hcw.below b8
  replace ha := ha.below b8
  replace gx := gx.below b8
  replace gy := gy.below b8
  replace gz := gz.below b8
  replace Bz := below_trans Bz b8
  clear b8
  clear p0_0 p0_1 p0_2 p0_3
  have p0_0 := (HX0.out.below Bz).cell 0 (.bool a.s) rfl
  have p0_1 := (HX0.out.below Bz).cell 1 (.slice a.A a.l a.c) rfl
  have p0_2 := (HX0.out.below Bz).cell 2 (.bool a.s') rfl
  have p0_3 := (HX0.out.below Bz).cell 3 (.slice a.A' a.l' a.c') rfl
  refine hK.out _ _ ⟨p0_0, p0_1, p0_2, p0_3⟩ (fun _ => ?_)
  try simp only [pUt, pLt, pZt, pSt]
  clear hK K
  refine wpPlan_call (o := ⟨some 51, _, _, _, _, _⟩) rfl rfl (fun K hK => ?_)
  go_simp
  with_reducible refine (leftC 48 48 12 637 12 (GV.below gy (by go_grown)) (CW.below hcw (by go_grown)) hny (fun x hx => Nat.le_trans (HC.out x hx).1 (by decide)) (by omega) (by decide) (CW.dotK (WT := 48) (N := 12) (CW.below hcw (by go_grown)) wty (by have h9 := ((GV.below gy (by go_grown))).len; omega) (by decide)) (by decide) (by decide) (by decide) (by decide) (by decide) (by decide) (Lib.hid (Tab.below hT.out (below_trans hB (below_trans (b := w8) Bz (by go_grown)))))).mono ?_
  rintro e w9 ⟨A9, n9, c9, rfl, h9, l9, b9⟩
  replace b9 := below_trans (a := w8) (by go_grown) b9
  replace hcw := hcw.below b9
  replace h8 := h8.below b9
  replace ha := ha.below b9
  replace gx := gx.below b9
  replace gz := gz.below b9
  replace Bz := below_trans Bz b9
  clear b9
  clear p0_0 p0_1 p0_2 p0_3
  have p0_0 := (HX0.out.below Bz).cell 0 (.bool a.s) rfl
  have p0_1 := (HX0.out.below Bz).cell 1 (.slice a.A a.l a.c) rfl
  have p0_2 := (HX0.out.below Bz).cell 2 (.bool a.s') rfl
  have p0_3 := (HX0.out.below Bz).cell 3 (.slice a.A' a.l' a.c') rfl
  refine hK.out _ _ ⟨p0_0, p0_1, p0_2, p0_3⟩ (fun _ => ?_)
  try simp only [pUt, pLt, pZt, pSt]
  clear hK K
  refine wpPlan_call (o := ⟨some 53, _, _, _, _, _⟩) rfl rfl (fun K hK => ?_)
  go_simp
  with_reducible refine (dotW 640 48 12 8293 ((NV.below h9 (by go_grown)).gv (nrm_nrm _).rise) (GV.below gx (by go_grown)) l9 (by omega) (by decide) (by decide) (by decide) (by decide) (by decide) (Lib.hid (Tab.below hT.out (below_trans hB (below_trans (b := w9) Bz (by go_grown)))))).mono ?_
  rintro e w10 ⟨s10, A10, c10, l10, s10r, A10r, c10r, l10r, rfl, h10, z10, b10⟩
  replace b10 := below_trans (a := w9) (by go_grown) b10
  replace hcw := hcw.below b10
  replace h8 := h8.below b10
  replace ha := ha.below b10
  replace gx := gx.below b10
  replace gz := gz.below b10
  replace Bz := below_trans Bz b10
  clear b10
  clear p0_0 p0_1 p0_2 p0_3
  have p0_0 := (HX0.out.below Bz).cell 0 (.bool a.s) rfl
  have p0_1 := (HX0.out.below Bz).cell 1 (.slice a.A a.l a.c) rfl
  have p0_2 := (HX0.out.below Bz).cell 2 (.bool a.s') rfl
  have p0_3 := (HX0.out.below Bz).cell 3 (.slice a.A' a.l' a.c') rfl
  refine hK.out _ _ ⟨p0_0, p0_1, p0_2, p0_3⟩ (fun _ => ?_)
  try simp only [pUt, pLt, pZt, pSt]
  clear hK K
  refine wpPlan_call (o := ⟨some 54, _, _, _, _, _⟩) rfl rfl (fun K hK => ?_)
  go_simp
  with_reducible refine (same_q (R.below h8.r (by go_grown)) (R.below h10.r (by go_grown)) (by omega) true (Lib.hid (decide_eq_true (both1 _ _ _)))).mono ?_
  rintro e w11 ⟨rfl, b11⟩
  replace b11 := below_trans (a := w10) (by go_grown) b11
  replace hcw := hcw.below b11
  replace ha := ha.below b11
  replace gx := gx.below b11
  replace gz := gz.below b11
  replace Bz := below_trans Bz b11
  clear b11
  clear p0_0 p0_1 p0_2 p0_3
  have p0_0 := (HX0.out.below Bz).cell 0 (.bool a.s) rfl
  have p0_1 := (HX0.out.below Bz).cell 1 (.slice a.A a.l a.c) rfl
  have p0_2 := (HX0.out.below Bz).cell 2 (.bool a.s') rfl
  have p0_3 := (HX0.out.below Bz).cell 3 (.slice a.A' a.l' a.c') rfl
  refine hK.out _ _ ⟨p0_0, p0_1, p0_2, p0_3⟩ (fun _ => ?_)
  try simp only [pUt, pLt, pZt, pSt]
  clear hK K
  refine wpPlan_pure (o := ⟨some 55, _, _, _, _, _⟩) rfl rfl (fun w' => by go_simp <;> with_reducible rfl) ?_
  try simp only [pUt, pLt, pZt, pSt]
  refine wpPlan_pure (o := ⟨some 56, _, _, _, _, _⟩) rfl rfl (fun w' => by go_simp <;> with_reducible rfl) ?_
  try simp only [pUt, pLt, pZt, pSt]
  refine wpPlan_pure (o := ⟨some 57, _, _, _, _, _⟩) rfl rfl (fun w' => by go_simp <;> with_reducible rfl) ?_
  try simp only [pUt, pLt, pZt, pSt]
  refine wpPlan_pure (o := ⟨some 58, _, _, _, _, _⟩) rfl rfl (fun w' => by go_simp <;> with_reducible rfl) ?_
  try simp only [pUt, pLt, pZt, pSt]
  refine wpPlan_take (o := ⟨some 59, _, _, _, _, _⟩) rfl rfl (fun w' ⟨p0_0, p0_1, p0_2, p0_3⟩ => by go_simp <;> with_reducible rfl) ?_
  try simp only [pUt, pLt, pZt, pSt]
  refine wpPlan_pure (o := ⟨some 60, _, _, _, _, _⟩) rfl rfl (fun w' => by go_simp <;> with_reducible rfl) ?_
  try simp only [pUt, pLt, pZt, pSt]
  refine wpPlan_pure (o := ⟨some 63, _, _, _, _, _⟩) rfl rfl (fun w' => by go_simp <;> with_reducible rfl) ?_
  try simp only [pUt, pLt, pZt, pSt]
  refine wpPlan_pure (o := ⟨some 64, _, _, _, _, _⟩) rfl rfl (fun w' => by go_simp <;> with_reducible rfl) ?_
  try simp only [pUt, pLt, pZt, pSt]
  refine wpPlan_take (o := ⟨some 66, _, _, _, _, _⟩) rfl rfl (fun w' ⟨p0_0, p0_1, p0_2, p0_3⟩ => by go_simp <;> with_reducible rfl) ?_
  try simp only [pUt, pLt, pZt, pSt]
  refine wpPlan_pure (o := ⟨some 67, _, _, _, _, _⟩) rfl rfl (fun w' => by go_simp <;> with_reducible rfl) ?_
  try simp only [pUt, pLt, pZt, pSt]
  refine wpPlan_pure (o := ⟨some 68, _, _, _, _, _⟩) rfl rfl (fun w' => by go_simp <;> with_reducible rfl) ?_
  try simp only [pUt, pLt, pZt, pSt]
  refine wpPlan_call (o := ⟨some 61, _, _, _, _, _⟩) rfl rfl (fun K hK => ?_)
  go_simp
  with_reducible refine (axpyW 2 48 48 12 12 101 24 (GV.below gx (by go_grown)) (R.below ha (by go_grown)) (GV.below gz (by go_grown)) hnx hnz (by decide) (by decide) (by decide) (by decide) (Lib.hid (Tab.below hT.out (below_trans hB (below_trans (b := w11) Bz (by go_grown)))))).mono ?_
  rintro e w12 ⟨A12, n12, c12, rfl, h12, l12, b12⟩
  replace b12 := below_trans (a := w11) (by go_grown) b12
  replace hcw := hcw.below b12
  replace ha := ha.below b12
  replace gx := gx.below b12
  replace gz := gz.below b12
  replace Bz := below_trans Bz b12
  clear b12
  clear p0_0 p0_1 p0_2 p0_3
  have p0_0 := (HX0.out.below Bz).cell 0 (.bool a.s) rfl
  have p0_1 := (HX0.out.below Bz).cell 1 (.slice a.A a.l a.c) rfl
  have p0_2 := (HX0.out.below Bz).cell 2 (.bool a.s') rfl
  have p0_3 := (HX0.out.below Bz).cell 3 (.slice a.A' a.l' a.c') rfl
  refine hK.out _ _ ⟨p0_0, p0_1, p0_2, p0_3⟩ (fun _ => ?_)
  try simp only [pUt, pLt, pZt, pSt]
  clear hK K
  refine wpPlan_call (o := ⟨some 62, _, _, _, _, _⟩) rfl rfl (fun K hK => ?_)
  go_simp
  with_reducible refine (timesW 102 48 12 48 24 132 2736 288 (CW.below hcw (by go_grown)) ((NV.below h12 (by go_grown)).gv (nrm_nrm _).rise) HC.out l12 (wtot_axpy _ _ _ wtx wtz HLZ.out hsa) (by decide) (by decide) (by decide) (by decide) (by omega) (by decide) (by decide) (by decide) (Lib.hid (Tab.below hT.out (below_trans hB (below_trans (b := w12) Bz (by go_grown)))))).mono ?_
  rintro e w13 ⟨A13, n13, c13, rfl, h13, l13, b13⟩
  replace b13 := below_trans (a := w12) (by go_grown) b13
  replace hcw := hcw.below b13
  replace ha := ha.below b13
  replace gx := gx.below b13
  replace gz := gz.below b13
  replace Bz := below_trans Bz b13
  clear b13
  clear p0_0 p0_1 p0_2 p0_3
  have p0_0 := (HX0.out.below Bz).cell 0 (.bool a.s) rfl
  have p0_1 := (HX0.out.below Bz).cell 1 (.slice a.A a.l a.c) rfl
  have p0_2 := (HX0.out.below Bz).cell 2 (.bool a.s') rfl
  have p0_3 := (HX0.out.below Bz).cell 3 (.slice a.A' a.l' a.c') rfl
  refine hK.out _ _ ⟨p0_0, p0_1, p0_2, p0_3⟩ (fun _ => ?_)
  try simp only [pUt, pLt, pZt, pSt]
  clear hK K
  refine wpPlan_call (o := ⟨some 65, _, _, _, _, _⟩) rfl rfl (fun K hK => ?_)
  go_simp
  with_reducible refine (timesW 48 48 12 48 12 48 1152 144 (CW.below hcw (by go_grown)) (GV.below gx (by go_grown)) HC.out hnx wtx (by decide) (by decide) (by decide) (by decide) (by omega) (by decide) (by decide) (by decide) (Lib.hid (Tab.below hT.out (below_trans hB (below_trans (b := w13) Bz (by go_grown)))))).mono ?_
  rintro e w14 ⟨A14, n14, c14, rfl, h14, l14, b14⟩
  replace b14 := below_trans (a := w13) (by go_grown) b14
  replace hcw := hcw.below b14
  replace ha := ha.below b14
  replace h13 := h13.below b14
  replace gz := gz.below b14
  replace Bz := below_trans Bz b14
  clear b14
  clear p0_0 p0_1 p0_2 p0_3
  have p0_0 := (HX0.out.below Bz).cell 0 (.bool a.s) rfl
  have p0_1 := (HX0.out.below Bz).cell 1 (.slice a.A a.l a.c) rfl
  have p0_2 := (HX0.out.below Bz).cell 2 (.bool a.s') rfl
  have p0_3 := (HX0.out.below Bz).cell 3 (.slice a.A' a.l' a.c') rfl
  refine hK.out _ _ ⟨p0_0, p0_1, p0_2, p0_3⟩ (fun _ => ?_)
  try simp only [pUt, pLt, pZt, pSt]
  clear hK K
  refine wpPlan_call (o := ⟨some 69, _, _, _, _, _⟩) rfl rfl (fun K hK => ?_)
  go_simp
  with_reducible refine (timesW 48 48 12 48 12 48 1152 144 (CW.below hcw (by go_grown)) (GV.below gz (by go_grown)) HC.out hnz wtz (by decide) (by decide) (by decide) (by decide) (by omega) (by decide) (by decide) (by decide) (Lib.hid (Tab.below hT.out (below_trans hB (below_trans (b := w14) Bz (by go_grown)))))).mono ?_
  rintro e w15 ⟨A15, n15, c15, rfl, h15, l15, b15⟩
  replace b15 := below_trans (a := w14) (by go_grown) b15
  replace hcw := hcw.below b15
  replace ha := ha.below b15
  replace h13 := h13.below b15
  replace h14 := h14.below b15
  replace Bz := below_trans Bz b15
  clear b15
  clear p0_0 p0_1 p0_2 p0_3
  have p0_0 := (HX0.out.below Bz).cell 0 (.bool a.s) rfl
  have p0_1 := (HX0.out.below Bz).cell 1 (.slice a.A a.l a.c) rfl
  have p0_2 := (HX0.out.below Bz).cell 2 (.bool a.s') rfl
  have p0_3 := (HX0.out.below Bz).cell 3 (.slice a.A' a.l' a.c') rfl
  refine hK.out _ _ ⟨p0_0, p0_1, p0_2, p0_3⟩ (fun _ => ?_)
  try simp only [pUt, pLt, pZt, pSt]
  clear hK K
  refine wpPlan_call (o := ⟨some 70, _, _, _, _, _⟩) rfl rfl (fun K hK => ?_)
  go_simp
  with_reducible refine (axpyW 2 1153 1153 144 144 2311 288 ((NV.below h14 (by go_grown)).gv (nrm_nrm _).rise) (R.below ha (by go_grown)) ((NV.below h15 (by go_grown)).gv (nrm_nrm _).rise) l14 l15 (by decide) (by decide) (by decide) (by decide) (Lib.hid (Tab.below hT.out (below_trans hB (below_trans (b := w15) Bz (by go_grown)))))).mono ?_
  rintro e w16 ⟨A16, n16, c16, rfl, h16, l16, b16⟩
  replace b16 := below_trans (a := w15) (by go_grown) b16
  replace hcw := hcw.below b16
  replace h13 := h13.below b16
  replace Bz := below_trans Bz b16
  clear b16
  clear p0_0 p0_1 p0_2 p0_3
  have p0_0 := (HX0.out.below Bz).cell 0 (.bool a.s) rfl
  have p0_1 := (HX0.out.below Bz).cell 1 (.slice a.A a.l a.c) rfl
  have p0_2 := (HX0.out.below Bz).cell 2 (.bool a.s') rfl
  have p0_3 := (HX0.out.below Bz).cell 3 (.slice a.A' a.l' a.c') rfl
  refine hK.out _ _ ⟨p0_0, p0_1, p0_2, p0_3⟩ (fun _ => ?_)
  try simp only [pUt, pLt, pZt, pSt]
  clear hK K
  refine wpPlan_call (o := ⟨some 71, _, _, _, _, _⟩) rfl rfl (fun K hK => ?_)
  go_simp
  with_reducible refine (sameVec_q (NV.below h13 (by go_grown)) (NV.below h16 (by go_grown)) (by decide) (by decide) (by omega) (by omega) true (Lib.hid (decide_eq_true (both2 _ _ _ _)))).mono ?_
  rintro e w17 ⟨rfl, b17⟩
  replace b17 := below_trans (a := w16) (by go_grown) b17
  replace hcw := hcw.below b17
  replace Bz := below_trans Bz b17
  clear b17
  clear p0_0 p0_1 p0_2 p0_3
  have p0_0 := (HX0.out.below Bz).cell 0 (.bool a.s) rfl
  have p0_1 := (HX0.out.below Bz).cell 1 (.slice a.A a.l a.c) rfl
  have p0_2 := (HX0.out.below Bz).cell 2 (.bool a.s') rfl
  have p0_3 := (HX0.out.below Bz).cell 3 (.slice a.A' a.l' a.c') rfl
  refine hK.out _ _ ⟨p0_0, p0_1, p0_2, p0_3⟩ (fun _ => ?_)
  try simp only [pUt, pLt, pZt, pSt]
  clear hK K
  refine wpPlan_pure (o := ⟨some 72, _, _, _, _, _⟩) rfl rfl (fun w' => by go_simp <;> with_reducible rfl) ?_
  try simp only [pUt, pLt, pZt, pSt]
  refine wpPlan_pure (o := ⟨some 14, _, _, _, _, _⟩) rfl rfl (fun w' => by go_simp <;> with_reducible rfl) ?_
  try simp only [pUt, pLt, pZt, pSt]
  refine wpPlan_done ?_
  go_wp2_with fail
  with_reducible refine (turnC (m := m) (CW.below hcw (by go_grown)) (fun x hx => Nat.le_trans (HC.out x hx).1 (by decide)) (by decide) (by omega) (by omega) (m : Int) rfl (Lib.hid (Tab.below hT.out (below_trans hB (below_trans (b := w17) Bz (by go_grown)))))).mono ?_
  rintro e w18 ⟨g18, rfl, h18, b18⟩
  replace b18 := below_trans (a := w17) (by go_grown) b18
  replace Bz := below_trans Bz b18
  clear b18
  clear p0_0 p0_1 p0_2 p0_3
  go_wp2_with fail
  with_reducible refine (mrightC (k := (nl : Int)) (CM.below h18 (by go_grown)) (turn_len (Nat.le_trans HCL.out (by decide))) (by decide) (by omega) (by omega) true (Lib.hid (turn_right HCN.out)) (Lib.hid (Tab.below hT.out (below_trans hB (below_trans (b := w18) Bz (by go_grown)))))).mono ?_
  rintro e w19 ⟨rfl, b19⟩
  replace b19 := below_trans (a := w18) (by go_grown) b19
  replace Bz := below_trans Bz b19
  clear b19
  go_wp2_with fail
  with_reducible refine (mright_q (m := 2) (hl.below (below_trans hB (below_trans (b := w19) Bz (by go_grown)))) (Lib.hid fun v hv => ⟨(VgIn.sl (hli.out v hv)).below (below_trans hB (below_trans (b := w19) Bz (by go_grown))), fun t ht => (right_fr hli.out S0.out v hv t ht).below (below_trans hB (below_trans (b := w19) Bz (by go_grown))), right_n hli.out hl S0.out v hv⟩) (by decide) (by omega) (by omega) false HR (Lib.hid (Tab.below hT.out (below_trans hB (below_trans (b := w19) Bz (by go_grown)))))).mono ?_
  rintro e w20 ⟨rfl, b20⟩
  replace b20 := below_trans (a := w19) (by go_grown) b20
  replace Bz := below_trans Bz b20
  clear b20
  go_wp2_with fail
  with_reducible refine (awake6_q (Lib.hid (Tab.below hT.out (below_trans hB (below_trans (b := w20) Bz (by go_grown)))))).mono ?_
  rintro e w21 ⟨rfl, b21⟩
  replace b21 := below_trans (a := w20) (by go_grown) b21
  replace Bz := below_trans Bz b21
  clear b21
  go_wp2_with fail
  go_ret
  have hF := below_trans (c := w21) hB Bz
  exact ⟨rfl, below_trans hF (by go_grown)⟩
 ·have HR := Lib.hid hr
  clear hr
  obtain ⟨hcm0, hrx⟩ := cm_right (k := 12) (cnt := 12) (most := 2) hl hli.out S0.out HR.out
  have HRX := Lib.hid (fun c hc => (hrx c hc).2)
  have HTB := Lib.hid (turn_back hrx)
  rw [HCN.out] at HTB
  have hcm := hcm0.below (below_trans hB Bz)
  clear hcm0 hrx
  have p0_0 := (HX0.out.below Bz).cell 0 (.bool a.s) rfl
  have p0_1 := (HX0.out.below Bz).cell 1 (.slice a.A a.l a.c) rfl
  have p0_2 := (HX0.out.below Bz).cell 2 (.bool a.s') rfl
  have p0_3 := (HX0.out.below Bz).cell 3 (.slice a.A' a.l' a.c') rfl
  go_wp2_with fail
  (try simp only [List.append_eq, List.cons_append, List.nil_append])
  refine wp_region_plan (.pure 0 (.pure 1 (.pure 2 (.pure 5 (.pure 6 (.pure 8 (.only 3 (.only 4 (.only 7 (.only 9 (.only 10 (.pure 11 (.pure 12 (.pure 13 (.pure 14 (.take 15 (.pure 16 (.pure 19 (.pure 20 (.take 22 (.pure 23 (.pure 24 (.only 17 (.only 18 (.only 21 (.only 25 (.only 26 (.only 27 (.pure 28 (.pure 29 .done)))))))))))))))))))))))))))))) [] (fun w' => w'.cell? ⟨w.heap.size, 0, none⟩ = some (.bool a.s) ∧ w'.cell? ⟨w.heap.size, 1, none⟩ = some (.slice a.A a.l a.c) ∧ w'.cell? ⟨w.heap.size, 2, none⟩ = some (.bool a.s') ∧ w'.cell? ⟨w.heap.size, 3, none⟩ = some (.slice a.A' a.l' a.c')) (by kernel_rfl) (by kernel_rfl) ⟨p0_0, p0_1, p0_2, p0_3⟩ ?_
  refine wpPlan_pure (o := ⟨some 44, _, _, _, _, _⟩) rfl rfl (fun w' => by go_simp <;> with_reducible rfl) ?_
  try simp only [pUt, pLt, pZt, pSt]
  refine wpPlan_pure (o := ⟨some 45, _, _, _, _, _⟩) rfl rfl (fun w' => by go_simp <;> with_reducible rfl) ?_
  try simp only [pUt, pLt, pZt, pSt]
  refine wpPlan_pure (o := ⟨some 46, _, _, _, _, _⟩) rfl rfl (fun w' => by go_simp <;> with_reducible rfl) ?_
  try simp only [pUt, pLt, pZt, pSt]
  refine wpPlan_pure (o := ⟨some 49, _, _, _, _, _⟩) rfl rfl (fun w' => by go_simp <;> with_reducible rfl) ?_
  try simp only [pUt, pLt, pZt, pSt]
  refine wpPlan_pure (o := ⟨some 50, _, _, _, _, _⟩) rfl rfl (fun w' => by go_simp <;> with_reducible rfl) ?_
  try simp only [pUt, pLt, pZt, pSt]
  refine wpPlan_pure (o := ⟨some 52, _, _, _, _, _⟩) rfl rfl (fun w' => by go_simp <;> with_reducible rfl) ?_
  try simp only [pUt, pLt, pZt, pSt]
  refine wpPlan_call (o := ⟨some 47, _, _, _, _, _⟩) rfl rfl (fun K hK => ?_)
  go_simp
  with_reducible refine (timesW 48 48 12 48 12 48 1152 144 (CW.below hcw (by go_grown)) (GV.below gx (by go_grown)) HC.out hnx wtx (by decide) (by decide) (by decide) (by decide) (by omega) (by decide) (by decide) (by decide) (Lib.hid (Tab.below hT.out (below_trans hB (below_trans (b := w6) Bz (by go_grown)))))).mono ?_
  rintro e w7 ⟨A7, n7, c7, rfl, h7, l7, b7⟩
  replace b7 := below_trans (a := w6) (by go_grown) b7
  replace hcm := hcm.below b7
  replace hcw := hcw.below b7
  replace ha := ha.below b7
  replace gx := gx.below b7
  replace gy := gy.below b7
  replace gz := gz.below b7
  replace Bz := below_trans Bz b7
  clear b7
  clear p0_0 p0_1 p0_2 p0_3
  have p0_0 := (HX0.out.below Bz).cell 0 (.bool a.s) rfl
  have p0_1 := (HX0.out.below Bz).cell 1 (.slice a.A a.l a.c) rfl
  have p0_2 := (HX0.out.below Bz).cell 2 (.bool a.s') rfl
  have p0_3 := (HX0.out.below Bz).cell 3 (.slice a.A' a.l' a.c') rfl
  refine hK.out _ _ ⟨p0_0, p0_1, p0_2, p0_3⟩ (fun _ => ?_)
  try simp only [pUt, pLt, pZt, pSt]
  clear hK K
  refine wpPlan_call (o := ⟨some 48, _, _, _, _, _⟩) rfl rfl (fun K hK => ?_)
  go_simp
  with_reducible refine (dotW 48 1153 12 14449 (GV.below gy (by go_grown)) ((NV.below h7 (by go_grown)).gv (nrm_nrm _).rise) hny (by omega) (by decide) (by decide) (by decide) (by decide) (by decide) (Lib.hid (Tab.below hT.out (below_trans hB (below_trans (b := w7) Bz (by go_grown)))))).mono ?_
  rintro e w8 ⟨s8, A8, c8, l8, s8r, A8r, c8r, l8r, rfl, h8, z8, b8⟩
  replace b8 := below_trans (a := w7) (by go_grown) b8
  replace hcm := hcm.below b8
  replace hcw := hcw.below b8
  replace ha := ha.below b8
  replace gx := gx.below b8
  replace gy := gy.below b8
  replace gz := gz.below b8
  replace Bz := below_trans Bz b8
  clear b8
  clear p0_0 p0_1 p0_2 p0_3
  have p0_0 := (HX0.out.below Bz).cell 0 (.bool a.s) rfl
  have p0_1 := (HX0.out.below Bz).cell 1 (.slice a.A a.l a.c) rfl
  have p0_2 := (HX0.out.below Bz).cell 2 (.bool a.s') rfl
  have p0_3 := (HX0.out.below Bz).cell 3 (.slice a.A' a.l' a.c') rfl
  refine hK.out _ _ ⟨p0_0, p0_1, p0_2, p0_3⟩ (fun _ => ?_)
  try simp only [pUt, pLt, pZt, pSt]
  clear hK K
  refine wpPlan_call (o := ⟨some 51, _, _, _, _, _⟩) rfl rfl (fun K hK => ?_)
  go_simp
  with_reducible refine (leftC 48 48 12 637 12 (GV.below gy (by go_grown)) (CW.below hcw (by go_grown)) hny (fun x hx => Nat.le_trans (HC.out x hx).1 (by decide)) (by omega) (by decide) (CW.dotK (WT := 48) (N := 12) (CW.below hcw (by go_grown)) wty (by have h9 := ((GV.below gy (by go_grown))).len; omega) (by decide)) (by decide) (by decide) (by decide) (by decide) (by decide) (by decide) (Lib.hid (Tab.below hT.out (below_trans hB (below_trans (b := w8) Bz (by go_grown)))))).mono ?_
  rintro e w9 ⟨A9, n9, c9, rfl, h9, l9, b9⟩
  replace b9 := below_trans (a := w8) (by go_grown) b9
  replace hcm := hcm.below b9
  replace hcw := hcw.below b9
  replace h8 := h8.below b9
  replace ha := ha.below b9
  replace gx := gx.below b9
  replace gz := gz.below b9
  replace Bz := below_trans Bz b9
  clear b9
  clear p0_0 p0_1 p0_2 p0_3
  have p0_0 := (HX0.out.below Bz).cell 0 (.bool a.s) rfl
  have p0_1 := (HX0.out.below Bz).cell 1 (.slice a.A a.l a.c) rfl
  have p0_2 := (HX0.out.below Bz).cell 2 (.bool a.s') rfl
  have p0_3 := (HX0.out.below Bz).cell 3 (.slice a.A' a.l' a.c') rfl
  refine hK.out _ _ ⟨p0_0, p0_1, p0_2, p0_3⟩ (fun _ => ?_)
  try simp only [pUt, pLt, pZt, pSt]
  clear hK K
  refine wpPlan_call (o := ⟨some 53, _, _, _, _, _⟩) rfl rfl (fun K hK => ?_)
  go_simp
  with_reducible refine (dotW 640 48 12 8293 ((NV.below h9 (by go_grown)).gv (nrm_nrm _).rise) (GV.below gx (by go_grown)) l9 (by omega) (by decide) (by decide) (by decide) (by decide) (by decide) (Lib.hid (Tab.below hT.out (below_trans hB (below_trans (b := w9) Bz (by go_grown)))))).mono ?_
  rintro e w10 ⟨s10, A10, c10, l10, s10r, A10r, c10r, l10r, rfl, h10, z10, b10⟩
  replace b10 := below_trans (a := w9) (by go_grown) b10
  replace hcm := hcm.below b10
  replace hcw := hcw.below b10
  replace h8 := h8.below b10
  replace ha := ha.below b10
  replace gx := gx.below b10
  replace gz := gz.below b10
  replace Bz := below_trans Bz b10
  clear b10
  clear p0_0 p0_1 p0_2 p0_3
  have p0_0 := (HX0.out.below Bz).cell 0 (.bool a.s) rfl
  have p0_1 := (HX0.out.below Bz).cell 1 (.slice a.A a.l a.c) rfl
  have p0_2 := (HX0.out.below Bz).cell 2 (.bool a.s') rfl
  have p0_3 := (HX0.out.below Bz).cell 3 (.slice a.A' a.l' a.c') rfl
  refine hK.out _ _ ⟨p0_0, p0_1, p0_2, p0_3⟩ (fun _ => ?_)
  try simp only [pUt, pLt, pZt, pSt]
  clear hK K
  refine wpPlan_call (o := ⟨some 54, _, _, _, _, _⟩) rfl rfl (fun K hK => ?_)
  go_simp
  with_reducible refine (same_q (R.below h8.r (by go_grown)) (R.below h10.r (by go_grown)) (by omega) true (Lib.hid (decide_eq_true (both1 _ _ _)))).mono ?_
  rintro e w11 ⟨rfl, b11⟩
  replace b11 := below_trans (a := w10) (by go_grown) b11
  replace hcm := hcm.below b11
  replace hcw := hcw.below b11
  replace ha := ha.below b11
  replace gx := gx.below b11
  replace gz := gz.below b11
  replace Bz := below_trans Bz b11
  clear b11
  clear p0_0 p0_1 p0_2 p0_3
  have p0_0 := (HX0.out.below Bz).cell 0 (.bool a.s) rfl
  have p0_1 := (HX0.out.below Bz).cell 1 (.slice a.A a.l a.c) rfl
  have p0_2 := (HX0.out.below Bz).cell 2 (.bool a.s') rfl
  have p0_3 := (HX0.out.below Bz).cell 3 (.slice a.A' a.l' a.c') rfl
  refine hK.out _ _ ⟨p0_0, p0_1, p0_2, p0_3⟩ (fun _ => ?_)
  try simp only [pUt, pLt, pZt, pSt]
  clear hK K
  refine wpPlan_pure (o := ⟨some 55, _, _, _, _, _⟩) rfl rfl (fun w' => by go_simp <;> with_reducible rfl) ?_
  try simp only [pUt, pLt, pZt, pSt]
  refine wpPlan_pure (o := ⟨some 56, _, _, _, _, _⟩) rfl rfl (fun w' => by go_simp <;> with_reducible rfl) ?_
  try simp only [pUt, pLt, pZt, pSt]
  refine wpPlan_pure (o := ⟨some 57, _, _, _, _, _⟩) rfl rfl (fun w' => by go_simp <;> with_reducible rfl) ?_
  try simp only [pUt, pLt, pZt, pSt]
  refine wpPlan_pure (o := ⟨some 58, _, _, _, _, _⟩) rfl rfl (fun w' => by go_simp <;> with_reducible rfl) ?_
  try simp only [pUt, pLt, pZt, pSt]
  refine wpPlan_take (o := ⟨some 59, _, _, _, _, _⟩) rfl rfl (fun w' ⟨p0_0, p0_1, p0_2, p0_3⟩ => by go_simp <;> with_reducible rfl) ?_
  try simp only [pUt, pLt, pZt, pSt]
  refine wpPlan_pure (o := ⟨some 60, _, _, _, _, _⟩) rfl rfl (fun w' => by go_simp <;> with_reducible rfl) ?_
  try simp only [pUt, pLt, pZt, pSt]
  refine wpPlan_pure (o := ⟨some 63, _, _, _, _, _⟩) rfl rfl (fun w' => by go_simp <;> with_reducible rfl) ?_
  try simp only [pUt, pLt, pZt, pSt]
  refine wpPlan_pure (o := ⟨some 64, _, _, _, _, _⟩) rfl rfl (fun w' => by go_simp <;> with_reducible rfl) ?_
  try simp only [pUt, pLt, pZt, pSt]
  refine wpPlan_take (o := ⟨some 66, _, _, _, _, _⟩) rfl rfl (fun w' ⟨p0_0, p0_1, p0_2, p0_3⟩ => by go_simp <;> with_reducible rfl) ?_
  try simp only [pUt, pLt, pZt, pSt]
  refine wpPlan_pure (o := ⟨some 67, _, _, _, _, _⟩) rfl rfl (fun w' => by go_simp <;> with_reducible rfl) ?_
  try simp only [pUt, pLt, pZt, pSt]
  refine wpPlan_pure (o := ⟨some 68, _, _, _, _, _⟩) rfl rfl (fun w' => by go_simp <;> with_reducible rfl) ?_
  try simp only [pUt, pLt, pZt, pSt]
  refine wpPlan_call (o := ⟨some 61, _, _, _, _, _⟩) rfl rfl (fun K hK => ?_)
  go_simp
  with_reducible refine (axpyW 2 48 48 12 12 101 24 (GV.below gx (by go_grown)) (R.below ha (by go_grown)) (GV.below gz (by go_grown)) hnx hnz (by decide) (by decide) (by decide) (by decide) (Lib.hid (Tab.below hT.out (below_trans hB (below_trans (b := w11) Bz (by go_grown)))))).mono ?_
  rintro e w12 ⟨A12, n12, c12, rfl, h12, l12, b12⟩
  replace b12 := below_trans (a := w11) (by go_grown) b12
  replace hcm := hcm.below b12
  replace hcw := hcw.below b12
  replace ha := ha.below b12
  replace gx := gx.below b12
  replace gz := gz.below b12
  replace Bz := below_trans Bz b12
  clear b12
  clear p0_0 p0_1 p0_2 p0_3
  have p0_0 := (HX0.out.below Bz).cell 0 (.bool a.s) rfl
  have p0_1 := (HX0.out.below Bz).cell 1 (.slice a.A a.l a.c) rfl
  have p0_2 := (HX0.out.below Bz).cell 2 (.bool a.s') rfl
  have p0_3 := (HX0.out.below Bz).cell 3 (.slice a.A' a.l' a.c') rfl
  refine hK.out _ _ ⟨p0_0, p0_1, p0_2, p0_3⟩ (fun _ => ?_)
  try simp only [pUt, pLt, pZt, pSt]
  clear hK K
  refine wpPlan_call (o := ⟨some 62, _, _, _, _, _⟩) rfl rfl (fun K hK => ?_)
  go_simp
  with_reducible refine (timesW 102 48 12 48 24 132 2736 288 (CW.below hcw (by go_grown)) ((NV.below h12 (by go_grown)).gv (nrm_nrm _).rise) HC.out l12 (wtot_axpy _ _ _ wtx wtz HLZ.out hsa) (by decide) (by decide) (by decide) (by decide) (by omega) (by decide) (by decide) (by decide) (Lib.hid (Tab.below hT.out (below_trans hB (below_trans (b := w12) Bz (by go_grown)))))).mono ?_
  rintro e w13 ⟨A13, n13, c13, rfl, h13, l13, b13⟩
  replace b13 := below_trans (a := w12) (by go_grown) b13
  replace hcm := hcm.below b13
  replace hcw := hcw.below b13
  replace ha := ha.below b13
  replace gx := gx.below b13
  replace gz := gz.below b13
  replace Bz := below_trans Bz b13
  clear b13
  clear p0_0 p0_1 p0_2 p0_3
  have p0_0 := (HX0.out.below Bz).cell 0 (.bool a.s) rfl
  have p0_1 := (HX0.out.below Bz).cell 1 (.slice a.A a.l a.c) rfl
  have p0_2 := (HX0.out.below Bz).cell 2 (.bool a.s') rfl
  have p0_3 := (HX0.out.below Bz).cell 3 (.slice a.A' a.l' a.c') rfl
  refine hK.out _ _ ⟨p0_0, p0_1, p0_2, p0_3⟩ (fun _ => ?_)
  try simp only [pUt, pLt, pZt, pSt]
  clear hK K
  refine wpPlan_call (o := ⟨some 65, _, _, _, _, _⟩) rfl rfl (fun K hK => ?_)
  go_simp
  with_reducible refine (timesW 48 48 12 48 12 48 1152 144 (CW.below hcw (by go_grown)) (GV.below gx (by go_grown)) HC.out hnx wtx (by decide) (by decide) (by decide) (by decide) (by omega) (by decide) (by decide) (by decide) (Lib.hid (Tab.below hT.out (below_trans hB (below_trans (b := w13) Bz (by go_grown)))))).mono ?_
  rintro e w14 ⟨A14, n14, c14, rfl, h14, l14, b14⟩
  replace b14 := below_trans (a := w13) (by go_grown) b14
  replace hcm := hcm.below b14
  replace hcw := hcw.below b14
  replace ha := ha.below b14
  replace h13 := h13.below b14
  replace gx := gx.below b14
  replace gz := gz.below b14
  replace Bz := below_trans Bz b14
  clear b14
  clear p0_0 p0_1 p0_2 p0_3
  have p0_0 := (HX0.out.below Bz).cell 0 (.bool a.s) rfl
  have p0_1 := (HX0.out.below Bz).cell 1 (.slice a.A a.l a.c) rfl
  have p0_2 := (HX0.out.below Bz).cell 2 (.bool a.s') rfl
  have p0_3 := (HX0.out.below Bz).cell 3 (.slice a.A' a.l' a.c') rfl
  refine hK.out _ _ ⟨p0_0, p0_1, p0_2, p0_3⟩ (fun _ => ?_)
  try simp only [pUt, pLt, pZt, pSt]
  clear hK K
  refine wpPlan_call (o := ⟨some 69, _, _, _, _, _⟩) rfl rfl (fun K hK => ?_)
  go_simp
  with_reducible refine (timesW 48 48 12 48 12 48 1152 144 (CW.below hcw (by go_grown)) (GV.below gz (by go_grown)) HC.out hnz wtz (by decide) (by decide) (by decide) (by decide) (by omega) (by decide) (by decide) (by decide) (Lib.hid (Tab.below hT.out (below_trans hB (below_trans (b := w14) Bz (by go_grown)))))).mono ?_
  rintro e w15 ⟨A15, n15, c15, rfl, h15, l15, b15⟩
  replace b15 := below_trans (a := w14) (by go_grown) b15
  replace hcm := hcm.below b15
  replace hcw := hcw.below b15
  replace ha := ha.below b15
  replace h13 := h13.below b15
  replace h14 := h14.below b15
  replace gx := gx.below b15
  replace Bz := below_trans Bz b15
  clear b15
  clear p0_0 p0_1 p0_2 p0_3
  have p0_0 := (HX0.out.below Bz).cell 0 (.bool a.s) rfl
  have p0_1 := (HX0.out.below Bz).cell 1 (.slice a.A a.l a.c) rfl
  have p0_2 := (HX0.out.below Bz).cell 2 (.bool a.s') rfl
  have p0_3 := (HX0.out.below Bz).cell 3 (.slice a.A' a.l' a.c') rfl
  refine hK.out _ _ ⟨p0_0, p0_1, p0_2, p0_3⟩ (fun _ => ?_)
  try simp only [pUt, pLt, pZt, pSt]
  clear hK K
  refine wpPlan_call (o := ⟨some 70, _, _, _, _, _⟩) rfl rfl (fun K hK => ?_)
  go_simp
  with_reducible refine (axpyW 2 1153 1153 144 144 2311 288 ((NV.below h14 (by go_grown)).gv (nrm_nrm _).rise) (R.below ha (by go_grown)) ((NV.below h15 (by go_grown)).gv (nrm_nrm _).rise) l14 l15 (by decide) (by decide) (by decide) (by decide) (Lib.hid (Tab.below hT.out (below_trans hB (below_trans (b := w15) Bz (by go_grown)))))).mono ?_
  rintro e w16 ⟨A16, n16, c16, rfl, h16, l16, b16⟩
  replace b16 := below_trans (a := w15) (by go_grown) b16
  replace hcm := hcm.below b16
  replace hcw := hcw.below b16
  replace h13 := h13.below b16
  replace gx := gx.below b16
  replace Bz := below_trans Bz b16
  clear b16
  clear p0_0 p0_1 p0_2 p0_3
  have p0_0 := (HX0.out.below Bz).cell 0 (.bool a.s) rfl
  have p0_1 := (HX0.out.below Bz).cell 1 (.slice a.A a.l a.c) rfl
  have p0_2 := (HX0.out.below Bz).cell 2 (.bool a.s') rfl
  have p0_3 := (HX0.out.below Bz).cell 3 (.slice a.A' a.l' a.c') rfl
  refine hK.out _ _ ⟨p0_0, p0_1, p0_2, p0_3⟩ (fun _ => ?_)
  try simp only [pUt, pLt, pZt, pSt]
  clear hK K
  refine wpPlan_call (o := ⟨some 71, _, _, _, _, _⟩) rfl rfl (fun K hK => ?_)
  go_simp
  with_reducible refine (sameVec_q (NV.below h13 (by go_grown)) (NV.below h16 (by go_grown)) (by decide) (by decide) (by omega) (by omega) true (Lib.hid (decide_eq_true (both2 _ _ _ _)))).mono ?_
  rintro e w17 ⟨rfl, b17⟩
  replace b17 := below_trans (a := w16) (by go_grown) b17
  replace hcm := hcm.below b17
  replace hcw := hcw.below b17
  replace gx := gx.below b17
  replace Bz := below_trans Bz b17
  clear b17
  clear p0_0 p0_1 p0_2 p0_3
  have p0_0 := (HX0.out.below Bz).cell 0 (.bool a.s) rfl
  have p0_1 := (HX0.out.below Bz).cell 1 (.slice a.A a.l a.c) rfl
  have p0_2 := (HX0.out.below Bz).cell 2 (.bool a.s') rfl
  have p0_3 := (HX0.out.below Bz).cell 3 (.slice a.A' a.l' a.c') rfl
  refine hK.out _ _ ⟨p0_0, p0_1, p0_2, p0_3⟩ (fun _ => ?_)
  try simp only [pUt, pLt, pZt, pSt]
  clear hK K
  refine wpPlan_pure (o := ⟨some 72, _, _, _, _, _⟩) rfl rfl (fun w' => by go_simp <;> with_reducible rfl) ?_
  try simp only [pUt, pLt, pZt, pSt]
  refine wpPlan_pure (o := ⟨some 14, _, _, _, _, _⟩) rfl rfl (fun w' => by go_simp <;> with_reducible rfl) ?_
  try simp only [pUt, pLt, pZt, pSt]
  refine wpPlan_done ?_
  go_wp2_with fail
  with_reducible refine (turnC (m := m) (CW.below hcw (by go_grown)) (fun x hx => Nat.le_trans (HC.out x hx).1 (by decide)) (by decide) (by omega) (by omega) (m : Int) rfl (Lib.hid (Tab.below hT.out (below_trans hB (below_trans (b := w17) Bz (by go_grown)))))).mono ?_
  rintro e w18 ⟨g18, rfl, h18, b18⟩
  replace b18 := below_trans (a := w17) (by go_grown) b18
  replace hcm := hcm.below b18
  replace hcw := hcw.below b18
  replace gx := gx.below b18
  replace Bz := below_trans Bz b18
  clear b18
  clear p0_0 p0_1 p0_2 p0_3
  go_wp2_with fail
  with_reducible refine (mrightC (k := (nl : Int)) (CM.below h18 (by go_grown)) (turn_len (Nat.le_trans HCL.out (by decide))) (by decide) (by omega) (by omega) true (Lib.hid (turn_right HCN.out)) (Lib.hid (Tab.below hT.out (below_trans hB (below_trans (b := w18) Bz (by go_grown)))))).mono ?_
  rintro e w19 ⟨rfl, b19⟩
  replace b19 := below_trans (a := w18) (by go_grown) b19
  replace h18 := h18.below b19
  replace hcm := hcm.below b19
  replace hcw := hcw.below b19
  replace gx := gx.below b19
  replace Bz := below_trans Bz b19
  clear b19
  go_wp2_with fail
  with_reducible refine (mright_q (m := 2) (hl.below (below_trans hB (below_trans (b := w19) Bz (by go_grown)))) (Lib.hid fun v hv => ⟨(VgIn.sl (hli.out v hv)).below (below_trans hB (below_trans (b := w19) Bz (by go_grown))), fun t ht => (right_fr hli.out S0.out v hv t ht).below (below_trans hB (below_trans (b := w19) Bz (by go_grown))), right_n hli.out hl S0.out v hv⟩) (by decide) (by omega) (by omega) true HR (Lib.hid (Tab.below hT.out (below_trans hB (below_trans (b := w19) Bz (by go_grown)))))).mono ?_
  rintro e w20 ⟨rfl, b20⟩
  replace b20 := below_trans (a := w19) (by go_grown) b20
  replace h18 := h18.below b20
  replace hcm := hcm.below b20
  replace hcw := hcw.below b20
  replace gx := gx.below b20
  replace Bz := below_trans Bz b20
  clear b20
  go_wp2_with fail
  with_reducible refine (turnC (m := nl) (CM.cw (CM.below h18 (by go_grown)) turnT_rise) (turn_len (Nat.le_trans HCL.out (by decide))) (by decide) (by omega) (by omega) (nl : Int) rfl (Lib.hid (Tab.below hT.out (below_trans hB (below_trans (b := w20) Bz (by go_grown)))))).mono ?_
  rintro e w21 ⟨g21, rfl, h21, b21⟩
  replace b21 := below_trans (a := w20) (by go_grown) b21
  replace h18 := h18.below b21
  replace hcm := hcm.below b21
  replace hcw := hcw.below b21
  replace gx := gx.below b21
  replace Bz := below_trans Bz b21
  clear b21
  go_wp2_with fail
  with_reducible refine (sameVecs_q (CM.below h21 (by go_grown)) (CM.below hcm (by go_grown)) (turn_len (by rw [turnT_len]; omega)) (fun x hx => Nat.le_trans (HC.out x hx).1 (by decide)) (by decide) (by decide) (by omega) (by omega) true (Lib.hid (decide_eq_true HTB.out))).mono ?_
  rintro e w22 ⟨rfl, b22⟩
  replace b22 := below_trans (a := w21) (by go_grown) b22
  replace h18 := h18.below b22
  replace hcw := hcw.below b22
  replace gx := gx.below b22
  replace Bz := below_trans Bz b22
  clear b22
  go_wp2_with fail
  with_reducible refine (timesW 48 48 12 48 12 48 1152 144 (CW.below hcw (by go_grown)) (GV.below gx (by go_grown)) HC.out hnx wtx (by decide) (by decide) (by decide) (by decide) (by omega) (by decide) (by decide) (by decide) (Lib.hid (Tab.below hT.out (below_trans hB (below_trans (b := w22) Bz (by go_grown)))))).mono ?_
  rintro e w23 ⟨A23, n23, c23, rfl, h23, l23, b23⟩
  replace b23 := below_trans (a := w22) (by go_grown) b23
  replace h18 := h18.below b23
  replace gx := gx.below b23
  replace Bz := below_trans Bz b23
  clear b23
  go_wp2_with fail
  with_reducible refine (leftC 48 49 12 649 20 (GV.below gx (by go_grown)) (CM.cw (CM.below h18 (by go_grown)) turnT_rise) hnx (turn_len (Nat.le_trans HCL.out (by decide))) (by omega) (by decide) (CW.dotK (WT := 48) (N := 12) (CM.cw (CM.below h18 (by go_grown)) turnT_rise) wtx (by have h9 := ((GV.below gx (by go_grown))).len; omega) (by decide)) (by decide) (by decide) (by decide) (by decide) (by decide) (by decide) (Lib.hid (Tab.below hT.out (below_trans hB (below_trans (b := w23) Bz (by go_grown)))))).mono ?_
  rintro e w24 ⟨A24, n24, c24, rfl, h24, l24, b24⟩
  replace b24 := below_trans (a := w23) (by go_grown) b24
  replace h23 := h23.below b24
  replace Bz := below_trans Bz b24
  clear b24
  go_wp2_with fail
  with_reducible refine (sameVec_q (NV.below h23 (by go_grown)) (NV.below h24 (by go_grown)) (by decide) (by decide) (by omega) (by omega) true (Lib.hid (decide_eq_true (turn_times HRX.out _)))).mono ?_
  rintro e w25 ⟨rfl, b25⟩
  replace b25 := below_trans (a := w24) (by go_grown) b25
  replace Bz := below_trans Bz b25
  clear b25
  go_wp2_with fail
  with_reducible refine (awake6_q (Lib.hid (Tab.below hT.out (below_trans hB (below_trans (b := w25) Bz (by go_grown)))))).mono ?_
  rintro e w26 ⟨rfl, b26⟩
  replace b26 := below_trans (a := w25) (by go_grown) b26
  replace Bz := below_trans Bz b26
  clear b26
  go_wp2_with fail
  go_ret
  have hF := below_trans (c := w26) hB Bz
  exact ⟨rfl, below_trans hF (by go_grown)⟩
theorem both_q {w : World} {LA X Y Z : Option Addr} {nl cl nx cx ny cy nz cz : Nat} {CL : List Vc} {LX LY LZ : List Tm} {a : Fr} {n : Int} (hl : Sl Vc.cs 1 w LA nl cl CL) (hli : Hid (∀ v ∈ CL, VgIn w v)) (hll : nl ≤ 9223372036854775807) (hx : Sl Tm.cs 5 w X nx cx LX) (xi : Hid (∀ t ∈ LX, TmIn w t)) (hlx : nx ≤ 9223372036854775807) (hy : Sl Tm.cs 5 w Y ny cy LY) (yi : Hid (∀ t ∈ LY, TmIn w t)) (hly : ny ≤ 9223372036854775807) (hz : Sl Tm.cs 5 w Z nz cz LZ) (zi : Hid (∀ t ∈ LZ, TmIn w t)) (hlz : nz ≤ 9223372036854775807) (ai : FrIn w a) (hni : I64 n) (xc : X = none → cx = 0) (yc : Y = none → cy = 0) (zc : Z = none → cz = 0) (hT : Hid (Tab w)) :
  Calls Tryz.prog 7 #[.slice LA nl cl, .slice X nx cx, .slice Y ny cy, .slice Z nz cz, .agg #[.bool a.s, .slice a.A a.l a.c, .bool a.s', .slice a.A' a.l' a.c'], .int .i64 n] w (Yes w) := by
 cases s0 : shortVcs 12 12 2 nl CL
 ·exact both_0 hl hli hll hx xi hlx hy yi hly hz zi hlz ai (Lib.hid s0) hT
 ·cases s1 : shortVc 12 2 ⟨X, nx, cx, LX⟩
  ·exact both_1 hl hli hll hx xi hlx hy yi hly hz zi hlz ai (Lib.hid s0) (Lib.hid s1) hT
  ·cases s2 : shortVc 12 2 ⟨Y, ny, cy, LY⟩
   ·exact both_2 hl hli hll hx xi hlx hy yi hly hz zi hlz ai (Lib.hid s0) (Lib.hid s1) (Lib.hid s2) hT
   ·cases s3 : shortVc 12 2 ⟨Z, nz, cz, LZ⟩
    ·exact both_3 hl hli hll hx xi hlx hy yi hly hz zi hlz ai (Lib.hid s0) (Lib.hid s1) (Lib.hid s2) (Lib.hid s3) hT
    ·cases s4 : shortFr 2 a
     ·exact both_4 hl hli hll hx xi hlx hy yi hly hz zi hlz ai (Lib.hid s0) (Lib.hid s1) (Lib.hid s2) (Lib.hid s3) (Lib.hid s4) hT
     ·exact both_ok hl hli hll hx xi hlx hy yi hly hz zi hlz ai hni (Lib.hid s0) (Lib.hid s1) (Lib.hid s2) (Lib.hid s3) (Lib.hid s4) xc yc zc hT
theorem both_any {w : World} {l x y z u : Value} {n : Int} (hl : CsIn w l) (hx : TsIn w x) (hy : TsIn w y) (hz : TsIn w z) (ha : RtIn w u) (hn : -9223372036854775808 ≤ n ∧ n ≤ 9223372036854775807) (hT : Tab w) :
  Calls Tryz.prog 7 #[l, x, y, z, u, .int .i64 n] w (Yes w) := by
 obtain ⟨LA, nl, cl, CL, rfl, l1, l2, l3⟩ := hl
 obtain ⟨X, nx, cx, LX, rfl, x1, x2, x3, x4⟩ := hx
 obtain ⟨Y, ny, cy, LY, rfl, y1, y2, y3, y4⟩ := hy
 obtain ⟨Z, nz, cz, LZ, rfl, z1, z2, z3, z4⟩ := hz
 obtain ⟨a, rfl, ai⟩ := ha
 exact both_q (a := a) l1 (Lib.hid l2) l3 x1 (Lib.hid x2) x3 y1 (Lib.hid y2) y3 z1 (Lib.hid z2) z3 ai hn x4 y4 z4 (Lib.hid hT)
namespace matrixBoth
open Go.ChangeShapes Go.WideShapes Go.ChangeAt Go.RowKit Tw

set_option maxRecDepth 100000 in
theorem contract (H : Type) (enc : TypeId × Value → H) (W : World) (base : Nat) (args : Array Value) (ds gs : List (DataW H)) (before : List MemPlace)
  (hval : ∀ (j : Nat) t v, Tryz.f7.params[j]? = some t → args[j]? = some v → Value.okWide Tryz.prog W .any base t v)
  (hW : DataW.Whole enc Tryz.prog Tryz.f7.params.toList Rows.matrixBothSpec.vars false W args.toList ds gs before) (hL : laidMetH Tryz.prog Rows.matrixBothRow.laid W) :
  Calls Tryz.prog 7 args W fun e W' => ∃ v, e = .returned v ∧ Rows.matrixBothSpec.post enc Tryz.prog Tryz.f7 false true false false W args v W' := by
 have hW' := hW
 obtain ⟨p, q, hA0, hV, rfl, hfz, hnd⟩ := hW
 have hA : DataW.TrodAll enc Tryz.prog W 0 (fun _ => true) true Tryz.f7.params.toList args.toList ds p := hA0
 rw [Tryz.params7] at hA hval
 obtain ⟨v0, vs0, d0, ds0, p0, q0, hargs, rfl, rfl, h0, r0⟩ := trodAll_cons hA
 obtain ⟨v1, vs1, d1, ds1, p1, q1, rfl, rfl, rfl, h1, r1⟩ := trodAll_cons r0
 obtain ⟨v2, vs2, d2, ds2, p2, q2, rfl, rfl, rfl, h2, r2⟩ := trodAll_cons r1
 obtain ⟨v3, vs3, d3, ds3, p3, q3, rfl, rfl, rfl, h3, r3⟩ := trodAll_cons r2
 obtain ⟨v4, vs4, d4, ds4, p4, q4, rfl, rfl, rfl, h4, r4⟩ := trodAll_cons r3
 obtain ⟨v5, vs5, d5, ds5, p5, q5, rfl, rfl, rfl, h5, r5⟩ := trodAll_cons r4
 obtain ⟨rfl, rfl, rfl⟩ := trodAll_nil r5
 obtain rfl : args = #[v0, v1, v2, v3, v4, v5] := by cases args; simp_all
 obtain ⟨rfl, rfl⟩ := trodVars_none hV
 have lt0 : ∀ x ∈ p0, x.block < W.heap.size := by obtain ⟨m, hm⟩ := h0; exact DataW.trod_lt m _ _ _ hm
 obtain ⟨A0, l0, c0, rfl⟩ := okWide_slice Tryz.underlying60 (hval 0 60 v0 rfl rfl)
 have n0 := cs_of h0 ⟨_, _, _, rfl⟩
 have lt1 : ∀ x ∈ p1, x.block < W.heap.size := by obtain ⟨m, hm⟩ := h1; exact DataW.trod_lt m _ _ _ hm
 obtain ⟨A1, l1, c1, rfl⟩ := okWide_slice Tryz.underlying46 (hval 1 46 v1 rfl rfl)
 have n1 := ts_of h1 ⟨_, _, _, rfl⟩
 have lt2 : ∀ x ∈ p2, x.block < W.heap.size := by obtain ⟨m, hm⟩ := h2; exact DataW.trod_lt m _ _ _ hm
 obtain ⟨A2, l2, c2, rfl⟩ := okWide_slice Tryz.underlying46 (hval 2 46 v2 rfl rfl)
 have n2 := ts_of h2 ⟨_, _, _, rfl⟩
 have lt3 : ∀ x ∈ p3, x.block < W.heap.size := by obtain ⟨m, hm⟩ := h3; exact DataW.trod_lt m _ _ _ hm
 obtain ⟨A3, l3, c3, rfl⟩ := okWide_slice Tryz.underlying46 (hval 3 46 v3 rfl rfl)
 have n3 := ts_of h3 ⟨_, _, _, rfl⟩
 have lt4 : ∀ x ∈ p4, x.block < W.heap.size := by obtain ⟨m, hm⟩ := h4; exact DataW.trod_lt m _ _ _ hm
 have n4 := rt_of h4 (aggRat_of (hval 4 57 v4 rfl rfl))
 obtain ⟨a5, rfl, rfl, rfl, w5⟩ := open_int Tryz.underlying3 (hval 5 3 v5 rfl rfl) h5
 refine (both_any n0 n1 n2 n3 n4 (bounds_i64 w5) (tab_of hL)).mono fun e W' ⟨he, bel⟩ => ?_
 subst he
 exact ⟨_, rfl, _, _, _, [], _, [], hW', trodAll_mk1 (shut_bool Tryz.underlying4 _), (trodAll_cons_mk (Below.trod laidOut (by kernel_rfl) (of_decide_eq_true (by kernel_rfl)) h0 bel lt0) (trodAll_cons_mk (Below.trod laidOut (by kernel_rfl) (of_decide_eq_true (by kernel_rfl)) h1 bel lt1) (trodAll_cons_mk (Below.trod laidOut (by kernel_rfl) (of_decide_eq_true (by kernel_rfl)) h2 bel lt2) (trodAll_cons_mk (Below.trod laidOut (by kernel_rfl) (of_decide_eq_true (by kernel_rfl)) h3 bel lt3) (trodAll_cons_mk (Below.trod laidOut (by kernel_rfl) (of_decide_eq_true (by kernel_rfl)) h4 bel lt4) (trodAll_cons_mk (shut_int Tryz.underlying3 w5) trodAll_mk0)))))), rfl, bel.frame _, fun h => by cases h⟩

theorem laid_met (os : Os) : laidMet Tryz.prog Rows.matrixBothRow.laid ((laidWorld os).forCall (fun _ _ => 0) ⟨#[], #[.slice none 0 0, .slice none 0 0, .slice none 0 0, .slice none 0 0, .agg #[.bool false, .slice none 0 0, .bool false, .slice none 0 0], .int .i64 0], []⟩).memory :=
 laidMet_of_run' 8 (by kernel_rfl) (by kernel_rfl)
set_option maxRecDepth 100000 in
theorem reads (os : Os) {H : Type} (enc : TypeId × Value → H) : ∃ places, DataW.whole enc Tryz.prog ((laidWorld os).forCall (fun _ _ => 0) ⟨#[], #[.slice none 0 0, .slice none 0 0, .slice none 0 0, .slice none 0 0, .agg #[.bool false, .slice none 0 0, .bool false, .slice none 0 0], .int .i64 0], []⟩).memory Tryz.f7.params.toList Rows.matrixBothSpec.vars false (#[.slice none 0 0, .slice none 0 0, .slice none 0 0, .slice none 0 0, .agg #[.bool false, .slice none 0 0, .bool false, .slice none 0 0], .int .i64 0] : Array Value).toList 8 = some ([.nil, .nil, .nil, .nil, .agg [.agg [.lit (.bool false), .nil], .agg [.lit (.bool false), .nil]], .lit (.int .i64 0)], [], places) :=
 ⟨[], by kernel_rfl⟩

set_option maxRecDepth 100000 in
theorem lifted (os : Os) (started : os.Started) (H : Type) (enc : TypeId × Value → H) (F : Stop.Interp) :
  ReturnsInHanded {} Tryz.checked os 7 .any ((OpenSpec.ofChange Rows.matrixBothSpec).preRow enc Tryz.prog Tryz.f7 Rows.matrixBothRow.domain false Rows.matrixBothRow.laid) (((OpenSpec.ofChange Rows.matrixBothSpec).at F).post enc Tryz.prog Tryz.f7 false true false false) := by
 obtain ⟨places, hx⟩ := reads os enc
 refine returnsInHanded_of_row (C := Tryz.checked) (s := OpenSpec.ofChange Rows.matrixBothSpec) own started (by kernel_rfl) Tryz.func7
  (witness_row_at (enc := enc) (C := Tryz.checked) false (laidWorld os) #[.slice none 0 0, .slice none 0 0, .slice none 0 0, .slice none 0 0, .agg #[.bool false, .slice none 0 0, .bool false, .slice none 0 0], .int .i64 0] rfl (by kernel_rfl) (by kernel_rfl) (by kernel_rfl)
   (OpenSpec.preRow_of_cond 8 hx (by kernel_rfl) (fun k hk => by cases hk) (by kernel_rfl) (laid_met os))) ?_
 intro W base args ds gs before hval hW _ _ _ hL _ _
 exact contract H enc W base args ds gs before hval hW hL

theorem said : Rows.MatrixBothSaid :=
 OpenClaim.holds_of_cond 7 Tryz.f7 rfl rfl rfl rfl rfl rfl rfl ⟨rfl, rfl, rfl, rfl, rfl⟩ rfl rfl rfl rfl rfl (by kernel_rfl) Tryz.func7 (by kernel_rfl)
  (of_decide_eq_true (by kernel_rfl)) (by unfold Func.isWrapper; first | (rw [if_pos (by decide +kernel)]; kernel_rfl) | (rw [if_neg (by decide +kernel)]; exact ⟨rfl, rfl⟩))
  (fun os started H enc _ F => by rw [OpenClaim.pre_eq_preRow]; exact lifted os started H enc F)

theorem plain (f : FuncId) (fn : Func) (hf : Tryz.pinned.checked.prog.funcNamed "tripwire/tripwirelaw06.MatrixBoth" = some f) (hfn : Tryz.pinned.checked.prog.funcs[f]? = some fn) :
  false = Tryz.pinned.checked.prog.looks [] ∧ ∀ (j : Nat) t, fn.params[j]? = some t → Tryz.pinned.checked.prog.wantsStandIn t = false := by
 obtain rfl : f = 7 := Option.some.inj ((show Tryz.prog.funcNamed "tripwire/tripwirelaw06.MatrixBoth" = some 7 by kernel_rfl).symm.trans hf) |>.symm
 obtain rfl : fn = Tryz.f7 := (Option.some.inj (Tryz.func7.symm.trans hfn)).symm
 refine ⟨by kernel_rfl, fun j t ht => ?_⟩
 rw [Tryz.params7] at ht
 have hm := Array.mem_of_getElem? ht
 simp only [List.mem_toArray, List.mem_cons, List.not_mem_nil, or_false] at hm
 rcases hm with rfl | rfl | rfl | rfl | rfl | rfl
 ·exact (show Tryz.prog.wantsStandIn 60 = false by kernel_rfl)
 ·exact (show Tryz.prog.wantsStandIn 46 = false by kernel_rfl)
 ·exact (show Tryz.prog.wantsStandIn 46 = false by kernel_rfl)
 ·exact (show Tryz.prog.wantsStandIn 46 = false by kernel_rfl)
 ·exact (show Tryz.prog.wantsStandIn 57 = false by kernel_rfl)
 ·exact (show Tryz.prog.wantsStandIn 3 = false by kernel_rfl)

theorem card : Rows.MatrixBothCardSaid :=
 Claim7.holds_tied_plain_at .later [] _ _ _ _ said (fun _ h => by cases h) (by kernel_rfl) (fun _ h => by cases h) matrixBoth_row_tie rfl ⟨rfl, rfl⟩ (by kernel_rfl) rfl plain (by kernel_rfl)
end matrixBoth
end Go.Proofs.YtldcfmangolkoaaGreatDoor
