/-
  MatrixOrders: for any picks and any two vectors that came in, Inverse of Inverse is the order, Move by it undoes Move and keeps products; the law answers true. No condition. Written by wip/gen/mx7.py.
-/
import Derived.Test.YtldcfmangolkoaaDoorYMxR
import Derived.Test.YtldcfmangolkoaaDoorYMx2
import Derived.Test.YtldcfmangolkoaaDoorYRdT
import Derived.Test.YtldcfmangolkoaaDoorYRdV
import Derived.Test.YtldcfmangolkoaaDoorYWG
import Derived.Test.YtldcfmangolkoaaDoorYZTab
namespace Go.Proofs.YtldcfmangolkoaaDoor
open Go.RowKit Tw

theorem pick_i {w : World} (x : Int) (n : Nat) (z : Int) (hz : (n : Int) = z) (hx : I64 x) (hn : 1 ≤ n) (hn2 : n ≤ 1000000000) : Calls Tryd.prog 17 #[.int .i64 x, .int .i64 z] w fun e w' => ∃ p : Nat, e = .returned (.int .i64 (p : Int)) ∧ p < n ∧ Below w.heap.size w w' := by
  subst hz
  refine (pick_q x n w hx hn hn2).mono fun e w' h => ?_
  obtain ⟨⟨m, h1, h2⟩, rfl⟩ := h
  exact ⟨m, h2, h1, Below.refl _ _⟩
theorem perm_i64 {L : List Int} (h : permL L = true) (hl : L.length ≤ 1000000) : ∀ x ∈ L, I64 x := fun x hx => by
  have := (permL_iff.1 h).2 x hx
  unfold I64
  omega
set_option maxRecDepth 100000 in
set_option maxHeartbeats 4000000 in
theorem orders_g {w : World} {PA X Y : Option Addr} {np cp nx cx ny cy : Nat} (g0 : (20 : Int) < (np : Int)) (hT : Hid (Tab w)) :
    Calls Tryd.prog 4 #[.slice PA np cp, .slice X nx cx, .slice Y ny cy] w (Yes w) := by
  have hB := Below.refl w.heap.size w
  have Bz := Below.refl w.heap.size w
  go_enter Tryd.func4, Tryd.ntmps4
  go_wp2_with fail
  with_reducible refine (awake6_q (Lib.hid (Tab.below hT.out (below_trans hB (below_trans (b := w) Bz (by go_grown)))))).mono ?_
  rintro e w1 ⟨rfl, b1⟩
  replace b1 := below_trans (a := w) (by go_grown) b1
  replace Bz := below_trans Bz b1
  clear b1
  go_wp2_with fail
  go_ret
  have hF := below_trans (c := w1) hB Bz
  exact ⟨rfl, below_trans hF (by go_grown)⟩
set_option maxRecDepth 100000 in
set_option maxHeartbeats 4000000 in
theorem orders_0 {w : World} {PA X Y : Option Addr} {np cp nx cx ny cy : Nat} {LX LY : List Tm} (hx : Sl Tm.cs 5 w X nx cx LX) (xi : Hid (∀ t ∈ LX, TmIn w t)) (hlx : nx ≤ 9223372036854775807) (_hy : Sl Tm.cs 5 w Y ny cy LY) (_yi : Hid (∀ t ∈ LY, TmIn w t)) (_hly : ny ≤ 9223372036854775807) (g0 : ¬ (20 : Int) < (np : Int)) (S0 : Hid (shortVc 12 2 ⟨X, nx, cx, LX⟩ = false)) (hT : Hid (Tab w)) :
    Calls Tryd.prog 4 #[.slice PA np cp, .slice X nx cx, .slice Y ny cy] w (Yes w) := by
  have hB := Below.refl w.heap.size w
  have Bz := Below.refl w.heap.size w
  go_enter Tryd.func4, Tryd.ntmps4
  go_wp2_with fail
  with_reducible refine (shortVec_q (hx.below (below_trans hB (below_trans (b := w) Bz (by go_grown)))) (Lib.hid fun t ht => tm_lens (xi.out t ht)) hlx 12 2 false S0).mono ?_
  rintro e w1 ⟨rfl, b1⟩
  replace b1 := below_trans (a := w) (by go_grown) b1
  replace Bz := below_trans Bz b1
  clear b1
  go_wp2_with fail
  with_reducible refine (awake6_q (Lib.hid (Tab.below hT.out (below_trans hB (below_trans (b := w1) Bz (by go_grown)))))).mono ?_
  rintro e w2 ⟨rfl, b2⟩
  replace b2 := below_trans (a := w1) (by go_grown) b2
  replace Bz := below_trans Bz b2
  clear b2
  go_wp2_with fail
  go_ret
  have hF := below_trans (c := w2) hB Bz
  exact ⟨rfl, below_trans hF (by go_grown)⟩
set_option maxRecDepth 100000 in
set_option maxHeartbeats 4000000 in
theorem orders_1 {w : World} {PA X Y : Option Addr} {np cp nx cx ny cy : Nat} {LX LY : List Tm} (hx : Sl Tm.cs 5 w X nx cx LX) (xi : Hid (∀ t ∈ LX, TmIn w t)) (hlx : nx ≤ 9223372036854775807) (hy : Sl Tm.cs 5 w Y ny cy LY) (yi : Hid (∀ t ∈ LY, TmIn w t)) (hly : ny ≤ 9223372036854775807) (g0 : ¬ (20 : Int) < (np : Int)) (S0 : Hid (shortVc 12 2 ⟨X, nx, cx, LX⟩ = true)) (S1 : Hid (shortVc 12 2 ⟨Y, ny, cy, LY⟩ = false)) (hT : Hid (Tab w)) :
    Calls Tryd.prog 4 #[.slice PA np cp, .slice X nx cx, .slice Y ny cy] w (Yes w) := by
  have hB := Below.refl w.heap.size w
  have Bz := Below.refl w.heap.size w
  go_enter Tryd.func4, Tryd.ntmps4
  go_wp2_with fail
  with_reducible refine (shortVec_q (hx.below (below_trans hB (below_trans (b := w) Bz (by go_grown)))) (Lib.hid fun t ht => tm_lens (xi.out t ht)) hlx 12 2 true S0).mono ?_
  rintro e w1 ⟨rfl, b1⟩
  replace b1 := below_trans (a := w) (by go_grown) b1
  replace Bz := below_trans Bz b1
  clear b1
  go_wp2_with fail
  with_reducible refine (shortVec_q (hy.below (below_trans hB (below_trans (b := w1) Bz (by go_grown)))) (Lib.hid fun t ht => tm_lens (yi.out t ht)) hly 12 2 false S1).mono ?_
  rintro e w2 ⟨rfl, b2⟩
  replace b2 := below_trans (a := w1) (by go_grown) b2
  replace Bz := below_trans Bz b2
  clear b2
  go_wp2_with fail
  with_reducible refine (awake6_q (Lib.hid (Tab.below hT.out (below_trans hB (below_trans (b := w2) Bz (by go_grown)))))).mono ?_
  rintro e w3 ⟨rfl, b3⟩
  replace b3 := below_trans (a := w2) (by go_grown) b3
  replace Bz := below_trans Bz b3
  clear b3
  go_wp2_with fail
  go_ret
  have hF := below_trans (c := w3) hB Bz
  exact ⟨rfl, below_trans hF (by go_grown)⟩
/-- A state of the loop that makes the order. -/
def MO1 (w : World) (np gk : Nat) (s7 s8 : Value) (wr : World) : Prop := ∃ (i : Nat) (L : List Int) (H : Option Addr) (hc : Nat), s7 = .slice H i hc ∧ s8 = .int .i64 (i : Int) ∧ i ≤ np ∧ np - i = gk ∧ OwnR wr w.heap.size 3 1 (.slice H i hc) i (flat ics L) ∧ permL L = true ∧ Below w.heap.size w wr
def MO2 (w : World) (g i c : Nat) (L : List Int) (m gk : Nat) (s : Value) (wr : World) : Prop := ∃ (k : Nat) (j : Int), m ≤ k ∧ k ≤ i ∧ k - m ≤ gk ∧ s = .int .i64 (k : Int) ∧ OwnR wr w.heap.size 3 1 (.slice (some ⟨g, 0, none⟩) (i + 1) c) (i + 1) (flat ics (shL L k j)) ∧ Below w.heap.size w wr
set_option maxRecDepth 100000 in
set_option maxHeartbeats 16000000 in
theorem orders_ok {w : World} {PA X Y : Option Addr} {np cp nx cx ny cy : Nat} {PL : List Int} {LX LY : List Tm} (hp : Sl ics 1 w PA np cp PL) (hpi : Hid (∀ x ∈ PL, I64 x)) (hlp : np ≤ 9223372036854775807) (hx : Sl Tm.cs 5 w X nx cx LX) (xi : Hid (∀ t ∈ LX, TmIn w t)) (hlx : nx ≤ 9223372036854775807) (hy : Sl Tm.cs 5 w Y ny cy LY) (yi : Hid (∀ t ∈ LY, TmIn w t)) (hly : ny ≤ 9223372036854775807) (g0 : ¬ (20 : Int) < (np : Int)) (S0 : Hid (shortVc 12 2 ⟨X, nx, cx, LX⟩ = true)) (S1 : Hid (shortVc 12 2 ⟨Y, ny, cy, LY⟩ = true)) (xc : X = none → cx = 0) (yc : Y = none → cy = 0) (hT : Hid (Tab w)) :
    Calls Tryd.prog 4 #[.slice PA np cp, .slice X nx cx, .slice Y ny cy] w (Yes w) := by
  obtain ⟨gx, hnx⟩ := gv_small (cnt := 12) (most := 2) hx xi.out xc S0.out
  obtain ⟨gy, hny⟩ := gv_small (cnt := 12) (most := 2) hy yi.out yc S1.out
  have HPSL := Lib.hid hp
  have HLN := Lib.hid hp.1
  have HGX := Lib.hid gx
  have HGY := Lib.hid gy
  clear hp gx gy
  have hB := Below.refl w.heap.size w
  have Bz := Below.refl w.heap.size w
  go_enter Tryd.func4, Tryd.ntmps4
  go_wp2_with fail
  with_reducible refine (shortVec_q (hx.below (below_trans hB (below_trans (b := w) Bz (by go_grown)))) (Lib.hid fun t ht => tm_lens (xi.out t ht)) hlx 12 2 true S0).mono ?_
  rintro e w1 ⟨rfl, b1⟩
  replace b1 := below_trans (a := w) (by go_grown) b1
  replace Bz := below_trans Bz b1
  clear b1
  go_wp2_with fail
  with_reducible refine (shortVec_q (hy.below (below_trans hB (below_trans (b := w1) Bz (by go_grown)))) (Lib.hid fun t ht => tm_lens (yi.out t ht)) hly 12 2 true S1).mono ?_
  rintro e w2 ⟨rfl, b2⟩
  replace b2 := below_trans (a := w1) (by go_grown) b2
  replace Bz := below_trans Bz b2
  clear b2
  go_wp2_with fail
  have HB1 := Lib.hid (below_trans hB Bz)
  clear hB Bz
  go_loopg [7, 8] np (fun gk s7 s8 wr => MO1 w np gk s7 s8 wr)
  case atStart => exact ⟨0, [], none, 0, rfl, rfl, Nat.zero_le _, rfl, OwnR.nil _ _ _ _, rfl, HB1.out⟩
  case round =>
    clear HB1
    obtain ⟨i, L, H, hc, rfl, rfl, hi, hgk, ho, hpm, hB⟩ := hrel
    have HGK := Lib.hid hgk
    have HPM := Lib.hid hpm
    have HLL := Lib.hid (ho.eltn elt_ics (by omega))
    clear hgk hpm
    by_cases hlt : i < np
    · obtain ⟨b, off, rfl, hel⟩ := HPSL.out.at ics_len (by omega) (by omega)
      obtain ⟨x, hx'⟩ : ∃ x, PL[i]? = some x := ⟨PL[i]'(by rw [HLN.out]; exact hlt), List.getElem?_eq_getElem _⟩
      have hnd : ElA w b (off + i) (ics x) := by have := hel i x hx'; rwa [Nat.mul_one] at this
      have hxi := hpi.out x (List.mem_of_getElem? hx')
      have w1 : IntKind.i64.wrap ((i : Int) + 1) = (i : Int) + 1 := IntWalk.i64_in _ (by omega)
      have i1 : (i : Int) < (np : Int) := by omega
      have i2 : (0 : Int) ≤ (i : Int) := by omega
      clear hel hx'
      have Bz := Below.refl wr.heap.size wr
      have p50_0 := (hnd.below (below_trans hB Bz)).c0 (u := .int .i64 x) rfl
      go_wp2_with fail
      with_reducible refine (pick_i x (i + 1) ((i : Int) + 1) (by omega) hxi (by omega) (by omega)).mono ?_
      rintro e w11 ⟨m, rfl, hmi, b11⟩
      replace b11 := below_trans (a := wr) (by go_grown) b11
      replace ho := ho.below b11
      replace Bz := below_trans Bz b11
      clear b11
      clear p50_0
      go_wp2_with (at_builtin; refine And.left (b := True) ?_)
      refine ⟨?_, trivial⟩
      obtain ⟨V11, hW, x0, hN⟩ := boxes1 w11 #[.int .i64 0] 3
      rw [← hW]
      clear hW
      obtain ⟨v0, hb0⟩ : ∃ b, b = w11.heap.size := ⟨_, rfl⟩
      rw [← hb0] at x0 ⊢
      have ow_0 : w.heap.size ≤ v0 := by have := hB.size; have := Bz.size; omega
      have nv0_own := OwnR.off' (b := v0) ho (by omega)
      replace ho := ho.below hN
      replace hB := below_trans (below_trans hB Bz) hN
      have HX0 := Lib.hid x0
      clear x0 hN Bz hb0
      have Bz := Below.refl V11.heap.size V11
      have hdr : V11.drew.heap.size = V11.heap.size := rfl
      have hdr2 : V11.drew.drew.heap.size = V11.heap.size := rfl
      refine Elt.app elt_ics rfl _ _ rfl (w.heap.size) (.slice H i hc) (i) (L) rfl ho (.slice (some ⟨v0, 0, none⟩) 1 1) (1) ([(0 : Int)]) rfl (From.one (HX0.out.below (below_trans Bz (by go_grown))) ((0 : Int)) rfl (elt_ics.len _)) (by omega) (by have := hB.size; have := Bz.size; omega) ?_
      intro H12 c12 w12 ho12 hg12
      replace hB := (below_trans (below_trans hB Bz) (by go_grown)).trans (hg12.below (by have := hB.size; have := Bz.size; omega) (fun g hg => by have := ho.base g hg; omega))
      clear HX0
      clear hdr hdr2
      clear hg12 Bz
      have Bz := Below.refl w12.heap.size w12
      go_wp2_with fail
      obtain ⟨g, rfl⟩ := ho12.some (by omega)
      have HO1 := Lib.hid ho12
      have HB2 := Lib.hid (below_trans hB Bz)
      clear ho12 hB Bz hnd
      go_loopg [10] (i - m) (fun gk s wr => MO2 w g i c12 L m gk s wr)
      case atStart => exact ⟨i, 0, by omega, Nat.le_refl _, Nat.le_refl _, rfl, by have h9 := shL_start L 0; rw [HLL.out] at h9; rw [h9]; exact HO1.out, HB2.out⟩
      case round =>
        clear HO1 HB2
        obtain ⟨k, j, hmk, hki, hgk2, rfl, ho, hB⟩ := hrel
        by_cases hkm : m < k
        · obtain ⟨k, rfl⟩ : ∃ k', k = k' + 1 := ⟨k - 1, by omega⟩
          obtain ⟨u, hu⟩ : ∃ u, L[k]? = some u := ⟨L[k]'(by rw [HLL.out]; omega), List.getElem?_eq_getElem _⟩
          have HU := Lib.hid (shL_get hu j)
          have HST := Lib.hid (shL_step hu j)
          obtain ⟨v0, hv0⟩ : ∃ v, (shL L (k + 1) j)[k + 1]? = some v := ⟨(shL L (k + 1) j)[k + 1]'(by rw [shL_len, HLL.out]; omega), List.getElem?_eq_getElem _⟩
          have HV0 := Lib.hid hv0
          have e1 : ((k + 1 : Nat) : Int) = (k : Int) + 1 := by omega
          rw [e1]
          have w6 : IntKind.i64.wrap ((k : Int) + 1 - 1) = (k : Int) := by rw [IntWalk.i64_in _ (by omega)]; omega
          have j1 : (m : Int) < (k : Int) + 1 := by omega
          have j2 : (0 : Int) ≤ (k : Int) := by omega
          have j3 : (k : Int) < (i : Int) + 1 := by omega
          have j4 : (k : Int) + 1 < (i : Int) + 1 := by omega
          have j5 : (0 : Int) ≤ (k : Int) + 1 := by omega
          have j6 : ((k : Int) + 1).toNat = k + 1 := by omega
          clear hu hv0 e1
          have Bz := Below.refl wr.heap.size wr
          have p50_0 := int_cell ho HU.out
          have p51_0 := int_cell ho HV0.out
          have f51_0 := ho.frozen (k + 1)
          have y51 := ho.blk.1
          go_upto_region 11 with (fail)
          obtain ⟨V21, hV, ho2, hg2⟩ := int_store ho HV0.out (u)
          rw [← hV]
          clear hV
          replace hB := (below_trans hB Bz).trans (hg2.below (by have := hB.size; have := Bz.size; omega) (fun g' hg' => by have := ho.base g' hg'; omega))
          clear ho
          have ho := ho2
          clear ho2 hg2 Bz
          have Bz := Below.refl V21.heap.size V21
          clear p50_0 p51_0 f51_0 y51
          go_wp2_with fail
          go_roundg (k - m)
          case measure => omega
          case rel => exact ⟨k, u, by omega, by omega, by omega, by go_num, by rw [← HST.out]; exact OwnR.below ho (by go_grown), below_trans (below_trans hB Bz) (by go_grown)⟩
        · obtain rfl : k = m := by omega
          obtain ⟨v0, hv0⟩ : ∃ v, (shL L k j)[k]? = some v := ⟨(shL L k j)[k]'(by rw [shL_len, HLL.out]; omega), List.getElem?_eq_getElem _⟩
          have HV0 := Lib.hid hv0
          have HST := Lib.hid (shL_set (L := L) (k := k) (by rw [HLL.out]; omega) j (i : Int))
          have HPN : Hid (permL (shL L k (i : Int)) = true) := Lib.hid (by have h9 := shL_perm HPM.out k; rw [HLL.out] at h9; exact h9)
          have j1 : ¬ (k : Int) < (k : Int) := by omega
          have j2 : (0 : Int) ≤ (k : Int) := by omega
          have j3 : (k : Int) < (i : Int) + 1 := by omega
          clear hv0
          have Bz := Below.refl wr.heap.size wr
          have p51_0 := int_cell ho HV0.out
          have f51_0 := ho.frozen k
          have y51 := ho.blk.1
          go_wp2_with fail
          obtain ⟨V21, hV, ho2, hg2⟩ := int_store ho HV0.out ((i : Int))
          rw [← hV]
          clear hV
          replace hB := (below_trans hB Bz).trans (hg2.below (by have := hB.size; have := Bz.size; omega) (fun g' hg' => by have := ho.base g' hg'; omega))
          clear ho
          have ho := ho2
          clear ho2 hg2 Bz
          have Bz := Below.refl V21.heap.size V21
          clear p51_0 f51_0 y51
          go_wp2_with fail
          go_roundg (np - (i + 1))
          case measure => have := HGK.out; omega
          case rel => exact ⟨i + 1, shL L k (i : Int), _, _, by rfl, by go_num, by omega, rfl, by rw [← HST.out]; exact OwnR.below ho (by go_grown), HPN.out, below_trans (below_trans hB Bz) (by go_grown)⟩
    · obtain rfl : i = np := by omega
      have i1 : ¬ (i : Int) < (i : Int) := by omega
      have hsl := ho.sl' elt_ics HLL.out
      have hli : i ≤ 20 := by omega
      have HI1 := Lib.hid (perm_i64 HPM.out (by rw [HLL.out]; omega))
      have HPV := Lib.hid (perm_invL HPM.out)
      have HI2 := Lib.hid (perm_i64 HPV.out (by rw [invL_len, HLL.out]; omega))
      have gx := HGX.out.below hB
      have gy := HGY.out.below hB
      clear HGX HGY
      by_cases ox : okM i (nrm (prs LX)) = true
      · have HOX := Lib.hid ox
        have HKX : Hid (okM L.length (nrm (prs LX)) = true) := Lib.hid (by rw [HLL.out]; exact ox)
        clear ox
        by_cases oy : okM i (nrm (prs LY)) = true
        · have HOY := Lib.hid oy
          have HKY : Hid (okM L.length (nrm (prs LY)) = true) := Lib.hid (by rw [HLL.out]; exact oy)
          have HOB : Hid (okM i (nrm (nrm (movF L (nrm (prs LX))))) = true) := Lib.hid (by have h9 := mo_ok HPM.out HKX.out; rw [HLL.out] at h9; exact h9)
          clear oy
          have Bz := Below.refl wr.heap.size wr
          go_wp2_with fail
          with_reducible refine (inverseW (Sl.below hsl (by go_grown)) HI1 (by omega) HPM.out).mono ?_
          rintro e w31 ⟨A31, c31, rfl, h31, b31⟩
          replace b31 := below_trans (a := wr) (by go_grown) b31
          replace gx := gx.below b31
          replace gy := gy.below b31
          replace hsl := hsl.below b31
          replace Bz := below_trans Bz b31
          clear b31
          go_wp2_with fail
          with_reducible refine (inverseW (Sl.below h31 (by go_grown)) HI2 (by omega) HPV.out).mono ?_
          rintro e w32 ⟨A32, c32, rfl, h32, b32⟩
          replace b32 := below_trans (a := w31) (by go_grown) b32
          replace gx := gx.below b32
          replace gy := gy.below b32
          replace h31 := h31.below b32
          replace hsl := hsl.below b32
          replace Bz := below_trans Bz b32
          clear b32
          go_wp2_with fail
          with_reducible refine (perm_q (Sl.below hsl (by go_grown)) HI1 (by omega) true HPM).mono ?_
          rintro e w33 ⟨rfl, b33⟩
          replace b33 := below_trans (a := w32) (by go_grown) b33
          replace gx := gx.below b33
          replace gy := gy.below b33
          replace h31 := h31.below b33
          replace h32 := h32.below b33
          replace hsl := hsl.below b33
          replace Bz := below_trans Bz b33
          clear b33
          go_wp2_with fail
          with_reducible refine (sameInts_q (Sl.below h32 (by go_grown)) (Sl.below hsl (by go_grown)) (by omega) (by omega) true (Lib.hid (decide_eq_true (invL_invL HPM.out)))).mono ?_
          rintro e w34 ⟨rfl, b34⟩
          replace b34 := below_trans (a := w33) (by go_grown) b34
          replace gx := gx.below b34
          replace gy := gy.below b34
          replace h31 := h31.below b34
          replace hsl := hsl.below b34
          replace Bz := below_trans Bz b34
          clear b34
          go_wp2_with fail
          with_reducible refine (moveW (N := 12) (Sl.below hsl (by go_grown)) HI1 (by omega) HPM.out (GV.below gx (by go_grown)) HOX.out (by decide) (by omega) (Lib.hid (Tab.below hT.out (below_trans hB (below_trans (b := w34) Bz (by go_grown)))))).mono ?_
          rintro e w35 ⟨A35, n35, c35, rfl, h35, l35, b35⟩
          replace b35 := below_trans (a := w34) (by go_grown) b35
          replace gx := gx.below b35
          replace gy := gy.below b35
          replace h31 := h31.below b35
          replace hsl := hsl.below b35
          replace Bz := below_trans Bz b35
          clear b35
          go_wp2_with fail
          with_reducible refine (moveW (N := 12) (Sl.below hsl (by go_grown)) HI1 (by omega) HPM.out (GV.below gy (by go_grown)) HOY.out (by decide) (by omega) (Lib.hid (Tab.below hT.out (below_trans hB (below_trans (b := w35) Bz (by go_grown)))))).mono ?_
          rintro e w36 ⟨A36, n36, c36, rfl, h36, l36, b36⟩
          replace b36 := below_trans (a := w35) (by go_grown) b36
          replace gx := gx.below b36
          replace gy := gy.below b36
          replace h31 := h31.below b36
          replace h35 := h35.below b36
          replace Bz := below_trans Bz b36
          clear b36
          go_wp2_with fail
          with_reducible refine (moveW (N := 12) (Sl.below h31 (by go_grown)) HI2 (by omega) HPV.out ((NV.below h35 (by go_grown)).gv (nrm_nrm _).rise) HOB.out (by decide) (by omega) (Lib.hid (Tab.below hT.out (below_trans hB (below_trans (b := w36) Bz (by go_grown)))))).mono ?_
          rintro e w37 ⟨A37, n37, c37, rfl, h37, l37, b37⟩
          replace b37 := below_trans (a := w36) (by go_grown) b37
          replace gx := gx.below b37
          replace gy := gy.below b37
          replace h35 := h35.below b37
          replace h36 := h36.below b37
          replace Bz := below_trans Bz b37
          clear b37
          go_wp2_with fail
          with_reducible refine (normW 48 12 (GV.below gx (by go_grown)) (by omega) (by decide) (by decide) (Lib.hid (Tab.below hT.out (below_trans hB (below_trans (b := w37) Bz (by go_grown)))))).mono ?_
          rintro e w38 ⟨A38, n38, c38, rfl, h38, l38, b38⟩
          replace b38 := below_trans (a := w37) (by go_grown) b38
          replace gx := gx.below b38
          replace gy := gy.below b38
          replace h35 := h35.below b38
          replace h36 := h36.below b38
          replace h37 := h37.below b38
          replace Bz := below_trans Bz b38
          clear b38
          go_wp2_with fail
          with_reducible refine (sameVec_q (NV.below h37 (by go_grown)) (NV.below h38 (by go_grown)) (by decide) (by decide) (by omega) (by omega) true (Lib.hid (decide_eq_true (mo_back HPM.out HKX.out)))).mono ?_
          rintro e w39 ⟨rfl, b39⟩
          replace b39 := below_trans (a := w38) (by go_grown) b39
          replace gx := gx.below b39
          replace gy := gy.below b39
          replace h35 := h35.below b39
          replace h36 := h36.below b39
          replace Bz := below_trans Bz b39
          clear b39
          go_wp2_with fail
          with_reducible refine (dotW 50 50 12 1237 ((NV.below h35 (by go_grown)).gv (nrm_nrm _).rise) ((NV.below h36 (by go_grown)).gv (nrm_nrm _).rise) (by omega) (by omega) (by decide) (by decide) (by decide) (by decide) (by decide) (Lib.hid (Tab.below hT.out (below_trans hB (below_trans (b := w39) Bz (by go_grown)))))).mono ?_
          rintro e w40 ⟨s40, A40, c40, l40, s40r, A40r, c40r, l40r, rfl, h40, z40, b40⟩
          replace b40 := below_trans (a := w39) (by go_grown) b40
          replace gx := gx.below b40
          replace gy := gy.below b40
          replace Bz := below_trans Bz b40
          clear b40
          go_wp2_with fail
          with_reducible refine (dotW 48 48 12 1189 (GV.below gx (by go_grown)) (GV.below gy (by go_grown)) (by omega) (by omega) (by decide) (by decide) (by decide) (by decide) (by decide) (Lib.hid (Tab.below hT.out (below_trans hB (below_trans (b := w40) Bz (by go_grown)))))).mono ?_
          rintro e w41 ⟨s41, A41, c41, l41, s41r, A41r, c41r, l41r, rfl, h41, z41, b41⟩
          replace b41 := below_trans (a := w40) (by go_grown) b41
          replace h40 := h40.below b41
          replace Bz := below_trans Bz b41
          clear b41
          go_wp2_with fail
          with_reducible refine (same_q (R.below h40.r (by go_grown)) (R.below h41.r (by go_grown)) (by omega) true (Lib.hid (decide_eq_true (mo_dot HPM.out HKX.out HKY.out)))).mono ?_
          rintro e w42 ⟨rfl, b42⟩
          replace b42 := below_trans (a := w41) (by go_grown) b42
          replace Bz := below_trans Bz b42
          clear b42
          go_wp2_with fail
          with_reducible refine (awake6_q (Lib.hid (Tab.below hT.out (below_trans hB (below_trans (b := w42) Bz (by go_grown)))))).mono ?_
          rintro e w43 ⟨rfl, b43⟩
          replace b43 := below_trans (a := w42) (by go_grown) b43
          replace Bz := below_trans Bz b43
          clear b43
          go_wp2_with fail
          go_ret
          have hF := below_trans (c := w43) hB Bz
          exact ⟨rfl, below_trans hF (by go_grown)⟩
        · have HOY := Lib.hid oy
          clear oy
          have Bz := Below.refl wr.heap.size wr
          go_wp2_with fail
          with_reducible refine (inverseW (Sl.below hsl (by go_grown)) HI1 (by omega) HPM.out).mono ?_
          rintro e w31 ⟨A31, c31, rfl, h31, b31⟩
          replace b31 := below_trans (a := wr) (by go_grown) b31
          replace gx := gx.below b31
          replace gy := gy.below b31
          replace hsl := hsl.below b31
          replace Bz := below_trans Bz b31
          clear b31
          go_wp2_with fail
          with_reducible refine (inverseW (Sl.below h31 (by go_grown)) HI2 (by omega) HPV.out).mono ?_
          rintro e w32 ⟨A32, c32, rfl, h32, b32⟩
          replace b32 := below_trans (a := w31) (by go_grown) b32
          replace gx := gx.below b32
          replace gy := gy.below b32
          replace hsl := hsl.below b32
          replace Bz := below_trans Bz b32
          clear b32
          go_wp2_with fail
          with_reducible refine (perm_q (Sl.below hsl (by go_grown)) HI1 (by omega) true HPM).mono ?_
          rintro e w33 ⟨rfl, b33⟩
          replace b33 := below_trans (a := w32) (by go_grown) b33
          replace gx := gx.below b33
          replace gy := gy.below b33
          replace h32 := h32.below b33
          replace hsl := hsl.below b33
          replace Bz := below_trans Bz b33
          clear b33
          go_wp2_with fail
          with_reducible refine (sameInts_q (Sl.below h32 (by go_grown)) (Sl.below hsl (by go_grown)) (by omega) (by omega) true (Lib.hid (decide_eq_true (invL_invL HPM.out)))).mono ?_
          rintro e w34 ⟨rfl, b34⟩
          replace b34 := below_trans (a := w33) (by go_grown) b34
          replace gx := gx.below b34
          replace gy := gy.below b34
          replace hsl := hsl.below b34
          replace Bz := below_trans Bz b34
          clear b34
          go_wp2_with fail
          with_reducible refine (moveW (N := 12) (Sl.below hsl (by go_grown)) HI1 (by omega) HPM.out (GV.below gx (by go_grown)) HOX.out (by decide) (by omega) (Lib.hid (Tab.below hT.out (below_trans hB (below_trans (b := w34) Bz (by go_grown)))))).mono ?_
          rintro e w35 ⟨A35, n35, c35, rfl, h35, l35, b35⟩
          replace b35 := below_trans (a := w34) (by go_grown) b35
          replace gy := gy.below b35
          replace hsl := hsl.below b35
          replace Bz := below_trans Bz b35
          clear h35
          clear b35
          go_wp2_with fail
          with_reducible refine (move_err (Sl.below hsl (by go_grown)) HI1 (by omega) HPM.out (GV.below gy (by go_grown)) HOY.out (by decide) (by omega) (Lib.hid (Tab.below hT.out (below_trans hB (below_trans (b := w35) Bz (by go_grown)))))).mono ?_
          rintro e w36 ⟨rfl, b36⟩
          replace b36 := below_trans (a := w35) (by go_grown) b36
          replace Bz := below_trans Bz b36
          clear b36
          go_wp2_with fail
          with_reducible refine (awake6_q (Lib.hid (Tab.below hT.out (below_trans hB (below_trans (b := w36) Bz (by go_grown)))))).mono ?_
          rintro e w37 ⟨rfl, b37⟩
          replace b37 := below_trans (a := w36) (by go_grown) b37
          replace Bz := below_trans Bz b37
          clear b37
          go_wp2_with fail
          go_ret
          have hF := below_trans (c := w37) hB Bz
          exact ⟨rfl, below_trans hF (by go_grown)⟩
      · have HOX := Lib.hid ox
        clear ox
        by_cases oy : okM i (nrm (prs LY)) = true
        · have HOY := Lib.hid oy
          clear oy
          have Bz := Below.refl wr.heap.size wr
          go_wp2_with fail
          with_reducible refine (inverseW (Sl.below hsl (by go_grown)) HI1 (by omega) HPM.out).mono ?_
          rintro e w31 ⟨A31, c31, rfl, h31, b31⟩
          replace b31 := below_trans (a := wr) (by go_grown) b31
          replace gx := gx.below b31
          replace gy := gy.below b31
          replace hsl := hsl.below b31
          replace Bz := below_trans Bz b31
          clear b31
          go_wp2_with fail
          with_reducible refine (inverseW (Sl.below h31 (by go_grown)) HI2 (by omega) HPV.out).mono ?_
          rintro e w32 ⟨A32, c32, rfl, h32, b32⟩
          replace b32 := below_trans (a := w31) (by go_grown) b32
          replace gx := gx.below b32
          replace gy := gy.below b32
          replace hsl := hsl.below b32
          replace Bz := below_trans Bz b32
          clear b32
          go_wp2_with fail
          with_reducible refine (perm_q (Sl.below hsl (by go_grown)) HI1 (by omega) true HPM).mono ?_
          rintro e w33 ⟨rfl, b33⟩
          replace b33 := below_trans (a := w32) (by go_grown) b33
          replace gx := gx.below b33
          replace gy := gy.below b33
          replace h32 := h32.below b33
          replace hsl := hsl.below b33
          replace Bz := below_trans Bz b33
          clear b33
          go_wp2_with fail
          with_reducible refine (sameInts_q (Sl.below h32 (by go_grown)) (Sl.below hsl (by go_grown)) (by omega) (by omega) true (Lib.hid (decide_eq_true (invL_invL HPM.out)))).mono ?_
          rintro e w34 ⟨rfl, b34⟩
          replace b34 := below_trans (a := w33) (by go_grown) b34
          replace gx := gx.below b34
          replace gy := gy.below b34
          replace hsl := hsl.below b34
          replace Bz := below_trans Bz b34
          clear b34
          go_wp2_with fail
          with_reducible refine (move_err (Sl.below hsl (by go_grown)) HI1 (by omega) HPM.out (GV.below gx (by go_grown)) HOX.out (by decide) (by omega) (Lib.hid (Tab.below hT.out (below_trans hB (below_trans (b := w34) Bz (by go_grown)))))).mono ?_
          rintro e w35 ⟨rfl, b35⟩
          replace b35 := below_trans (a := w34) (by go_grown) b35
          replace gy := gy.below b35
          replace hsl := hsl.below b35
          replace Bz := below_trans Bz b35
          clear b35
          go_wp2_with fail
          with_reducible refine (moveW (N := 12) (Sl.below hsl (by go_grown)) HI1 (by omega) HPM.out (GV.below gy (by go_grown)) HOY.out (by decide) (by omega) (Lib.hid (Tab.below hT.out (below_trans hB (below_trans (b := w35) Bz (by go_grown)))))).mono ?_
          rintro e w36 ⟨A36, n36, c36, rfl, h36, l36, b36⟩
          replace b36 := below_trans (a := w35) (by go_grown) b36
          replace Bz := below_trans Bz b36
          clear h36
          clear b36
          go_wp2_with fail
          with_reducible refine (awake6_q (Lib.hid (Tab.below hT.out (below_trans hB (below_trans (b := w36) Bz (by go_grown)))))).mono ?_
          rintro e w37 ⟨rfl, b37⟩
          replace b37 := below_trans (a := w36) (by go_grown) b37
          replace Bz := below_trans Bz b37
          clear b37
          go_wp2_with fail
          go_ret
          have hF := below_trans (c := w37) hB Bz
          exact ⟨rfl, below_trans hF (by go_grown)⟩
        · have HOY := Lib.hid oy
          clear oy
          have Bz := Below.refl wr.heap.size wr
          go_wp2_with fail
          with_reducible refine (inverseW (Sl.below hsl (by go_grown)) HI1 (by omega) HPM.out).mono ?_
          rintro e w31 ⟨A31, c31, rfl, h31, b31⟩
          replace b31 := below_trans (a := wr) (by go_grown) b31
          replace gx := gx.below b31
          replace gy := gy.below b31
          replace hsl := hsl.below b31
          replace Bz := below_trans Bz b31
          clear b31
          go_wp2_with fail
          with_reducible refine (inverseW (Sl.below h31 (by go_grown)) HI2 (by omega) HPV.out).mono ?_
          rintro e w32 ⟨A32, c32, rfl, h32, b32⟩
          replace b32 := below_trans (a := w31) (by go_grown) b32
          replace gx := gx.below b32
          replace gy := gy.below b32
          replace hsl := hsl.below b32
          replace Bz := below_trans Bz b32
          clear b32
          go_wp2_with fail
          with_reducible refine (perm_q (Sl.below hsl (by go_grown)) HI1 (by omega) true HPM).mono ?_
          rintro e w33 ⟨rfl, b33⟩
          replace b33 := below_trans (a := w32) (by go_grown) b33
          replace gx := gx.below b33
          replace gy := gy.below b33
          replace h32 := h32.below b33
          replace hsl := hsl.below b33
          replace Bz := below_trans Bz b33
          clear b33
          go_wp2_with fail
          with_reducible refine (sameInts_q (Sl.below h32 (by go_grown)) (Sl.below hsl (by go_grown)) (by omega) (by omega) true (Lib.hid (decide_eq_true (invL_invL HPM.out)))).mono ?_
          rintro e w34 ⟨rfl, b34⟩
          replace b34 := below_trans (a := w33) (by go_grown) b34
          replace gx := gx.below b34
          replace gy := gy.below b34
          replace hsl := hsl.below b34
          replace Bz := below_trans Bz b34
          clear b34
          go_wp2_with fail
          with_reducible refine (move_err (Sl.below hsl (by go_grown)) HI1 (by omega) HPM.out (GV.below gx (by go_grown)) HOX.out (by decide) (by omega) (Lib.hid (Tab.below hT.out (below_trans hB (below_trans (b := w34) Bz (by go_grown)))))).mono ?_
          rintro e w35 ⟨rfl, b35⟩
          replace b35 := below_trans (a := w34) (by go_grown) b35
          replace gy := gy.below b35
          replace hsl := hsl.below b35
          replace Bz := below_trans Bz b35
          clear b35
          go_wp2_with fail
          with_reducible refine (move_err (Sl.below hsl (by go_grown)) HI1 (by omega) HPM.out (GV.below gy (by go_grown)) HOY.out (by decide) (by omega) (Lib.hid (Tab.below hT.out (below_trans hB (below_trans (b := w35) Bz (by go_grown)))))).mono ?_
          rintro e w36 ⟨rfl, b36⟩
          replace b36 := below_trans (a := w35) (by go_grown) b36
          replace Bz := below_trans Bz b36
          clear b36
          go_wp2_with fail
          with_reducible refine (awake6_q (Lib.hid (Tab.below hT.out (below_trans hB (below_trans (b := w36) Bz (by go_grown)))))).mono ?_
          rintro e w37 ⟨rfl, b37⟩
          replace b37 := below_trans (a := w36) (by go_grown) b37
          replace Bz := below_trans Bz b37
          clear b37
          go_wp2_with fail
          go_ret
          have hF := below_trans (c := w37) hB Bz
          exact ⟨rfl, below_trans hF (by go_grown)⟩
theorem orders_q {w : World} {PA X Y : Option Addr} {np cp nx cx ny cy : Nat} {PL : List Int} {LX LY : List Tm} (hp : Sl ics 1 w PA np cp PL) (hpi : Hid (∀ x ∈ PL, I64 x)) (hlp : np ≤ 9223372036854775807) (hx : Sl Tm.cs 5 w X nx cx LX) (xi : Hid (∀ t ∈ LX, TmIn w t)) (hlx : nx ≤ 9223372036854775807) (hy : Sl Tm.cs 5 w Y ny cy LY) (yi : Hid (∀ t ∈ LY, TmIn w t)) (hly : ny ≤ 9223372036854775807) (xc : X = none → cx = 0) (yc : Y = none → cy = 0) (hT : Hid (Tab w)) :
    Calls Tryd.prog 4 #[.slice PA np cp, .slice X nx cx, .slice Y ny cy] w (Yes w) := by
  by_cases g0 : (20 : Int) < (np : Int)
  · exact orders_g g0 hT
  · cases s0 : shortVc 12 2 ⟨X, nx, cx, LX⟩
    · exact orders_0 hx xi hlx hy yi hly g0 (Lib.hid s0) hT
    · cases s1 : shortVc 12 2 ⟨Y, ny, cy, LY⟩
      · exact orders_1 hx xi hlx hy yi hly g0 (Lib.hid s0) (Lib.hid s1) hT
      · exact orders_ok hp hpi hlp hx xi hlx hy yi hly g0 (Lib.hid s0) (Lib.hid s1) xc yc hT
theorem orders_any {w : World} {p x y : Value} (hp : IsIn w p) (hx : TsIn w x) (hy : TsIn w y) (hT : Tab w) :
    Calls Tryd.prog 4 #[p, x, y] w (Yes w) := by
  obtain ⟨PA, np, cp, PL, rfl, p1, p2, p3⟩ := hp
  obtain ⟨X, nx, cx, LX, rfl, x1, x2, x3, x4⟩ := hx
  obtain ⟨Y, ny, cy, LY, rfl, y1, y2, y3, y4⟩ := hy
  exact orders_q p1 (Lib.hid p2) p3 x1 (Lib.hid x2) x3 y1 (Lib.hid y2) y3 x4 y4 (Lib.hid hT)
namespace matrixOrders
open Go.ChangeShapes Go.WideShapes Go.ChangeAt Go.RowKit Tw

set_option maxRecDepth 100000 in
theorem contract (H : Type) (enc : TypeId × Value → H) (W : World) (base : Nat) (args : Array Value) (ds gs : List (DataW H)) (before : List MemPlace)
    (hval : ∀ (j : Nat) t v, Tryd.f4.params[j]? = some t → args[j]? = some v → Value.okWide Tryd.prog W .any base t v)
    (hW : DataW.Whole enc Tryd.prog Tryd.f4.params.toList Rows.matrixOrdersSpec.vars false W args.toList ds gs before) (hL : laidMetH Tryd.prog Rows.matrixOrdersRow.laid W) :
    Calls Tryd.prog 4 args W fun e W' => ∃ v, e = .returned v ∧ Rows.matrixOrdersSpec.post enc Tryd.prog Tryd.f4 false true false false W args v W' := by
  have hW' := hW
  obtain ⟨p, q, hA0, hV, rfl, hfz, hnd⟩ := hW
  have hA : DataW.TrodAll enc Tryd.prog W 0 (fun _ => true) true Tryd.f4.params.toList args.toList ds p := hA0
  rw [Tryd.params4] at hA hval
  obtain ⟨v0, vs0, d0, ds0, p0, q0, hargs, rfl, rfl, h0, r0⟩ := trodAll_cons hA
  obtain ⟨v1, vs1, d1, ds1, p1, q1, rfl, rfl, rfl, h1, r1⟩ := trodAll_cons r0
  obtain ⟨v2, vs2, d2, ds2, p2, q2, rfl, rfl, rfl, h2, r2⟩ := trodAll_cons r1
  obtain ⟨rfl, rfl, rfl⟩ := trodAll_nil r2
  obtain rfl : args = #[v0, v1, v2] := by cases args; simp_all
  obtain ⟨rfl, rfl⟩ := trodVars_none hV
  have lt0 : ∀ x ∈ p0, x.block < W.heap.size := by obtain ⟨m, hm⟩ := h0; exact DataW.trod_lt m _ _ _ hm
  obtain ⟨A0, l0, c0, rfl⟩ := okWide_slice Tryd.underlying39 (hval 0 39 v0 rfl rfl)
  have n0 := isv_of h0 ⟨_, _, _, rfl⟩
  have lt1 : ∀ x ∈ p1, x.block < W.heap.size := by obtain ⟨m, hm⟩ := h1; exact DataW.trod_lt m _ _ _ hm
  obtain ⟨A1, l1, c1, rfl⟩ := okWide_slice Tryd.underlying51 (hval 1 51 v1 rfl rfl)
  have n1 := ts_of h1 ⟨_, _, _, rfl⟩
  have lt2 : ∀ x ∈ p2, x.block < W.heap.size := by obtain ⟨m, hm⟩ := h2; exact DataW.trod_lt m _ _ _ hm
  obtain ⟨A2, l2, c2, rfl⟩ := okWide_slice Tryd.underlying51 (hval 2 51 v2 rfl rfl)
  have n2 := ts_of h2 ⟨_, _, _, rfl⟩
  refine (orders_any n0 n1 n2 (tab_of hL)).mono fun e W' ⟨he, bel⟩ => ?_
  subst he
  exact ⟨_, rfl, _, _, _, [], _, [], hW', trodAll_mk1 (shut_bool Tryd.underlying4 _), (trodAll_cons_mk (Below.trod laidOut (by kernel_rfl) (of_decide_eq_true (by kernel_rfl)) h0 bel lt0) (trodAll_cons_mk (Below.trod laidOut (by kernel_rfl) (of_decide_eq_true (by kernel_rfl)) h1 bel lt1) (trodAll_cons_mk (Below.trod laidOut (by kernel_rfl) (of_decide_eq_true (by kernel_rfl)) h2 bel lt2) trodAll_mk0))), rfl, bel.frame _, fun h => by cases h⟩

theorem laid_met (os : Os) : laidMet Tryd.prog Rows.matrixOrdersRow.laid ((laidWorld os).forCall (fun _ _ => 0) ⟨#[], #[.slice none 0 0, .slice none 0 0, .slice none 0 0], []⟩).memory :=
  laidMet_of_run' 8 (by kernel_rfl) (by kernel_rfl)
set_option maxRecDepth 100000 in
theorem reads (os : Os) {H : Type} (enc : TypeId × Value → H) : ∃ places, DataW.whole enc Tryd.prog ((laidWorld os).forCall (fun _ _ => 0) ⟨#[], #[.slice none 0 0, .slice none 0 0, .slice none 0 0], []⟩).memory Tryd.f4.params.toList Rows.matrixOrdersSpec.vars false (#[.slice none 0 0, .slice none 0 0, .slice none 0 0] : Array Value).toList 8 = some ([.nil, .nil, .nil], [], places) :=
  ⟨[], by kernel_rfl⟩

set_option maxRecDepth 100000 in
theorem lifted (os : Os) (started : os.Started) (H : Type) (enc : TypeId × Value → H) (F : Stop.Interp) :
    ReturnsInHanded {} Tryd.checked os 4 .any ((OpenSpec.ofChange Rows.matrixOrdersSpec).preRow enc Tryd.prog Tryd.f4 Rows.matrixOrdersRow.domain false Rows.matrixOrdersRow.laid) (((OpenSpec.ofChange Rows.matrixOrdersSpec).at F).post enc Tryd.prog Tryd.f4 false true false false) := by
  obtain ⟨places, hx⟩ := reads os enc
  refine returnsInHanded_of_row (C := Tryd.checked) (s := OpenSpec.ofChange Rows.matrixOrdersSpec) own started (by kernel_rfl) Tryd.func4
    (witness_row_at (enc := enc) (C := Tryd.checked) false (laidWorld os) #[.slice none 0 0, .slice none 0 0, .slice none 0 0] rfl (by kernel_rfl) (by kernel_rfl) (by kernel_rfl)
      (OpenSpec.preRow_of_cond 8 hx (by kernel_rfl) (fun k hk => by cases hk) (by kernel_rfl) (laid_met os))) ?_
  intro W base args ds gs before hval hW _ _ _ hL _ _
  exact contract H enc W base args ds gs before hval hW hL

theorem said : Rows.MatrixOrdersSaid :=
  OpenClaim.holds_of_cond 4 Tryd.f4 rfl rfl rfl rfl rfl rfl rfl ⟨rfl, rfl, rfl, rfl, rfl⟩ rfl rfl rfl rfl rfl (by kernel_rfl) Tryd.func4 (by kernel_rfl)
    (of_decide_eq_true (by kernel_rfl)) (by unfold Func.isWrapper; first | (rw [if_pos (by decide +kernel)]; kernel_rfl) | (rw [if_neg (by decide +kernel)]; exact ⟨rfl, rfl⟩))
    (fun os started H enc _ F => by rw [OpenClaim.pre_eq_preRow]; exact lifted os started H enc F)

theorem plain (f : FuncId) (fn : Func) (hf : Tryd.pinned.checked.prog.funcNamed "tripwire/tripwirelaw06.MatrixOrders" = some f) (hfn : Tryd.pinned.checked.prog.funcs[f]? = some fn) :
    false = Tryd.pinned.checked.prog.looks [] ∧ ∀ (j : Nat) t, fn.params[j]? = some t → Tryd.pinned.checked.prog.wantsStandIn t = false := by
  obtain rfl : f = 4 := Option.some.inj ((show Tryd.prog.funcNamed "tripwire/tripwirelaw06.MatrixOrders" = some 4 by kernel_rfl).symm.trans hf) |>.symm
  obtain rfl : fn = Tryd.f4 := (Option.some.inj (Tryd.func4.symm.trans hfn)).symm
  refine ⟨by kernel_rfl, fun j t ht => ?_⟩
  rw [Tryd.params4] at ht
  have hm := Array.mem_of_getElem? ht
  simp only [List.mem_toArray, List.mem_cons, List.not_mem_nil, or_false] at hm
  rcases hm with rfl | rfl | rfl
  · exact (show Tryd.prog.wantsStandIn 39 = false by kernel_rfl)
  · exact (show Tryd.prog.wantsStandIn 51 = false by kernel_rfl)
  · exact (show Tryd.prog.wantsStandIn 51 = false by kernel_rfl)

/-- The card. -/
theorem card : Rows.MatrixOrdersCardSaid :=
  Claim7.holds_tied_plain_at .later [] _ _ _ _ said (fun _ h => by cases h) (by kernel_rfl) (fun _ h => by cases h) matrixOrders_row_tie rfl ⟨rfl, rfl⟩ (by kernel_rfl) rfl plain (by kernel_rfl)
end matrixOrders
end Go.Proofs.YtldcfmangolkoaaDoor
