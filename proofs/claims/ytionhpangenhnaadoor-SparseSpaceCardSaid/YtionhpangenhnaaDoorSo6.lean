/-
  sparse.Scale, Axpy, Get, Dot. Written by wip/gen/so6.py.
-/
import Derived.Test.YtionhpangenhnaaDoorSo5
import Derived.Test.YtionhpangenhnaaDoorZr
namespace Go.Proofs.YtionhpangenhnaaDoor
open Go.RowKit Tw

/-- A state of the loop of Scale. -/
def SC1 (w W : World) (cs : Array Value) (L : List Tm) (q : Rat) (n MM gk : Nat) (s5 s12 : Value) (wr : World) : Prop :=
  ∃ (i k : Nat) (H : Option Addr) (hc : Nat) (O : List Tm), s5 = .slice H k hc ∧ s12 = .int .i64 (i : Int) ∧ i ≤ n ∧ n - i ≤ gk ∧ k ≤ i ∧
    OwnR wr W.heap.size 81 5 (.slice H k hc) k (flat Tm.cs O) ∧ prs O = ((prs (L.take i)).map fun x => (x.1, q * x.2)).filter (fun x => decide (x.2 ≠ 0)) ∧ OnT wr O (fun _ => MM) ∧ Bx wr w.heap.size cs 27 ∧ Below w.heap.size w wr ∧ Below W.heap.size W wr
theorem scale_snoc {L : List Tm} {i : Nat} {x : Tm} {q : Rat} (h : L[i]? = some x) : ((prs (L.take (i + 1))).map fun x => (x.1, q * x.2)).filter (fun x => decide (x.2 ≠ 0)) = ((prs (L.take i)).map fun x => (x.1, q * x.2)).filter (fun x => decide (x.2 ≠ 0)) ++ if q * x.x.q = 0 then [] else [(x.at_, q * x.x.q)] := by
  rw [take_snoc h, prs_append, List.map_append, List.filter_append]
  congr 1
  show ([(x.at_, q * x.x.q)] : List (Int × Rat)).filter _ = _
  by_cases e : q * x.x.q = 0
  · rw [if_pos e, List.filter_cons_of_neg (by simp [e])]; rfl
  · rw [if_neg e, List.filter_cons_of_pos (by simp [e])]; rfl
theorem sign_zero {q : Rat} {z : Int} (h : q.num.sign = z) : (z != 0) = decide (q ≠ 0) := by
  have := num_sign q
  rw [h] at this
  unfold bne
  rw [this]
  by_cases e : q = 0 <;> simp [e]
set_option maxRecDepth 100000 in
set_option maxHeartbeats 8000000 in
theorem scaleV_q {w : World} {s s' : Bool} {A A' : Option Addr} {l c l' c' : Nat} {q : Rat} {mq : Nat} {X : Option Addr} {n cx M : Nat} {P : List (Int × Rat)} (ha : R w s A c l s' A' c' l' q mq) (h : GV w X n cx P M) (hM : M ≤ 10000) (hmq : mq ≤ 10000) (hn : n ≤ 1000000) (hT : Hid (Tab w)) :
    Calls Tryd.prog 29 #[.agg #[.bool s, .slice A l c, .bool s', .slice A' l' c'], .slice X n cx] w (TellsV w (nrm (P.map fun x => (x.1, q * x.2))) (mq + M + 3)) := by
  have hx := Lib.hid h
  have hM : M ≤ 19000 := by omega
  clear h
  obtain ⟨W, hW, x0, hB⟩ := boxes1 w #[.bool s, .slice A l c, .bool s', .slice A' l' c'] 27
  replace ha := ha.below hB
  have HX0 := Lib.hid x0
  clear x0
  have Bz := Below.refl W.heap.size W
  go_enter Tryd.func29, Tryd.ntmps29
  go_wp2_with fail
  rw [← hW]
  clear hW
  go_wp2_with fail
  with_reducible refine (ordered_q (hx.out.below (below_trans hB (below_trans (b := W) Bz (by go_grown)))) hM hn (Lib.hid (Tab.below hT.out (below_trans hB (below_trans (b := W) Bz (by go_grown)))))).mono ?_
  rintro e w1 ⟨A1, n1, c1, P1, rfl, h1, r1, e1, l1, b1⟩
  replace b1 := below_trans (a := W) (by go_grown) b1
  replace ha := ha.below b1
  replace Bz := below_trans Bz b1
  clear b1
  go_wp2_with fail
  obtain ⟨L, x1, x2, rfl, x4, x5⟩ := h1
  have HS := Lib.hid x1
  have HLN := Lib.hid x1.1
  have HOK := Lib.hid x2
  have HWS := Lib.hid x4
  have HRS := Lib.hid r1
  have HGT := Lib.hid e1
  have HB1 := Lib.hid (below_trans hB Bz)
  have HA1 := Lib.hid ha
  have XX0 := Lib.hid (HX0.out.below Bz)
  have HXB := Lib.hid (HX0.out.below Bz).lt
  clear x1 x2 x4 x5 r1 e1 hB Bz HX0 ha
  go_loopg [5, 12] n1 (fun gk s5 s12 wr => SC1 w w1 #[.bool s, .slice A l c, .bool s', .slice A' l' c'] L q n1 (mq + M + 3) gk s5 s12 wr)
  case atStart => exact ⟨0, 0, _, _, [], rfl, rfl, Nat.zero_le _, Nat.le_refl _, Nat.le_refl _, OwnR.nil _ _ _ _, rfl, OnT.nil _ _, XX0.out, HB1.out, Below.refl _ _⟩
  case round =>
    clear XX0
    have hWs : w.heap.size < w1.heap.size := by have := HXB.out; omega
    clear HB1
    obtain ⟨i, k, H, hc, O, rfl, rfl, hi, hgk, hk, ho, hp, hon, hx0, hB, hBW⟩ := hrel
    have HP := Lib.hid hp
    have HX0 := Lib.hid hx0
    clear hp hx0
    by_cases hlt : i < n1
    · obtain ⟨b, off, rfl, hel⟩ := HS.out.at Tm.cs_len (by omega) (by omega)
      obtain ⟨x, hx'⟩ : ∃ x, L[i]? = some x := ⟨L[i]'(by rw [HLN.out]; exact hlt), List.getElem?_eq_getElem _⟩
      have hnd := hel i x hx'
      have hfx := HOK.out x (List.mem_of_getElem? hx')
      have hrx : R wr x.x.s x.x.A x.x.c x.x.l x.x.s' x.x.A' x.x.c' x.x.l' x.x.q (dgT x) := (hfx.below hBW).r
      have ha := HA1.out.below hBW
      have hdx : dgT x + 2 ≤ M + 1 := Nat.le_trans (wsum_mem (List.mem_of_getElem? hx')) (HWS.out _)
      have hsq := ha.sz
      have hsx := hfx.szd
      have hsz : sz (q * x.x.q) ≤ (mq + 1) + (dgT x + 1) := sz_mul (by omega) hsx
      obtain ⟨z, HZ⟩ : ∃ z, Hid ((q * x.x.q).num.sign = z) := ⟨_, Lib.hid rfl⟩
      have hz0 := sign_zero HZ.out
      have i1 : (i : Int) < (n1 : Int) := by omega
      have i2 : (0 : Int) ≤ (i : Int) := by omega
      have hsn := scale_snoc (q := q) hx'
      clear hel hx' hfx
      by_cases hs0 : q * x.x.q = 0
      · have g3 : (z != 0) = false := by rw [hz0, decide_eq_false (fun h => h hs0)]
        have HP2 : Hid (prs O = ((prs (L.take (i + 1))).map fun x => (x.1, q * x.2)).filter (fun x => decide (x.2 ≠ 0))) := Lib.hid (by rw [hsn, if_pos hs0, List.append_nil, HP.out])
        have HS1 : Hid (0 ≤ M) := Lib.hid (Nat.zero_le _)
        clear hz0 hsn hs0
        have Bz := Below.refl wr.heap.size wr
        have p50_0 := (hnd.below (below_trans hBW Bz)).c0 (u := .int .i64 x.at_) rfl
        have p50_1 := (hnd.below (below_trans hBW Bz)).at 1 (.bool x.x.s) rfl
        have p50_2 := (hnd.below (below_trans hBW Bz)).at 2 (.slice x.x.A x.x.l x.x.c) rfl
        have p50_3 := (hnd.below (below_trans hBW Bz)).at 3 (.bool x.x.s') rfl
        have p50_4 := (hnd.below (below_trans hBW Bz)).at 4 (.slice x.x.A' x.x.l' x.x.c') rfl
        go_upto_region 5 with (fail)
        obtain ⟨V11, hW, x1, hN⟩ := boxes1 wr #[.int .i64 x.at_, .bool x.x.s, .slice x.x.A x.x.l x.x.c, .bool x.x.s', .slice x.x.A' x.x.l' x.x.c'] 81
        rw [← hW]
        clear hW
        obtain ⟨v1, hb1⟩ : ∃ b, b = wr.heap.size := ⟨_, rfl⟩
        rw [← hb1] at x1 ⊢
        have o0_1 : w.heap.size < v1 := by have := (HX0.out.below Bz).lt; omega
        have ow_1 : w.heap.size ≤ v1 := by have := hB.size; have := Bz.size; omega
        have nv1_own := OwnR.off' (b := v1) ho (by omega)
        replace ha := ha.below hN
        replace hon := hon.below hN
        replace ho := ho.below hN
        replace hrx := hrx.below hN
        replace hB := below_trans (below_trans hB Bz) hN
        replace hBW := below_trans (below_trans hBW Bz) hN
        replace HX0 := Lib.hid ((HX0.out.below Bz).below hN)
        have HX1 := Lib.hid x1
        clear x1 hN Bz hb1
        have Bz := Below.refl V11.heap.size V11
        clear p50_0 p50_1 p50_2 p50_3 p50_4
        have p0_0 := (HX0.out.below Bz).cell 0 (.bool s) rfl
        have p0_1 := (HX0.out.below Bz).cell 1 (.slice A l c) rfl
        have p0_2 := (HX0.out.below Bz).cell 2 (.bool s') rfl
        have p0_3 := (HX0.out.below Bz).cell 3 (.slice A' l' c') rfl
        have p1_1 := (HX1.out.below Bz).cell 1 (.bool x.x.s) rfl
        have p1_2 := (HX1.out.below Bz).cell 2 (.slice x.x.A x.x.l x.x.c) rfl
        have p1_3 := (HX1.out.below Bz).cell 3 (.bool x.x.s') rfl
        have p1_4 := (HX1.out.below Bz).cell 4 (.slice x.x.A' x.x.l' x.x.c') rfl
        go_wp2_with fail
        with_reducible refine (mul_q (R.below ha (by go_grown)) (R.below hrx (by go_grown)) (by omega) (Lib.hid (Tab.below hT.out (below_trans hB (below_trans (b := V11) Bz (by go_grown)))))).mono ?_
        rintro e w11 ⟨s11, A11, c11, l11, s11r, A11r, c11r, l11r, rfl, h11, b11⟩
        replace b11 := below_trans (a := V11) (by go_grown) b11
        replace hon := hon.below b11
        replace ho := ho.below b11
        replace Bz := below_trans Bz b11
        clear b11
        clear p0_0 p0_1 p0_2 p0_3 p1_1 p1_2 p1_3 p1_4
        go_upto_region 6 with (fail)
        obtain ⟨V12, hW, x2, hN⟩ := boxes1 w11 #[.bool s11, .slice A11 l11 c11, .bool s11r, .slice A11r l11r c11r] 27
        rw [← hW]
        clear hW
        obtain ⟨v2, hb2⟩ : ∃ b, b = w11.heap.size := ⟨_, rfl⟩
        rw [← hb2] at x2 ⊢
        have o0_2 : w.heap.size < v2 := by have := (HX0.out.below Bz).lt; omega
        have o1_2 : v1 < v2 := by have := (HX1.out.below Bz).lt; omega
        have ow_2 : w.heap.size ≤ v2 := by have := hB.size; have := Bz.size; omega
        have nv2_own := OwnR.off' (b := v2) ho (by omega)
        replace h11 := h11.below hN
        replace hon := hon.below hN
        replace ho := ho.below hN
        replace hB := below_trans (below_trans hB Bz) hN
        replace hBW := below_trans (below_trans hBW Bz) hN
        replace HX0 := Lib.hid ((HX0.out.below Bz).below hN)
        replace HX1 := Lib.hid ((HX1.out.below Bz).below hN)
        have HX2 := Lib.hid x2
        clear x2 hN Bz hb2
        have Bz := Below.refl V12.heap.size V12
        have p2_0 := (HX2.out.below Bz).cell 0 (.bool s11) rfl
        have p2_1 := (HX2.out.below Bz).cell 1 (.slice A11 l11 c11) rfl
        have p2_2 := (HX2.out.below Bz).cell 2 (.bool s11r) rfl
        have p2_3 := (HX2.out.below Bz).cell 3 (.slice A11r l11r c11r) rfl
        go_wp2_with fail
        with_reducible refine (sign_q (R.below h11.r (by go_grown)) (by omega) z HZ).mono ?_
        rintro e w12 ⟨rfl, b12⟩
        replace b12 := below_trans (a := V12) (by go_grown) b12
        replace hon := hon.below b12
        replace ho := ho.below b12
        replace Bz := below_trans Bz b12
        clear b12
        clear p2_0 p2_1 p2_2 p2_3
        go_wp2_with fail
        have hs1 := HS1.out
        go_roundg (n1 - (i + 1))
        case measure => omega
        case rel => exact ⟨i + 1, k, _, _, _, rfl, by go_num, by omega, Nat.le_refl _, by omega, OwnR.below ho (by go_grown), HP2.out, OnT.below hon (by go_grown), HX0.out.below (below_trans Bz (by go_grown)), below_trans (below_trans hB Bz) (by go_grown), below_trans (below_trans hBW Bz) (by go_grown)⟩
      · have g3 : (z != 0) = true := by rw [hz0, decide_eq_true hs0]
        have HP2 : Hid (∀ r : Fr, r.q = q * x.x.q → prs (O ++ [⟨x.at_, r⟩]) = ((prs (L.take (i + 1))).map fun x => (x.1, q * x.2)).filter (fun x => decide (x.2 ≠ 0))) := Lib.hid (fun r hr => by rw [hsn, if_neg hs0, prs_append, HP.out, show prs [(⟨x.at_, r⟩ : Tm)] = [(x.at_, q * x.x.q)] from by rw [← hr]; rfl])
        have HS1 : Hid (sz (q * x.x.q) + 1 ≤ mq + M + 3) := Lib.hid (by omega)
        clear hz0 hsn hs0
        have Bz := Below.refl wr.heap.size wr
        have p50_0 := (hnd.below (below_trans hBW Bz)).c0 (u := .int .i64 x.at_) rfl
        have p50_1 := (hnd.below (below_trans hBW Bz)).at 1 (.bool x.x.s) rfl
        have p50_2 := (hnd.below (below_trans hBW Bz)).at 2 (.slice x.x.A x.x.l x.x.c) rfl
        have p50_3 := (hnd.below (below_trans hBW Bz)).at 3 (.bool x.x.s') rfl
        have p50_4 := (hnd.below (below_trans hBW Bz)).at 4 (.slice x.x.A' x.x.l' x.x.c') rfl
        go_upto_region 5 with (fail)
        obtain ⟨V11, hW, x1, hN⟩ := boxes1 wr #[.int .i64 x.at_, .bool x.x.s, .slice x.x.A x.x.l x.x.c, .bool x.x.s', .slice x.x.A' x.x.l' x.x.c'] 81
        rw [← hW]
        clear hW
        obtain ⟨v1, hb1⟩ : ∃ b, b = wr.heap.size := ⟨_, rfl⟩
        rw [← hb1] at x1 ⊢
        have o0_1 : w.heap.size < v1 := by have := (HX0.out.below Bz).lt; omega
        have ow_1 : w.heap.size ≤ v1 := by have := hB.size; have := Bz.size; omega
        have nv1_own := OwnR.off' (b := v1) ho (by omega)
        replace ha := ha.below hN
        replace hon := hon.below hN
        replace ho := ho.below hN
        replace hrx := hrx.below hN
        replace hB := below_trans (below_trans hB Bz) hN
        replace hBW := below_trans (below_trans hBW Bz) hN
        replace HX0 := Lib.hid ((HX0.out.below Bz).below hN)
        have HX1 := Lib.hid x1
        clear x1 hN Bz hb1
        have Bz := Below.refl V11.heap.size V11
        clear p50_0 p50_1 p50_2 p50_3 p50_4
        have p0_0 := (HX0.out.below Bz).cell 0 (.bool s) rfl
        have p0_1 := (HX0.out.below Bz).cell 1 (.slice A l c) rfl
        have p0_2 := (HX0.out.below Bz).cell 2 (.bool s') rfl
        have p0_3 := (HX0.out.below Bz).cell 3 (.slice A' l' c') rfl
        have p1_1 := (HX1.out.below Bz).cell 1 (.bool x.x.s) rfl
        have p1_2 := (HX1.out.below Bz).cell 2 (.slice x.x.A x.x.l x.x.c) rfl
        have p1_3 := (HX1.out.below Bz).cell 3 (.bool x.x.s') rfl
        have p1_4 := (HX1.out.below Bz).cell 4 (.slice x.x.A' x.x.l' x.x.c') rfl
        go_wp2_with fail
        with_reducible refine (mul_q (R.below ha (by go_grown)) (R.below hrx (by go_grown)) (by omega) (Lib.hid (Tab.below hT.out (below_trans hB (below_trans (b := V11) Bz (by go_grown)))))).mono ?_
        rintro e w11 ⟨s11, A11, c11, l11, s11r, A11r, c11r, l11r, rfl, h11, b11⟩
        replace b11 := below_trans (a := V11) (by go_grown) b11
        replace hon := hon.below b11
        replace ho := ho.below b11
        replace Bz := below_trans Bz b11
        clear b11
        clear p0_0 p0_1 p0_2 p0_3 p1_1 p1_2 p1_3 p1_4
        go_upto_region 6 with (fail)
        obtain ⟨V12, hW, x2, hN⟩ := boxes1 w11 #[.bool s11, .slice A11 l11 c11, .bool s11r, .slice A11r l11r c11r] 27
        rw [← hW]
        clear hW
        obtain ⟨v2, hb2⟩ : ∃ b, b = w11.heap.size := ⟨_, rfl⟩
        rw [← hb2] at x2 ⊢
        have o0_2 : w.heap.size < v2 := by have := (HX0.out.below Bz).lt; omega
        have o1_2 : v1 < v2 := by have := (HX1.out.below Bz).lt; omega
        have ow_2 : w.heap.size ≤ v2 := by have := hB.size; have := Bz.size; omega
        have nv2_own := OwnR.off' (b := v2) ho (by omega)
        replace h11 := h11.below hN
        replace hon := hon.below hN
        replace ho := ho.below hN
        replace hB := below_trans (below_trans hB Bz) hN
        replace hBW := below_trans (below_trans hBW Bz) hN
        replace HX0 := Lib.hid ((HX0.out.below Bz).below hN)
        replace HX1 := Lib.hid ((HX1.out.below Bz).below hN)
        have HX2 := Lib.hid x2
        clear x2 hN Bz hb2
        have Bz := Below.refl V12.heap.size V12
        have p2_0 := (HX2.out.below Bz).cell 0 (.bool s11) rfl
        have p2_1 := (HX2.out.below Bz).cell 1 (.slice A11 l11 c11) rfl
        have p2_2 := (HX2.out.below Bz).cell 2 (.bool s11r) rfl
        have p2_3 := (HX2.out.below Bz).cell 3 (.slice A11r l11r c11r) rfl
        go_wp2_with fail
        with_reducible refine (sign_q (R.below h11.r (by go_grown)) (by omega) z HZ).mono ?_
        rintro e w12 ⟨rfl, b12⟩
        replace b12 := below_trans (a := V12) (by go_grown) b12
        replace h11 := h11.below b12
        replace hon := hon.below b12
        replace ho := ho.below b12
        replace Bz := below_trans Bz b12
        clear b12
        clear p2_0 p2_1 p2_2 p2_3
        have p1_0 := (HX1.out.below Bz).cell 0 (.int .i64 x.at_) rfl
        have p2_0 := (HX2.out.below Bz).cell 0 (.bool s11) rfl
        have p2_1 := (HX2.out.below Bz).cell 1 (.slice A11 l11 c11) rfl
        have p2_2 := (HX2.out.below Bz).cell 2 (.bool s11r) rfl
        have p2_3 := (HX2.out.below Bz).cell 3 (.slice A11r l11r c11r) rfl
        go_wp2_with (at_builtin; refine And.left (b := True) ?_)
        refine ⟨?_, trivial⟩
        obtain ⟨V13, hW, x3, hN⟩ := boxes1 w12 #[.int .i64 x.at_, .bool s11, .slice A11 l11 c11, .bool s11r, .slice A11r l11r c11r] 81
        rw [← hW]
        clear hW
        obtain ⟨v3, hb3⟩ : ∃ b, b = w12.heap.size := ⟨_, rfl⟩
        rw [← hb3] at x3 ⊢
        have o0_3 : w.heap.size < v3 := by have := (HX0.out.below Bz).lt; omega
        have o1_3 : v1 < v3 := by have := (HX1.out.below Bz).lt; omega
        have o2_3 : v2 < v3 := by have := (HX2.out.below Bz).lt; omega
        have ow_3 : w.heap.size ≤ v3 := by have := hB.size; have := Bz.size; omega
        have nv3_own := OwnR.off' (b := v3) ho (by omega)
        replace h11 := h11.below hN
        replace hon := hon.below hN
        replace ho := ho.below hN
        replace hB := below_trans (below_trans hB Bz) hN
        replace hBW := below_trans (below_trans hBW Bz) hN
        replace HX0 := Lib.hid ((HX0.out.below Bz).below hN)
        replace HX1 := Lib.hid ((HX1.out.below Bz).below hN)
        replace HX2 := Lib.hid ((HX2.out.below Bz).below hN)
        have HX3 := Lib.hid x3
        clear x3 hN Bz hb3
        have Bz := Below.refl V13.heap.size V13
        clear p1_0 p2_0 p2_1 p2_2 p2_3
        have hdr : V13.drew.heap.size = V13.heap.size := rfl
        have hdr2 : V13.drew.drew.heap.size = V13.heap.size := rfl
        refine Elt.app elt_vec rfl _ _ rfl (w1.heap.size) (.slice H k hc) (k) (O) rfl ho (.slice (some ⟨v3, 0, none⟩) 1 1) (1) ([⟨x.at_, ⟨s11, A11, c11, l11, s11r, A11r, c11r, l11r, q * x.x.q, true⟩⟩]) rfl (From.one (HX3.out.below (below_trans Bz (by go_grown))) (⟨x.at_, ⟨s11, A11, c11, l11, s11r, A11r, c11r, l11r, q * x.x.q, true⟩⟩) rfl (elt_vec.len _)) (by omega) (by have := hBW.size; have := Bz.size; omega) ?_
        intro H13 c13 w13 ho13 hg13
        replace hB := (below_trans (below_trans hB Bz) (by go_grown)).trans (hg13.below (by have := hB.size; have := Bz.size; omega) (fun g hg => by have := ho.base g hg; omega))
        replace hBW := (below_trans (below_trans hBW Bz) (by go_grown)).trans (hg13.below (by have := hBW.size; have := Bz.size; omega) (fun g hg => by have := ho.base g hg; omega))
        replace HX0 := Lib.hid (hg13.bx (HX0.out.below Bz) (ho.off (by omega)))
        clear HX1
        clear HX2
        clear HX3
        clear hdr hdr2
        replace h11 := h11.k hg13.k
        replace hon := hon.k hg13.k
        clear hg13 Bz
        have Bz := Below.refl w13.heap.size w13
        go_wp2_with fail
        have hs1 := HS1.out
        go_roundg (n1 - (i + 1))
        case measure => omega
        case rel => exact ⟨i + 1, k + 1, _, _, _, rfl, by go_num, by omega, Nat.le_refl _, by omega, OwnR.below ho13 (by go_grown), HP2.out _ rfl, (OnT.below hon (by go_grown)).snoc (RN.below h11 (by go_grown)) rfl hs1, HX0.out.below (below_trans Bz (by go_grown)), below_trans (below_trans hB Bz) (by go_grown), below_trans (below_trans hBW Bz) (by go_grown)⟩
    · obtain rfl : i = n1 := by omega
      have i1 : ¬ (i : Int) < (i : Int) := by omega
      have HOS := Lib.hid (ho.sl' elt_vec (ho.eltn elt_vec (by omega)))
      have HCAP := Lib.hid ho.slice
      have HON := Lib.hid hon
      clear ho hon
      go_wp2_with fail
      go_ret
      refine ⟨_, _, _, rfl, ⟨O, HOS.out.below (by go_grown), HON.out.below (by go_grown), ?_, fun hn => ?_⟩, below_trans hB (by go_grown)⟩
      · have h9 := HP.out
        rw [List.take_of_length_le (by rw [HLN.out]; exact Nat.le_refl _), ← rise_scale HRS.out] at h9
        rw [h9]
        exact nrm_ext fun a => by rw [pget_scale, pget_scale, HGT.out]
      · obtain ⟨_, _, e9, h9, _⟩ := HCAP.out
        cases e9
        exact (h9 hn).2
set_option maxRecDepth 100000 in
set_option maxHeartbeats 4000000 in
theorem axpyV_q {w : World} {s s' : Bool} {A A' : Option Addr} {l c l' c' : Nat} {q : Rat} {mq : Nat} {X Y : Option Addr} {n cx m cy M M' : Nat} {P Q : List (Int × Rat)} (hy0 : GV w Y m cy P M') (ha : R w s A c l s' A' c' l' q mq) (h : GV w X n cx Q M) (hM : M ≤ 8000) (hM' : M' ≤ 4000) (hmq : mq ≤ 4000) (hn : n ≤ 1000000) (hm : m ≤ 1000000) (hT : Hid (Tab w)) :
    Calls Tryd.prog 26 #[.slice Y m cy, .agg #[.bool s, .slice A l c, .bool s', .slice A' l' c'], .slice X n cx] w (TellsV w (nrm (P ++ Q.map fun x => (x.1, q * x.2))) (M' + (mq + M + 3))) := by
  have hx := Lib.hid h
  have hy := Lib.hid hy0
  have HLX := Lib.hid h.len
  have HLY := Lib.hid hy0.len
  have hM : M ≤ 10000 := by omega
  have hmq : mq ≤ 10000 := by omega
  clear h hy0
  obtain ⟨W, hW, x0, hB⟩ := boxes1 w #[.bool s, .slice A l c, .bool s', .slice A' l' c'] 27
  replace ha := ha.below hB
  have HX0 := Lib.hid x0
  clear x0
  have Bz := Below.refl W.heap.size W
  have p0_0 := (HX0.out.below Bz).cell 0 (.bool s) rfl
  have p0_1 := (HX0.out.below Bz).cell 1 (.slice A l c) rfl
  have p0_2 := (HX0.out.below Bz).cell 2 (.bool s') rfl
  have p0_3 := (HX0.out.below Bz).cell 3 (.slice A' l' c') rfl
  go_enter Tryd.func26, Tryd.ntmps26
  go_wp2_with fail
  rw [← hW]
  clear hW
  go_wp2_with fail
  (try simp only [List.append_eq, List.cons_append, List.nil_append])
  refine wp_region_plan (.pure 0 (.take 2 (.pure 3 (.only 1 (.only 4 (.only 5 (.pure 6 .done))))))) [] (fun w' => w'.cell? ⟨w.heap.size, 0, none⟩ = some (.bool s) ∧ w'.cell? ⟨w.heap.size, 1, none⟩ = some (.slice A l c) ∧ w'.cell? ⟨w.heap.size, 2, none⟩ = some (.bool s') ∧ w'.cell? ⟨w.heap.size, 3, none⟩ = some (.slice A' l' c')) (by kernel_rfl) (by kernel_rfl) ⟨p0_0, p0_1, p0_2, p0_3⟩ ?_
  refine wpPlan_pure (o := ⟨some 7, _, _, _, _, _⟩) (v := ?_) rfl rfl (fun w' => ?_) ?_
  rotate_left
  · go_simp <;> with_reducible rfl
  try simp only [pUt, pLt, pZt, pSt]
  refine wpPlan_take (o := ⟨some 9, _, _, _, _, _⟩) (v := ?_) rfl rfl (fun w' hS => ?_) ?_
  rotate_left
  · obtain ⟨p0_0, p0_1, p0_2, p0_3⟩ := hS; go_simp <;> with_reducible rfl
  try simp only [pUt, pLt, pZt, pSt]
  refine wpPlan_pure (o := ⟨some 10, _, _, _, _, _⟩) (v := ?_) rfl rfl (fun w' => ?_) ?_
  rotate_left
  · go_simp <;> with_reducible rfl
  try simp only [pUt, pLt, pZt, pSt]
  refine wpPlan_call (o := ⟨some 8, _, _, _, _, _⟩) rfl rfl (fun K hK => ?_)
  go_simp
  with_reducible refine (normV_q (hy.out.below (below_trans hB (below_trans (b := W) Bz (by go_grown)))) (by omega) hm (Lib.hid (Tab.below hT.out (below_trans hB (below_trans (b := W) Bz (by go_grown)))))).mono ?_
  rintro e w1 ⟨A1, n1, c1, rfl, h1, b1⟩
  replace b1 := below_trans (a := W) (by go_grown) b1
  replace ha := ha.below b1
  replace Bz := below_trans Bz b1
  clear b1
  clear p0_0 p0_1 p0_2 p0_3
  have p0_0 := (HX0.out.below Bz).cell 0 (.bool s) rfl
  have p0_1 := (HX0.out.below Bz).cell 1 (.slice A l c) rfl
  have p0_2 := (HX0.out.below Bz).cell 2 (.bool s') rfl
  have p0_3 := (HX0.out.below Bz).cell 3 (.slice A' l' c') rfl
  refine hK.out _ _ ⟨p0_0, p0_1, p0_2, p0_3⟩ (fun _ => ?_)
  try simp only [pUt, pLt, pZt, pSt]
  clear hK K
  refine wpPlan_call (o := ⟨some 11, _, _, _, _, _⟩) rfl rfl (fun K hK => ?_)
  go_simp
  with_reducible refine (scaleV_q (R.below ha (by go_grown)) (hx.out.below (below_trans hB (below_trans (b := w1) Bz (by go_grown)))) hM hmq hn (Lib.hid (Tab.below hT.out (below_trans hB (below_trans (b := w1) Bz (by go_grown)))))).mono ?_
  rintro e w2 ⟨A2, n2, c2, rfl, h2, b2⟩
  replace b2 := below_trans (a := w1) (by go_grown) b2
  replace h1 := h1.below b2
  replace Bz := below_trans Bz b2
  clear b2
  clear p0_0 p0_1 p0_2 p0_3
  have p0_0 := (HX0.out.below Bz).cell 0 (.bool s) rfl
  have p0_1 := (HX0.out.below Bz).cell 1 (.slice A l c) rfl
  have p0_2 := (HX0.out.below Bz).cell 2 (.bool s') rfl
  have p0_3 := (HX0.out.below Bz).cell 3 (.slice A' l' c') rfl
  refine hK.out _ _ ⟨p0_0, p0_1, p0_2, p0_3⟩ (fun _ => ?_)
  try simp only [pUt, pLt, pZt, pSt]
  clear hK K
  refine wpPlan_call (o := ⟨some 12, _, _, _, _, _⟩) rfl rfl (fun K hK => ?_)
  go_simp
  with_reducible refine (join_q (NV.below h1 (by go_grown)) (NV.below h2 (by go_grown)) (nrm_nrm _) (nrm_nrm _) (by omega) (by have := h1.len; have := nrm_len P; have := HLY.out; omega) (by have := h2.len; have := nrm_len (Q.map fun x => (x.1, q * x.2)); have := HLX.out; rw [List.length_map] at *; omega) (Lib.hid (Tab.below hT.out (below_trans hB (below_trans (b := w2) Bz (by go_grown)))))).mono ?_
  rintro e w3 ⟨A3, n3, c3, rfl, h3, b3⟩
  replace b3 := below_trans (a := w2) (by go_grown) b3
  replace Bz := below_trans Bz b3
  clear b3
  clear p0_0 p0_1 p0_2 p0_3
  have p0_0 := (HX0.out.below Bz).cell 0 (.bool s) rfl
  have p0_1 := (HX0.out.below Bz).cell 1 (.slice A l c) rfl
  have p0_2 := (HX0.out.below Bz).cell 2 (.bool s') rfl
  have p0_3 := (HX0.out.below Bz).cell 3 (.slice A' l' c') rfl
  refine hK.out _ _ ⟨p0_0, p0_1, p0_2, p0_3⟩ (fun _ => ?_)
  try simp only [pUt, pLt, pZt, pSt]
  clear hK K
  refine wpPlan_pure (o := ⟨some 6, _, _, _, _, _⟩) (v := ?_) rfl rfl (fun w' => ?_) ?_
  rotate_left
  · go_simp <;> with_reducible rfl
  try simp only [pUt, pLt, pZt, pSt]
  refine wpPlan_done ?_
  go_wp2_with fail
  go_ret
  have hF := below_trans (c := w3) hB Bz
  exact ⟨_, _, _, rfl, by rw [← nrm_app]; exact (NV.below h3 (by go_grown)).mono (by omega), below_trans hF (by go_grown)⟩
/-- A state of the loop of Get. -/
def GT1 (w : World) (L : List Tm) (at_ : Int) (n gk : Nat) (s : Value) (wr : World) : Prop :=
  ∃ (i : Nat) (sS : Bool) (sA : Option Addr) (sc sl : Nat) (sS' : Bool) (sA' : Option Addr) (sc' sl' : Nat), i ≤ n ∧ n - i = gk ∧ s = .int .i64 (i : Int) ∧ RN wr sS sA sc sl sS' sA' sc' sl' (pget (prs (L.take i)) at_) ∧ Bx wr w.heap.size #[.bool false, .slice none 0 0, .bool false, .slice none 0 0] 27 ∧ Bx wr (w.heap.size + 1) #[.bool sS, .slice sA sl sc, .bool sS', .slice sA' sl' sc'] 27 ∧ Below w.heap.size w wr
theorem get_sz {L : List Tm} {w : World} (h : OkT w L) (a : Int) : sz (pget (prs L) a) ≤ wsum L a + 1 := by
  induction L with
  | nil => exact Nat.le_trans sz_zero (by simp [wsum])
  | cons x L ih =>
    have h1 := ih fun t ht => h t (List.mem_cons_of_mem _ ht)
    have h2 := (h x List.mem_cons_self).szd
    show sz (pget ((x.at_, x.x.q) :: prs L) a) ≤ _
    rw [pget_cons]
    unfold wsum
    split
    · have := sz_add h2 h1
      show sz (x.x.q + pget (prs L) a) ≤ _
      unfold dgT
      omega
    · omega
theorem pget_take {L : List Tm} {i : Nat} {x : Tm} (h : L[i]? = some x) (a : Int) : pget (prs (L.take (i + 1))) a = pget (prs (L.take i)) a + if x.at_ = a then x.x.q else 0 := by
  rw [take_snoc h, prs_append]
  exact pget_snoc _ (x.at_, x.x.q) a
set_option maxRecDepth 100000 in
set_option maxHeartbeats 8000000 in
theorem getV_q {w : World} {A : Option Addr} {n c M : Nat} {P : List (Int × Rat)} (at_ : Int) (h : GV w A n c P M) (hM : M ≤ 18000) (hn : n ≤ 1000000) (hT : Hid (Tab w)) :
    Calls Tryd.prog 34 #[.slice A n c, .int .i64 at_] w (TellsR w (pget P at_)) := by
  obtain ⟨L, h1, h2, rfl, h4, h5⟩ := h
  have HS := Lib.hid h1
  have HLN := Lib.hid h1.1
  have HOK := Lib.hid h2
  have HWS := Lib.hid h4
  clear h1 h2 h4 h5
  obtain ⟨W, hW, x0, x1, hB⟩ := boxes2 w #[.bool false, .slice none 0 0, .bool false, .slice none 0 0] 27 #[.bool false, .slice none 0 0, .bool false, .slice none 0 0] 27
  have HX0 := Lib.hid x0
  have HX1 := Lib.hid x1
  clear x0 x1
  have Bz := Below.refl W.heap.size W
  go_enter Tryd.func34, Tryd.ntmps34
  go_wp2_with fail
  rw [← hW]
  clear hW
  go_wp2_with fail
  have HB1 := Lib.hid (below_trans hB Bz)
  have XX0 := Lib.hid (HX0.out.below Bz)
  have XX1 := Lib.hid (HX1.out.below Bz)
  clear hB Bz HX0 HX1
  go_loopg [10] n (fun gk s wr => GT1 w L at_ n gk s wr)
  case atStart => exact ⟨0, _, _, _, _, _, _, _, _, Nat.zero_le _, rfl, rfl, RN.zero _, XX0.out, XX1.out, HB1.out⟩
  case round =>
    clear HB1 XX0 XX1
    obtain ⟨i, sS, sA, sc, sl, sS', sA', sc', sl', hi, hgk, rfl, hs, hx0, hx1, hB⟩ := hrel
    have HGK := Lib.hid hgk
    have HX0 := Lib.hid hx0
    have HX1 := Lib.hid hx1
    clear hgk hx0 hx1
    by_cases hlt : i < n
    · obtain ⟨b, off, rfl, hel⟩ := HS.out.at Tm.cs_len (by omega) (by omega)
      obtain ⟨x, hx⟩ : ∃ x, L[i]? = some x := ⟨L[i]'(by rw [HLN.out]; exact hlt), List.getElem?_eq_getElem _⟩
      have hnd := hel i x hx
      have hfx := HOK.out x (List.mem_of_getElem? hx)
      have hrx : R wr x.x.s x.x.A x.x.c x.x.l x.x.s' x.x.A' x.x.c' x.x.l' x.x.q (dgT x) := (hfx.below hB).r
      have hdx : dgT x + 2 ≤ M := Nat.le_trans (wsum_mem (List.mem_of_getElem? hx)) (HWS.out _)
      have hss : sz (pget (prs (L.take i)) at_) ≤ M + 1 := Nat.le_trans (get_sz (fun t ht => HOK.out t (List.mem_of_mem_take ht)) at_) (by have := Nat.le_trans (wsum_take_le L i at_) (HWS.out at_); omega)
      have hpt := pget_take hx at_
      have i1 : (i : Int) < (n : Int) := by omega
      have i2 : (0 : Int) ≤ (i : Int) := by omega
      have HS1 : Hid (0 ≤ M) := Lib.hid (Nat.zero_le _)
      clear hel hx hfx
      by_cases hq : x.at_ = at_
      · have g1 : (x.at_ == at_) = true := by simpa using hq
        have HSM : Hid (pget (prs (L.take i)) at_ + x.x.q = pget (prs (L.take (i + 1))) at_) := Lib.hid (by rw [hpt, if_pos hq])
        clear hpt hq
        have Bz := Below.refl wr.heap.size wr
        have p50_0 := (hnd.below (below_trans hB Bz)).c0 (u := .int .i64 x.at_) rfl
        have p50_1 := (hnd.below (below_trans hB Bz)).at 1 (.bool x.x.s) rfl
        have p50_2 := (hnd.below (below_trans hB Bz)).at 2 (.slice x.x.A x.x.l x.x.c) rfl
        have p50_3 := (hnd.below (below_trans hB Bz)).at 3 (.bool x.x.s') rfl
        have p50_4 := (hnd.below (below_trans hB Bz)).at 4 (.slice x.x.A' x.x.l' x.x.c') rfl
        go_upto_region 5 with (fail)
        obtain ⟨V1, hW, x2, hN⟩ := boxes1 wr #[.int .i64 x.at_, .bool x.x.s, .slice x.x.A x.x.l x.x.c, .bool x.x.s', .slice x.x.A' x.x.l' x.x.c'] 81
        rw [← hW]
        clear hW
        obtain ⟨v2, hb2⟩ : ∃ b, b = wr.heap.size := ⟨_, rfl⟩
        rw [← hb2] at x2 ⊢
        have o0_2 : w.heap.size < v2 := by have := (HX0.out.below Bz).lt; omega
        have o1_2 : (w.heap.size + 1) < v2 := by have := (HX1.out.below Bz).lt; omega
        have ow_2 : w.heap.size ≤ v2 := by have := hB.size; have := Bz.size; omega
        replace hrx := hrx.below hN
        replace hs := hs.below hN
        replace hB := below_trans (below_trans hB Bz) hN
        replace HX0 := Lib.hid ((HX0.out.below Bz).below hN)
        replace HX1 := Lib.hid ((HX1.out.below Bz).below hN)
        have HX2 := Lib.hid x2
        clear x2 hN Bz hb2
        have Bz := Below.refl V1.heap.size V1
        clear p50_0 p50_1 p50_2 p50_3 p50_4
        have p1_0 := (HX1.out.below Bz).cell 0 (.bool sS) rfl
        have p1_1 := (HX1.out.below Bz).cell 1 (.slice sA sl sc) rfl
        have p1_2 := (HX1.out.below Bz).cell 2 (.bool sS') rfl
        have p1_3 := (HX1.out.below Bz).cell 3 (.slice sA' sl' sc') rfl
        have p2_0 := (HX2.out.below Bz).cell 0 (.int .i64 x.at_) rfl
        have p2_1 := (HX2.out.below Bz).cell 1 (.bool x.x.s) rfl
        have p2_2 := (HX2.out.below Bz).cell 2 (.slice x.x.A x.x.l x.x.c) rfl
        have p2_3 := (HX2.out.below Bz).cell 3 (.bool x.x.s') rfl
        have p2_4 := (HX2.out.below Bz).cell 4 (.slice x.x.A' x.x.l' x.x.c') rfl
        go_wp2_with fail
        with_reducible refine (add_q (R.below hs.r (by go_grown)) (R.below hrx (by go_grown)) (by omega) (Lib.hid (Tab.below hT.out (below_trans hB (below_trans (b := V1) Bz (by go_grown)))))).mono ?_
        rintro e w1 ⟨s1, A1, c1, l1, s1r, A1r, c1r, l1r, rfl, h1, b1⟩
        replace b1 := below_trans (a := V1) (by go_grown) b1
        replace Bz := below_trans Bz b1
        clear b1
        clear p1_0 p1_1 p1_2 p1_3 p2_0 p2_1 p2_2 p2_3 p2_4
        have p1_0 := (HX1.out.below Bz).cell 0 (.bool sS) rfl
        have p1_1 := (HX1.out.below Bz).cell 1 (.slice sA sl sc) rfl
        have p1_2 := (HX1.out.below Bz).cell 2 (.bool sS') rfl
        have p1_3 := (HX1.out.below Bz).cell 3 (.slice sA' sl' sc') rfl
        have f1_0 := (HX1.out.below Bz).frozen 0
        have f1_1 := (HX1.out.below Bz).frozen 1
        have f1_2 := (HX1.out.below Bz).frozen 2
        have f1_3 := (HX1.out.below Bz).frozen 3
        have y1 := (HX1.out.below Bz).lt
        go_upto_region 7 with (fail)
        obtain ⟨V2, hW, x, kk, far, bel⟩ := store4 (.bool s1) (.slice A1 l1 c1) (.bool s1r) (.slice A1r l1r c1r) (HX1.out.below Bz) (fun _ e => by cases e) (fun _ e => by cases e) (fun _ e => by cases e) (fun _ e => by cases e)
        rw [← hW]
        clear hW
        replace h1 := h1.k kk
        replace hB := bel w.heap.size w (by omega) (below_trans hB Bz)
        replace HX0 := Lib.hid (far _ _ _ (by omega) (HX0.out.below Bz))
        replace HX2 := Lib.hid (far _ _ _ (by omega) (HX2.out.below Bz))
        replace HX1 := Lib.hid x
        clear x kk far bel Bz
        have Bz := Below.refl V2.heap.size V2
        clear p1_0 p1_1 p1_2 p1_3 f1_0 f1_1 f1_2 f1_3 y1
        go_wp2_with fail
        have hs1 := HS1.out
        go_roundg (n - (i + 1))
        case measure => have := HGK.out; omega
        case rel => exact ⟨i + 1, _, _, _, _, _, _, _, _, by omega, rfl, by go_num, by rw [← HSM.out]; exact RN.below h1 (by go_grown), HX0.out.below (below_trans Bz (by go_grown)), HX1.out.below (below_trans Bz (by go_grown)), below_trans (below_trans hB Bz) (by go_grown)⟩
      · have g1 : (x.at_ == at_) = false := by simpa using hq
        have HSM : Hid (pget (prs (L.take i)) at_ = pget (prs (L.take (i + 1))) at_) := Lib.hid (by rw [hpt, if_neg hq, Rat.add_zero])
        clear hpt hq
        have Bz := Below.refl wr.heap.size wr
        have p50_0 := (hnd.below (below_trans hB Bz)).c0 (u := .int .i64 x.at_) rfl
        have p50_1 := (hnd.below (below_trans hB Bz)).at 1 (.bool x.x.s) rfl
        have p50_2 := (hnd.below (below_trans hB Bz)).at 2 (.slice x.x.A x.x.l x.x.c) rfl
        have p50_3 := (hnd.below (below_trans hB Bz)).at 3 (.bool x.x.s') rfl
        have p50_4 := (hnd.below (below_trans hB Bz)).at 4 (.slice x.x.A' x.x.l' x.x.c') rfl
        go_upto_region 5 with (fail)
        obtain ⟨V1, hW, x2, hN⟩ := boxes1 wr #[.int .i64 x.at_, .bool x.x.s, .slice x.x.A x.x.l x.x.c, .bool x.x.s', .slice x.x.A' x.x.l' x.x.c'] 81
        rw [← hW]
        clear hW
        obtain ⟨v2, hb2⟩ : ∃ b, b = wr.heap.size := ⟨_, rfl⟩
        rw [← hb2] at x2 ⊢
        have o0_2 : w.heap.size < v2 := by have := (HX0.out.below Bz).lt; omega
        have o1_2 : (w.heap.size + 1) < v2 := by have := (HX1.out.below Bz).lt; omega
        have ow_2 : w.heap.size ≤ v2 := by have := hB.size; have := Bz.size; omega
        replace hs := hs.below hN
        replace hB := below_trans (below_trans hB Bz) hN
        replace HX0 := Lib.hid ((HX0.out.below Bz).below hN)
        replace HX1 := Lib.hid ((HX1.out.below Bz).below hN)
        have HX2 := Lib.hid x2
        clear x2 hN Bz hb2
        have Bz := Below.refl V1.heap.size V1
        clear p50_0 p50_1 p50_2 p50_3 p50_4
        have p2_0 := (HX2.out.below Bz).cell 0 (.int .i64 x.at_) rfl
        go_wp2_with fail
        have hs1 := HS1.out
        go_roundg (n - (i + 1))
        case measure => have := HGK.out; omega
        case rel => exact ⟨i + 1, _, _, _, _, _, _, _, _, by omega, rfl, by go_num, by rw [← HSM.out]; exact RN.below hs (by go_grown), HX0.out.below (below_trans Bz (by go_grown)), HX1.out.below (below_trans Bz (by go_grown)), below_trans (below_trans hB Bz) (by go_grown)⟩
    · obtain rfl : i = n := by omega
      have i1 : ¬ (i : Int) < (i : Int) := by omega
      have HEND : Hid (pget (prs (L.take i)) at_ = pget (prs L) at_) := Lib.hid (by rw [List.take_of_length_le (by rw [HLN.out]; exact Nat.le_refl _)])
      have Bz := Below.refl wr.heap.size wr
      have p0_0 := (HX0.out.below Bz).cell 0 (.bool false) rfl
      have p0_1 := (HX0.out.below Bz).cell 1 (.slice none 0 0) rfl
      have p0_2 := (HX0.out.below Bz).cell 2 (.bool false) rfl
      have p0_3 := (HX0.out.below Bz).cell 3 (.slice none 0 0) rfl
      have f0_0 := (HX0.out.below Bz).frozen 0
      have f0_1 := (HX0.out.below Bz).frozen 1
      have f0_2 := (HX0.out.below Bz).frozen 2
      have f0_3 := (HX0.out.below Bz).frozen 3
      have y0 := (HX0.out.below Bz).lt
      have p1_0 := (HX1.out.below Bz).cell 0 (.bool sS) rfl
      have p1_1 := (HX1.out.below Bz).cell 1 (.slice sA sl sc) rfl
      have p1_2 := (HX1.out.below Bz).cell 2 (.bool sS') rfl
      have p1_3 := (HX1.out.below Bz).cell 3 (.slice sA' sl' sc') rfl
      go_wp2_with fail
      (try simp only [Exit.inBlock, Exit.then])
      refine bodyPost_ret (by simp [results, Tryd.results34, go_sem, p0_0, p0_1, p0_2, p0_3]; try rfl) rfl ?_
      obtain ⟨V1, hW, x, kk, far, bel⟩ := store4 (.bool sS) (.slice sA sl sc) (.bool sS') (.slice sA' sl' sc') (HX0.out.below Bz) (fun _ e => by cases e) (fun _ e => by cases e) (fun _ e => by cases e) (fun _ e => by cases e)
      rw [← hW]
      clear hW
      replace hs := hs.k kk
      replace hB := bel w.heap.size w (by omega) (below_trans hB Bz)
      replace HX1 := Lib.hid (far _ _ _ (by omega) (HX1.out.below Bz))
      replace HX0 := Lib.hid x
      clear x kk far bel Bz
      have Bz := Below.refl V1.heap.size V1
      have hF := below_trans (c := V1) hB Bz
      exact ⟨_, _, _, _, _, _, _, _, rfl, by rw [← HEND.out]; exact RN.below hs (by go_grown), below_trans hF (by go_grown)⟩
/-- A state of the loop of Dot. -/
def DT1 (w W : World) (vb : Nat) (P Q : List (Int × Rat)) (n m D gk : Nat) (s6 s7 : Value) (wr : World) : Prop :=
  ∃ (i j : Nat) (q : Rat) (sS : Bool) (sA : Option Addr) (sc sl : Nat) (sS' : Bool) (sA' : Option Addr) (sc' sl' : Nat), s6 = .int .i64 (i : Int) ∧ s7 = .int .i64 (j : Int) ∧ i ≤ n ∧ j ≤ m ∧ n - i + (m - j) ≤ gk ∧ RN wr sS sA sc sl sS' sA' sc' sl' q ∧ Dotted q P Q i j ∧ sz q ≤ 1 + i * D ∧
    Bx wr w.heap.size #[.bool false, .slice none 0 0, .bool false, .slice none 0 0] 27 ∧ Bx wr vb #[.bool sS, .slice sA sl sc, .bool sS', .slice sA' sl' sc'] 27 ∧ Below w.heap.size w wr ∧ Below W.heap.size W wr
set_option maxRecDepth 100000 in
set_option maxHeartbeats 8000000 in
theorem dotV_q {w : World} {X Y : Option Addr} {n cx m cy M M' : Nat} {P Q : List (Int × Rat)} (h : GV w X n cx P M) (h' : GV w Y m cy Q M') (hM0 : n * (M + M' + 3) ≤ 15000) (hM : M ≤ 15000) (hM' : M' ≤ 15000) (hn : n ≤ 1000000) (hm : m ≤ 1000000) (hT : Hid (Tab w)) :
    Calls Tryd.prog 33 #[.slice X n cx, .slice Y m cy] w (TellsR w (pdot P Q)) := by
  have hx := Lib.hid h
  have hy := Lib.hid h'
  have hM : M ≤ 19000 := by omega
  have hM' : M' ≤ 19000 := by omega
  clear h h'
  obtain ⟨W, hW, x0, hB⟩ := boxes1 w #[.bool false, .slice none 0 0, .bool false, .slice none 0 0] 27
  have HX0 := Lib.hid x0
  clear x0
  have Bz := Below.refl W.heap.size W
  go_enter Tryd.func33, Tryd.ntmps33
  go_wp2_with fail
  rw [← hW]
  clear hW
  go_wp2_with fail
  with_reducible refine (ordered_q (hx.out.below (below_trans hB (below_trans (b := W) Bz (by go_grown)))) hM hn (Lib.hid (Tab.below hT.out (below_trans hB (below_trans (b := W) Bz (by go_grown)))))).mono ?_
  rintro e w1 ⟨A1, n1, c1, P1, rfl, h1, r1, e1, l1, b1⟩
  replace b1 := below_trans (a := W) (by go_grown) b1
  replace Bz := below_trans Bz b1
  clear b1
  go_wp2_with fail
  with_reducible refine (ordered_q (hy.out.below (below_trans hB (below_trans (b := w1) Bz (by go_grown)))) hM' hm (Lib.hid (Tab.below hT.out (below_trans hB (below_trans (b := w1) Bz (by go_grown)))))).mono ?_
  rintro e w2 ⟨A2, n2, c2, P2, rfl, h2, r2, e2, l2, b2⟩
  replace b2 := below_trans (a := w1) (by go_grown) b2
  replace h1 := h1.below b2
  replace Bz := below_trans Bz b2
  clear b2
  go_upto_region 3 with (fail)
  obtain ⟨V1, hW, x1, hN⟩ := boxes1 w2 #[.bool false, .slice none 0 0, .bool false, .slice none 0 0] 27
  rw [← hW]
  clear hW
  obtain ⟨v1, hb1⟩ : ∃ b, b = w2.heap.size := ⟨_, rfl⟩
  rw [← hb1] at x1 ⊢
  have o0_1 : w.heap.size < v1 := by have := (HX0.out.below Bz).lt; omega
  have ow_1 : w.heap.size ≤ v1 := by have := hB.size; have := Bz.size; omega
  replace hB := below_trans (below_trans hB Bz) hN
  replace HX0 := Lib.hid ((HX0.out.below Bz).below hN)
  have HX1 := Lib.hid x1
  have HN2 := Lib.hid hN
  have how2 : w2.heap.size ≤ v1 := by omega
  clear x1 hN Bz hb1
  have Bz := Below.refl V1.heap.size V1
  go_wp2_with fail
  obtain ⟨LX, x1, x2, rfl, x4, x5⟩ := h1
  obtain ⟨LY, y1, y2, rfl, y4, y5⟩ := h2
  obtain ⟨D, hD⟩ : ∃ D, D = M + M' + 3 := ⟨_, rfl⟩
  rw [← hD] at hM0
  have HSX := Lib.hid x1
  have HSY := Lib.hid y1
  have HLX := Lib.hid x1.1
  have HLY := Lib.hid y1.1
  have HOX := Lib.hid x2
  have HOY := Lib.hid y2
  have HWX := Lib.hid x4
  have HWY := Lib.hid y4
  have HRX := Lib.hid r1
  have HRY := Lib.hid r2
  have HGX := Lib.hid e1
  have HGY := Lib.hid e2
  have HB1 := Lib.hid (below_trans hB Bz)
  have XX0 := Lib.hid (HX0.out.below Bz)
  have XX1 := Lib.hid (HX1.out.below Bz)
  clear x1 x2 x4 x5 y1 y2 y4 y5 r1 r2 e1 e2 hB Bz HX0 HX1
  go_loopg [6, 7] (n1 + n2) (fun gk s6 s7 wr => DT1 w w2 v1 (prs LX) (prs LY) n1 n2 D gk s6 s7 wr)
  case atStart => exact ⟨0, 0, 0, _, _, _, _, _, _, _, _, rfl, rfl, Nat.zero_le _, Nat.zero_le _, Nat.le_refl _, RN.zero _, Dotted.start _ _, Nat.le_trans sz_zero (by omega), XX0.out, XX1.out, HB1.out, HN2.out⟩
  case round =>
    clear HB1 XX0 XX1 HN2
    obtain ⟨i, j, q, sS, sA, sc, sl, sS', sA', sc', sl', rfl, rfl, hi, hj, hgk, hs, hd, hsq, hx0, hx1, hB, hBW⟩ := hrel
    have HDT := Lib.hid hd
    have HX0 := Lib.hid hx0
    have HX1 := Lib.hid hx1
    clear hd hx0 hx1
    by_cases hin : i < n1
    · have i1 : (i : Int) < (n1 : Int) := by omega
      by_cases hjm : j < n2
      · obtain ⟨bx, ox, rfl, hel⟩ := HSX.out.at Tm.cs_len (by omega) (by omega)
        obtain ⟨by_, oy, rfl, hel'⟩ := HSY.out.at Tm.cs_len (by omega) (by omega)
        obtain ⟨x, ex⟩ : ∃ x, LX[i]? = some x := ⟨LX[i]'(by rw [HLX.out]; exact hin), List.getElem?_eq_getElem _⟩
        obtain ⟨y, ey⟩ : ∃ y, LY[j]? = some y := ⟨LY[j]'(by rw [HLY.out]; exact hjm), List.getElem?_eq_getElem _⟩
        have hnd := hel i x ex
        have hnd' := hel' j y ey
        have hfx := HOX.out x (List.mem_of_getElem? ex)
        have hfy := HOY.out y (List.mem_of_getElem? ey)
        have hrx : R wr x.x.s x.x.A x.x.c x.x.l x.x.s' x.x.A' x.x.c' x.x.l' x.x.q (dgT x) := (hfx.below hBW).r
        have hry : R wr y.x.s y.x.A y.x.c y.x.l y.x.s' y.x.A' y.x.c' y.x.l' y.x.q (dgT y) := (hfy.below hBW).r
        have hdx : dgT x + 2 ≤ M + 1 := Nat.le_trans (wsum_mem (List.mem_of_getElem? ex)) (HWX.out _)
        have hdy : dgT y + 2 ≤ M' + 1 := Nat.le_trans (wsum_mem (List.mem_of_getElem? ey)) (HWY.out _)
        have hsx := hfx.szd
        have hsy := hfy.szd
        have hsm : sz (x.x.q * y.x.q) ≤ (dgT x + 1) + (dgT y + 1) := sz_mul hsx hsy
        have hsa := sz_add hsq hsm
        have hiD : i * D ≤ n * D := Nat.mul_le_mul_right _ (by omega)
        have hiS : (i + 1) * D = i * D + D := by rw [Nat.add_mul, Nat.one_mul]
        have hD1 : D ≤ n * D := Nat.le_mul_of_pos_left D (by omega)
        have hpx := prs_get ex
        have hpy := prs_get ey
        have j1 : (j : Int) < (n2 : Int) := by omega
        have i2 : (0 : Int) ≤ (i : Int) := by omega
        have j2 : (0 : Int) ≤ (j : Int) := by omega
        clear hel hel' ex ey hfx hfy
        by_cases hxy : x.at_ < y.at_
        · have HD2 : Hid (Dotted q (prs LX) (prs LY) (i + 1) j) := Lib.hid (HDT.out.left HRX.out HRY.out hpx hpy hxy)
          have HS1 : Hid (sz q ≤ 1 + (i + 1) * D) := Lib.hid (by rw [hiS]; omega)
          have g1 : x.at_ < y.at_ := hxy
          clear hxy hpx hpy
          have Bz := Below.refl wr.heap.size wr
          have p50_0 := (hnd.below (below_trans hBW Bz)).c0 (u := .int .i64 x.at_) rfl
          have p51_0 := (hnd'.below (below_trans hBW Bz)).c0 (u := .int .i64 y.at_) rfl
          go_wp2_with fail
          (try simp only [List.append_eq, List.cons_append, List.nil_append])
          refine wp_region_plan (.pure 0 (.pure 1 (.pure 2 (.pure 3 (.take 4 (.pure 5 (.pure 6 (.pure 7 (.pure 8 (.take 9 (.pure 10 (.pure 11 .done)))))))))))) [] (fun w' => w'.cell? ⟨bx, ox + i * 5, none⟩ = some (.int .i64 x.at_) ∧ w'.cell? ⟨by_, oy + j * 5, none⟩ = some (.int .i64 y.at_)) (by kernel_rfl) (by kernel_rfl) ⟨p50_0, p51_0⟩ ?_
          refine wpPlan_pure (o := ⟨some 40, _, _, _, _, _⟩) (v := ?_) rfl rfl (fun w' => ?_) ?_
          rotate_left
          · go_simp <;> with_reducible rfl
          try simp only [pUt, pLt, pZt, pSt]
          refine wpPlan_pure (o := ⟨some 41, _, _, _, _, _⟩) (v := ?_) rfl rfl (fun w' => ?_) ?_
          rotate_left
          · go_simp <;> with_reducible rfl
          try simp only [pUt, pLt, pZt, pSt]
          refine wpPlan_pure (o := ⟨some 42, _, _, _, _, _⟩) (v := ?_) rfl rfl (fun w' => ?_) ?_
          rotate_left
          · go_simp <;> with_reducible rfl
          try simp only [pUt, pLt, pZt, pSt]
          refine wpPlan_pure (o := ⟨some 43, _, _, _, _, _⟩) (v := ?_) rfl rfl (fun w' => ?_) ?_
          rotate_left
          · go_simp <;> with_reducible rfl
          try simp only [pUt, pLt, pZt, pSt]
          refine wpPlan_take (o := ⟨some 44, _, _, _, _, _⟩) (v := ?_) rfl rfl (fun w' hS => ?_) ?_
          rotate_left
          · obtain ⟨p50_0, p51_0⟩ := hS; go_simp <;> with_reducible rfl
          try simp only [pUt, pLt, pZt, pSt]
          refine wpPlan_pure (o := ⟨some 45, _, _, _, _, _⟩) (v := ?_) rfl rfl (fun w' => ?_) ?_
          rotate_left
          · go_simp <;> with_reducible rfl
          try simp only [pUt, pLt, pZt, pSt]
          refine wpPlan_pure (o := ⟨some 46, _, _, _, _, _⟩) (v := ?_) rfl rfl (fun w' => ?_) ?_
          rotate_left
          · go_simp <;> with_reducible rfl
          try simp only [pUt, pLt, pZt, pSt]
          refine wpPlan_pure (o := ⟨some 47, _, _, _, _, _⟩) (v := ?_) rfl rfl (fun w' => ?_) ?_
          rotate_left
          · go_simp <;> with_reducible rfl
          try simp only [pUt, pLt, pZt, pSt]
          refine wpPlan_pure (o := ⟨some 48, _, _, _, _, _⟩) (v := ?_) rfl rfl (fun w' => ?_) ?_
          rotate_left
          · go_simp <;> with_reducible rfl
          try simp only [pUt, pLt, pZt, pSt]
          refine wpPlan_take (o := ⟨some 49, _, _, _, _, _⟩) (v := ?_) rfl rfl (fun w' hS => ?_) ?_
          rotate_left
          · obtain ⟨p50_0, p51_0⟩ := hS; go_simp <;> with_reducible rfl
          try simp only [pUt, pLt, pZt, pSt]
          refine wpPlan_pure (o := ⟨some 50, _, _, _, _, _⟩) (v := ?_) rfl rfl (fun w' => ?_) ?_
          rotate_left
          · go_simp <;> with_reducible rfl
          try simp only [pUt, pLt, pZt, pSt]
          refine wpPlan_pure (o := ⟨some 39, _, _, _, _, _⟩) (v := ?_) rfl rfl (fun w' => ?_) ?_
          rotate_left
          · go_simp <;> with_reducible rfl
          try simp only [pUt, pLt, pZt, pSt]
          refine wpPlan_done ?_
          go_wp2_with fail
          have hs1 := HS1.out
          go_roundg (n1 - (i + 1) + (n2 - (j)))
          case measure => omega
          case rel => exact ⟨i + 1, j, _, _, _, _, _, _, _, _, _, by go_num, rfl, by omega, by omega, Nat.le_refl _, RN.below hs (by go_grown), HD2.out, hs1, HX0.out.below (below_trans Bz (by go_grown)), HX1.out.below (below_trans Bz (by go_grown)), below_trans (below_trans hB Bz) (by go_grown), below_trans (below_trans hBW Bz) (by go_grown)⟩
        · have g1 : ¬ x.at_ < y.at_ := hxy
          by_cases hyx : y.at_ < x.at_
          · have HD2 : Hid (Dotted q (prs LX) (prs LY) i (j + 1)) := Lib.hid (HDT.out.right HRX.out HRY.out hpx hpy hyx)
            have HS1 : Hid (sz q ≤ 1 + i * D) := Lib.hid hsq
            have g2 : y.at_ < x.at_ := hyx
            clear hxy hyx hpx hpy
            have Bz := Below.refl wr.heap.size wr
            have p50_0 := (hnd.below (below_trans hBW Bz)).c0 (u := .int .i64 x.at_) rfl
            have p51_0 := (hnd'.below (below_trans hBW Bz)).c0 (u := .int .i64 y.at_) rfl
            go_wp2_with fail
            (try simp only [List.append_eq, List.cons_append, List.nil_append])
            refine wp_region_plan (.pure 0 (.pure 1 (.pure 2 (.pure 3 (.take 4 (.pure 5 (.pure 6 (.pure 7 (.pure 8 (.take 9 (.pure 10 (.pure 11 .done)))))))))))) [] (fun w' => w'.cell? ⟨bx, ox + i * 5, none⟩ = some (.int .i64 x.at_) ∧ w'.cell? ⟨by_, oy + j * 5, none⟩ = some (.int .i64 y.at_)) (by kernel_rfl) (by kernel_rfl) ⟨p50_0, p51_0⟩ ?_
            refine wpPlan_pure (o := ⟨some 40, _, _, _, _, _⟩) (v := ?_) rfl rfl (fun w' => ?_) ?_
            rotate_left
            · go_simp <;> with_reducible rfl
            try simp only [pUt, pLt, pZt, pSt]
            refine wpPlan_pure (o := ⟨some 41, _, _, _, _, _⟩) (v := ?_) rfl rfl (fun w' => ?_) ?_
            rotate_left
            · go_simp <;> with_reducible rfl
            try simp only [pUt, pLt, pZt, pSt]
            refine wpPlan_pure (o := ⟨some 42, _, _, _, _, _⟩) (v := ?_) rfl rfl (fun w' => ?_) ?_
            rotate_left
            · go_simp <;> with_reducible rfl
            try simp only [pUt, pLt, pZt, pSt]
            refine wpPlan_pure (o := ⟨some 43, _, _, _, _, _⟩) (v := ?_) rfl rfl (fun w' => ?_) ?_
            rotate_left
            · go_simp <;> with_reducible rfl
            try simp only [pUt, pLt, pZt, pSt]
            refine wpPlan_take (o := ⟨some 44, _, _, _, _, _⟩) (v := ?_) rfl rfl (fun w' hS => ?_) ?_
            rotate_left
            · obtain ⟨p50_0, p51_0⟩ := hS; go_simp <;> with_reducible rfl
            try simp only [pUt, pLt, pZt, pSt]
            refine wpPlan_pure (o := ⟨some 45, _, _, _, _, _⟩) (v := ?_) rfl rfl (fun w' => ?_) ?_
            rotate_left
            · go_simp <;> with_reducible rfl
            try simp only [pUt, pLt, pZt, pSt]
            refine wpPlan_pure (o := ⟨some 46, _, _, _, _, _⟩) (v := ?_) rfl rfl (fun w' => ?_) ?_
            rotate_left
            · go_simp <;> with_reducible rfl
            try simp only [pUt, pLt, pZt, pSt]
            refine wpPlan_pure (o := ⟨some 47, _, _, _, _, _⟩) (v := ?_) rfl rfl (fun w' => ?_) ?_
            rotate_left
            · go_simp <;> with_reducible rfl
            try simp only [pUt, pLt, pZt, pSt]
            refine wpPlan_pure (o := ⟨some 48, _, _, _, _, _⟩) (v := ?_) rfl rfl (fun w' => ?_) ?_
            rotate_left
            · go_simp <;> with_reducible rfl
            try simp only [pUt, pLt, pZt, pSt]
            refine wpPlan_take (o := ⟨some 49, _, _, _, _, _⟩) (v := ?_) rfl rfl (fun w' hS => ?_) ?_
            rotate_left
            · obtain ⟨p50_0, p51_0⟩ := hS; go_simp <;> with_reducible rfl
            try simp only [pUt, pLt, pZt, pSt]
            refine wpPlan_pure (o := ⟨some 50, _, _, _, _, _⟩) (v := ?_) rfl rfl (fun w' => ?_) ?_
            rotate_left
            · go_simp <;> with_reducible rfl
            try simp only [pUt, pLt, pZt, pSt]
            refine wpPlan_pure (o := ⟨some 39, _, _, _, _, _⟩) (v := ?_) rfl rfl (fun w' => ?_) ?_
            rotate_left
            · go_simp <;> with_reducible rfl
            try simp only [pUt, pLt, pZt, pSt]
            refine wpPlan_done ?_
            go_wp2_with fail
            (try simp only [List.append_eq, List.cons_append, List.nil_append])
            refine wp_region_plan (.pure 0 (.pure 1 (.pure 2 (.pure 3 (.take 4 (.pure 5 (.pure 6 (.pure 7 (.pure 8 (.take 9 (.pure 10 (.pure 11 .done)))))))))))) [] (fun w' => w'.cell? ⟨bx, ox + i * 5, none⟩ = some (.int .i64 x.at_) ∧ w'.cell? ⟨by_, oy + j * 5, none⟩ = some (.int .i64 y.at_)) (by kernel_rfl) (by kernel_rfl) ⟨p50_0, p51_0⟩ ?_
            refine wpPlan_pure (o := ⟨some 54, _, _, _, _, _⟩) (v := ?_) rfl rfl (fun w' => ?_) ?_
            rotate_left
            · go_simp <;> with_reducible rfl
            try simp only [pUt, pLt, pZt, pSt]
            refine wpPlan_pure (o := ⟨some 55, _, _, _, _, _⟩) (v := ?_) rfl rfl (fun w' => ?_) ?_
            rotate_left
            · go_simp <;> with_reducible rfl
            try simp only [pUt, pLt, pZt, pSt]
            refine wpPlan_pure (o := ⟨some 56, _, _, _, _, _⟩) (v := ?_) rfl rfl (fun w' => ?_) ?_
            rotate_left
            · go_simp <;> with_reducible rfl
            try simp only [pUt, pLt, pZt, pSt]
            refine wpPlan_pure (o := ⟨some 57, _, _, _, _, _⟩) (v := ?_) rfl rfl (fun w' => ?_) ?_
            rotate_left
            · go_simp <;> with_reducible rfl
            try simp only [pUt, pLt, pZt, pSt]
            refine wpPlan_take (o := ⟨some 58, _, _, _, _, _⟩) (v := ?_) rfl rfl (fun w' hS => ?_) ?_
            rotate_left
            · obtain ⟨p50_0, p51_0⟩ := hS; go_simp <;> with_reducible rfl
            try simp only [pUt, pLt, pZt, pSt]
            refine wpPlan_pure (o := ⟨some 59, _, _, _, _, _⟩) (v := ?_) rfl rfl (fun w' => ?_) ?_
            rotate_left
            · go_simp <;> with_reducible rfl
            try simp only [pUt, pLt, pZt, pSt]
            refine wpPlan_pure (o := ⟨some 60, _, _, _, _, _⟩) (v := ?_) rfl rfl (fun w' => ?_) ?_
            rotate_left
            · go_simp <;> with_reducible rfl
            try simp only [pUt, pLt, pZt, pSt]
            refine wpPlan_pure (o := ⟨some 61, _, _, _, _, _⟩) (v := ?_) rfl rfl (fun w' => ?_) ?_
            rotate_left
            · go_simp <;> with_reducible rfl
            try simp only [pUt, pLt, pZt, pSt]
            refine wpPlan_pure (o := ⟨some 62, _, _, _, _, _⟩) (v := ?_) rfl rfl (fun w' => ?_) ?_
            rotate_left
            · go_simp <;> with_reducible rfl
            try simp only [pUt, pLt, pZt, pSt]
            refine wpPlan_take (o := ⟨some 63, _, _, _, _, _⟩) (v := ?_) rfl rfl (fun w' hS => ?_) ?_
            rotate_left
            · obtain ⟨p50_0, p51_0⟩ := hS; go_simp <;> with_reducible rfl
            try simp only [pUt, pLt, pZt, pSt]
            refine wpPlan_pure (o := ⟨some 64, _, _, _, _, _⟩) (v := ?_) rfl rfl (fun w' => ?_) ?_
            rotate_left
            · go_simp <;> with_reducible rfl
            try simp only [pUt, pLt, pZt, pSt]
            refine wpPlan_pure (o := ⟨some 53, _, _, _, _, _⟩) (v := ?_) rfl rfl (fun w' => ?_) ?_
            rotate_left
            · go_simp <;> with_reducible rfl
            try simp only [pUt, pLt, pZt, pSt]
            refine wpPlan_done ?_
            go_wp2_with fail
            have hs1 := HS1.out
            go_roundg (n1 - (i) + (n2 - (j + 1)))
            case measure => omega
            case rel => exact ⟨i, j + 1, _, _, _, _, _, _, _, _, _, rfl, by go_num, by omega, by omega, Nat.le_refl _, RN.below hs (by go_grown), HD2.out, hs1, HX0.out.below (below_trans Bz (by go_grown)), HX1.out.below (below_trans Bz (by go_grown)), below_trans (below_trans hB Bz) (by go_grown), below_trans (below_trans hBW Bz) (by go_grown)⟩
          · have HD2 : Hid (Dotted (q + x.x.q * y.x.q) (prs LX) (prs LY) (i + 1) (j + 1)) := Lib.hid (HDT.out.both HRX.out HRY.out hpx hpy (show x.at_ = y.at_ by omega))
            have HS1 : Hid (sz (q + x.x.q * y.x.q) ≤ 1 + (i + 1) * D) := Lib.hid (by rw [hiS]; omega)
            have g2 : ¬ y.at_ < x.at_ := hyx
            clear hxy hyx hpx hpy
            have Bz := Below.refl wr.heap.size wr
            have p1_0 := (HX1.out.below Bz).cell 0 (.bool sS) rfl
            have p1_1 := (HX1.out.below Bz).cell 1 (.slice sA sl sc) rfl
            have p1_2 := (HX1.out.below Bz).cell 2 (.bool sS') rfl
            have p1_3 := (HX1.out.below Bz).cell 3 (.slice sA' sl' sc') rfl
            have f1_0 := (HX1.out.below Bz).frozen 0
            have f1_1 := (HX1.out.below Bz).frozen 1
            have f1_2 := (HX1.out.below Bz).frozen 2
            have f1_3 := (HX1.out.below Bz).frozen 3
            have y1 := (HX1.out.below Bz).lt
            have p50_0 := (hnd.below (below_trans hBW Bz)).c0 (u := .int .i64 x.at_) rfl
            have p50_1 := (hnd.below (below_trans hBW Bz)).at 1 (.bool x.x.s) rfl
            have p50_2 := (hnd.below (below_trans hBW Bz)).at 2 (.slice x.x.A x.x.l x.x.c) rfl
            have p50_3 := (hnd.below (below_trans hBW Bz)).at 3 (.bool x.x.s') rfl
            have p50_4 := (hnd.below (below_trans hBW Bz)).at 4 (.slice x.x.A' x.x.l' x.x.c') rfl
            have p51_0 := (hnd'.below (below_trans hBW Bz)).c0 (u := .int .i64 y.at_) rfl
            have p51_1 := (hnd'.below (below_trans hBW Bz)).at 1 (.bool y.x.s) rfl
            have p51_2 := (hnd'.below (below_trans hBW Bz)).at 2 (.slice y.x.A y.x.l y.x.c) rfl
            have p51_3 := (hnd'.below (below_trans hBW Bz)).at 3 (.bool y.x.s') rfl
            have p51_4 := (hnd'.below (below_trans hBW Bz)).at 4 (.slice y.x.A' y.x.l' y.x.c') rfl
            go_wp2_with fail
            (try simp only [List.append_eq, List.cons_append, List.nil_append])
            refine wp_region_plan (.pure 0 (.pure 1 (.pure 2 (.pure 3 (.take 4 (.pure 5 (.pure 6 (.pure 7 (.pure 8 (.take 9 (.pure 10 (.pure 11 .done)))))))))))) [] (fun w' => w'.cell? ⟨bx, ox + i * 5, none⟩ = some (.int .i64 x.at_) ∧ w'.cell? ⟨by_, oy + j * 5, none⟩ = some (.int .i64 y.at_)) (by kernel_rfl) (by kernel_rfl) ⟨p50_0, p51_0⟩ ?_
            refine wpPlan_pure (o := ⟨some 40, _, _, _, _, _⟩) (v := ?_) rfl rfl (fun w' => ?_) ?_
            rotate_left
            · go_simp <;> with_reducible rfl
            try simp only [pUt, pLt, pZt, pSt]
            refine wpPlan_pure (o := ⟨some 41, _, _, _, _, _⟩) (v := ?_) rfl rfl (fun w' => ?_) ?_
            rotate_left
            · go_simp <;> with_reducible rfl
            try simp only [pUt, pLt, pZt, pSt]
            refine wpPlan_pure (o := ⟨some 42, _, _, _, _, _⟩) (v := ?_) rfl rfl (fun w' => ?_) ?_
            rotate_left
            · go_simp <;> with_reducible rfl
            try simp only [pUt, pLt, pZt, pSt]
            refine wpPlan_pure (o := ⟨some 43, _, _, _, _, _⟩) (v := ?_) rfl rfl (fun w' => ?_) ?_
            rotate_left
            · go_simp <;> with_reducible rfl
            try simp only [pUt, pLt, pZt, pSt]
            refine wpPlan_take (o := ⟨some 44, _, _, _, _, _⟩) (v := ?_) rfl rfl (fun w' hS => ?_) ?_
            rotate_left
            · obtain ⟨p50_0, p51_0⟩ := hS; go_simp <;> with_reducible rfl
            try simp only [pUt, pLt, pZt, pSt]
            refine wpPlan_pure (o := ⟨some 45, _, _, _, _, _⟩) (v := ?_) rfl rfl (fun w' => ?_) ?_
            rotate_left
            · go_simp <;> with_reducible rfl
            try simp only [pUt, pLt, pZt, pSt]
            refine wpPlan_pure (o := ⟨some 46, _, _, _, _, _⟩) (v := ?_) rfl rfl (fun w' => ?_) ?_
            rotate_left
            · go_simp <;> with_reducible rfl
            try simp only [pUt, pLt, pZt, pSt]
            refine wpPlan_pure (o := ⟨some 47, _, _, _, _, _⟩) (v := ?_) rfl rfl (fun w' => ?_) ?_
            rotate_left
            · go_simp <;> with_reducible rfl
            try simp only [pUt, pLt, pZt, pSt]
            refine wpPlan_pure (o := ⟨some 48, _, _, _, _, _⟩) (v := ?_) rfl rfl (fun w' => ?_) ?_
            rotate_left
            · go_simp <;> with_reducible rfl
            try simp only [pUt, pLt, pZt, pSt]
            refine wpPlan_take (o := ⟨some 49, _, _, _, _, _⟩) (v := ?_) rfl rfl (fun w' hS => ?_) ?_
            rotate_left
            · obtain ⟨p50_0, p51_0⟩ := hS; go_simp <;> with_reducible rfl
            try simp only [pUt, pLt, pZt, pSt]
            refine wpPlan_pure (o := ⟨some 50, _, _, _, _, _⟩) (v := ?_) rfl rfl (fun w' => ?_) ?_
            rotate_left
            · go_simp <;> with_reducible rfl
            try simp only [pUt, pLt, pZt, pSt]
            refine wpPlan_pure (o := ⟨some 39, _, _, _, _, _⟩) (v := ?_) rfl rfl (fun w' => ?_) ?_
            rotate_left
            · go_simp <;> with_reducible rfl
            try simp only [pUt, pLt, pZt, pSt]
            refine wpPlan_done ?_
            go_wp2_with fail
            (try simp only [List.append_eq, List.cons_append, List.nil_append])
            refine wp_region_plan (.pure 0 (.pure 1 (.pure 2 (.pure 3 (.take 4 (.pure 5 (.pure 6 (.pure 7 (.pure 8 (.take 9 (.pure 10 (.pure 11 .done)))))))))))) [] (fun w' => w'.cell? ⟨bx, ox + i * 5, none⟩ = some (.int .i64 x.at_) ∧ w'.cell? ⟨by_, oy + j * 5, none⟩ = some (.int .i64 y.at_)) (by kernel_rfl) (by kernel_rfl) ⟨p50_0, p51_0⟩ ?_
            refine wpPlan_pure (o := ⟨some 54, _, _, _, _, _⟩) (v := ?_) rfl rfl (fun w' => ?_) ?_
            rotate_left
            · go_simp <;> with_reducible rfl
            try simp only [pUt, pLt, pZt, pSt]
            refine wpPlan_pure (o := ⟨some 55, _, _, _, _, _⟩) (v := ?_) rfl rfl (fun w' => ?_) ?_
            rotate_left
            · go_simp <;> with_reducible rfl
            try simp only [pUt, pLt, pZt, pSt]
            refine wpPlan_pure (o := ⟨some 56, _, _, _, _, _⟩) (v := ?_) rfl rfl (fun w' => ?_) ?_
            rotate_left
            · go_simp <;> with_reducible rfl
            try simp only [pUt, pLt, pZt, pSt]
            refine wpPlan_pure (o := ⟨some 57, _, _, _, _, _⟩) (v := ?_) rfl rfl (fun w' => ?_) ?_
            rotate_left
            · go_simp <;> with_reducible rfl
            try simp only [pUt, pLt, pZt, pSt]
            refine wpPlan_take (o := ⟨some 58, _, _, _, _, _⟩) (v := ?_) rfl rfl (fun w' hS => ?_) ?_
            rotate_left
            · obtain ⟨p50_0, p51_0⟩ := hS; go_simp <;> with_reducible rfl
            try simp only [pUt, pLt, pZt, pSt]
            refine wpPlan_pure (o := ⟨some 59, _, _, _, _, _⟩) (v := ?_) rfl rfl (fun w' => ?_) ?_
            rotate_left
            · go_simp <;> with_reducible rfl
            try simp only [pUt, pLt, pZt, pSt]
            refine wpPlan_pure (o := ⟨some 60, _, _, _, _, _⟩) (v := ?_) rfl rfl (fun w' => ?_) ?_
            rotate_left
            · go_simp <;> with_reducible rfl
            try simp only [pUt, pLt, pZt, pSt]
            refine wpPlan_pure (o := ⟨some 61, _, _, _, _, _⟩) (v := ?_) rfl rfl (fun w' => ?_) ?_
            rotate_left
            · go_simp <;> with_reducible rfl
            try simp only [pUt, pLt, pZt, pSt]
            refine wpPlan_pure (o := ⟨some 62, _, _, _, _, _⟩) (v := ?_) rfl rfl (fun w' => ?_) ?_
            rotate_left
            · go_simp <;> with_reducible rfl
            try simp only [pUt, pLt, pZt, pSt]
            refine wpPlan_take (o := ⟨some 63, _, _, _, _, _⟩) (v := ?_) rfl rfl (fun w' hS => ?_) ?_
            rotate_left
            · obtain ⟨p50_0, p51_0⟩ := hS; go_simp <;> with_reducible rfl
            try simp only [pUt, pLt, pZt, pSt]
            refine wpPlan_pure (o := ⟨some 64, _, _, _, _, _⟩) (v := ?_) rfl rfl (fun w' => ?_) ?_
            rotate_left
            · go_simp <;> with_reducible rfl
            try simp only [pUt, pLt, pZt, pSt]
            refine wpPlan_pure (o := ⟨some 53, _, _, _, _, _⟩) (v := ?_) rfl rfl (fun w' => ?_) ?_
            rotate_left
            · go_simp <;> with_reducible rfl
            try simp only [pUt, pLt, pZt, pSt]
            refine wpPlan_done ?_
            go_wp2_with fail
            (try simp only [List.append_eq, List.cons_append, List.nil_append])
            refine wp_region_plan (.take 0 (.pure 1 (.pure 2 (.pure 3 (.pure 4 (.take 5 (.pure 6 (.pure 7 (.pure 8 (.pure 9 (.take 10 (.only 11 (.only 12 (.only 13 .done)))))))))))))) [13] (fun w' => w'.cell? ⟨v1, 0, none⟩ = some (.bool sS) ∧ w'.cell? ⟨v1, 1, none⟩ = some (.slice sA sl sc) ∧ w'.cell? ⟨v1, 2, none⟩ = some (.bool sS') ∧ w'.cell? ⟨v1, 3, none⟩ = some (.slice sA' sl' sc') ∧ w'.cell? ⟨bx, ox + i * 5 + 1, none⟩ = some (.bool x.x.s) ∧ w'.cell? ⟨bx, ox + i * 5 + 2, none⟩ = some (.slice x.x.A x.x.l x.x.c) ∧ w'.cell? ⟨bx, ox + i * 5 + 3, none⟩ = some (.bool x.x.s') ∧ w'.cell? ⟨bx, ox + i * 5 + 4, none⟩ = some (.slice x.x.A' x.x.l' x.x.c') ∧ w'.cell? ⟨by_, oy + j * 5 + 1, none⟩ = some (.bool y.x.s) ∧ w'.cell? ⟨by_, oy + j * 5 + 2, none⟩ = some (.slice y.x.A y.x.l y.x.c) ∧ w'.cell? ⟨by_, oy + j * 5 + 3, none⟩ = some (.bool y.x.s') ∧ w'.cell? ⟨by_, oy + j * 5 + 4, none⟩ = some (.slice y.x.A' y.x.l' y.x.c')) (by kernel_rfl) (by kernel_rfl) ⟨p1_0, p1_1, p1_2, p1_3, p50_1, p50_2, p50_3, p50_4, p51_1, p51_2, p51_3, p51_4⟩ ?_
            refine wpPlan_take (o := ⟨some 22, _, _, _, _, _⟩) (v := ?_) rfl rfl (fun w' hS => ?_) ?_
            rotate_left
            · obtain ⟨p1_0, p1_1, p1_2, p1_3, p50_1, p50_2, p50_3, p50_4, p51_1, p51_2, p51_3, p51_4⟩ := hS; go_simp <;> with_reducible rfl
            try simp only [pUt, pLt, pZt, pSt]
            refine wpPlan_pure (o := ⟨some 23, _, _, _, _, _⟩) (v := ?_) rfl rfl (fun w' => ?_) ?_
            rotate_left
            · go_simp <;> with_reducible rfl
            try simp only [pUt, pLt, pZt, pSt]
            refine wpPlan_pure (o := ⟨some 24, _, _, _, _, _⟩) (v := ?_) rfl rfl (fun w' => ?_) ?_
            rotate_left
            · go_simp <;> with_reducible rfl
            try simp only [pUt, pLt, pZt, pSt]
            refine wpPlan_pure (o := ⟨some 25, _, _, _, _, _⟩) (v := ?_) rfl rfl (fun w' => ?_) ?_
            rotate_left
            · go_simp <;> with_reducible rfl
            try simp only [pUt, pLt, pZt, pSt]
            refine wpPlan_pure (o := ⟨some 26, _, _, _, _, _⟩) (v := ?_) rfl rfl (fun w' => ?_) ?_
            rotate_left
            · go_simp <;> with_reducible rfl
            try simp only [pUt, pLt, pZt, pSt]
            refine wpPlan_take (o := ⟨some 27, _, _, _, _, _⟩) (v := ?_) rfl rfl (fun w' hS => ?_) ?_
            rotate_left
            · obtain ⟨p1_0, p1_1, p1_2, p1_3, p50_1, p50_2, p50_3, p50_4, p51_1, p51_2, p51_3, p51_4⟩ := hS; go_simp <;> with_reducible rfl
            try simp only [pUt, pLt, pZt, pSt]
            refine wpPlan_pure (o := ⟨some 28, _, _, _, _, _⟩) (v := ?_) rfl rfl (fun w' => ?_) ?_
            rotate_left
            · go_simp <;> with_reducible rfl
            try simp only [pUt, pLt, pZt, pSt]
            refine wpPlan_pure (o := ⟨some 29, _, _, _, _, _⟩) (v := ?_) rfl rfl (fun w' => ?_) ?_
            rotate_left
            · go_simp <;> with_reducible rfl
            try simp only [pUt, pLt, pZt, pSt]
            refine wpPlan_pure (o := ⟨some 30, _, _, _, _, _⟩) (v := ?_) rfl rfl (fun w' => ?_) ?_
            rotate_left
            · go_simp <;> with_reducible rfl
            try simp only [pUt, pLt, pZt, pSt]
            refine wpPlan_pure (o := ⟨some 31, _, _, _, _, _⟩) (v := ?_) rfl rfl (fun w' => ?_) ?_
            rotate_left
            · go_simp <;> with_reducible rfl
            try simp only [pUt, pLt, pZt, pSt]
            refine wpPlan_take (o := ⟨some 32, _, _, _, _, _⟩) (v := ?_) rfl rfl (fun w' hS => ?_) ?_
            rotate_left
            · obtain ⟨p1_0, p1_1, p1_2, p1_3, p50_1, p50_2, p50_3, p50_4, p51_1, p51_2, p51_3, p51_4⟩ := hS; go_simp <;> with_reducible rfl
            try simp only [pUt, pLt, pZt, pSt]
            refine wpPlan_call (o := ⟨some 33, _, _, _, _, _⟩) rfl rfl (fun K hK => ?_)
            go_simp
            with_reducible refine (mul_q (R.below hrx (by go_grown)) (R.below hry (by go_grown)) (by omega) (Lib.hid (Tab.below hT.out (below_trans hB (below_trans (b := wr) Bz (by go_grown)))))).mono ?_
            rintro e w11 ⟨s11, A11, c11, l11, s11r, A11r, c11r, l11r, rfl, h11, b11⟩
            replace b11 := below_trans (a := wr) (by go_grown) b11
            replace hs := hs.below b11
            replace Bz := below_trans Bz b11
            clear b11
            clear p1_0 p1_1 p1_2 p1_3 f1_0 f1_1 f1_2 f1_3 y1 p50_0 p50_1 p50_2 p50_3 p50_4 p51_0 p51_1 p51_2 p51_3 p51_4
            have p1_0 := (HX1.out.below Bz).cell 0 (.bool sS) rfl
            have p1_1 := (HX1.out.below Bz).cell 1 (.slice sA sl sc) rfl
            have p1_2 := (HX1.out.below Bz).cell 2 (.bool sS') rfl
            have p1_3 := (HX1.out.below Bz).cell 3 (.slice sA' sl' sc') rfl
            have f1_0 := (HX1.out.below Bz).frozen 0
            have f1_1 := (HX1.out.below Bz).frozen 1
            have f1_2 := (HX1.out.below Bz).frozen 2
            have f1_3 := (HX1.out.below Bz).frozen 3
            have y1 := (HX1.out.below Bz).lt
            have p50_1 := (hnd.below (below_trans hBW Bz)).at 1 (.bool x.x.s) rfl
            have p50_2 := (hnd.below (below_trans hBW Bz)).at 2 (.slice x.x.A x.x.l x.x.c) rfl
            have p50_3 := (hnd.below (below_trans hBW Bz)).at 3 (.bool x.x.s') rfl
            have p50_4 := (hnd.below (below_trans hBW Bz)).at 4 (.slice x.x.A' x.x.l' x.x.c') rfl
            have p51_1 := (hnd'.below (below_trans hBW Bz)).at 1 (.bool y.x.s) rfl
            have p51_2 := (hnd'.below (below_trans hBW Bz)).at 2 (.slice y.x.A y.x.l y.x.c) rfl
            have p51_3 := (hnd'.below (below_trans hBW Bz)).at 3 (.bool y.x.s') rfl
            have p51_4 := (hnd'.below (below_trans hBW Bz)).at 4 (.slice y.x.A' y.x.l' y.x.c') rfl
            refine hK.out _ _ ⟨p1_0, p1_1, p1_2, p1_3, p50_1, p50_2, p50_3, p50_4, p51_1, p51_2, p51_3, p51_4⟩ (fun _ => ?_)
            try simp only [pUt, pLt, pZt, pSt]
            clear hK K
            refine wpPlan_call (o := ⟨some 34, _, _, _, _, _⟩) rfl rfl (fun K hK => ?_)
            go_simp
            with_reducible refine (add_q (R.below hs.r (by go_grown)) (R.below h11.r (by go_grown)) (by omega) (Lib.hid (Tab.below hT.out (below_trans hB (below_trans (b := w11) Bz (by go_grown)))))).mono ?_
            rintro e w12 ⟨s12, A12, c12, l12, s12r, A12r, c12r, l12r, rfl, h12, b12⟩
            replace b12 := below_trans (a := w11) (by go_grown) b12
            replace Bz := below_trans Bz b12
            clear b12
            clear p1_0 p1_1 p1_2 p1_3 f1_0 f1_1 f1_2 f1_3 y1 p50_1 p50_2 p50_3 p50_4 p51_1 p51_2 p51_3 p51_4
            have p1_0 := (HX1.out.below Bz).cell 0 (.bool sS) rfl
            have p1_1 := (HX1.out.below Bz).cell 1 (.slice sA sl sc) rfl
            have p1_2 := (HX1.out.below Bz).cell 2 (.bool sS') rfl
            have p1_3 := (HX1.out.below Bz).cell 3 (.slice sA' sl' sc') rfl
            have f1_0 := (HX1.out.below Bz).frozen 0
            have f1_1 := (HX1.out.below Bz).frozen 1
            have f1_2 := (HX1.out.below Bz).frozen 2
            have f1_3 := (HX1.out.below Bz).frozen 3
            have y1 := (HX1.out.below Bz).lt
            have p50_1 := (hnd.below (below_trans hBW Bz)).at 1 (.bool x.x.s) rfl
            have p50_2 := (hnd.below (below_trans hBW Bz)).at 2 (.slice x.x.A x.x.l x.x.c) rfl
            have p50_3 := (hnd.below (below_trans hBW Bz)).at 3 (.bool x.x.s') rfl
            have p50_4 := (hnd.below (below_trans hBW Bz)).at 4 (.slice x.x.A' x.x.l' x.x.c') rfl
            have p51_1 := (hnd'.below (below_trans hBW Bz)).at 1 (.bool y.x.s) rfl
            have p51_2 := (hnd'.below (below_trans hBW Bz)).at 2 (.slice y.x.A y.x.l y.x.c) rfl
            have p51_3 := (hnd'.below (below_trans hBW Bz)).at 3 (.bool y.x.s') rfl
            have p51_4 := (hnd'.below (below_trans hBW Bz)).at 4 (.slice y.x.A' y.x.l' y.x.c') rfl
            refine hK.out _ _ ⟨p1_0, p1_1, p1_2, p1_3, p50_1, p50_2, p50_3, p50_4, p51_1, p51_2, p51_3, p51_4⟩ (fun _ => ?_)
            try simp only [pUt, pLt, pZt, pSt]
            clear hK K
            refine wpPlan_late (o := ⟨none, _, _, _, _, _⟩) rfl rfl (by decide) (fun K hK => ?_)
            go_simp
            refine hK.out _ _ ?_
            try simp only [Act.put, List.setIfInBounds_toArray, List.set_cons_zero, List.set_cons_succ]
            clear hK K
            refine wpPlan_done ?_
            obtain ⟨V11, hW, x, kk, far, bel⟩ := store4 (.bool s12) (.slice A12 l12 c12) (.bool s12r) (.slice A12r l12r c12r) (HX1.out.below Bz) (fun _ e => by cases e) (fun _ e => by cases e) (fun _ e => by cases e) (fun _ e => by cases e)
            rw [← hW]
            clear hW
            replace h12 := h12.k kk
            replace hB := bel w.heap.size w (by omega) (below_trans hB Bz)
            replace hBW := bel w2.heap.size w2 (by omega) (below_trans hBW Bz)
            replace HX0 := Lib.hid (far _ _ _ (by omega) (HX0.out.below Bz))
            replace HX1 := Lib.hid x
            clear x kk far bel Bz
            have Bz := Below.refl V11.heap.size V11
            clear p1_0 p1_1 p1_2 p1_3 f1_0 f1_1 f1_2 f1_3 y1 p50_1 p50_2 p50_3 p50_4 p51_1 p51_2 p51_3 p51_4
            go_wp2_with fail
            have hs1 := HS1.out
            go_roundg (n1 - (i + 1) + (n2 - (j + 1)))
            case measure => omega
            case rel => exact ⟨i + 1, j + 1, _, _, _, _, _, _, _, _, _, by go_num, by go_num, by omega, by omega, Nat.le_refl _, RN.below h12 (by go_grown), HD2.out, hs1, HX0.out.below (below_trans Bz (by go_grown)), HX1.out.below (below_trans Bz (by go_grown)), below_trans (below_trans hB Bz) (by go_grown), below_trans (below_trans hBW Bz) (by go_grown)⟩
      · obtain rfl : j = n2 := by omega
        have j1 : ¬ (j : Int) < (j : Int) := by omega
        have HEND : Hid (q = pdot P Q) := Lib.hid (by rw [HDT.out.done (.inr (by rw [prs_len, HLY.out]; exact Nat.le_refl _)), pdot_congr HGY.out, pdot_congr_left HGX.out])
        have Bz := Below.refl wr.heap.size wr
        have p0_0 := (HX0.out.below Bz).cell 0 (.bool false) rfl
        have p0_1 := (HX0.out.below Bz).cell 1 (.slice none 0 0) rfl
        have p0_2 := (HX0.out.below Bz).cell 2 (.bool false) rfl
        have p0_3 := (HX0.out.below Bz).cell 3 (.slice none 0 0) rfl
        have f0_0 := (HX0.out.below Bz).frozen 0
        have f0_1 := (HX0.out.below Bz).frozen 1
        have f0_2 := (HX0.out.below Bz).frozen 2
        have f0_3 := (HX0.out.below Bz).frozen 3
        have y0 := (HX0.out.below Bz).lt
        have p1_0 := (HX1.out.below Bz).cell 0 (.bool sS) rfl
        have p1_1 := (HX1.out.below Bz).cell 1 (.slice sA sl sc) rfl
        have p1_2 := (HX1.out.below Bz).cell 2 (.bool sS') rfl
        have p1_3 := (HX1.out.below Bz).cell 3 (.slice sA' sl' sc') rfl
        go_wp2_with fail
        (try simp only [Exit.inBlock, Exit.then])
        refine bodyPost_ret (by simp [results, Tryd.results33, go_sem, p0_0, p0_1, p0_2, p0_3]; try rfl) rfl ?_
        obtain ⟨V1, hW, x, kk, far, bel⟩ := store4 (.bool sS) (.slice sA sl sc) (.bool sS') (.slice sA' sl' sc') (HX0.out.below Bz) (fun _ e => by cases e) (fun _ e => by cases e) (fun _ e => by cases e) (fun _ e => by cases e)
        rw [← hW]
        clear hW
        replace hs := hs.k kk
        replace hB := bel w.heap.size w (by omega) (below_trans hB Bz)
        replace HX1 := Lib.hid (far _ _ _ (by omega) (HX1.out.below Bz))
        replace HX0 := Lib.hid x
        clear x kk far bel Bz
        have Bz := Below.refl V1.heap.size V1
        have hF := below_trans (c := V1) hB Bz
        exact ⟨_, _, _, _, _, _, _, _, rfl, by rw [← HEND.out]; exact RN.below hs (by go_grown), below_trans hF (by go_grown)⟩
    · obtain rfl : i = n1 := by omega
      have i1 : ¬ (i : Int) < (i : Int) := by omega
      have HEND : Hid (q = pdot P Q) := Lib.hid (by rw [HDT.out.done (.inl (by rw [prs_len, HLX.out]; exact Nat.le_refl _)), pdot_congr HGY.out, pdot_congr_left HGX.out])
      have Bz := Below.refl wr.heap.size wr
      have p0_0 := (HX0.out.below Bz).cell 0 (.bool false) rfl
      have p0_1 := (HX0.out.below Bz).cell 1 (.slice none 0 0) rfl
      have p0_2 := (HX0.out.below Bz).cell 2 (.bool false) rfl
      have p0_3 := (HX0.out.below Bz).cell 3 (.slice none 0 0) rfl
      have f0_0 := (HX0.out.below Bz).frozen 0
      have f0_1 := (HX0.out.below Bz).frozen 1
      have f0_2 := (HX0.out.below Bz).frozen 2
      have f0_3 := (HX0.out.below Bz).frozen 3
      have y0 := (HX0.out.below Bz).lt
      have p1_0 := (HX1.out.below Bz).cell 0 (.bool sS) rfl
      have p1_1 := (HX1.out.below Bz).cell 1 (.slice sA sl sc) rfl
      have p1_2 := (HX1.out.below Bz).cell 2 (.bool sS') rfl
      have p1_3 := (HX1.out.below Bz).cell 3 (.slice sA' sl' sc') rfl
      go_wp2_with fail
      (try simp only [Exit.inBlock, Exit.then])
      refine bodyPost_ret (by simp [results, Tryd.results33, go_sem, p0_0, p0_1, p0_2, p0_3]; try rfl) rfl ?_
      obtain ⟨V1, hW, x, kk, far, bel⟩ := store4 (.bool sS) (.slice sA sl sc) (.bool sS') (.slice sA' sl' sc') (HX0.out.below Bz) (fun _ e => by cases e) (fun _ e => by cases e) (fun _ e => by cases e) (fun _ e => by cases e)
      rw [← hW]
      clear hW
      replace hs := hs.k kk
      replace hB := bel w.heap.size w (by omega) (below_trans hB Bz)
      replace HX1 := Lib.hid (far _ _ _ (by omega) (HX1.out.below Bz))
      replace HX0 := Lib.hid x
      clear x kk far bel Bz
      have Bz := Below.refl V1.heap.size V1
      have hF := below_trans (c := V1) hB Bz
      exact ⟨_, _, _, _, _, _, _, _, rfl, by rw [← HEND.out]; exact RN.below hs (by go_grown), below_trans hF (by go_grown)⟩
end Go.Proofs.YtionhpangenhnaaDoor
