/-
  The reference of layer 1: Gcd, told of numbers. Written by wip/gen/r7.py.
-/
import Derived.Test.YtjlfcnkndndgaaaDoorR6
import Derived.Deep.LoopGhost
namespace Go.Proofs.YtjlfcnkndndgaaaDoor
open Go.RowKit Tw

theorem gcd_half_left {u v : Nat} (h : u % 2 = 0) (h' : v % 2 = 1) : Nat.gcd (u / 2) v = Nat.gcd u v := by
  obtain ⟨x, rfl⟩ : ∃ x, u = 2 * x := ⟨u / 2, by omega⟩
  rw [Nat.mul_div_cancel_left _ (by omega)]
  have hc : Nat.gcd 2 v = 1 := by
    rw [Nat.gcd_rec, h']; rfl
  exact (Nat.Coprime.gcd_mul_left_cancel x hc).symm
theorem gcd_half_right {u v : Nat} (h : v % 2 = 0) (h' : u % 2 = 1) : Nat.gcd u (v / 2) = Nat.gcd u v := by
  rw [Nat.gcd_comm, gcd_half_left h h', Nat.gcd_comm]
theorem gcd_sub_l {u v : Nat} (h : v ≤ u) : Nat.gcd (u - v) v = Nat.gcd u v := by
  obtain ⟨d, rfl⟩ : ∃ d, u = d + v := ⟨u - v, by omega⟩
  rw [Nat.add_sub_cancel]; simp
theorem gcd_sub_r {u v : Nat} (h : u ≤ v) : Nat.gcd u (v - u) = Nat.gcd u v := by
  rw [Nat.gcd_comm, gcd_sub_l h, Nat.gcd_comm]
/-- The lowest digit of the one form. -/
theorem C.first {w : World} {A : Option Addr} {c l u : Nat} (h : C w A c l u) (hl : 0 < l) : ∃ b off x, A = some ⟨b, off, none⟩ ∧ w.cell? ⟨b, off, none⟩ = some (.int .u64 ((x : Nat) : Int)) ∧ x % 2 = u % 2 := by
  obtain ⟨b, off, e, hc⟩ := h.1.cells (by show 0 < nl u; rw [h.2]; exact hl)
  refine ⟨b, off, dg (limbs u) 0, e, by simpa using hc 0 (by show 0 < nl u; rw [h.2]; exact hl), ?_⟩
  have hu : u ≠ 0 := by rintro rfl; have := h.2; rw [nl_zero] at this; omega
  have : dg (limbs u) 0 = u % B := by rw [limbs_pos hu]; rfl
  rw [this, B_eq]; omega
theorem C.pos {w : World} {A : Option Addr} {c l n : Nat} (h : C w A c l n) (hl : 0 < l) : n ≠ 0 := by
  rintro rfl
  have := h.2
  rw [nl_zero] at this
  omega
theorem C.zero {w : World} {A : Option Addr} {c n : Nat} (h : C w A c 0 n) : n = 0 := nl_eq_zero.1 h.2
theorem C.zero' {w : World} {A : Option Addr} {c l n : Nat} (h : C w A c l n) (hl : l = 0) : n = 0 := by subst hl; exact h.zero
theorem C.len {w : World} {A : Option Addr} {c l n m : Nat} (h : C w A c l n) (hn : n < B ^ m) : l ≤ m := by rw [← h.2]; exact nl_le_of_lt hn
/-- Two numbers, and what is left of them. -/
structure QSt (w wr : World) (a b k u v : Nat) (A A' : Option Addr) (c c' l l' : Nat) : Prop where
  cu : C wr A c l u
  cv : C wr A' c' l' v
  below : Below w.heap.size w wr
/-- Lowered together. -/
def QRel (w : World) (a b M n : Nat) (x y t : Value) (wr : World) : Prop :=
  ∃ (k u v : Nat) (A A' : Option Addr) (c c' l l' : Nat), x = .slice A l c ∧ y = .slice A' l' c' ∧ t = .int .i64 (k : Int) ∧ n = u + v ∧ 2 ^ k * u = a ∧ 2 ^ k * v = b ∧ (k = 0 ∨ k ≤ M) ∧ QSt w wr a b k u v A A' c c' l l'
def QRel2 (w : World) (a b g n : Nat) (x y : Value) (wr : World) : Prop :=
  ∃ (u v : Nat) (A A' : Option Addr) (c c' l l' : Nat), x = .slice A l c ∧ y = .slice A' l' c' ∧ n = u + v ∧ u ≤ a ∧ v ≤ b ∧ Nat.gcd u v = g ∧ (u = 0 ∨ v = 0 ∨ u % 2 = 1 ∨ v % 2 = 1) ∧ QSt w wr a b 0 u v A A' c c' l l'
set_option maxRecDepth 100000 in
set_option maxHeartbeats 8000000 in
theorem gcd_r {w : World} {A A' : Option Addr} {c c' l l' a b : Nat} (h : V w A c l a) (h' : V w A' c' l' b) (hl : l ≤ 2000) (hl' : l' ≤ 2000) :
    Calls Tryd.prog 14 #[.slice A l c, .slice A' l' c'] w (Tells w (Nat.gcd a b) (2 * (l + l') + 20000)) := by
  have hn := h.lt
  have hn' := h'.lt
  go_enter Tryd.func14, Tryd.ntmps14
  go_wp2_with fail
  refine (small_v h (by omega)).mono ?_
  rintro e w1 ⟨A1, c1, l1, rfl, h1, b1⟩
  have s1 := h1.small hn
  go_wp2_with fail
  refine (large_d h1 (by omega)).mono ?_
  rintro e w2 ⟨A2, c2, l2, rfl, h2, m2, b2⟩
  replace b2 := below_trans b1 b2
  go_wp2_with fail
  refine (small_v (h'.below b2) (by omega)).mono ?_
  rintro e w3 ⟨A3, c3, l3, rfl, h3, b3⟩
  have s3 := h3.small hn'
  go_wp2_with fail
  refine (large_d h3 (by omega)).mono ?_
  rintro e w4 ⟨A4, c4, l4, rfl, h4, m4, b4⟩
  replace b4 := below_trans b3 b4
  replace h2 := h2.below b4
  replace b4 := below_trans b2 b4
  have HN := Lib.hid hn
  have HN' := Lib.hid hn'
  have hpl : ∀ m u, m * u = a → u ≠ 0 → True := fun _ _ _ _ => trivial
  clear h h' h1 h3 hn hn' b1 b2 b3 s1 s3 m2 m4 hpl
  have HST : Hid (QSt w w4 a b 0 a b A2 A4 c2 c4 l2 l4) := ⟨h2, h4, b4⟩
  clear h2 h4 b4
  go_wp2_with fail
  go_loopg [5, 6, 7] (a + b) (fun n x y t wr => QRel w a b (64 * l) n x y t wr)
  case atStart => exact ⟨0, a, b, A2, A4, c2, c4, l2, l4, rfl, rfl, rfl, rfl, by simp, by simp, .inl rfl, HST.out⟩
  case round =>
    clear HST
    obtain ⟨k, u, v, A5, A6, c5, c6, l5, l6, rfl, rfl, rfl, hnn, hka, hkb, hkk, hst⟩ := hrel
    have hkb2 : k ≤ 128000 := by omega
    have hle : u ≤ a := by rw [← hka]; exact Nat.le_mul_of_pos_left _ (Nat.pow_pos (by omega))
    have hle' : v ≤ b := by rw [← hkb]; exact Nat.le_mul_of_pos_left _ (Nat.pow_pos (by omega))
    have hl5 : l5 ≤ l := hst.cu.len (Nat.lt_of_le_of_lt hle HN.out)
    have hl6 : l6 ≤ l' := hst.cv.len (Nat.lt_of_le_of_lt hle' HN'.out)
    have HKA := Lib.hid hka
    have HKB := Lib.hid hkb
    have HNN := Lib.hid hnn
    have HS := Lib.hid hst
    clear hka hkb hnn hst
    by_cases g1 : 0 < l5
    · obtain ⟨bu, ou, xu, rfl, cu, pu⟩ := HS.out.cu.first g1
      by_cases g2 : 0 < l6
      · obtain ⟨bv, ov, xv, rfl, cv, pv⟩ := HS.out.cv.first g2
        by_cases g3 : u % 2 = 0
        · have t3 : (((xu : Int) % 2) == 0) = true := by simp; omega
          by_cases g4 : v % 2 = 0
          · have t4 : (((xv : Int) % 2) == 0) = true := by simp; omega
            have hu0 := HS.out.cu.pos g1
            have G3 := Lib.hid g3
            have G4 := Lib.hid g4
            have hk64 : k + 1 ≤ 64 * l := by
              have h1 : 2 ^ (k + 1) ≤ a := by
                rw [← HKA.out, Nat.pow_succ]
                exact Nat.mul_le_mul_left _ (by omega)
              have h2 : 2 ^ (k + 1) < 2 ^ (64 * l) := by
                refine Nat.lt_of_le_of_lt h1 ?_
                rw [Nat.pow_mul]; exact HN.out
              exact Nat.le_of_lt ((Nat.pow_lt_pow_iff_right (by omega)).1 h2)
            have hle2 : u / 2 ≤ u := by omega
            clear pu pv g3 g4 hle hle'
            go_wp2_with fail
            refine (shr_r 1 HS.out.cu.v (by omega) (by omega) (by omega)).mono ?_
            rintro e w5 ⟨A7, c7, l7, rfl, h7, m7, b7⟩
            have h6 := HS.out.cv.below b7
            have b6 := below_trans HS.out.below b7
            clear HS cu cv b7
            go_wp2_with fail
            refine (shr_r 1 h6.v (by omega) (by omega) (by omega)).mono ?_
            rintro e w6 ⟨A8, c8, l8, rfl, h8, m8, b8⟩
            have h9 := h7.below b8
            have HST2 : Hid (QSt w w6 a b (k + 1) (u / 2) (v / 2) A7 A8 c7 c8 l7 l8) := ⟨h9, h8, below_trans b6 b8⟩
            clear h6 h7 h8 h9 b6 b8
            go_wp2_with fail
            go_roundg (u / 2 + v / 2)
            case measure => rw [HNN.out]; omega
            case rel => exact ⟨k + 1, u / 2, v / 2, A7, A8, c7, c8, l7, l8, rfl, rfl, by go_num, rfl, by rw [← HKA.out, Nat.pow_succ, Nat.mul_assoc, Nat.mul_div_cancel' (Nat.dvd_of_mod_eq_zero G3.out)], by rw [← HKB.out, Nat.pow_succ, Nat.mul_assoc, Nat.mul_div_cancel' (Nat.dvd_of_mod_eq_zero G4.out)], .inr hk64, HST2.out⟩
          · have t4 : (((xv : Int) % 2) == 0) = false := by simp; omega
            have HP : Hid (u = 0 ∨ v = 0 ∨ u % 2 = 1 ∨ v % 2 = 1) := Lib.hid (by omega)
            clear pu pv g3 g4
            have HG : Hid (2 ^ k * Nat.gcd u v = Nat.gcd a b) := by show _ = _; rw [← HKA.out, ← HKB.out, Nat.gcd_mul_left]
            obtain ⟨wo, rfl⟩ : ∃ wo : World, wo = wr := ⟨_, rfl⟩
            clear HKA HKB HNN
            go_wp2_with fail
            go_loopg [5, 6] (u + v) (fun n x y wr => QRel2 w a b (Nat.gcd u v) n x y wr)
            case atStart => exact ⟨u, v, _, _, c5, c6, l5, l6, rfl, rfl, rfl, hle, hle', rfl, HP.out, ⟨HS.out.cu, HS.out.cv, HS.out.below⟩⟩
            case round =>
              clear HS HP hle hle' hl5 hl6
              obtain ⟨u2, v2, A9, A10, c9, c10, l9, l10, rfl, rfl, hn2, hu2, hv2, hg2, hp2, hst2⟩ := hrel
              have hl9 : l9 ≤ l := hst2.cu.len (Nat.lt_of_le_of_lt hu2 HN.out)
              have hl10 : l10 ≤ l' := hst2.cv.len (Nat.lt_of_le_of_lt hv2 HN'.out)
              have HG2 := Lib.hid hg2
              have HP2 := Lib.hid hp2
              have HN2 := Lib.hid hn2
              have HS2 := Lib.hid hst2
              clear hg2 hp2 hn2 hst2
              by_cases f1 : 0 < l9
              · obtain ⟨bu2, ou2, xu2, rfl, cu2, pu2⟩ := HS2.out.cu.first f1
                by_cases f2 : 0 < l10
                · obtain ⟨bv2, ov2, xv2, rfl, cv2, pv2⟩ := HS2.out.cv.first f2
                  have hu0 := HS2.out.cu.pos f1
                  have hv0 := HS2.out.cv.pos f2
                  have hpp := HP2.out
                  by_cases f3 : u2 % 2 = 0
                  · have t5 : (((xu2 : Int) % 2) == 0) = true := by simp; omega
                    have HE : Hid (Nat.gcd (u2 / 2) v2 = Nat.gcd u v) := by show _ = _; rw [gcd_half_left f3 (by omega)]; exact HG2.out
                    have HV : Hid (v2 % 2 = 1) := Lib.hid (by omega)
                    clear pu2 pv2 f3 hpp
                    go_wp2_with fail
                    refine (shr_r 1 HS2.out.cu.v (by omega) (by omega) (by omega)).mono ?_
                    rintro e w5 ⟨A7, c7, l7, rfl, h7, m7, b7⟩
                    have HST3 : Hid (QSt w w5 a b 0 (u2 / 2) v2 A7 _ c7 c10 l7 l10) := ⟨h7, HS2.out.cv.below b7, below_trans HS2.out.below b7⟩
                    clear h7 b7 cu2 cv2
                    go_wp2_with fail
                    go_roundg (u2 / 2 + v2)
                    case measure => rw [HN2.out]; omega
                    case rel => exact ⟨u2 / 2, v2, _, _, c7, c10, l7, l10, rfl, rfl, rfl, by omega, hv2, HE.out, .inr (.inr (.inr HV.out)), HST3.out⟩
                  · have t5 : (((xu2 : Int) % 2) == 0) = false := by simp; omega
                    have HU : Hid (u2 % 2 = 1) := Lib.hid (by omega)
                    by_cases f4 : v2 % 2 = 0
                    · have t6 : (((xv2 : Int) % 2) == 0) = true := by simp; omega
                      have HE : Hid (Nat.gcd u2 (v2 / 2) = Nat.gcd u v) := by show _ = _; rw [gcd_half_right f4 HU.out]; exact HG2.out
                      clear pu2 pv2 f3 f4 hpp
                      go_wp2_with fail
                      refine (shr_r 1 HS2.out.cv.v (by omega) (by omega) (by omega)).mono ?_
                      rintro e w5 ⟨A7, c7, l7, rfl, h7, m7, b7⟩
                      have HST3 : Hid (QSt w w5 a b 0 u2 (v2 / 2) _ A7 c9 c7 l9 l7) := ⟨HS2.out.cu.below b7, h7, below_trans HS2.out.below b7⟩
                      clear h7 b7 cu2 cv2
                      go_wp2_with fail
                      go_roundg (u2 + v2 / 2)
                      case measure => rw [HN2.out]; omega
                      case rel => exact ⟨u2, v2 / 2, _, _, c9, c7, l9, l7, rfl, rfl, rfl, hu2, by omega, HE.out, .inr (.inr (.inl HU.out)), HST3.out⟩
                    · have t6 : (((xv2 : Int) % 2) == 0) = false := by simp; omega
                      have HV : Hid (v2 % 2 = 1) := Lib.hid (by omega)
                      clear pu2 pv2 f3 f4 hpp
                      by_cases f5 : u2 < v2
                      · have HE : Hid (Nat.gcd u2 (v2 - u2) = Nat.gcd u v) := by show _ = _; rw [gcd_sub_r (by omega)]; exact HG2.out
                        go_wp2_with fail
                        refine (cmp_r HS2.out.cu.v HS2.out.cv.v (by omega) (by omega) (-1) (cmpI_nat_lt f5)).mono ?_
                        rintro e w5 ⟨rfl, b5⟩
                        have h5 := HS2.out.cu.below b5
                        have h6 := HS2.out.cv.below b5
                        have b6 := below_trans HS2.out.below b5
                        clear cu2 cv2 HS2 b5
                        go_wp2_with fail
                        refine (sub_r h6.v h5.v (by omega) (by omega)).mono ?_
                        rintro e w6 ⟨A7, c7, l7, rfl, h7, m7, b7⟩
                        have HST3 : Hid (QSt w w6 a b 0 u2 (v2 - u2) _ A7 c9 c7 l9 l7) := ⟨h5.below b7, h7, below_trans b6 b7⟩
                        clear h5 h6 h7 b6 b7
                        go_wp2_with fail
                        go_roundg (u2 + (v2 - u2))
                        case measure => rw [HN2.out]; omega
                        case rel => exact ⟨u2, v2 - u2, _, _, c9, c7, l9, l7, rfl, rfl, rfl, hu2, by omega, HE.out, .inr (.inr (.inl HU.out)), HST3.out⟩
                      · have HE : Hid (Nat.gcd (u2 - v2) v2 = Nat.gcd u v) := by show _ = _; rw [gcd_sub_l (by omega)]; exact HG2.out
                        obtain ⟨z, hz⟩ : ∃ z, cmpI (u2 : Int) (v2 : Int) = z := ⟨_, rfl⟩
                        have hz0 : 0 ≤ z := by rw [← hz]; unfold cmpI; rw [if_neg (by omega)]; split <;> omega
                        have HZ := Lib.hid hz
                        clear hz
                        go_wp2_with fail
                        refine (cmp_r HS2.out.cu.v HS2.out.cv.v (by omega) (by omega) z HZ.out).mono ?_
                        rintro e w5 ⟨rfl, b5⟩
                        have h5 := HS2.out.cu.below b5
                        have h6 := HS2.out.cv.below b5
                        have b6 := below_trans HS2.out.below b5
                        clear cu2 cv2 HS2 b5
                        go_wp2_with fail
                        refine (sub_r h5.v h6.v (by omega) (by omega)).mono ?_
                        rintro e w6 ⟨A7, c7, l7, rfl, h7, m7, b7⟩
                        have HST3 : Hid (QSt w w6 a b 0 (u2 - v2) v2 A7 _ c7 c10 l7 l10) := ⟨h7, h6.below b7, below_trans b6 b7⟩
                        clear h5 h6 h7 b6 b7
                        go_wp2_with fail
                        go_roundg (u2 - v2 + v2)
                        case measure => rw [HN2.out]; omega
                        case rel => exact ⟨u2 - v2, v2, _, _, c7, c10, l7, l10, rfl, rfl, rfl, by omega, hv2, HE.out, .inr (.inr (.inr HV.out)), HST3.out⟩
                · have hz2 : u2 = 0 ∨ v2 = 0 := .inr (HS2.out.cv.zero' (by omega))
                  clear pu2
                  have hsum : shlv (u2 + v2) (k : Int) = Nat.gcd a b := by
                    rw [← HG.out, ← HG2.out]
                    have : Nat.gcd u2 v2 = u2 + v2 := by
                      rcases hz2 with hh | hh
                      · rw [hh, Nat.gcd_zero_left, Nat.zero_add]
                      · rw [hh, Nat.gcd_zero_right, Nat.add_zero]
                    rw [this]
                    unfold shlv
                    rw [if_neg (by omega), Nat.mul_comm]
                    rfl
                  have HSUM := Lib.hid hsum
                  clear hsum hz2
                  go_wp2_with fail
                  refine (add_r HS2.out.cu.v HS2.out.cv.v (by omega) (by omega)).mono ?_
                  rintro e w5 ⟨A7, c7, l7, rfl, h7, m7, b7⟩
                  go_wp2_with fail
                  refine (shl_r (k : Int) h7.v (by omega) (by omega)).mono ?_
                  rintro e w6 ⟨A8, c8, l8, rfl, h8, m8, b8⟩
                  go_wp2_with fail
                  go_ret
                  exact ⟨A8, c8, l8, rfl, by rw [← HSUM.out]; exact h8, by omega, below_trans HS2.out.below (below_trans b7 b8)⟩
              · have hz2 : u2 = 0 ∨ v2 = 0 := .inl (HS2.out.cu.zero' (by omega))
                have hsum : shlv (u2 + v2) (k : Int) = Nat.gcd a b := by
                  rw [← HG.out, ← HG2.out]
                  have : Nat.gcd u2 v2 = u2 + v2 := by
                    rcases hz2 with hh | hh
                    · rw [hh, Nat.gcd_zero_left, Nat.zero_add]
                    · rw [hh, Nat.gcd_zero_right, Nat.add_zero]
                  rw [this]
                  unfold shlv
                  rw [if_neg (by omega), Nat.mul_comm]
                  rfl
                have HSUM := Lib.hid hsum
                clear hsum hz2
                go_wp2_with fail
                refine (add_r HS2.out.cu.v HS2.out.cv.v (by omega) (by omega)).mono ?_
                rintro e w5 ⟨A7, c7, l7, rfl, h7, m7, b7⟩
                go_wp2_with fail
                refine (shl_r (k : Int) h7.v (by omega) (by omega)).mono ?_
                rintro e w6 ⟨A8, c8, l8, rfl, h8, m8, b8⟩
                go_wp2_with fail
                go_ret
                exact ⟨A8, c8, l8, rfl, by rw [← HSUM.out]; exact h8, by omega, below_trans HS2.out.below (below_trans b7 b8)⟩
        · have t3 : (((xu : Int) % 2) == 0) = false := by simp; omega
          have HP : Hid (u = 0 ∨ v = 0 ∨ u % 2 = 1 ∨ v % 2 = 1) := Lib.hid (by omega)
          clear pu pv g3
          have HG : Hid (2 ^ k * Nat.gcd u v = Nat.gcd a b) := by show _ = _; rw [← HKA.out, ← HKB.out, Nat.gcd_mul_left]
          obtain ⟨wo, rfl⟩ : ∃ wo : World, wo = wr := ⟨_, rfl⟩
          clear HKA HKB HNN
          go_wp2_with fail
          go_loopg [5, 6] (u + v) (fun n x y wr => QRel2 w a b (Nat.gcd u v) n x y wr)
          case atStart => exact ⟨u, v, _, _, c5, c6, l5, l6, rfl, rfl, rfl, hle, hle', rfl, HP.out, ⟨HS.out.cu, HS.out.cv, HS.out.below⟩⟩
          case round =>
            clear HS HP hle hle' hl5 hl6
            obtain ⟨u2, v2, A9, A10, c9, c10, l9, l10, rfl, rfl, hn2, hu2, hv2, hg2, hp2, hst2⟩ := hrel
            have hl9 : l9 ≤ l := hst2.cu.len (Nat.lt_of_le_of_lt hu2 HN.out)
            have hl10 : l10 ≤ l' := hst2.cv.len (Nat.lt_of_le_of_lt hv2 HN'.out)
            have HG2 := Lib.hid hg2
            have HP2 := Lib.hid hp2
            have HN2 := Lib.hid hn2
            have HS2 := Lib.hid hst2
            clear hg2 hp2 hn2 hst2
            by_cases f1 : 0 < l9
            · obtain ⟨bu2, ou2, xu2, rfl, cu2, pu2⟩ := HS2.out.cu.first f1
              by_cases f2 : 0 < l10
              · obtain ⟨bv2, ov2, xv2, rfl, cv2, pv2⟩ := HS2.out.cv.first f2
                have hu0 := HS2.out.cu.pos f1
                have hv0 := HS2.out.cv.pos f2
                have hpp := HP2.out
                by_cases f3 : u2 % 2 = 0
                · have t5 : (((xu2 : Int) % 2) == 0) = true := by simp; omega
                  have HE : Hid (Nat.gcd (u2 / 2) v2 = Nat.gcd u v) := by show _ = _; rw [gcd_half_left f3 (by omega)]; exact HG2.out
                  have HV : Hid (v2 % 2 = 1) := Lib.hid (by omega)
                  clear pu2 pv2 f3 hpp
                  go_wp2_with fail
                  refine (shr_r 1 HS2.out.cu.v (by omega) (by omega) (by omega)).mono ?_
                  rintro e w5 ⟨A7, c7, l7, rfl, h7, m7, b7⟩
                  have HST3 : Hid (QSt w w5 a b 0 (u2 / 2) v2 A7 _ c7 c10 l7 l10) := ⟨h7, HS2.out.cv.below b7, below_trans HS2.out.below b7⟩
                  clear h7 b7 cu2 cv2
                  go_wp2_with fail
                  go_roundg (u2 / 2 + v2)
                  case measure => rw [HN2.out]; omega
                  case rel => exact ⟨u2 / 2, v2, _, _, c7, c10, l7, l10, rfl, rfl, rfl, by omega, hv2, HE.out, .inr (.inr (.inr HV.out)), HST3.out⟩
                · have t5 : (((xu2 : Int) % 2) == 0) = false := by simp; omega
                  have HU : Hid (u2 % 2 = 1) := Lib.hid (by omega)
                  by_cases f4 : v2 % 2 = 0
                  · have t6 : (((xv2 : Int) % 2) == 0) = true := by simp; omega
                    have HE : Hid (Nat.gcd u2 (v2 / 2) = Nat.gcd u v) := by show _ = _; rw [gcd_half_right f4 HU.out]; exact HG2.out
                    clear pu2 pv2 f3 f4 hpp
                    go_wp2_with fail
                    refine (shr_r 1 HS2.out.cv.v (by omega) (by omega) (by omega)).mono ?_
                    rintro e w5 ⟨A7, c7, l7, rfl, h7, m7, b7⟩
                    have HST3 : Hid (QSt w w5 a b 0 u2 (v2 / 2) _ A7 c9 c7 l9 l7) := ⟨HS2.out.cu.below b7, h7, below_trans HS2.out.below b7⟩
                    clear h7 b7 cu2 cv2
                    go_wp2_with fail
                    go_roundg (u2 + v2 / 2)
                    case measure => rw [HN2.out]; omega
                    case rel => exact ⟨u2, v2 / 2, _, _, c9, c7, l9, l7, rfl, rfl, rfl, hu2, by omega, HE.out, .inr (.inr (.inl HU.out)), HST3.out⟩
                  · have t6 : (((xv2 : Int) % 2) == 0) = false := by simp; omega
                    have HV : Hid (v2 % 2 = 1) := Lib.hid (by omega)
                    clear pu2 pv2 f3 f4 hpp
                    by_cases f5 : u2 < v2
                    · have HE : Hid (Nat.gcd u2 (v2 - u2) = Nat.gcd u v) := by show _ = _; rw [gcd_sub_r (by omega)]; exact HG2.out
                      go_wp2_with fail
                      refine (cmp_r HS2.out.cu.v HS2.out.cv.v (by omega) (by omega) (-1) (cmpI_nat_lt f5)).mono ?_
                      rintro e w5 ⟨rfl, b5⟩
                      have h5 := HS2.out.cu.below b5
                      have h6 := HS2.out.cv.below b5
                      have b6 := below_trans HS2.out.below b5
                      clear cu2 cv2 HS2 b5
                      go_wp2_with fail
                      refine (sub_r h6.v h5.v (by omega) (by omega)).mono ?_
                      rintro e w6 ⟨A7, c7, l7, rfl, h7, m7, b7⟩
                      have HST3 : Hid (QSt w w6 a b 0 u2 (v2 - u2) _ A7 c9 c7 l9 l7) := ⟨h5.below b7, h7, below_trans b6 b7⟩
                      clear h5 h6 h7 b6 b7
                      go_wp2_with fail
                      go_roundg (u2 + (v2 - u2))
                      case measure => rw [HN2.out]; omega
                      case rel => exact ⟨u2, v2 - u2, _, _, c9, c7, l9, l7, rfl, rfl, rfl, hu2, by omega, HE.out, .inr (.inr (.inl HU.out)), HST3.out⟩
                    · have HE : Hid (Nat.gcd (u2 - v2) v2 = Nat.gcd u v) := by show _ = _; rw [gcd_sub_l (by omega)]; exact HG2.out
                      obtain ⟨z, hz⟩ : ∃ z, cmpI (u2 : Int) (v2 : Int) = z := ⟨_, rfl⟩
                      have hz0 : 0 ≤ z := by rw [← hz]; unfold cmpI; rw [if_neg (by omega)]; split <;> omega
                      have HZ := Lib.hid hz
                      clear hz
                      go_wp2_with fail
                      refine (cmp_r HS2.out.cu.v HS2.out.cv.v (by omega) (by omega) z HZ.out).mono ?_
                      rintro e w5 ⟨rfl, b5⟩
                      have h5 := HS2.out.cu.below b5
                      have h6 := HS2.out.cv.below b5
                      have b6 := below_trans HS2.out.below b5
                      clear cu2 cv2 HS2 b5
                      go_wp2_with fail
                      refine (sub_r h5.v h6.v (by omega) (by omega)).mono ?_
                      rintro e w6 ⟨A7, c7, l7, rfl, h7, m7, b7⟩
                      have HST3 : Hid (QSt w w6 a b 0 (u2 - v2) v2 A7 _ c7 c10 l7 l10) := ⟨h7, h6.below b7, below_trans b6 b7⟩
                      clear h5 h6 h7 b6 b7
                      go_wp2_with fail
                      go_roundg (u2 - v2 + v2)
                      case measure => rw [HN2.out]; omega
                      case rel => exact ⟨u2 - v2, v2, _, _, c7, c10, l7, l10, rfl, rfl, rfl, by omega, hv2, HE.out, .inr (.inr (.inr HV.out)), HST3.out⟩
              · have hz2 : u2 = 0 ∨ v2 = 0 := .inr (HS2.out.cv.zero' (by omega))
                clear pu2
                have hsum : shlv (u2 + v2) (k : Int) = Nat.gcd a b := by
                  rw [← HG.out, ← HG2.out]
                  have : Nat.gcd u2 v2 = u2 + v2 := by
                    rcases hz2 with hh | hh
                    · rw [hh, Nat.gcd_zero_left, Nat.zero_add]
                    · rw [hh, Nat.gcd_zero_right, Nat.add_zero]
                  rw [this]
                  unfold shlv
                  rw [if_neg (by omega), Nat.mul_comm]
                  rfl
                have HSUM := Lib.hid hsum
                clear hsum hz2
                go_wp2_with fail
                refine (add_r HS2.out.cu.v HS2.out.cv.v (by omega) (by omega)).mono ?_
                rintro e w5 ⟨A7, c7, l7, rfl, h7, m7, b7⟩
                go_wp2_with fail
                refine (shl_r (k : Int) h7.v (by omega) (by omega)).mono ?_
                rintro e w6 ⟨A8, c8, l8, rfl, h8, m8, b8⟩
                go_wp2_with fail
                go_ret
                exact ⟨A8, c8, l8, rfl, by rw [← HSUM.out]; exact h8, by omega, below_trans HS2.out.below (below_trans b7 b8)⟩
            · have hz2 : u2 = 0 ∨ v2 = 0 := .inl (HS2.out.cu.zero' (by omega))
              have hsum : shlv (u2 + v2) (k : Int) = Nat.gcd a b := by
                rw [← HG.out, ← HG2.out]
                have : Nat.gcd u2 v2 = u2 + v2 := by
                  rcases hz2 with hh | hh
                  · rw [hh, Nat.gcd_zero_left, Nat.zero_add]
                  · rw [hh, Nat.gcd_zero_right, Nat.add_zero]
                rw [this]
                unfold shlv
                rw [if_neg (by omega), Nat.mul_comm]
                rfl
              have HSUM := Lib.hid hsum
              clear hsum hz2
              go_wp2_with fail
              refine (add_r HS2.out.cu.v HS2.out.cv.v (by omega) (by omega)).mono ?_
              rintro e w5 ⟨A7, c7, l7, rfl, h7, m7, b7⟩
              go_wp2_with fail
              refine (shl_r (k : Int) h7.v (by omega) (by omega)).mono ?_
              rintro e w6 ⟨A8, c8, l8, rfl, h8, m8, b8⟩
              go_wp2_with fail
              go_ret
              exact ⟨A8, c8, l8, rfl, by rw [← HSUM.out]; exact h8, by omega, below_trans HS2.out.below (below_trans b7 b8)⟩
      · have HP : Hid (u = 0 ∨ v = 0 ∨ u % 2 = 1 ∨ v % 2 = 1) := Lib.hid (.inr (.inl (HS.out.cv.zero' (by omega))))
        clear pu
        have HG : Hid (2 ^ k * Nat.gcd u v = Nat.gcd a b) := by show _ = _; rw [← HKA.out, ← HKB.out, Nat.gcd_mul_left]
        obtain ⟨wo, rfl⟩ : ∃ wo : World, wo = wr := ⟨_, rfl⟩
        clear HKA HKB HNN
        go_wp2_with fail
        go_loopg [5, 6] (u + v) (fun n x y wr => QRel2 w a b (Nat.gcd u v) n x y wr)
        case atStart => exact ⟨u, v, _, _, c5, c6, l5, l6, rfl, rfl, rfl, hle, hle', rfl, HP.out, ⟨HS.out.cu, HS.out.cv, HS.out.below⟩⟩
        case round =>
          clear HS HP hle hle' hl5 hl6
          obtain ⟨u2, v2, A9, A10, c9, c10, l9, l10, rfl, rfl, hn2, hu2, hv2, hg2, hp2, hst2⟩ := hrel
          have hl9 : l9 ≤ l := hst2.cu.len (Nat.lt_of_le_of_lt hu2 HN.out)
          have hl10 : l10 ≤ l' := hst2.cv.len (Nat.lt_of_le_of_lt hv2 HN'.out)
          have HG2 := Lib.hid hg2
          have HP2 := Lib.hid hp2
          have HN2 := Lib.hid hn2
          have HS2 := Lib.hid hst2
          clear hg2 hp2 hn2 hst2
          by_cases f1 : 0 < l9
          · obtain ⟨bu2, ou2, xu2, rfl, cu2, pu2⟩ := HS2.out.cu.first f1
            by_cases f2 : 0 < l10
            · obtain ⟨bv2, ov2, xv2, rfl, cv2, pv2⟩ := HS2.out.cv.first f2
              have hu0 := HS2.out.cu.pos f1
              have hv0 := HS2.out.cv.pos f2
              have hpp := HP2.out
              by_cases f3 : u2 % 2 = 0
              · have t5 : (((xu2 : Int) % 2) == 0) = true := by simp; omega
                have HE : Hid (Nat.gcd (u2 / 2) v2 = Nat.gcd u v) := by show _ = _; rw [gcd_half_left f3 (by omega)]; exact HG2.out
                have HV : Hid (v2 % 2 = 1) := Lib.hid (by omega)
                clear pu2 pv2 f3 hpp
                go_wp2_with fail
                refine (shr_r 1 HS2.out.cu.v (by omega) (by omega) (by omega)).mono ?_
                rintro e w5 ⟨A7, c7, l7, rfl, h7, m7, b7⟩
                have HST3 : Hid (QSt w w5 a b 0 (u2 / 2) v2 A7 _ c7 c10 l7 l10) := ⟨h7, HS2.out.cv.below b7, below_trans HS2.out.below b7⟩
                clear h7 b7 cu2 cv2
                go_wp2_with fail
                go_roundg (u2 / 2 + v2)
                case measure => rw [HN2.out]; omega
                case rel => exact ⟨u2 / 2, v2, _, _, c7, c10, l7, l10, rfl, rfl, rfl, by omega, hv2, HE.out, .inr (.inr (.inr HV.out)), HST3.out⟩
              · have t5 : (((xu2 : Int) % 2) == 0) = false := by simp; omega
                have HU : Hid (u2 % 2 = 1) := Lib.hid (by omega)
                by_cases f4 : v2 % 2 = 0
                · have t6 : (((xv2 : Int) % 2) == 0) = true := by simp; omega
                  have HE : Hid (Nat.gcd u2 (v2 / 2) = Nat.gcd u v) := by show _ = _; rw [gcd_half_right f4 HU.out]; exact HG2.out
                  clear pu2 pv2 f3 f4 hpp
                  go_wp2_with fail
                  refine (shr_r 1 HS2.out.cv.v (by omega) (by omega) (by omega)).mono ?_
                  rintro e w5 ⟨A7, c7, l7, rfl, h7, m7, b7⟩
                  have HST3 : Hid (QSt w w5 a b 0 u2 (v2 / 2) _ A7 c9 c7 l9 l7) := ⟨HS2.out.cu.below b7, h7, below_trans HS2.out.below b7⟩
                  clear h7 b7 cu2 cv2
                  go_wp2_with fail
                  go_roundg (u2 + v2 / 2)
                  case measure => rw [HN2.out]; omega
                  case rel => exact ⟨u2, v2 / 2, _, _, c9, c7, l9, l7, rfl, rfl, rfl, hu2, by omega, HE.out, .inr (.inr (.inl HU.out)), HST3.out⟩
                · have t6 : (((xv2 : Int) % 2) == 0) = false := by simp; omega
                  have HV : Hid (v2 % 2 = 1) := Lib.hid (by omega)
                  clear pu2 pv2 f3 f4 hpp
                  by_cases f5 : u2 < v2
                  · have HE : Hid (Nat.gcd u2 (v2 - u2) = Nat.gcd u v) := by show _ = _; rw [gcd_sub_r (by omega)]; exact HG2.out
                    go_wp2_with fail
                    refine (cmp_r HS2.out.cu.v HS2.out.cv.v (by omega) (by omega) (-1) (cmpI_nat_lt f5)).mono ?_
                    rintro e w5 ⟨rfl, b5⟩
                    have h5 := HS2.out.cu.below b5
                    have h6 := HS2.out.cv.below b5
                    have b6 := below_trans HS2.out.below b5
                    clear cu2 cv2 HS2 b5
                    go_wp2_with fail
                    refine (sub_r h6.v h5.v (by omega) (by omega)).mono ?_
                    rintro e w6 ⟨A7, c7, l7, rfl, h7, m7, b7⟩
                    have HST3 : Hid (QSt w w6 a b 0 u2 (v2 - u2) _ A7 c9 c7 l9 l7) := ⟨h5.below b7, h7, below_trans b6 b7⟩
                    clear h5 h6 h7 b6 b7
                    go_wp2_with fail
                    go_roundg (u2 + (v2 - u2))
                    case measure => rw [HN2.out]; omega
                    case rel => exact ⟨u2, v2 - u2, _, _, c9, c7, l9, l7, rfl, rfl, rfl, hu2, by omega, HE.out, .inr (.inr (.inl HU.out)), HST3.out⟩
                  · have HE : Hid (Nat.gcd (u2 - v2) v2 = Nat.gcd u v) := by show _ = _; rw [gcd_sub_l (by omega)]; exact HG2.out
                    obtain ⟨z, hz⟩ : ∃ z, cmpI (u2 : Int) (v2 : Int) = z := ⟨_, rfl⟩
                    have hz0 : 0 ≤ z := by rw [← hz]; unfold cmpI; rw [if_neg (by omega)]; split <;> omega
                    have HZ := Lib.hid hz
                    clear hz
                    go_wp2_with fail
                    refine (cmp_r HS2.out.cu.v HS2.out.cv.v (by omega) (by omega) z HZ.out).mono ?_
                    rintro e w5 ⟨rfl, b5⟩
                    have h5 := HS2.out.cu.below b5
                    have h6 := HS2.out.cv.below b5
                    have b6 := below_trans HS2.out.below b5
                    clear cu2 cv2 HS2 b5
                    go_wp2_with fail
                    refine (sub_r h5.v h6.v (by omega) (by omega)).mono ?_
                    rintro e w6 ⟨A7, c7, l7, rfl, h7, m7, b7⟩
                    have HST3 : Hid (QSt w w6 a b 0 (u2 - v2) v2 A7 _ c7 c10 l7 l10) := ⟨h7, h6.below b7, below_trans b6 b7⟩
                    clear h5 h6 h7 b6 b7
                    go_wp2_with fail
                    go_roundg (u2 - v2 + v2)
                    case measure => rw [HN2.out]; omega
                    case rel => exact ⟨u2 - v2, v2, _, _, c7, c10, l7, l10, rfl, rfl, rfl, by omega, hv2, HE.out, .inr (.inr (.inr HV.out)), HST3.out⟩
            · have hz2 : u2 = 0 ∨ v2 = 0 := .inr (HS2.out.cv.zero' (by omega))
              clear pu2
              have hsum : shlv (u2 + v2) (k : Int) = Nat.gcd a b := by
                rw [← HG.out, ← HG2.out]
                have : Nat.gcd u2 v2 = u2 + v2 := by
                  rcases hz2 with hh | hh
                  · rw [hh, Nat.gcd_zero_left, Nat.zero_add]
                  · rw [hh, Nat.gcd_zero_right, Nat.add_zero]
                rw [this]
                unfold shlv
                rw [if_neg (by omega), Nat.mul_comm]
                rfl
              have HSUM := Lib.hid hsum
              clear hsum hz2
              go_wp2_with fail
              refine (add_r HS2.out.cu.v HS2.out.cv.v (by omega) (by omega)).mono ?_
              rintro e w5 ⟨A7, c7, l7, rfl, h7, m7, b7⟩
              go_wp2_with fail
              refine (shl_r (k : Int) h7.v (by omega) (by omega)).mono ?_
              rintro e w6 ⟨A8, c8, l8, rfl, h8, m8, b8⟩
              go_wp2_with fail
              go_ret
              exact ⟨A8, c8, l8, rfl, by rw [← HSUM.out]; exact h8, by omega, below_trans HS2.out.below (below_trans b7 b8)⟩
          · have hz2 : u2 = 0 ∨ v2 = 0 := .inl (HS2.out.cu.zero' (by omega))
            have hsum : shlv (u2 + v2) (k : Int) = Nat.gcd a b := by
              rw [← HG.out, ← HG2.out]
              have : Nat.gcd u2 v2 = u2 + v2 := by
                rcases hz2 with hh | hh
                · rw [hh, Nat.gcd_zero_left, Nat.zero_add]
                · rw [hh, Nat.gcd_zero_right, Nat.add_zero]
              rw [this]
              unfold shlv
              rw [if_neg (by omega), Nat.mul_comm]
              rfl
            have HSUM := Lib.hid hsum
            clear hsum hz2
            go_wp2_with fail
            refine (add_r HS2.out.cu.v HS2.out.cv.v (by omega) (by omega)).mono ?_
            rintro e w5 ⟨A7, c7, l7, rfl, h7, m7, b7⟩
            go_wp2_with fail
            refine (shl_r (k : Int) h7.v (by omega) (by omega)).mono ?_
            rintro e w6 ⟨A8, c8, l8, rfl, h8, m8, b8⟩
            go_wp2_with fail
            go_ret
            exact ⟨A8, c8, l8, rfl, by rw [← HSUM.out]; exact h8, by omega, below_trans HS2.out.below (below_trans b7 b8)⟩
    · have HP : Hid (u = 0 ∨ v = 0 ∨ u % 2 = 1 ∨ v % 2 = 1) := Lib.hid (.inl (HS.out.cu.zero' (by omega)))
      have HG : Hid (2 ^ k * Nat.gcd u v = Nat.gcd a b) := by show _ = _; rw [← HKA.out, ← HKB.out, Nat.gcd_mul_left]
      obtain ⟨wo, rfl⟩ : ∃ wo : World, wo = wr := ⟨_, rfl⟩
      clear HKA HKB HNN
      go_wp2_with fail
      go_loopg [5, 6] (u + v) (fun n x y wr => QRel2 w a b (Nat.gcd u v) n x y wr)
      case atStart => exact ⟨u, v, _, _, c5, c6, l5, l6, rfl, rfl, rfl, hle, hle', rfl, HP.out, ⟨HS.out.cu, HS.out.cv, HS.out.below⟩⟩
      case round =>
        clear HS HP hle hle' hl5 hl6
        obtain ⟨u2, v2, A9, A10, c9, c10, l9, l10, rfl, rfl, hn2, hu2, hv2, hg2, hp2, hst2⟩ := hrel
        have hl9 : l9 ≤ l := hst2.cu.len (Nat.lt_of_le_of_lt hu2 HN.out)
        have hl10 : l10 ≤ l' := hst2.cv.len (Nat.lt_of_le_of_lt hv2 HN'.out)
        have HG2 := Lib.hid hg2
        have HP2 := Lib.hid hp2
        have HN2 := Lib.hid hn2
        have HS2 := Lib.hid hst2
        clear hg2 hp2 hn2 hst2
        by_cases f1 : 0 < l9
        · obtain ⟨bu2, ou2, xu2, rfl, cu2, pu2⟩ := HS2.out.cu.first f1
          by_cases f2 : 0 < l10
          · obtain ⟨bv2, ov2, xv2, rfl, cv2, pv2⟩ := HS2.out.cv.first f2
            have hu0 := HS2.out.cu.pos f1
            have hv0 := HS2.out.cv.pos f2
            have hpp := HP2.out
            by_cases f3 : u2 % 2 = 0
            · have t5 : (((xu2 : Int) % 2) == 0) = true := by simp; omega
              have HE : Hid (Nat.gcd (u2 / 2) v2 = Nat.gcd u v) := by show _ = _; rw [gcd_half_left f3 (by omega)]; exact HG2.out
              have HV : Hid (v2 % 2 = 1) := Lib.hid (by omega)
              clear pu2 pv2 f3 hpp
              go_wp2_with fail
              refine (shr_r 1 HS2.out.cu.v (by omega) (by omega) (by omega)).mono ?_
              rintro e w5 ⟨A7, c7, l7, rfl, h7, m7, b7⟩
              have HST3 : Hid (QSt w w5 a b 0 (u2 / 2) v2 A7 _ c7 c10 l7 l10) := ⟨h7, HS2.out.cv.below b7, below_trans HS2.out.below b7⟩
              clear h7 b7 cu2 cv2
              go_wp2_with fail
              go_roundg (u2 / 2 + v2)
              case measure => rw [HN2.out]; omega
              case rel => exact ⟨u2 / 2, v2, _, _, c7, c10, l7, l10, rfl, rfl, rfl, by omega, hv2, HE.out, .inr (.inr (.inr HV.out)), HST3.out⟩
            · have t5 : (((xu2 : Int) % 2) == 0) = false := by simp; omega
              have HU : Hid (u2 % 2 = 1) := Lib.hid (by omega)
              by_cases f4 : v2 % 2 = 0
              · have t6 : (((xv2 : Int) % 2) == 0) = true := by simp; omega
                have HE : Hid (Nat.gcd u2 (v2 / 2) = Nat.gcd u v) := by show _ = _; rw [gcd_half_right f4 HU.out]; exact HG2.out
                clear pu2 pv2 f3 f4 hpp
                go_wp2_with fail
                refine (shr_r 1 HS2.out.cv.v (by omega) (by omega) (by omega)).mono ?_
                rintro e w5 ⟨A7, c7, l7, rfl, h7, m7, b7⟩
                have HST3 : Hid (QSt w w5 a b 0 u2 (v2 / 2) _ A7 c9 c7 l9 l7) := ⟨HS2.out.cu.below b7, h7, below_trans HS2.out.below b7⟩
                clear h7 b7 cu2 cv2
                go_wp2_with fail
                go_roundg (u2 + v2 / 2)
                case measure => rw [HN2.out]; omega
                case rel => exact ⟨u2, v2 / 2, _, _, c9, c7, l9, l7, rfl, rfl, rfl, hu2, by omega, HE.out, .inr (.inr (.inl HU.out)), HST3.out⟩
              · have t6 : (((xv2 : Int) % 2) == 0) = false := by simp; omega
                have HV : Hid (v2 % 2 = 1) := Lib.hid (by omega)
                clear pu2 pv2 f3 f4 hpp
                by_cases f5 : u2 < v2
                · have HE : Hid (Nat.gcd u2 (v2 - u2) = Nat.gcd u v) := by show _ = _; rw [gcd_sub_r (by omega)]; exact HG2.out
                  go_wp2_with fail
                  refine (cmp_r HS2.out.cu.v HS2.out.cv.v (by omega) (by omega) (-1) (cmpI_nat_lt f5)).mono ?_
                  rintro e w5 ⟨rfl, b5⟩
                  have h5 := HS2.out.cu.below b5
                  have h6 := HS2.out.cv.below b5
                  have b6 := below_trans HS2.out.below b5
                  clear cu2 cv2 HS2 b5
                  go_wp2_with fail
                  refine (sub_r h6.v h5.v (by omega) (by omega)).mono ?_
                  rintro e w6 ⟨A7, c7, l7, rfl, h7, m7, b7⟩
                  have HST3 : Hid (QSt w w6 a b 0 u2 (v2 - u2) _ A7 c9 c7 l9 l7) := ⟨h5.below b7, h7, below_trans b6 b7⟩
                  clear h5 h6 h7 b6 b7
                  go_wp2_with fail
                  go_roundg (u2 + (v2 - u2))
                  case measure => rw [HN2.out]; omega
                  case rel => exact ⟨u2, v2 - u2, _, _, c9, c7, l9, l7, rfl, rfl, rfl, hu2, by omega, HE.out, .inr (.inr (.inl HU.out)), HST3.out⟩
                · have HE : Hid (Nat.gcd (u2 - v2) v2 = Nat.gcd u v) := by show _ = _; rw [gcd_sub_l (by omega)]; exact HG2.out
                  obtain ⟨z, hz⟩ : ∃ z, cmpI (u2 : Int) (v2 : Int) = z := ⟨_, rfl⟩
                  have hz0 : 0 ≤ z := by rw [← hz]; unfold cmpI; rw [if_neg (by omega)]; split <;> omega
                  have HZ := Lib.hid hz
                  clear hz
                  go_wp2_with fail
                  refine (cmp_r HS2.out.cu.v HS2.out.cv.v (by omega) (by omega) z HZ.out).mono ?_
                  rintro e w5 ⟨rfl, b5⟩
                  have h5 := HS2.out.cu.below b5
                  have h6 := HS2.out.cv.below b5
                  have b6 := below_trans HS2.out.below b5
                  clear cu2 cv2 HS2 b5
                  go_wp2_with fail
                  refine (sub_r h5.v h6.v (by omega) (by omega)).mono ?_
                  rintro e w6 ⟨A7, c7, l7, rfl, h7, m7, b7⟩
                  have HST3 : Hid (QSt w w6 a b 0 (u2 - v2) v2 A7 _ c7 c10 l7 l10) := ⟨h7, h6.below b7, below_trans b6 b7⟩
                  clear h5 h6 h7 b6 b7
                  go_wp2_with fail
                  go_roundg (u2 - v2 + v2)
                  case measure => rw [HN2.out]; omega
                  case rel => exact ⟨u2 - v2, v2, _, _, c7, c10, l7, l10, rfl, rfl, rfl, by omega, hv2, HE.out, .inr (.inr (.inr HV.out)), HST3.out⟩
          · have hz2 : u2 = 0 ∨ v2 = 0 := .inr (HS2.out.cv.zero' (by omega))
            clear pu2
            have hsum : shlv (u2 + v2) (k : Int) = Nat.gcd a b := by
              rw [← HG.out, ← HG2.out]
              have : Nat.gcd u2 v2 = u2 + v2 := by
                rcases hz2 with hh | hh
                · rw [hh, Nat.gcd_zero_left, Nat.zero_add]
                · rw [hh, Nat.gcd_zero_right, Nat.add_zero]
              rw [this]
              unfold shlv
              rw [if_neg (by omega), Nat.mul_comm]
              rfl
            have HSUM := Lib.hid hsum
            clear hsum hz2
            go_wp2_with fail
            refine (add_r HS2.out.cu.v HS2.out.cv.v (by omega) (by omega)).mono ?_
            rintro e w5 ⟨A7, c7, l7, rfl, h7, m7, b7⟩
            go_wp2_with fail
            refine (shl_r (k : Int) h7.v (by omega) (by omega)).mono ?_
            rintro e w6 ⟨A8, c8, l8, rfl, h8, m8, b8⟩
            go_wp2_with fail
            go_ret
            exact ⟨A8, c8, l8, rfl, by rw [← HSUM.out]; exact h8, by omega, below_trans HS2.out.below (below_trans b7 b8)⟩
        · have hz2 : u2 = 0 ∨ v2 = 0 := .inl (HS2.out.cu.zero' (by omega))
          have hsum : shlv (u2 + v2) (k : Int) = Nat.gcd a b := by
            rw [← HG.out, ← HG2.out]
            have : Nat.gcd u2 v2 = u2 + v2 := by
              rcases hz2 with hh | hh
              · rw [hh, Nat.gcd_zero_left, Nat.zero_add]
              · rw [hh, Nat.gcd_zero_right, Nat.add_zero]
            rw [this]
            unfold shlv
            rw [if_neg (by omega), Nat.mul_comm]
            rfl
          have HSUM := Lib.hid hsum
          clear hsum hz2
          go_wp2_with fail
          refine (add_r HS2.out.cu.v HS2.out.cv.v (by omega) (by omega)).mono ?_
          rintro e w5 ⟨A7, c7, l7, rfl, h7, m7, b7⟩
          go_wp2_with fail
          refine (shl_r (k : Int) h7.v (by omega) (by omega)).mono ?_
          rintro e w6 ⟨A8, c8, l8, rfl, h8, m8, b8⟩
          go_wp2_with fail
          go_ret
          exact ⟨A8, c8, l8, rfl, by rw [← HSUM.out]; exact h8, by omega, below_trans HS2.out.below (below_trans b7 b8)⟩
end Go.Proofs.YtjlfcnkndndgaaaDoor
