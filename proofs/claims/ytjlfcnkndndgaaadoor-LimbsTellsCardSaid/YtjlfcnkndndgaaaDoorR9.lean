/-
  The reference of layer 1: DivMod, told of numbers. Written by wip/gen/r9.py.
-/
import Derived.Test.YtjlfcnkndndgaaaDoorR8
namespace Te
/-- The bits from place t on are done. -/
def DivI (a b t R : Nat) (q : List Nat) : Prop := Ok q ∧ R = a / 2 ^ t % b ∧ val q = a / 2 ^ t / b * 2 ^ t
theorem DivI.start {a b n : Nat} (ha : a < 2 ^ (8 * n)) : DivI a b (8 * n) 0 (List.replicate n 0) := by
  refine ⟨Ok.replicate n, ?_, ?_⟩
  · rw [Nat.div_eq_of_lt ha, Nat.zero_mod]
  · rw [Nat.div_eq_of_lt ha, val_replicate, Nat.zero_div, Nat.zero_mul]
theorem half_pow (a t : Nat) : a / 2 ^ t = 2 * (a / 2 ^ (t + 1)) + a / 2 ^ t % 2 := by
  have : a / 2 ^ (t + 1) = a / 2 ^ t / 2 := by rw [Nat.pow_succ, Nat.div_div_eq_div_mul]
  rw [this]; omega
theorem digit_bit (a i k : Nat) (hk : k < 8) : Tw.dg (limbs a) i / 2 ^ k % 2 = a / 2 ^ (8 * i + k) % 2 := by
  have h1 : Tw.dg (limbs a) i = a / 256 ^ i % 256 := by
    obtain ⟨t, ht⟩ : ∃ t, val (limbs a) / 256 ^ i = Tw.dg (limbs a) i + 256 * t := by
      have h1 := val_split (limbs a) i
      have h2 := val_take_lt (ok_limbs a) i
      rw [B_eq] at h1 h2
      have h0 : val (limbs a) / 256 ^ i = val ((limbs a).drop i) := by
        rw [h1, Nat.add_mul_div_left _ _ (Nat.pow_pos (by omega)), Nat.div_eq_of_lt h2, Nat.zero_add]
      have h3 := val_split ((limbs a).drop i) 1
      have e1 : val (((limbs a).drop i).take 1) = Tw.dg (limbs a) i := by
        rw [val_take_succ']
        have a1 : ((limbs a).drop i).getD 0 0 = Tw.dg (limbs a) i := dg_drop (limbs a) i 0
        rw [a1]; simp [val]
      refine ⟨val (((limbs a).drop i).drop 1), ?_⟩
      rw [h0, h3, e1, B_eq, Nat.pow_one]
    have h4 : Tw.dg (limbs a) i < 256 := dg_lt (ok_limbs a) i
    rw [val_limbs] at ht
    rw [ht]; omega
  have h2 : a / 2 ^ (8 * i + k) = a / 256 ^ i / 2 ^ k := by rw [Nat.pow_add, Nat.pow_mul, Nat.div_div_eq_div_mul]
  rw [h1, h2]
  generalize a / 256 ^ i = x
  obtain rfl | rfl | rfl | rfl | rfl | rfl | rfl | rfl : k = 0 ∨ k = 1 ∨ k = 2 ∨ k = 3 ∨ k = 4 ∨ k = 5 ∨ k = 6 ∨ k = 7 := by omega
  all_goals omega
/-- The rest is below b: nothing is taken away. -/
theorem DivI.less {a b t R d : Nat} {q : List Nat} (h : DivI a b (t + 1) R q) (hd : d = a / 2 ^ t % 2) (hlt : 2 * R + d < b) : DivI a b t (2 * R + d) q := by
  obtain ⟨h1, h2, h3⟩ := h
  have e := half_pow a t
  rw [← hd] at e
  obtain ⟨P, hP1⟩ : ∃ P, a / 2 ^ (t + 1) = P := ⟨_, rfl⟩
  obtain ⟨Q, hQ⟩ : ∃ Q, P / b = Q := ⟨_, rfl⟩
  rw [hP1] at h2 h3 e
  rw [hQ] at h3
  have hd1 := Nat.div_add_mod P b
  rw [← h2, hQ] at hd1
  have hP : a / 2 ^ t = b * (2 * Q) + (2 * R + d) := by
    rw [e, Nat.mul_left_comm b 2 Q]; omega
  have hb : 0 < b := by omega
  refine ⟨h1, ?_, ?_⟩
  · rw [hP, Nat.mul_add_mod, Nat.mod_eq_of_lt hlt]
  · rw [hP, Nat.mul_add_div hb, Nat.div_eq_of_lt hlt, Nat.add_zero, h3, Nat.pow_succ, Nat.mul_comm 2 Q, Nat.mul_assoc, Nat.mul_comm 2]
/-- b is taken away once. -/
theorem DivI.more {a b i k R d : Nat} {q : List Nat} (h : DivI a b (8 * i + k + 1) R q) (hk : k < 8) (hd : d = a / 2 ^ (8 * i + k) % 2) (hge : b ≤ 2 * R + d) (hb : 0 < b) (hi : i < q.length) :
    Tw.dg q i + 2 ^ k < 256 ∧ DivI a b (8 * i + k) (2 * R + d - b) (q.set i (Tw.dg q i + 2 ^ k)) := by
  obtain ⟨h1, h2, h3⟩ := h
  have hR : R < b := by rw [h2]; exact Nat.mod_lt _ hb
  have e := half_pow a (8 * i + k)
  rw [← hd] at e
  have hd2 : d ≤ 1 := by omega
  obtain ⟨P, hP1⟩ : ∃ P, a / 2 ^ (8 * i + k + 1) = P := ⟨_, rfl⟩
  obtain ⟨Q, hQ⟩ : ∃ Q, P / b = Q := ⟨_, rfl⟩
  rw [hP1] at h2 h3 e
  rw [hQ] at h3
  have hd1 := Nat.div_add_mod P b
  rw [← h2, hQ] at hd1
  have hP : a / 2 ^ (8 * i + k) = b * (2 * Q + 1) + (2 * R + d - b) := by
    rw [e, Nat.mul_add, Nat.mul_left_comm b 2 Q, Nat.mul_one]; omega
  have hlt : 2 * R + d - b < b := by omega
  have hq : Tw.dg q i + 2 ^ k < 256 := by
    obtain ⟨t, ht⟩ : ∃ t, val q / 256 ^ i = Tw.dg q i + 256 * t := by
      have g1 := val_split q i
      have g2 := val_take_lt h1 i
      rw [B_eq] at g1 g2
      have h0 : val q / 256 ^ i = val (q.drop i) := by
        rw [g1, Nat.add_mul_div_left _ _ (Nat.pow_pos (by omega)), Nat.div_eq_of_lt g2, Nat.zero_add]
      have g3 := val_split (q.drop i) 1
      have e1 : val ((q.drop i).take 1) = Tw.dg q i := by
        rw [val_take_succ']
        have a1 : (q.drop i).getD 0 0 = Tw.dg q i := dg_drop q i 0
        rw [a1]; simp [val]
      refine ⟨val ((q.drop i).drop 1), ?_⟩
      rw [h0, g3, e1, B_eq, Nat.pow_one]
    have h4 : Tw.dg q i < 256 := dg_lt h1 i
    rw [h3] at ht
    have h5 : Q * 2 ^ (8 * i + k + 1) / 256 ^ i = Q * 2 ^ (k + 1) := by
      rw [show 8 * i + k + 1 = 8 * i + (k + 1) from by omega, Nat.pow_add, Nat.pow_mul, Nat.mul_left_comm]
      exact Nat.mul_div_cancel_left _ (Nat.pow_pos (by omega))
    rw [h5] at ht
    obtain rfl | rfl | rfl | rfl | rfl | rfl | rfl | rfl : k = 0 ∨ k = 1 ∨ k = 2 ∨ k = 3 ∨ k = 4 ∨ k = 5 ∨ k = 6 ∨ k = 7 := by omega
    all_goals omega
  refine ⟨hq, h1.set _ _ (by rw [B_eq]; exact hq), ?_, ?_⟩
  · rw [hP, Nat.mul_add_mod, Nat.mod_eq_of_lt hlt]
  · have h6 := val_set q i (Tw.dg q i + 2 ^ k) hi
    rw [hP, Nat.mul_add_div hb, Nat.div_eq_of_lt hlt, Nat.add_zero]
    rw [h3] at h6
    have h7 : 256 ^ i * 2 ^ k = 2 ^ (8 * i + k) := by rw [Nat.pow_add, Nat.pow_mul]
    rw [Nat.mul_add, h7] at h6
    have h8 : Q * 2 ^ (8 * i + k + 1) = 2 * Q * 2 ^ (8 * i + k) := by rw [Nat.pow_succ, Nat.mul_comm 2 Q, Nat.mul_assoc, Nat.mul_comm 2]
    rw [Nat.add_mul, Nat.one_mul]
    omega
theorem DivI.done {a b R : Nat} {q : List Nat} (h : DivI a b 0 R q) : R = a % b ∧ val q = a / b := by
  obtain ⟨_, h2, h3⟩ := h
  rw [Nat.pow_zero, Nat.div_one] at h2 h3
  exact ⟨h2, by rw [h3, Nat.mul_one]⟩
end Te
namespace Go.Proofs.YtjlfcnkndndgaaaDoor
open Go.RowKit Tw

theorem and_one : ∀ x, x < 256 → bits BinOp.and IntKind.i64 ((x : Nat) : Int) 1 = ((x % 2 : Nat) : Int) := by decide +kernel
theorem wrap_bit (x j : Nat) (h : x + 2 ^ j < 256) : wrap64 ((x : Int) + wrap64 (2 ^ j)) = ((x + 2 ^ j : Nat) : Int) := by
  have e1 : ((2 : Int) ^ j) = ((2 ^ j : Nat) : Int) := by simp
  rw [e1]
  generalize 2 ^ j = p at *
  rw [IntWalk.wrap64_in (p : Int) ⟨by omega, by omega⟩, IntWalk.wrap64_in _ ⟨by omega, by omega⟩]
  omega
theorem D.none (w : World) : D w none 0 0 0 := ⟨by rw [Te.limbs_zero]; exact Sm.nil w, Te.nl_zero⟩
theorem divmod_r0 {w : World} {A A' : Option Addr} {c c' l l' a : Nat} (h : V w A c l a) (h' : V w A' c' l' 0) (hl : l ≤ 40000) (hl' : l' ≤ 40000) :
    Calls Tryd.prog 27 #[.slice A l c, .slice A' l' c'] w (Tells2 w 0 0 0 0) := by
  go_enter Tryd.func27, Tryd.ntmps27
  go_wp2_with fail
  refine (small_v h (by omega)).mono ?_
  rintro e w1 ⟨A1, c1, l1, rfl, h1, b1⟩
  go_wp2_with fail
  refine (small_v (h'.below b1) (by omega)).mono ?_
  rintro e w2 ⟨A2, c2, l2, rfl, h2, b2⟩
  obtain rfl : l2 = 0 := h2.2.symm.trans Te.nl_zero
  replace b2 := below_trans b1 b2
  go_wp2_with fail
  go_ret2
  exact ⟨none, 0, 0, none, 0, 0, rfl, nums_none _, nums_none _, Nat.le_refl _, Nat.le_refl _, b2⟩
set_option maxHeartbeats 4000000 in
theorem divmod_r {w : World} {A A' : Option Addr} {c c' l l' a b : Nat} (h : V w A c l a) (h' : V w A' c' l' b) (hl : l ≤ 40000) (hl' : l' ≤ 40000) (hb0 : b ≠ 0) :
    Calls Tryd.prog 27 #[.slice A l c, .slice A' l' c'] w (Tells2 w (a / b) (a % b) (l + 1) (l' + 1)) := by
  have hn := h.lt
  have hn' := h'.lt
  go_enter Tryd.func27, Tryd.ntmps27
  go_wp2_with fail
  refine (small_v h (by omega)).mono ?_
  rintro e w1 ⟨A1, c1, l1, rfl, h1, b1⟩
  have s1 := h1.small hn
  go_wp2_with fail
  refine (small_v (h'.below b1) (by omega)).mono ?_
  rintro e w2 ⟨A2, c2, l2, rfl, h2, b2⟩
  have s2 := h2.small hn'
  replace h1 := h1.below b2
  replace b2 := below_trans b1 b2
  have t0 : ((l2 : Int) == 0) = false := by
    have : l2 ≠ 0 := by rintro rfl; exact hb0 h2.zero
    simp; omega
  have HB := Lib.hid hn'
  have HA : Hid (a < 2 ^ (8 * l1)) := by
    show _ < _
    have := Te.lt_pow_nl a
    rw [h1.2, Te.B_eq] at this
    rw [Nat.pow_mul]; exact this
  clear h h' hn hn' b1
  have HX := Lib.hid h1
  have HY := Lib.hid h2
  have hmk := make_ints l1 (by omega)
  obtain ⟨g, hg⟩ : ∃ g, g = w2.heap.size := ⟨_, rfl⟩
  clear h1 h2
  go_wp2_with fail
  rw [← hg]
  have HG := Lib.hid hg
  clear hg hmk
  go_loopw [9, 10] (fun r i wr => ∃ (k R : Nat) (A9 : Option Addr) (c9 l9 : Nat) (qs : List Nat), k ≤ l1 ∧ i = .int .i64 ((k : Int) - 1) ∧ r = .slice A9 l9 c9 ∧ D wr A9 c9 l9 R ∧ RowS wr g qs ∧ qs.length = l1 ∧ R < b ∧ (∀ a9, A9 = some a9 → a9.block ≠ g) ∧ Te.DivI a b (8 * k) R qs ∧ Below w2.heap.size w2 wr) (fun _ i _ => ((intOf i) + 1).toNat)
  case atStart => exact ⟨l1, 0, none, 0, 0, List.replicate l1 0, Nat.le_refl _, rfl, rfl, D.none _, by rw [HG.out]; exact RowS.new w2 _, by simp, by omega, (fun _ e => by cases e), Te.DivI.start HA.out, (Below.refl _ _).alloc (Nat.le_refl _) _⟩
  case round =>
    obtain ⟨k, R, A9, c9, l9, qs, hk, rfl, rfl, hd9, hrow, hql, hRb, hne, hdi, hbw⟩ := hrel
    rcases Nat.eq_zero_or_pos k with rfl | hkp
    · clear hne
      obtain ⟨e1, e2⟩ := hdi.done
      have hsm := hrow.sm hdi.1
      rw [hql] at hsm
      have HL := Lib.hid (large_s hsm hql e2 (by omega))
      have HD := Lib.hid hd9
      have HE := Lib.hid e1
      have hRl : l9 ≤ 8 * l' := hd9.small (Nat.lt_trans hRb HB.out)
      clear hsm hql e1 e2 hd9 hrow hdi
      go_wp2_with fail
      refine HL.out.mono ?_
      rintro e w4 ⟨A4, c4, l4, rfl, h4, m4, b4⟩
      go_wp2_with fail
      refine (large_d (HD.out.below b4) (by omega)).mono ?_
      rintro e w5 ⟨A5, c5, l5, rfl, h5, m5, b5⟩
      go_wp2_with fail
      go_ret2
      exact ⟨A4, c4, l4, A5, c5, l5, rfl, h4.below b5, by rw [← HE.out]; exact h5, by omega, by omega, below_trans b2 (below_trans hbw (below_trans b4 b5))⟩
    · obtain ⟨i, rfl⟩ : ∃ i, k = i + 1 := ⟨k - 1, by omega⟩
      have ei : ((i + 1 : Nat) : Int) - 1 = (i : Int) := by omega
      rw [ei]
      clear ei
      have HQ := Lib.hid hql
      have HNE := Lib.hid hne
      have HD := Lib.hid hd9
      have HR := Lib.hid hrow
      have HI := Lib.hid hdi
      have HBW := Lib.hid hbw
      obtain ⟨ba, oa, rfl, ca⟩ := HX.out.1.cells (by show 0 < Te.nl _; rw [HX.out.2]; omega)
      have CA := Lib.hid (ca i (by show i < Te.nl _; rw [HX.out.2]; omega))
      have dk : dg (Te.limbs a) i < 256 := Te.dg_lt (Te.ok_limbs a) i
      clear hql hd9 hrow hdi ca hne
      obtain ⟨wo, hwo⟩ : ∃ wo : World, wo = wr := ⟨_, rfl⟩
      clear hbw
      go_wp2_with fail
      go_loopw [9, 11] (fun r bt wi => ∃ (m R : Nat) (A9 : Option Addr) (c9 l9 : Nat) (qs : List Nat), m ≤ 8 ∧ bt = .int .i64 ((m : Int) - 1) ∧ r = .slice A9 l9 c9 ∧ D wi A9 c9 l9 R ∧ RowS wi g qs ∧ qs.length = l1 ∧ R < b ∧ (∀ a9, A9 = some a9 → a9.block ≠ g) ∧ Te.DivI a b (8 * i + m) R qs ∧ Below w2.heap.size w2 wi) (fun _ bt _ => ((intOf bt) + 1).toNat)
      case atStart => exact ⟨8, R, A9, c9, l9, qs, by omega, rfl, rfl, HD.out, HR.out, HQ.out, hRb, HNE.out, HI.out, HBW.out⟩
      case round =>
        clear HQ HD HR HI HBW hwo hRb HNE
        obtain ⟨m, R, A9, c9, l9, qs, hm, rfl, rfl, hd9, hrow, hql, hRb, hne, hdi, hbw⟩ := hrel
        have HQ := Lib.hid hql
        have HNE := Lib.hid hne
        have HD := Lib.hid hd9
        have HI := Lib.hid hdi
        clear hne
        have hl9 : l9 ≤ 8 * l' := hd9.small (Nat.lt_trans hRb HB.out)
        rcases Nat.eq_zero_or_pos m with rfl | hmp
        · have HBW := Lib.hid hbw
          have HR := Lib.hid hrow
          clear hql hd9 hrow hdi hbw
          go_wp2_with fail
          go_roundw
          case rel => exact ⟨i, R, A9, c9, l9, qs, by omega, rfl, rfl, HD.out, HR.out, HQ.out, hRb, HNE.out, HI.out, HBW.out⟩
          case measure => simp [intOf]
        · obtain ⟨j, rfl⟩ : ∃ j, m = j + 1 := ⟨m - 1, by omega⟩
          have ej : ((j + 1 : Nat) : Int) - 1 = (j : Int) := by omega
          rw [ej]
          clear ej
          have hcx := (hbw.cell (World.block_lt_of_cell? w2 _ CA.out)).trans CA.out
          have i1 : (0 : Int) ≤ i := by omega
          have i2 : (i : Int) < l1 := by omega
          have i3 : (0 : Int) ≤ j := by omega
          obtain ⟨d, hd⟩ : ∃ d, dg (Te.limbs a) i / 2 ^ j % 2 = d := ⟨_, rfl⟩
          have hdv : bits BinOp.and IntKind.i64 (((dg (Te.limbs a) i : Nat) : Int) / 2 ^ j) 1 = (d : Int) := by
            have e1 : (((dg (Te.limbs a) i : Nat) : Int) / 2 ^ j) = ((dg (Te.limbs a) i / 2 ^ j : Nat) : Int) := by simp
            rw [e1, and_one _ (Nat.lt_of_le_of_lt (Nat.div_le_self _ _) dk), hd]
          have hd1 : d ≤ 1 := by omega
          have HDD : Hid (d = a / 2 ^ (8 * i + j) % 2) := by show _ = _; rw [← hd, Te.digit_bit a i j (by omega)]
          have hgr : g < wr.heap.size := hrow.lt
          clear hql hd9 hdi hd
          go_wp2_with fail
          clear hdv
          refine (twice_n HD.out (by omega) d hd1).mono ?_
          rintro e w5 ⟨A5, c5, l5, rfl, h5, b5, n5⟩
          have HN5 : Hid (∀ a9, A5 = some a9 → a9.block ≠ g) := Lib.hid fun a9 e9 => by have := n5 a9 e9; omega
          clear n5 HNE
          have hrow5 := hrow.below b5 hgr
          have hbw5 := below_trans hbw b5
          have hl5 : l5 ≤ 8 * l' + 1 := h5.lt (by
            rw [Nat.pow_succ, Nat.pow_mul]
            have := HB.out
            have e : B ^ l' = (256 ^ 8) ^ l' := rfl
            rw [e] at this
            omega)
          have hy5 := HY.out.below hbw5
          clear hbw hrow hcx b5 HD
          obtain ⟨z, hz⟩ : ∃ z, cmpI ((2 * R + d : Nat) : Int) (b : Int) = z := ⟨_, rfl⟩
          have HZ := Lib.hid hz
          by_cases hlt : 2 * R + d < b
          · have t5 : decide (0 ≤ z) = false := by rw [← hz, cmpI_nat_lt hlt]; rfl
            have HI2 := Lib.hid (Te.DivI.less (t := 8 * i + j) HI.out HDD.out hlt)
            clear hz HI
            go_wp2_with fail
            refine (cmp8_d h5 hy5 (by omega) (by omega) z HZ).mono ?_
            rintro e w6 ⟨rfl, nn, rfl⟩
            have H5 := Lib.hid (h5.below (below_drewN (Below.refl _ _) nn))
            have HR5 := Lib.hid (hrow5.drewN nn)
            have HB5 := Lib.hid (below_drewN hbw5 nn)
            clear h5 hy5 hrow5 hbw5
            go_wp2_with fail
            go_roundw
            case rel => exact ⟨j, 2 * R + d, A5, c5, l5, qs, by omega, rfl, rfl, H5.out, HR5.out, HQ.out, hlt, HN5.out, HI2.out, HB5.out⟩
            case measure => simp [intOf]
          · have t5 : decide (0 ≤ z) = true := by
              have : 0 ≤ z := by rw [← hz]; unfold cmpI; rw [if_neg (by omega)]; split <;> omega
              simpa using this
            obtain ⟨f1, f2⟩ := Te.DivI.more (i := i) (k := j) HI.out (by omega) HDD.out (by omega) (by omega) (by rw [HQ.out]; omega)
            have HI2 := Lib.hid f2
            have hR2 : 2 * R + d - b < b := by omega
            clear hz HI f2
            go_wp2_with fail
            refine (cmp8_d h5 hy5 (by omega) (by omega) z HZ).mono ?_
            rintro e w6 ⟨rfl, nn, rfl⟩
            have h6 := h5.below (below_drewN (Below.refl w5.heap.size w5) nn)
            have hy6 := hy5.below (below_drewN (Below.refl w5.heap.size w5) nn)
            have hrow6 := hrow5.drewN nn
            have hbw6 := below_drewN hbw5 nn
            have hgr6 : g < (w5.drewN nn).heap.size := hrow6.lt
            clear h5 hy5 hrow5 hbw5
            go_wp2_with fail
            refine (sub8_n h6 hy6 (by omega) (by omega) (by omega)).mono ?_
            rintro e w7 ⟨A7, c7, l7, rfl, h7, b7, n7⟩
            have HN7 : Hid (∀ a9, A7 = some a9 → a9.block ≠ g) := Lib.hid fun a9 e9 => by have := n7 a9 e9; omega
            clear n7 HN5
            have hrow7 := hrow6.below b7 hgr6
            have hbw7 := below_trans hbw6 b7
            have hcu := hrow7.cell (k := i) (by rw [HQ.out]; omega)
            have hfr := hrow7.frozen i
            clear h6 hy6 hrow6 hbw6 b7
            go_wp2_with fail
            have hwv := wrap_bit (dg qs i) j f1
            rw [hwv]
            clear hwv
            refine ⟨⟨j, 2 * R + d - b, A7, c7, l7, qs.set i (dg qs i + 2 ^ j), by omega, rfl, rfl, ⟨h7.1.keep fun p v ⟨a9, e9, hp9⟩ hc => ?_, h7.2⟩, hrow7.set i _, by rw [List.length_set]; exact HQ.out, hR2, HN7.out, HI2.out, hbw7.setCell (by rw [HG.out]; exact Nat.le_refl _) _⟩, by simp [intOf]⟩
            exact (World.cell?_setCell_other _ _ _ _ (fun e => HN7.out a9 e9 (by rw [hp9, ← e]))).trans hc
end Go.Proofs.YtjlfcnkndndgaaaDoor
